import PyProof.Rows.All
import Wide.All
import OpenK.AllK
import Wide.FinOn
import KE.KStateDown
import Lean
import HandS.ForMost
import HandS.WordsExc
import HandS.Defaults
import HandS.Head0
import HandS.Head1
import HandS.Head2
import HandS.HeadEnd
import HandS.HeadHook1
import HandS.HeadHook2
import HandS.HeadHook4
import HandS.Wide
import HandS.Zip
import HandS.SetFor
import HandS.Set
import HandS.Strs
import HandS.SortKw
import PyProof.MinMaxWalk
import PyProof.WalkInts
import HandS.TupLe
import HandS.SortRule
import HandS.NoneIn
import HandS.Deep
import HandS.SortInts
import HandS.TupMul
import HandS.TupAny
import HandS.Conv
import PyProof.SeqIndex
import KE.DatumOrd
import HandS.IsInst
import HandS.More
import KE.GoesEnum
import KE.GoesMore
import HandS.Gcd
import HandS.WideBits
import HandS.SetBool
import HandS.DictComp
import HandS.RevRange
import HandS.Iter
import HandS.Codes
import PySem.Challenge.RW_eachsmove_k52_things_evened_out
import HandS.Head3
set_option Elab.async false
set_option linter.all false
set_option maxRecDepth 100000
namespace VIS
open PySem PySem.Spec PyProof.Rows L2
section
variable {P : Program} {w : World} {A : Around} {E : Value → Shared → Prop} {s : Shared}
set_option maxRecDepth 100000 in
set_option maxHeartbeats 3200000 in
theorem call_set_listI {l : Addr} {items : Array Value} (ns : List Int) {Q : Value → Shared → Prop} (hh : A.handled = none) (hl : s.heap.IsList l items) (hit : IntsAre items.toList ns) (hb : ns.length + 1 < scanBound)
    (h : ∀ (h' : Heap) (tk c : Nat), SetR w h' s.heap.objs.size (fun j => decide (j ∈ ns)) c → c ≤ ns.length → (∀ b o, s.heap.get? b = some o → h'.get? b = some o) → Q (.ref s.heap.objs.size) { s with heap := h', toks := tk }) :
    wpAny (model P w) A (call (.type "set") [.ref l]) Q E s := by
  have hisz : items.size = ns.length := by
    have q := IntsAre.length hit
    rw [Array.length_toList] at q
    exact q
  obtain ⟨c, tl, hmro⟩ := F.called_set.mro
  have hmade := F.called_set.made
  have hsub := F.called_set.sub
  refine wpAny_call (codeAny_of_tree ?_)
  show wpAny _ _ (callAny (.type "set") _) _ _ _
  refine wpAny_pure ⟨Code.quiet_builtin _ (by decide +kernel), codeAny_builtin F.entry_type_call ?_⟩
  rw [Around.under_plain (weight_type_call_type "set" [.ref l] []) rfl]
  have h1 := F.called_set.notType
  have h2 := F.called_set.canCreate
  have hct := F.typeCall_set_1 (.ref l)
  repeat (any_goals (first | assumption | wp_step))

  refine codeAny_mono (code_set_led1 (.ref l) (E := E) (Q₁ := fun obj s₁ => obj = .ref s.heap.objs.size ∧ s₁ = { s with heap := s.heap.push { cls := .type "set", dict := none, data := .set #[] 0 (.fresh 0 0 (!w.params.followText "set-order")) } }) ⟨rfl, rfl⟩) fun r s₁ hr => ?_
  cases r with
  | error e => exact hr
  | ok fl =>
    cases fl with
    | ret obj =>
      obtain ⟨rfl, rfl⟩ := hr
      have hS : (s.heap.push { cls := .type "set", dict := none, data := .set #[] 0 (.fresh 0 0 (!w.params.followText "set-order")) }).get? s.heap.objs.size = some { cls := .type "set", dict := none, data := .set #[] 0 (.fresh 0 0 (!w.params.followText "set-order")) } := Heap.get?_push_size _ rfl
      have hT : Shared.TypeIs { s with heap := s.heap.push { cls := .type "set", dict := none, data := .set #[] 0 (.fresh 0 0 (!w.params.followText "set-order")) } } (.ref s.heap.objs.size) "set" := ⟨_, hS, rfl⟩
      have hli := F.called_set.init.lookup
      have hbi := F.called_set.init.bind (.ref s.heap.objs.size)
      repeat (any_goals (first | assumption | wp_step))

      refine codeAny_mono (codeAny_call_builtin (R := wants (fun r s₂ => r = .none ∧ ∃ h' tk c, s₂ = { s with heap := h', toks := tk } ∧ SetR w h' s.heap.objs.size (fun j => decide (j ∈ ns)) c ∧ c ≤ ns.length ∧
          (∀ b o, s.heap.get? b = some o → h'.get? b = some o)) E) F.called_set.init.plain F.entry_set_init (check_set_init_1 hT ?_)) fun r₂ s₂ hr₂ => ?_
      · obtain ⟨ol, hol, hcl, nl, hdl⟩ := hl
        obtain ⟨ocls, odict, odata, oslots⟩ := ol
        simp only at hcl hdl
        subst hcl; subst hdl
        have hol' : (s.heap.push { cls := .type "set", dict := none, data := .set #[] 0 (.fresh 0 0 (!w.params.followText "set-order")) }).get? l = some { cls := .type "list", dict := odict, data := .seq items nl, slots := oslots } := Heap.get?_push_of_some _ hol
        have hsls := F.sub_list_set
        have hslf := F.sub_list_frozenset
        have hne : (Value.type "list" == Value.type "dict") = false := by decide
        have hl1 : (s.heap.push { cls := .type "set", dict := none, data := .set #[] 0 (.fresh 0 0 (!w.params.followText "set-order")) }).IsList l items := ⟨_, hol', rfl, nl, rfl⟩
        unfold Builtin.«set.__init__» noKeywords Builtin.Frozenset.updateFrom
        generalize hPI : pyIter = PI
        wp_walk
        subst hPI

        refine wpAny_pyIter_list hl1 ?_
        refine wpAny_bind (wpAny_runValue ?_)
        have hlS : l < s.heap.objs.size := Heap.lt_size hol
        have hh3 : A.in1.in1.in1.handled = none := by simp [hh]
        have hz1 : (s.heap.push { cls := .type "set", dict := none, data := .set #[] 0 (.fresh 0 0 (!w.params.followText "set-order")) }).objs.size = s.heap.objs.size + 1 := Heap.size_push ..
        have hneI : l ≠ (s.heap.push { cls := .type "set", dict := none, data := .set #[] 0 (.fresh 0 0 (!w.params.followText "set-order")) }).objs.size := by
          rw [Heap.size_push]; exact Nat.ne_of_lt (Nat.lt_succ_of_lt hlS)
        have hSf : s.heap.objs.size ∉ [(s.heap.push { cls := .type "set", dict := none, data := .set #[] 0 (.fresh 0 0 (!w.params.followText "set-order")) }).objs.size, l] := by
          rw [Heap.size_push]; simp only [List.mem_cons, List.mem_singleton, List.not_mem_nil, or_false, not_or]
          exact ⟨Nat.ne_of_lt (Nat.lt_succ_self _), Nat.ne_of_gt hlS⟩
        have hval : ∀ (i : Nat) (v : Value), items[i]? = some v → ∃ k t, ns[i]? = some k ∧ v = .int k t := fun i v hv => by
          have hi : i < ns.length := by rw [← hisz]; exact (Array.getElem?_eq_some_iff.mp hv).1
          obtain ⟨t, e⟩ := PyProof.Rows.IntsAre.int_at hit i v (by rw [Array.getElem?_toList]; exact hv)
          refine ⟨ns[i], t, List.getElem?_eq_getElem hi, ?_⟩
          rw [e, List.getD_eq_getElem?_getD, List.getElem?_eq_getElem hi] <;> rfl
        refine set_update_ints ((Walks.list hh3 _ l hneI items).toS) s.heap.objs.size
          hSf ns hisz hb hval (items.size - 0) 0 _ (by omega) (Nat.zero_le _)
          ⟨⟨_, Heap.get?_push_size _ rfl, rfl, rfl⟩, (hl1.push _)⟩ ?hS0 ?hR
        case hS0 =>
          have hget : ((s.heap.push { cls := .type "set", dict := none, data := .set #[] 0 (.fresh 0 0 (!w.params.followText "set-order")) }).push { cls := .type "list_iterator", data := .fields #[.ref l, .int 0 0] }).get? s.heap.objs.size
              = some { cls := .type "set", dict := none, data := .set #[] 0 (.fresh 0 0 (!w.params.followText "set-order")) } := Heap.get?_push_of_some _ hS
          exact ⟨0, Nat.le_refl 0, setR_new_at hget⟩
        case hR =>
          intro s' c' hm hc' hS'
          obtain ⟨h', g2, d', tk', os'⟩ := s'
          have eg : g2 = s.gens := hm.gens
          have ed : d' = s.drawn := hm.drawn
          have eo : os' = s.os := hm.os
          subst eg; subst ed; subst eo
          show wpAny _ _ _ _ _ _
          refine wpAny_pure ?_
          show wpAny _ _ (ret Value.none) _ _ _
          rw [hisz] at hc'
          refine wpAny_pure ⟨rfl, h', tk', c', rfl, hS', hc', fun b o e => ?_⟩
          have hb0 : b < s.heap.objs.size := Heap.lt_size e
          have hb1 : b ≠ s.heap.objs.size := Nat.ne_of_lt hb0
          have hb2 : b ≠ (s.heap.push { cls := .type "set", dict := none, data := .set #[] 0 (.fresh 0 0 (!w.params.followText "set-order")) }).objs.size := by
            rw [Heap.size_push]; exact Nat.ne_of_lt (Nat.lt_succ_of_lt hb0)
          exact hm.heap b o (by simp only [List.mem_cons, List.mem_singleton, List.not_mem_nil, or_false, not_or]; exact ⟨hb1, hb2⟩) (Heap.get?_push_of_some _ (Heap.get?_push_of_some _ e))

      · cases r₂ with
        | error e => exact hr₂
        | ok fl₂ =>
          cases fl₂ with
          | ret r =>
            obtain ⟨rfl, h', tk, c', rfl, hS', hc', hk'⟩ := hr₂
            repeat (any_goals (first | assumption | wp_step))
            exact h _ _ _ hS' hc' hk'
          | _ => exact hr₂.elim
    | _ => exact hr.elim

end
end VIS
namespace VIS
open PySem PySem.Spec PyProof.Rows L2
def insU (x : Int) : List Int → List Int
  | [] => [x]
  | y :: r => if x < y then x :: y :: r else if x = y then y :: r else y :: insU x r
def srtU : List Int → List Int
  | [] => []
  | x :: r => insU x (srtU r)
theorem mem_insU {x k : Int} : ∀ {l : List Int}, k ∈ insU x l ↔ k = x ∨ k ∈ l
  | [] => by simp [insU]
  | y :: r => by
    unfold insU
    split
    · simp
    · split
      · rename_i h; subst h; simp
      · simp only [List.mem_cons, mem_insU (l := r)]
        constructor
        · rintro (h | h | h)
          · exact .inr (.inl h)
          · exact .inl h
          · exact .inr (.inr h)
        · rintro (h | h | h)
          · exact .inr (.inl h)
          · exact .inl h
          · exact .inr (.inr h)
theorem mem_srtU {k : Int} : ∀ {l : List Int}, k ∈ srtU l ↔ k ∈ l
  | [] => by simp [srtU]
  | y :: r => by simp only [srtU, mem_insU, mem_srtU (l := r), List.mem_cons]
theorem insU_srt {x : Int} : ∀ {l : List Int}, l.Pairwise (· < ·) → (insU x l).Pairwise (· < ·)
  | [], _ => by simp [insU]
  | y :: r, h => by
    rw [List.pairwise_cons] at h
    unfold insU
    split
    · rename_i q
      refine List.pairwise_cons.mpr ⟨fun z hz => ?_, List.pairwise_cons.mpr h⟩
      rcases List.mem_cons.mp hz with rfl | hz
      · exact q
      · have := h.1 z hz; omega
    · split
      · exact List.pairwise_cons.mpr h
      · rename_i q1 q2
        refine List.pairwise_cons.mpr ⟨fun z hz => ?_, insU_srt h.2⟩
        rcases mem_insU.mp hz with rfl | hz
        · omega
        · exact h.1 z hz
theorem srtU_srt : ∀ {l : List Int}, (srtU l).Pairwise (· < ·)
  | [] => by simp [srtU]
  | x :: r => insU_srt srtU_srt
theorem srt_uniq : ∀ {a b : List Int}, a.Pairwise (· < ·) → b.Pairwise (· < ·) → (∀ k, k ∈ a ↔ k ∈ b) → a = b
  | [], [], _, _, _ => rfl
  | [], y :: b, _, _, h => absurd ((h y).mpr (List.mem_cons_self ..)) (by simp)
  | x :: a, [], _, _, h => absurd ((h x).mp (List.mem_cons_self ..)) (by simp)
  | x :: a, y :: b, ha, hb, h => by
    rw [List.pairwise_cons] at ha hb
    have e : x = y := by
      rcases List.mem_cons.mp ((h x).mp (List.mem_cons_self ..)) with e | h1
      · exact e
      · rcases List.mem_cons.mp ((h y).mpr (List.mem_cons_self ..)) with e | h2
        · exact e.symm
        · have := hb.1 x h1
          have := ha.1 y h2
          omega
    subst e
    congr 1
    refine srt_uniq ha.2 hb.2 fun k => ?_
    constructor
    · intro hk
      rcases List.mem_cons.mp ((h k).mp (List.mem_cons_of_mem _ hk)) with e | h1
      · have := ha.1 k hk; omega
      · exact h1
    · intro hk
      rcases List.mem_cons.mp ((h k).mpr (List.mem_cons_of_mem _ hk)) with e | h1
      · have := hb.1 k hk; omega
      · exact h1
def tSrtSet (K : PySem.W.Frag) (ta : TE) : TE := fun σ H Q => ta σ H fun x H1 => ∃ (l : Addr) (ns : List Int), x = .ref l ∧ (SqL K H1 l (ns.map V.int) ∨ SqT K H1 l (ns.map V.int)) ∧ ns.length < 64 ∧ ∀ p, H1 p = none → Q (.ref p) (upd H1 p (.lst ((srtU ns).map V.int)))
theorem pe_srtSet {X : Cx} {a : Expr} {ta : TE} {p p2 q pos : Pos} (hg : Gl X "sorted") (hm : X.mg "sorted" = none) (hg2 : Gl X "set") (hm2 : X.mg "set" = none) (ha : PE X a ta) (hc : X.calm = true)
    (na : starEach [a] X.env = (false, eval a X.env) :: starEach [] X.env) : PE X (.Call (.Name "sorted" p) [.Call (.Name "set" p2) [a] [] q] [] pos) (tSrtSet X.K ta) := by
  refine ⟨fun pins s σ H Q I h => ?_⟩
  refine PyProof.Rows.Call_ (ld_blt I hg hm boot_sorted ?_)
  refine PyProof.Rows.callWith_builtin1 (PyProof.Rows.args_cons ?_ rfl) rfl rfl
  refine PyProof.Rows.Call_ (ld_blt I hg2 hm2 boot_set ?_)
  refine PyProof.Rows.callWith_type1 (PyProof.Rows.args_cons (thn (ha.run pins s σ H _ I h) fun v s1 ⟨x, H1, I1, r1, q1⟩ => PyProof.Rows.args_nil ?_) na) na rfl
  obtain ⟨l, ns, rfl, hq, hl, q1⟩ := q1
  cases r1
  rcases hq with hq | hq
  · obtain ⟨its, r, pl, hz⟩ := I1.list hq
    refine call_set_listI ns (I1.ok.hd hc) pl.isList (by simpa using RZ.intsAre_vals r) (by unfold scanBound; omega) fun h' tk c hS hcl hk => ?_
    refine PyProof.Rows.args_nil ?_
    have I2 : Inv X pins σ H1 { s1 with heap := h', toks := tk } := I1.kept fun b o e => hk b o e
    refine sorted_set hS (I1.ok.hd hc) (by omega) fun s' p out c2 ns2 k g o hp hgt hi hs hm hl2 => ?_
    have e2 : ns2 = srtU ns := srt_uniq hs srtU_srt fun k => by rw [hm, mem_srtU]; simp
    subst e2
    have hlen : ((srtU ns).map V.int).length ≤ sizeLine := by rw [List.length_map, hl2, sizeLine_eq]; omega
    have hn : H1 p = none := I2.hok.fresh hp
    have J : Inv X pins σ (upd H1 p (.lst ((srtU ns).map V.int))) { ({ s1 with heap := h', toks := tk } : Shared) with heap := s'.heap, gens := s'.gens, drawn := s'.drawn, toks := s'.toks } :=
      I2.call (ch := []) (Un.laid k hp hn) (I2.hok.laid k hp ⟨hlen, out.toList, c2, vals_of_ints hi, hgt⟩) (by rw [g]; exact I2.bare) (fun _ z => nomatch z)
    have e : s' = { ({ s1 with heap := h', toks := tk } : Shared) with heap := s'.heap, gens := s'.gens, drawn := s'.drawn, toks := s'.toks } := by
      cases s'
      cases s1
      cases o
      rfl
    rw [e]
    exact ⟨.ref p, _, J, rfl, q1 p hn⟩
  · obtain ⟨its, r, pl, hz⟩ := I1.tuple hq
    refine call_set_tupI ns (I1.ok.hd hc) (show s1.heap.IsTuple l its.toArray from pl) (by simpa using RZ.intsAre_vals r) (by unfold scanBound; omega) fun h' tk c hS hcl hk => ?_
    refine PyProof.Rows.args_nil ?_
    have I2 : Inv X pins σ H1 { s1 with heap := h', toks := tk } := I1.kept fun b o e => hk b o e
    refine sorted_set hS (I1.ok.hd hc) (by omega) fun s' p out c2 ns2 k g o hp hgt hi hs hm hl2 => ?_
    have e2 : ns2 = srtU ns := srt_uniq hs srtU_srt fun k => by rw [hm, mem_srtU]; simp
    subst e2
    have hlen : ((srtU ns).map V.int).length ≤ sizeLine := by rw [List.length_map, hl2, sizeLine_eq]; omega
    have hn : H1 p = none := I2.hok.fresh hp
    have J : Inv X pins σ (upd H1 p (.lst ((srtU ns).map V.int))) { ({ s1 with heap := h', toks := tk } : Shared) with heap := s'.heap, gens := s'.gens, drawn := s'.drawn, toks := s'.toks } :=
      I2.call (ch := []) (Un.laid k hp hn) (I2.hok.laid k hp ⟨hlen, out.toList, c2, vals_of_ints hi, hgt⟩) (by rw [g]; exact I2.bare) (fun _ z => nomatch z)
    have e : s' = { ({ s1 with heap := h', toks := tk } : Shared) with heap := s'.heap, gens := s'.gens, drawn := s'.drawn, toks := s'.toks } := by
      cases s'
      cases s1
      cases o
      rfl
    rw [e]
    exact ⟨.ref p, _, J, rfl, q1 p hn⟩
end VIS
namespace VIM
open PySem
section
variable {prog : Program} {w : World} {A : Around} {R : Result → Shared → Prop} {I : Addr} {fp wr : List Addr} {n : Nat} {P : Nat → Value → Prop} {St : Nat → Heap → Prop} {dv : Value}
theorem loop_min (W : Walks prog w A.in1 I fp wr n P St) (bt : Nat → Nat → Bool) (hcmp : CmpOf prog w A.in1 .Lt P bt) (S : Addr) (hSf : S ∉ fp) :
    ∀ (k j : Nat) (s : Shared) (vb : Value) (c : Nat), n - (j + 1) = k → j + 1 ≤ n → St (j + 1) s.heap → P (argBest bt j) vb →
    s.heap.get? S = some { cls := .type "list", dict := none, data := .seq #[vb, vb] c, slots := #[] } →
    (∀ v h' tk, P (argBest bt (n - 1)) v → (∀ b o, b ∉ wr → b ≠ S → s.heap.get? b = some o → h'.get? b = some o) → R (.ok (.ret v)) { s with heap := h', toks := tk }) →
    codeAny (model prog w) A (.builtin "min.loop" ⟨[.ref I, .none, .ref S], [("default", dv)]⟩) R s := by
  have hSw : S ∉ wr := fun h => hSf (W.sub _ h)
  have hname : (toString "min" ++ toString ".loop" : String) = "min.loop" := by decide
  intro k
  induction k with
  | zero =>
    intro j s vb c hk hj hst hPb hS hR
    have hin : j + 1 = n := by omega
    refine codeAny_builtin F.entry_min_loop ?_
    rw [Around.under_plainId F.plain_min_loop _]
    show wpAny _ A.in1 (seqItems? (.ref S) >>= _) _ _ s
    refine wpAny_bind (wpAny_seqItems hS rfl ?_)
    show wpAny _ A.in1 (tryCatch (pyNext (.ref I)) _ >>= _) _ _ s
    refine wpAny_bind (wpAny_tryCatch (W.done s _ _ (hin ▸ hst) fun h' tk hk' => ?_))
    have hS' := hk' S _ hSw hS
    show wpAny _ A.in1 (updateSeq S (fun _ => #[]) >>= _) _ _ _
    refine wpAny_bind ?_
    refine wpAny_updateSeq hS' rfl (wpAny_bind (wpAny_letGo (wpAny_pure ?_)))
    refine hR vb _ tk (by rw [← hin]; exact hPb) fun b o hbw hbS e => (Heap.get?_update_other _ _ (Ne.symm hbS)).trans (hk' b o hbw e)
  | succ k ih =>
    intro j s vb c hk hj hst hPb hS hR
    have hlt : j + 1 < n := by omega
    refine codeAny_builtin F.entry_min_loop ?_
    rw [Around.under_plainId F.plain_min_loop _]
    show wpAny _ A.in1 (seqItems? (.ref S) >>= _) _ _ s
    refine wpAny_bind (wpAny_seqItems hS rfl ?_)
    show wpAny _ A.in1 (tryCatch (pyNext (.ref I)) _ >>= _) _ _ s
    refine wpAny_bind (wpAny_tryCatch (W.item (j + 1) s _ _ hlt hst fun v h' tk hP hst' hk' => ?_))
    have hS' := hk' S _ hSw hS
    show wpAny _ A.in1 (tryCatch (holding [v, v] (richCompare .Lt v vb >>= _)) _ >>= _) _ _ _
    refine wpAny_bind (wpAny_tryCatch (wpAny_holding (wpAny_bind (hcmp (j + 1) (argBest bt j) v vb _ _ _ hP hPb ?_))))
    refine wpAny_bind (wpAny_holding (wpAny_truthy_bool ?_))
    refine wpAny_bind (wpAny_letGo (wpAny_pure ?_))
    cases hb : bt (j + 1) (argBest bt j) with
    | true =>
      simp only [if_true]
      refine wpAny_bind ?_
      refine wpAny_updateSeq hS' rfl (wpAny_bind (wpAny_letGo ?_))
      rw [hname]
      refine wpAny_pure ⟨plainId_quiet F.plain_min_loop _, ih (j + 1) _ v _ (by omega) hlt (W.frame _ _ _ hst' fun b hbf o e => ?_) (by simp only [argBest, hb, if_true]; exact hP) (Heap.get?_update_self _ hS' rfl)
        fun v' h'' tk'' hP' hk'' => ?_⟩
      · exact (Heap.get?_update_other _ _ (fun h : S = b => hSf (by rw [h]; exact hbf))).trans e
      · exact hR v' h'' tk'' hP' fun b o hbw hbS e => hk'' b o hbw hbS ((Heap.get?_update_other _ _ (Ne.symm hbS)).trans (hk' b o hbw e))
    | false =>
      simp only [Bool.false_eq_true, if_false]
      refine wpAny_bind (wpAny_letGo ?_)
      rw [hname]
      refine wpAny_pure ⟨plainId_quiet F.plain_min_loop _, ih (j + 1) _ vb c (by omega) hlt hst' (by simp only [argBest, hb, Bool.false_eq_true, if_false]; exact hPb) hS' fun v' h'' tk'' hP' hk'' => ?_⟩
      exact hR v' h'' tk'' hP' fun b o hbw hbS e => hk'' b o hbw hbS (hk' b o hbw e)
theorem first_min (W : Walks prog w A.in1 I fp wr n P St) (bt : Nat → Nat → Bool) (hcmp : CmpOf prog w A.in1 .Lt P bt) (S : Addr) (hSf : S ∉ fp) (hn : 0 < n) {s : Shared} {c : Nat} (hst : St 0 s.heap)
    (hS : s.heap.get? S = some { cls := .type "list", dict := none, data := .seq #[] c, slots := #[] })
    (hR : ∀ v h' tk, P (argBest bt (n - 1)) v → (∀ b o, b ∉ wr → b ≠ S → s.heap.get? b = some o → h'.get? b = some o) → R (.ok (.ret v)) { s with heap := h', toks := tk }) :
    codeAny (model prog w) A (.builtin "min.loop" ⟨[.ref I, .none, .ref S], [("default", dv)]⟩) R s := by
  have hSw : S ∉ wr := fun h => hSf (W.sub _ h)
  have hname : (toString "min" ++ toString ".loop" : String) = "min.loop" := by decide
  refine codeAny_builtin F.entry_min_loop ?_
  rw [Around.under_plainId F.plain_min_loop _]
  show wpAny _ A.in1 (seqItems? (.ref S) >>= _) _ _ s
  refine wpAny_bind (wpAny_seqItems hS rfl ?_)
  show wpAny _ A.in1 (tryCatch (pyNext (.ref I)) _ >>= _) _ _ s
  refine wpAny_bind (wpAny_tryCatch (W.item 0 s _ _ hn hst fun v h' tk hP hst' hk' => ?_))
  have hS' := hk' S _ hSw hS
  show wpAny _ A.in1 (updateSeq S (fun _ => #[v, v]) >>= _) _ _ _
  refine wpAny_bind ?_
  refine wpAny_updateSeq hS' rfl ?_
  rw [hname]
  refine wpAny_pure ⟨plainId_quiet F.plain_min_loop _, loop_min W bt hcmp S hSf _ 0 _ v _ rfl hn (W.frame _ _ _ hst' fun b hbf o e => ?_) hP (Heap.get?_update_self _ hS' rfl) fun v' h'' tk'' hP' hk'' => ?_⟩
  · exact (Heap.get?_update_other _ _ (fun h : S = b => hSf (by rw [h]; exact hbf))).trans e
  · exact hR v' h'' tk'' hP' fun b o hbw hbS e => hk'' b o hbw hbS ((Heap.get?_update_other _ _ (Ne.symm hbS)).trans (hk' b o hbw e))
theorem none_min (W : Walks prog w A.in1 I fp wr n P St) (S : Addr) (hn : n = 0) {s : Shared} {c : Nat} (hst : St 0 s.heap)
    (hS : s.heap.get? S = some { cls := .type "list", dict := none, data := .seq #[] c, slots := #[] })
    (hR : ∀ h' tk, (∀ b o, b ∉ wr → s.heap.get? b = some o → h'.get? b = some o) → R (.ok (.ret dv)) { s with heap := h', toks := tk }) :
    codeAny (model prog w) A (.builtin "min.loop" ⟨[.ref I, .none, .ref S], [("default", dv)]⟩) R s := by
  subst hn
  refine codeAny_builtin F.entry_min_loop ?_
  rw [Around.under_plainId F.plain_min_loop _]
  show wpAny _ A.in1 (seqItems? (.ref S) >>= _) _ _ s
  refine wpAny_bind (wpAny_seqItems hS rfl ?_)
  show wpAny _ A.in1 (tryCatch (pyNext (.ref I)) _ >>= _) _ _ s
  refine wpAny_bind (wpAny_tryCatch (W.done s _ _ hst fun h' tk hk' => ?_))
  show wpAny _ A.in1 (rule _ >>= fun _ => ret dv) _ _ _
  exact wpAny_bind (wpAny_rule (wpAny_pure (hR h' tk hk')))
theorem loop_max (W : Walks prog w A.in1 I fp wr n P St) (bt : Nat → Nat → Bool) (hcmp : CmpOf prog w A.in1 .Gt P bt) (S : Addr) (hSf : S ∉ fp) :
    ∀ (k j : Nat) (s : Shared) (vb : Value) (c : Nat), n - (j + 1) = k → j + 1 ≤ n → St (j + 1) s.heap → P (argBest bt j) vb →
    s.heap.get? S = some { cls := .type "list", dict := none, data := .seq #[vb, vb] c, slots := #[] } →
    (∀ v h' tk, P (argBest bt (n - 1)) v → (∀ b o, b ∉ wr → b ≠ S → s.heap.get? b = some o → h'.get? b = some o) → R (.ok (.ret v)) { s with heap := h', toks := tk }) →
    codeAny (model prog w) A (.builtin "max.loop" ⟨[.ref I, .none, .ref S], [("default", dv)]⟩) R s := by
  have hSw : S ∉ wr := fun h => hSf (W.sub _ h)
  have hname : (toString "max" ++ toString ".loop" : String) = "max.loop" := by decide
  intro k
  induction k with
  | zero =>
    intro j s vb c hk hj hst hPb hS hR
    have hin : j + 1 = n := by omega
    refine codeAny_builtin F.entry_max_loop ?_
    rw [Around.under_plainId F.plain_max_loop _]
    show wpAny _ A.in1 (seqItems? (.ref S) >>= _) _ _ s
    refine wpAny_bind (wpAny_seqItems hS rfl ?_)
    show wpAny _ A.in1 (tryCatch (pyNext (.ref I)) _ >>= _) _ _ s
    refine wpAny_bind (wpAny_tryCatch (W.done s _ _ (hin ▸ hst) fun h' tk hk' => ?_))
    have hS' := hk' S _ hSw hS
    show wpAny _ A.in1 (updateSeq S (fun _ => #[]) >>= _) _ _ _
    refine wpAny_bind ?_
    refine wpAny_updateSeq hS' rfl (wpAny_bind (wpAny_letGo (wpAny_pure ?_)))
    refine hR vb _ tk (by rw [← hin]; exact hPb) fun b o hbw hbS e => (Heap.get?_update_other _ _ (Ne.symm hbS)).trans (hk' b o hbw e)
  | succ k ih =>
    intro j s vb c hk hj hst hPb hS hR
    have hlt : j + 1 < n := by omega
    refine codeAny_builtin F.entry_max_loop ?_
    rw [Around.under_plainId F.plain_max_loop _]
    show wpAny _ A.in1 (seqItems? (.ref S) >>= _) _ _ s
    refine wpAny_bind (wpAny_seqItems hS rfl ?_)
    show wpAny _ A.in1 (tryCatch (pyNext (.ref I)) _ >>= _) _ _ s
    refine wpAny_bind (wpAny_tryCatch (W.item (j + 1) s _ _ hlt hst fun v h' tk hP hst' hk' => ?_))
    have hS' := hk' S _ hSw hS
    show wpAny _ A.in1 (tryCatch (holding [v, v] (richCompare .Gt v vb >>= _)) _ >>= _) _ _ _
    refine wpAny_bind (wpAny_tryCatch (wpAny_holding (wpAny_bind (hcmp (j + 1) (argBest bt j) v vb _ _ _ hP hPb ?_))))
    refine wpAny_bind (wpAny_holding (wpAny_truthy_bool ?_))
    refine wpAny_bind (wpAny_letGo (wpAny_pure ?_))
    cases hb : bt (j + 1) (argBest bt j) with
    | true =>
      simp only [if_true]
      refine wpAny_bind ?_
      refine wpAny_updateSeq hS' rfl (wpAny_bind (wpAny_letGo ?_))
      rw [hname]
      refine wpAny_pure ⟨plainId_quiet F.plain_max_loop _, ih (j + 1) _ v _ (by omega) hlt (W.frame _ _ _ hst' fun b hbf o e => ?_) (by simp only [argBest, hb, if_true]; exact hP) (Heap.get?_update_self _ hS' rfl)
        fun v' h'' tk'' hP' hk'' => ?_⟩
      · exact (Heap.get?_update_other _ _ (fun h : S = b => hSf (by rw [h]; exact hbf))).trans e
      · exact hR v' h'' tk'' hP' fun b o hbw hbS e => hk'' b o hbw hbS ((Heap.get?_update_other _ _ (Ne.symm hbS)).trans (hk' b o hbw e))
    | false =>
      simp only [Bool.false_eq_true, if_false]
      refine wpAny_bind (wpAny_letGo ?_)
      rw [hname]
      refine wpAny_pure ⟨plainId_quiet F.plain_max_loop _, ih (j + 1) _ vb c (by omega) hlt hst' (by simp only [argBest, hb, Bool.false_eq_true, if_false]; exact hPb) hS' fun v' h'' tk'' hP' hk'' => ?_⟩
      exact hR v' h'' tk'' hP' fun b o hbw hbS e => hk'' b o hbw hbS (hk' b o hbw e)
theorem first_max (W : Walks prog w A.in1 I fp wr n P St) (bt : Nat → Nat → Bool) (hcmp : CmpOf prog w A.in1 .Gt P bt) (S : Addr) (hSf : S ∉ fp) (hn : 0 < n) {s : Shared} {c : Nat} (hst : St 0 s.heap)
    (hS : s.heap.get? S = some { cls := .type "list", dict := none, data := .seq #[] c, slots := #[] })
    (hR : ∀ v h' tk, P (argBest bt (n - 1)) v → (∀ b o, b ∉ wr → b ≠ S → s.heap.get? b = some o → h'.get? b = some o) → R (.ok (.ret v)) { s with heap := h', toks := tk }) :
    codeAny (model prog w) A (.builtin "max.loop" ⟨[.ref I, .none, .ref S], [("default", dv)]⟩) R s := by
  have hSw : S ∉ wr := fun h => hSf (W.sub _ h)
  have hname : (toString "max" ++ toString ".loop" : String) = "max.loop" := by decide
  refine codeAny_builtin F.entry_max_loop ?_
  rw [Around.under_plainId F.plain_max_loop _]
  show wpAny _ A.in1 (seqItems? (.ref S) >>= _) _ _ s
  refine wpAny_bind (wpAny_seqItems hS rfl ?_)
  show wpAny _ A.in1 (tryCatch (pyNext (.ref I)) _ >>= _) _ _ s
  refine wpAny_bind (wpAny_tryCatch (W.item 0 s _ _ hn hst fun v h' tk hP hst' hk' => ?_))
  have hS' := hk' S _ hSw hS
  show wpAny _ A.in1 (updateSeq S (fun _ => #[v, v]) >>= _) _ _ _
  refine wpAny_bind ?_
  refine wpAny_updateSeq hS' rfl ?_
  rw [hname]
  refine wpAny_pure ⟨plainId_quiet F.plain_max_loop _, loop_max W bt hcmp S hSf _ 0 _ v _ rfl hn (W.frame _ _ _ hst' fun b hbf o e => ?_) hP (Heap.get?_update_self _ hS' rfl) fun v' h'' tk'' hP' hk'' => ?_⟩
  · exact (Heap.get?_update_other _ _ (fun h : S = b => hSf (by rw [h]; exact hbf))).trans e
  · exact hR v' h'' tk'' hP' fun b o hbw hbS e => hk'' b o hbw hbS ((Heap.get?_update_other _ _ (Ne.symm hbS)).trans (hk' b o hbw e))
theorem none_max (W : Walks prog w A.in1 I fp wr n P St) (S : Addr) (hn : n = 0) {s : Shared} {c : Nat} (hst : St 0 s.heap)
    (hS : s.heap.get? S = some { cls := .type "list", dict := none, data := .seq #[] c, slots := #[] })
    (hR : ∀ h' tk, (∀ b o, b ∉ wr → s.heap.get? b = some o → h'.get? b = some o) → R (.ok (.ret dv)) { s with heap := h', toks := tk }) :
    codeAny (model prog w) A (.builtin "max.loop" ⟨[.ref I, .none, .ref S], [("default", dv)]⟩) R s := by
  subst hn
  refine codeAny_builtin F.entry_max_loop ?_
  rw [Around.under_plainId F.plain_max_loop _]
  show wpAny _ A.in1 (seqItems? (.ref S) >>= _) _ _ s
  refine wpAny_bind (wpAny_seqItems hS rfl ?_)
  show wpAny _ A.in1 (tryCatch (pyNext (.ref I)) _ >>= _) _ _ s
  refine wpAny_bind (wpAny_tryCatch (W.done s _ _ hst fun h' tk hk' => ?_))
  show wpAny _ A.in1 (rule _ >>= fun _ => ret dv) _ _ _
  exact wpAny_bind (wpAny_rule (wpAny_pure (hR h' tk hk')))
end
section
variable {prog : Program} {w : World} {A : Around} {E : Value → Shared → Prop} {s : Shared} {dv : Value}
theorem call_tree_kw {id : String} {b : Builtin} {args : List Value} {kw : List (Str × Value)} {Q : Value → Shared → Prop} (hk : builtinKind id = none) (hp : plainId id = true)
    (hb : entryFor table id = some b) (ha : argsOk id ⟨args, kw⟩)
    (hc : wpAny (model prog w) A.in1 (b ⟨args, kw⟩) (fun fin s' => match fin with
      | .done f => (match (Except.ok f : Result) with | .ok (.ret v) => Q v s' | .ok _ => False | .error e => E e s')
      | .again c' => c'.quiet = true ∧ codeAny (model prog w) A c' (fun r s' => match r with | .ok (.ret v) => Q v s' | .ok _ => False | .error e => E e s') s') E s) :
    wpAny (model prog w) A (call (.builtin id) args kw) Q E s := by
  refine wpAny_call (codeAny_call_builtin hp hb ?_)
  simp only [checkBuiltinCall, hk]
  cases hsig : Manifest.signature? id with
  | none => exact wpAny_pure hc
  | some sig =>
    simp only [argsOk, hsig] at ha
    have h2 : Bind.checkArgs id sig ⟨args, kw⟩ = pure () := ha
    show wpAny _ A.in1 (Bind.checkArgs id sig ⟨args, kw⟩) _ _ s
    rw [h2]; exact wpAny_pure hc
theorem args_min (a : Value) : argsOk "min" ⟨[a], [("default", dv)]⟩ := by unfold argsOk; kernel_rfl
theorem call_min {x : Value} {Q : Value → Shared → Prop}
    (h : wpAny (model prog w) A.in1 (pyIter x) (fun it s₂ => ∃ I fp wr n P St bt, it = .ref I ∧ Walks prog w A.in1 I fp wr n P St ∧ St 0 s₂.heap ∧ (∀ b ∈ fp, b < s₂.heap.objs.size) ∧ CmpOf prog w A.in1 .Lt P bt ∧
      (0 < n → ∀ v h' tk, P (argBest bt (n - 1)) v → (∀ b o, b ∉ wr → s₂.heap.get? b = some o → h'.get? b = some o) → Q v { s₂ with heap := h', toks := tk }) ∧
      (n = 0 → ∀ h' tk, (∀ b o, b ∉ wr → s₂.heap.get? b = some o → h'.get? b = some o) → Q dv { s₂ with heap := h', toks := tk })) E s) :
    wpAny (model prog w) A (call (.builtin "min") [x] [("default", dv)]) Q E s := by
  have hname : (toString "min" ++ toString ".loop" : String) = "min.loop" := by decide
  refine call_tree_kw F.kind_min F.plain_min F.entry_min (args_min _) ?_
  show wpAny _ A.in1 (Builtin.Builtins.bindParams "min" ["key", "default"] 0 ⟨[], [("default", dv)]⟩ >>= _) _ _ s
  refine wpAny_bind (wpAny_of_eq (show Builtin.Builtins.bindParams "min" ["key", "default"] 0 ⟨[], [("default", dv)]⟩ = pure [none, some dv] from by kernel_rfl) ?_)
  refine wpAny_bind (wpAny_pure ?_)
  refine wpAny_bind (wpAny_mono h (fun it s₂ h₂ => ?_) fun _ _ e => e)
  obtain ⟨I, fp, wr, n, P, St, bt, rfl, W, hst, hfp, hcmp, hQ, hQ0⟩ := h₂
  refine wpAny_bind (wpAny_newObj_type ?_)
  have hSf : s₂.heap.objs.size ∉ fp := fun hm => Nat.lt_irrefl _ (hfp _ hm)
  rw [hname]
  rcases Nat.eq_zero_or_pos n with hn | hn
  · refine wpAny_pure ⟨plainId_quiet F.plain_min_loop _, none_min W s₂.heap.objs.size hn (W.frame _ _ _ hst fun b _ o e => Heap.get?_push_of_some _ e) (Heap.get?_push_size _ rfl) fun h' tk hk => ?_⟩
    exact hQ0 hn h' tk fun b o hbw e => hk b o hbw (Heap.get?_push_of_some _ e)
  · refine wpAny_pure ⟨plainId_quiet F.plain_min_loop _, first_min W bt hcmp s₂.heap.objs.size hSf hn (W.frame _ _ _ hst fun b _ o e => Heap.get?_push_of_some _ e) (Heap.get?_push_size _ rfl) fun v h' tk hP hk => ?_⟩
    exact hQ hn v h' tk hP fun b o hbw e => hk b o hbw (Nat.ne_of_lt (Heap.lt_size e)) (Heap.get?_push_of_some _ e)
theorem args_max (a : Value) : argsOk "max" ⟨[a], [("default", dv)]⟩ := by unfold argsOk; kernel_rfl
theorem call_max {x : Value} {Q : Value → Shared → Prop}
    (h : wpAny (model prog w) A.in1 (pyIter x) (fun it s₂ => ∃ I fp wr n P St bt, it = .ref I ∧ Walks prog w A.in1 I fp wr n P St ∧ St 0 s₂.heap ∧ (∀ b ∈ fp, b < s₂.heap.objs.size) ∧ CmpOf prog w A.in1 .Gt P bt ∧
      (0 < n → ∀ v h' tk, P (argBest bt (n - 1)) v → (∀ b o, b ∉ wr → s₂.heap.get? b = some o → h'.get? b = some o) → Q v { s₂ with heap := h', toks := tk }) ∧
      (n = 0 → ∀ h' tk, (∀ b o, b ∉ wr → s₂.heap.get? b = some o → h'.get? b = some o) → Q dv { s₂ with heap := h', toks := tk })) E s) :
    wpAny (model prog w) A (call (.builtin "max") [x] [("default", dv)]) Q E s := by
  have hname : (toString "max" ++ toString ".loop" : String) = "max.loop" := by decide
  refine call_tree_kw F.kind_max F.plain_max F.entry_max (args_max _) ?_
  show wpAny _ A.in1 (Builtin.Builtins.bindParams "max" ["key", "default"] 0 ⟨[], [("default", dv)]⟩ >>= _) _ _ s
  refine wpAny_bind (wpAny_of_eq (show Builtin.Builtins.bindParams "max" ["key", "default"] 0 ⟨[], [("default", dv)]⟩ = pure [none, some dv] from by kernel_rfl) ?_)
  refine wpAny_bind (wpAny_pure ?_)
  refine wpAny_bind (wpAny_mono h (fun it s₂ h₂ => ?_) fun _ _ e => e)
  obtain ⟨I, fp, wr, n, P, St, bt, rfl, W, hst, hfp, hcmp, hQ, hQ0⟩ := h₂
  refine wpAny_bind (wpAny_newObj_type ?_)
  have hSf : s₂.heap.objs.size ∉ fp := fun hm => Nat.lt_irrefl _ (hfp _ hm)
  rw [hname]
  rcases Nat.eq_zero_or_pos n with hn | hn
  · refine wpAny_pure ⟨plainId_quiet F.plain_max_loop _, none_max W s₂.heap.objs.size hn (W.frame _ _ _ hst fun b _ o e => Heap.get?_push_of_some _ e) (Heap.get?_push_size _ rfl) fun h' tk hk => ?_⟩
    exact hQ0 hn h' tk fun b o hbw e => hk b o hbw (Heap.get?_push_of_some _ e)
  · refine wpAny_pure ⟨plainId_quiet F.plain_max_loop _, first_max W bt hcmp s₂.heap.objs.size hSf hn (W.frame _ _ _ hst fun b _ o e => Heap.get?_push_of_some _ e) (Heap.get?_push_size _ rfl) fun v h' tk hP hk => ?_⟩
    exact hQ hn v h' tk hP fun b o hbw e => hk b o hbw (Nat.ne_of_lt (Heap.lt_size e)) (Heap.get?_push_of_some _ e)
end
end VIM

namespace VIM
open PySem PySem.Spec PyProof.Rows L2
section
variable {prog : Program} {w : World} {A : Around} {E : Value → Shared → Prop} {s : Shared} {l : Addr} {its : List Value} {ns : List Int} {dv : Value} {Q : Value → Shared → Prop}
theorem min_raw (hh : A.handled = none) (hl : s.heap.IsList l its.toArray) (hi : IntsAre its ns)
    (h0 : ns = [] → ∀ h' tk, (∀ b o, s.heap.get? b = some o → h'.get? b = some o) → Q dv { s with heap := h', toks := tk })
    (h : ∀ h' tk M t', (∀ b o, s.heap.get? b = some o → h'.get? b = some o) → M ∈ ns → (∀ a, a ∈ ns → M ≤ a) → Q (.int M t') { s with heap := h', toks := tk }) : wpAny (model prog w) A (call (.builtin "min") [.ref l] [("default", dv)]) Q E s := by
  obtain ⟨xs, e⟩ := hi.allInts.items
  have hn : numsOf (intItems xs).toList = ns := by rw [← e]; exact hi.numsOf
  rw [nums_intItems] at hn
  subst hn
  rw [e] at hl
  refine call_min (iter_intList hl fun s₂ e st hfp hlI => ?_)
  subst e
  refine ⟨_, _, _, _, _, _, _, rfl, Walks.list (A := A.in1) hh _ l hlI (intItems xs), st, hfp, CmpOf.ints_lt (numAt xs) (fun _ _ => intItems_at), fun hne v h' tk hP hk => ?_, fun he h' tk hk => ?_⟩
  · have hsz : 0 < xs.size := by simpa [intItems] using hne
    have hv : (intItems xs)[argBest (fun i j => decide (numAt xs i < numAt xs j)) (xs.size - 1)]? = some v := by simpa [intItems] using hP
    obtain ⟨t, rfl⟩ := intItems_at hv
    obtain ⟨h1, h2⟩ := argBest_lt (numAt xs) (xs.size - 1)
    refine h h' tk _ t (old_kept hk) ?_ fun a ha => ?_
    · rw [numAt_eq]; exact PySem.getD_mem (by rw [List.length_map, Array.length_toList]; omega)
    · obtain ⟨j, hj, rfl⟩ := mem_getD ha
      rw [List.length_map, Array.length_toList] at hj
      rw [← numAt_eq]; exact h2 j (by omega)
  · have hsz : xs.size = 0 := by simpa [intItems] using he
    refine h0 ?_ h' tk (old_kept hk)
    have : xs.toList = [] := by rw [← List.length_eq_zero_iff, Array.length_toList]; exact hsz
    rw [this] <;> rfl
theorem max_raw (hh : A.handled = none) (hl : s.heap.IsList l its.toArray) (hi : IntsAre its ns)
    (h0 : ns = [] → ∀ h' tk, (∀ b o, s.heap.get? b = some o → h'.get? b = some o) → Q dv { s with heap := h', toks := tk })
    (h : ∀ h' tk M t', (∀ b o, s.heap.get? b = some o → h'.get? b = some o) → M ∈ ns → (∀ a, a ∈ ns → a ≤ M) → Q (.int M t') { s with heap := h', toks := tk }) : wpAny (model prog w) A (call (.builtin "max") [.ref l] [("default", dv)]) Q E s := by
  obtain ⟨xs, e⟩ := hi.allInts.items
  have hn : numsOf (intItems xs).toList = ns := by rw [← e]; exact hi.numsOf
  rw [nums_intItems] at hn
  subst hn
  rw [e] at hl
  refine call_max (iter_intList hl fun s₂ e st hfp hlI => ?_)
  subst e
  refine ⟨_, _, _, _, _, _, _, rfl, Walks.list (A := A.in1) hh _ l hlI (intItems xs), st, hfp, CmpOf.ints_gt (numAt xs) (fun _ _ => intItems_at), fun hne v h' tk hP hk => ?_, fun he h' tk hk => ?_⟩
  · have hsz : 0 < xs.size := by simpa [intItems] using hne
    have hv : (intItems xs)[argBest (fun i j => decide (numAt xs i > numAt xs j)) (xs.size - 1)]? = some v := by simpa [intItems] using hP
    obtain ⟨t, rfl⟩ := intItems_at hv
    obtain ⟨h1, h2⟩ := argBest_gt (numAt xs) (xs.size - 1)
    refine h h' tk _ t (old_kept hk) ?_ fun a ha => ?_
    · rw [numAt_eq]; exact PySem.getD_mem (by rw [List.length_map, Array.length_toList]; omega)
    · obtain ⟨j, hj, rfl⟩ := mem_getD ha
      rw [List.length_map, Array.length_toList] at hj
      rw [← numAt_eq]; exact h2 j (by omega)
  · have hsz : xs.size = 0 := by simpa [intItems] using he
    refine h0 ?_ h' tk (old_kept hk)
    have : xs.toList = [] := by rw [← List.length_eq_zero_iff, Array.length_toList]; exact hsz
    rw [this] <;> rfl
end
def rDfl (K : PySem.W.Frag) (mx : Bool) : List V → List V → Hp → VK → Prop := fun vs zs H Q => ∃ (a : Addr) (ns : List Int) (d : V), vs = [V.ref a] ∧ zs = [d] ∧ SqL K H a (ns.map V.int) ∧ (ns = [] → Q d H) ∧ ∀ m, m ∈ ns → (∀ y, y ∈ ns → if mx = true then y ≤ m else m ≤ y) → Q (.int m) H
section
variable {X : Cx}
theorem cr_dfl (mx : Bool) (hc : X.calm = true) : CallRK X (.builtin (if mx = true then "max" else "min")) [Str.ofString "default"] (rDfl X.K mx) := by
  intro pins s σ H vs zs us ws Q I r rz h
  obtain ⟨a, ns, d, rfl, rfl, hs, q0, q⟩ := h
  obtain rfl := Vals.ref1 r
  obtain ⟨w1, rfl, e1⟩ := vals1 rz
  obtain ⟨its, rv, hl, _⟩ := I.list hs
  cases mx with
  | false => exact min_raw (I.ok.hd hc) hl.isList rv.ints (fun e h' tk hk => ⟨d, H, I.kept hk, e1, q0 e⟩) fun h' tk m t' hk h1 h2 => ⟨.int _, H, I.kept hk, ⟨_, rfl⟩, q m h1 (by simpa using h2)⟩
  | true => exact max_raw (I.ok.hd hc) hl.isList rv.ints (fun e h' tk hk => ⟨d, H, I.kept hk, e1, q0 e⟩) fun h' tk m t' hk h1 h2 => ⟨.int _, H, I.kept hk, ⟨_, rfl⟩, q m h1 (by simpa using h2)⟩
end
end VIM
namespace VIP
open PySem
section
variable {prog : Program} {w : World} {A : Around} {R : Result → Shared → Prop} {I : Addr} {fp wr : List Addr} {n : Nat} {P : Nat → Value → Prop} {St : Nat → Heap → Prop} {T : Heap → Prop}
theorem loop_p (W : Walks prog w A.in1 I fp wr n P St) (bt : Nat → Nat → Bool) (hcmp : ∀ i j vi vj (s : Shared) (Q : Value → Shared → Prop) (E : Value → Shared → Prop), T s.heap → P i vi → P j vj → Q (.bool (bt i j)) s → wpAny (model prog w) A.in1 (richCompare .Lt vi vj) Q E s) (S : Addr) (hSf : S ∉ fp) (hT : ∀ h h', T h → (∀ b o, b ∉ wr → b ≠ S → h.get? b = some o → h'.get? b = some o) → T h') :
    ∀ (k j : Nat) (s : Shared) (vb : Value) (c : Nat), n - (j + 1) = k → j + 1 ≤ n → St (j + 1) s.heap → T s.heap → P (argBest bt j) vb →
    s.heap.get? S = some { cls := .type "list", dict := none, data := .seq #[vb, vb] c, slots := #[] } →
    (∀ v h' tk, P (argBest bt (n - 1)) v → (∀ b o, b ∉ wr → b ≠ S → s.heap.get? b = some o → h'.get? b = some o) → R (.ok (.ret v)) { s with heap := h', toks := tk }) →
    codeAny (model prog w) A (.builtin "min.loop" ⟨[.ref I, .none, .ref S], []⟩) R s := by
  have hSw : S ∉ wr := fun h => hSf (W.sub _ h)
  have hname : (toString "min" ++ toString ".loop" : String) = "min.loop" := by decide
  intro k
  induction k with
  | zero =>
    intro j s vb c hk hj hst hTs hPb hS hR
    have hin : j + 1 = n := by omega
    refine codeAny_builtin F.entry_min_loop ?_
    rw [Around.under_plainId F.plain_min_loop _]
    show wpAny _ A.in1 (seqItems? (.ref S) >>= _) _ _ s
    refine wpAny_bind (wpAny_seqItems hS rfl ?_)
    show wpAny _ A.in1 (tryCatch (pyNext (.ref I)) _ >>= _) _ _ s
    refine wpAny_bind (wpAny_tryCatch (W.done s _ _ (hin ▸ hst) fun h' tk hk' => ?_))
    have hS' := hk' S _ hSw hS
    show wpAny _ A.in1 (updateSeq S (fun _ => #[]) >>= _) _ _ _
    refine wpAny_bind ?_
    refine wpAny_updateSeq hS' rfl (wpAny_bind (wpAny_letGo (wpAny_pure ?_)))
    refine hR vb _ tk (by rw [← hin]; exact hPb) fun b o hbw hbS e => (Heap.get?_update_other _ _ (Ne.symm hbS)).trans (hk' b o hbw e)
  | succ k ih =>
    intro j s vb c hk hj hst hTs hPb hS hR
    have hlt : j + 1 < n := by omega
    refine codeAny_builtin F.entry_min_loop ?_
    rw [Around.under_plainId F.plain_min_loop _]
    show wpAny _ A.in1 (seqItems? (.ref S) >>= _) _ _ s
    refine wpAny_bind (wpAny_seqItems hS rfl ?_)
    show wpAny _ A.in1 (tryCatch (pyNext (.ref I)) _ >>= _) _ _ s
    refine wpAny_bind (wpAny_tryCatch (W.item (j + 1) s _ _ hlt hst fun v h' tk hP hst' hk' => ?_))
    have hS' := hk' S _ hSw hS
    have hT1 := hT _ _ hTs fun b o hb _ e => hk' b o hb e
    show wpAny _ A.in1 (tryCatch (holding [v, v] (richCompare .Lt v vb >>= _)) _ >>= _) _ _ _
    refine wpAny_bind (wpAny_tryCatch (wpAny_holding (wpAny_bind (hcmp (j + 1) (argBest bt j) v vb _ _ _ hT1 hP hPb ?_))))
    refine wpAny_bind (wpAny_holding (wpAny_truthy_bool ?_))
    refine wpAny_bind (wpAny_letGo (wpAny_pure ?_))
    cases hb : bt (j + 1) (argBest bt j) with
    | true =>
      simp only [if_true]
      refine wpAny_bind ?_
      refine wpAny_updateSeq hS' rfl (wpAny_bind (wpAny_letGo ?_))
      rw [hname]
      refine wpAny_pure ⟨plainId_quiet F.plain_min_loop _, ih (j + 1) _ v _ (by omega) hlt (W.frame _ _ _ hst' fun b hbf o e => ?_) (hT _ _ hT1 fun b o _ hb e => (Heap.get?_update_other _ _ (Ne.symm hb)).trans e) (by simp only [argBest, hb, if_true]; exact hP) (Heap.get?_update_self _ hS' rfl)
        fun v' h'' tk'' hP' hk'' => ?_⟩
      · exact (Heap.get?_update_other _ _ (fun h : S = b => hSf (by rw [h]; exact hbf))).trans e
      · exact hR v' h'' tk'' hP' fun b o hbw hbS e => hk'' b o hbw hbS ((Heap.get?_update_other _ _ (Ne.symm hbS)).trans (hk' b o hbw e))
    | false =>
      simp only [Bool.false_eq_true, if_false]
      refine wpAny_bind (wpAny_letGo ?_)
      rw [hname]
      refine wpAny_pure ⟨plainId_quiet F.plain_min_loop _, ih (j + 1) _ vb c (by omega) hlt hst' hT1 (by simp only [argBest, hb, Bool.false_eq_true, if_false]; exact hPb) hS' fun v' h'' tk'' hP' hk'' => ?_⟩
      exact hR v' h'' tk'' hP' fun b o hbw hbS e => hk'' b o hbw hbS (hk' b o hbw e)
theorem first_p (W : Walks prog w A.in1 I fp wr n P St) (bt : Nat → Nat → Bool) (hcmp : ∀ i j vi vj (s : Shared) (Q : Value → Shared → Prop) (E : Value → Shared → Prop), T s.heap → P i vi → P j vj → Q (.bool (bt i j)) s → wpAny (model prog w) A.in1 (richCompare .Lt vi vj) Q E s) (S : Addr) (hSf : S ∉ fp) (hT : ∀ h h', T h → (∀ b o, b ∉ wr → b ≠ S → h.get? b = some o → h'.get? b = some o) → T h') (hn : 0 < n) {s : Shared} {c : Nat} (hst : St 0 s.heap) (hTs : T s.heap)
    (hS : s.heap.get? S = some { cls := .type "list", dict := none, data := .seq #[] c, slots := #[] })
    (hR : ∀ v h' tk, P (argBest bt (n - 1)) v → (∀ b o, b ∉ wr → b ≠ S → s.heap.get? b = some o → h'.get? b = some o) → R (.ok (.ret v)) { s with heap := h', toks := tk }) :
    codeAny (model prog w) A (.builtin "min.loop" ⟨[.ref I, .none, .ref S], []⟩) R s := by
  have hSw : S ∉ wr := fun h => hSf (W.sub _ h)
  have hname : (toString "min" ++ toString ".loop" : String) = "min.loop" := by decide
  refine codeAny_builtin F.entry_min_loop ?_
  rw [Around.under_plainId F.plain_min_loop _]
  show wpAny _ A.in1 (seqItems? (.ref S) >>= _) _ _ s
  refine wpAny_bind (wpAny_seqItems hS rfl ?_)
  show wpAny _ A.in1 (tryCatch (pyNext (.ref I)) _ >>= _) _ _ s
  refine wpAny_bind (wpAny_tryCatch (W.item 0 s _ _ hn hst fun v h' tk hP hst' hk' => ?_))
  have hS' := hk' S _ hSw hS
  have hT1 := hT _ _ hTs fun b o hb _ e => hk' b o hb e
  show wpAny _ A.in1 (updateSeq S (fun _ => #[v, v]) >>= _) _ _ _
  refine wpAny_bind ?_
  refine wpAny_updateSeq hS' rfl ?_
  rw [hname]
  refine wpAny_pure ⟨plainId_quiet F.plain_min_loop _, loop_p W bt hcmp S hSf hT _ 0 _ v _ rfl hn (W.frame _ _ _ hst' fun b hbf o e => ?_) (hT _ _ hT1 fun b o _ hb e => (Heap.get?_update_other _ _ (Ne.symm hb)).trans e) hP (Heap.get?_update_self _ hS' rfl) fun v' h'' tk'' hP' hk'' => ?_⟩
  · exact (Heap.get?_update_other _ _ (fun h : S = b => hSf (by rw [h]; exact hbf))).trans e
  · exact hR v' h'' tk'' hP' fun b o hbw hbS e => hk'' b o hbw hbS ((Heap.get?_update_other _ _ (Ne.symm hbS)).trans (hk' b o hbw e))
end
section
variable {prog : Program} {w : World} {A : Around} {E : Value → Shared → Prop} {s : Shared} {T : Heap → Prop}
theorem call_p {x : Value} {Q : Value → Shared → Prop}
    (h : wpAny (model prog w) A.in1 (pyIter x) (fun it s₂ => ∃ I fp wr n P St bt, it = .ref I ∧ Walks prog w A.in1 I fp wr n P St ∧ St 0 s₂.heap ∧ (∀ b ∈ fp, b < s₂.heap.objs.size) ∧ 0 < n ∧ (∀ i j vi vj (s : Shared) (Q : Value → Shared → Prop) (E : Value → Shared → Prop), T s.heap → P i vi → P j vj → Q (.bool (bt i j)) s → wpAny (model prog w) A.in1 (richCompare .Lt vi vj) Q E s) ∧ T (s₂.heap.push { cls := .type "list", data := .seq #[] }) ∧ (∀ h h', T h → (∀ b o, b ∉ wr → b ≠ s₂.heap.objs.size → h.get? b = some o → h'.get? b = some o) → T h') ∧
      ∀ v h' tk, P (argBest bt (n - 1)) v → (∀ b o, b ∉ wr → s₂.heap.get? b = some o → h'.get? b = some o) → Q v { s₂ with heap := h', toks := tk }) E s) :
    wpAny (model prog w) A (call (.builtin "min") [x]) Q E s := by
  have hname : (toString "min" ++ toString ".loop" : String) = "min.loop" := by decide
  refine call_function_tree F.kind_min F.plain_min F.entry_min (F.args_min1 _) ?_
  show wpAny _ A.in1 (Builtin.Builtins.bindParams "min" ["key", "default"] 0 ⟨[], []⟩ >>= _) _ _ s
  refine wpAny_bind (wpAny_of_eq (show Builtin.Builtins.bindParams "min" ["key", "default"] 0 ⟨[], []⟩ = pure [none, none] from rfl) ?_)
  refine wpAny_bind (wpAny_pure ?_)
  refine wpAny_bind (wpAny_mono h (fun it s₂ h₂ => ?_) fun _ _ e => e)
  obtain ⟨I, fp, wr, n, P, St, bt, rfl, W, hst, hfp, hn, hcmp, hT0, hTf, hQ⟩ := h₂
  refine wpAny_bind (wpAny_newObj_type ?_)
  have hSf : s₂.heap.objs.size ∉ fp := fun hm => Nat.lt_irrefl _ (hfp _ hm)
  rw [hname]
  refine wpAny_pure ⟨plainId_quiet F.plain_min_loop _, first_p W bt hcmp s₂.heap.objs.size hSf hTf hn (W.frame _ _ _ hst fun b _ o e => Heap.get?_push_of_some _ e) hT0 (Heap.get?_push_size _ rfl) fun v h' tk hP hk => ?_⟩
  exact hQ v h' tk hP fun b o hbw e => hk b o hbw (Nat.ne_of_lt (Heap.lt_size e)) (Heap.get?_push_of_some _ e)
end
end VIP
namespace VIP
open PySem PySem.Spec PyProof.Rows L2
theorem argBest_lex (num : Nat → Int × Int) : ∀ k, argBest (fun i j => SrtO.lexB (num i) (num j)) k ≤ k ∧ ∀ j, j ≤ k → SrtO.lexB (num j) (num (argBest (fun i j => SrtO.lexB (num i) (num j)) k)) = false
  | 0 => ⟨Nat.le_refl _, fun j hj => by
    have : j = 0 := by omega
    subst this
    exact SrtO.lexB_no.mpr (by simp [argBest])⟩
  | k + 1 => by
    obtain ⟨h1, h2⟩ := argBest_lex num k
    cases hb : SrtO.lexB (num (k + 1)) (num (argBest (fun i j => SrtO.lexB (num i) (num j)) k)) with
    | true =>
      have e : argBest (fun i j => SrtO.lexB (num i) (num j)) (k + 1) = k + 1 := by simp only [argBest, hb, if_true]
      rw [e]
      refine ⟨Nat.le_refl _, fun j hj => ?_⟩
      rcases Nat.lt_or_ge j (k + 1) with q | q
      · have a := SrtO.lexB_no.mp (h2 j (by omega))
        have b := SrtO.lexB_iff.mp hb
        exact SrtO.lexB_no.mpr (by omega)
      · have : j = k + 1 := by omega
        subst this
        exact SrtO.lexB_no.mpr (by omega)
    | false =>
      have e : argBest (fun i j => SrtO.lexB (num i) (num j)) (k + 1) = argBest (fun i j => SrtO.lexB (num i) (num j)) k := by simp only [argBest, hb, Bool.false_eq_true, if_false]
      rw [e]
      refine ⟨by omega, fun j hj => ?_⟩
      rcases Nat.lt_or_ge j (k + 1) with q | q
      · exact h2 j (by omega)
      · have : j = k + 1 := by omega
        subst this
        exact hb
def rMinP (K : PySem.W.Frag) : List V → Hp → VK → Prop := fun vs H Q => ∃ (a : Addr) (xs : List V) (k : Nat → Int × Int), vs = [V.ref a] ∧ SqL K H a xs ∧ 0 < xs.length ∧ (∀ i x, xs[i]? = some x → ∃ t, x = V.ref t ∧ SqT K H t [.int (k i).1, .int (k i).2]) ∧
  ∀ i x, xs[i]? = some x → (∀ j, j < xs.length → SrtO.lexB (k j) (k i) = false) → Q x H
theorem cr_minP {X : Cx} (hc : X.calm = true) (hu : X.A.units + 10 < cLine) : CallR X (.builtin "min") (rMinP X.K) := by
  intro pins s σ H vs us Q I r h
  obtain ⟨a, xs, k, rfl, hs, hne, hk, q⟩ := h
  obtain ⟨its, rv, hl, hz⟩ := I.list hs
  rw [Vals.ref1 r]
  have hlen : xs.length = its.length := rv.length
  -- the items are pairs
  have tp : ∀ (i : Nat) (v : Value), its.toArray[i]? = some v → ∃ (t : Addr) (t1 t2 : Tok), v = .ref t ∧ s.heap.IsTuple t #[.int (k i).1 t1, .int (k i).2 t2] ∧ xs[i]? = some (V.ref t) := fun i v hv => by
    have hv' : its[i]? = some v := by simpa using hv
    have hi : i < xs.length := by rw [hlen]; exact (List.getElem?_eq_some_iff.mp hv').1
    obtain ⟨u, e1, e2⟩ := rv.get (List.getElem?_eq_getElem hi)
    rw [hv'] at e1
    cases e1
    obtain ⟨t, e3, ht⟩ := hk i _ (List.getElem?_eq_getElem hi)
    rw [e3] at e2
    have e2 : v = Value.ref t := e2
    subst e2
    obtain ⟨its2, r2, p2, _⟩ := I.tuple ht
    obtain ⟨u1, u2, rfl, ⟨t1, rfl⟩, ⟨t2, rfl⟩⟩ := vals2 r2
    exact ⟨t, t1, t2, rfl, p2, by rw [List.getElem?_eq_getElem hi, e3]⟩
  have hla : a < s.heap.objs.size := by obtain ⟨_, e, _⟩ := hl.isList; exact Heap.lt_size e
  refine call_p (T := fun h => ∀ (t : Addr) (o : Obj), t < s.heap.objs.size → s.heap.get? t = some o → h.get? t = some o) (wpAny_pyIter_list hl.isList ?_)
  have hlI : a ≠ s.heap.objs.size := Nat.ne_of_lt hla
  refine ⟨_, _, _, _, _, _, fun i j => SrtO.lexB (k i) (k j), rfl, Walks.list (A := X.A.in1) (I.ok.hd hc) _ a hlI its.toArray, ⟨⟨_, Heap.get?_push_size _ rfl, rfl, rfl⟩, hl.isList.push _⟩, ?_, ?_, ?_, ?_, ?_, ?_⟩
  · intro b hb
    show b < (s.heap.push _).objs.size
    rw [Heap.size_push]
    rcases List.mem_cons.mp hb with rfl | hb
    · exact Nat.lt_succ_self _
    · rcases List.mem_cons.mp hb with rfl | hb
      · exact Nat.lt_succ_of_lt hla
      · cases hb
  · simp; omega
  · intro i j vi vj s' Q' E' hT hPi hPj hQ
    obtain ⟨ti, t1, t2, rfl, h1, _⟩ := tp i vi hPi
    obtain ⟨tj, t3, t4, rfl, h2, _⟩ := tp j vj hPj
    have up : ∀ {t : Addr} {items : Array Value}, s.heap.IsTuple t items → s'.heap.IsTuple t items := fun {t items} ⟨o, e, z⟩ => ⟨o, hT t o (Heap.lt_size e) e, z⟩
    have R := Ob.RcOp.tuples_lt (A := X.A.in1) (s := s') (e := fun m => if m = 0 then (k i).1 == (k j).1 else (k i).2 == (k j).2) (r := fun m => if m = 0 then decide ((k i).1 < (k j).1) else decide ((k i).2 < (k j).2)) (up h1) (up h2)
      (by show X.A.units + 1 < cLine; omega) (fun m g1 g2 => by
        match m, g1, g2 with
        | 0, _, _ => exact SeqAt.EqAt.int_int _ _ _ _
        | 1, _, _ => exact SeqAt.EqAt.int_int _ _ _ _
        | m + 2, g1, _ => exact absurd g1 (by simp)) (fun m g1 g2 _ => by
        match m, g1, g2 with
        | 0, _, _ => exact Ob.RcOp.lt_int _ _ _ _
        | 1, _, _ => exact Ob.RcOp.lt_int _ _ _ _
        | m + 2, g1, _ => exact absurd g1 (by simp))
    refine R X.prog X.w E' Q' ?_
    have e : Ob.lexAt (fun m => if m = 0 then (k i).1 == (k j).1 else (k i).2 == (k j).2) (fun m => if m = 0 then decide ((k i).1 < (k j).1) else decide ((k i).2 < (k j).2)) (decide (2 < 2)) 0 2 = SrtO.lexB (k i) (k j) := by
      unfold SrtO.lexB
      by_cases q1 : (k i).1 = (k j).1
      · rw [if_pos q1]
        simp only [Ob.lexAt, q1]
        by_cases q2 : (k i).2 = (k j).2
        · simp [q2]
        · simp [q2]
      · rw [if_neg q1]
        simp [Ob.lexAt, q1]
    have hQ' : Q' (.bool (Ob.lexAt (fun m => if m = 0 then (k i).1 == (k j).1 else (k i).2 == (k j).2) (fun m => if m = 0 then decide ((k i).1 < (k j).1) else decide ((k i).2 < (k j).2)) (decide (2 < 2)) 0 2)) s' := by rw [e]; exact hQ
    exact hQ'
  · intro t o _ e
    exact Heap.get?_push_of_some _ (Heap.get?_push_of_some _ e)
  · intro h h' hT hkp t o ht e
    refine hkp t o ?_ ?_ (hT t o ht e)
    · simp only [List.mem_cons, List.mem_singleton, List.not_mem_nil, or_false]
      exact Nat.ne_of_lt ht
    · show t ≠ (s.heap.push _).objs.size
      rw [Heap.size_push]
      exact Nat.ne_of_lt (Nat.lt_succ_of_lt ht)
  · intro v h' tk hP hkp
    have hP : its.toArray[argBest (fun i j => SrtO.lexB (k i) (k j)) (its.toArray.size - 1)]? = some v := hP
    obtain ⟨t, t1, t2, rfl, h1, h2⟩ := tp _ v hP
    obtain ⟨b1, b2⟩ := argBest_lex k (its.toArray.size - 1)
    refine ⟨.ref t, H, I.kept (fun b o e => ?_), rfl, q _ _ h2 fun j hj => b2 j (by simp; omega)⟩
    refine hkp b o (fun z => ?_) (Heap.get?_push_of_some _ e)
    rcases List.mem_cons.mp z with e1 | z
    · exact absurd (e1 ▸ Heap.lt_size e) (Nat.lt_irrefl _)
    · cases z
end VIP
namespace VI
open PySem L2

/-- a class: its name, the names of the fields of its objects -/
structure Cn where
  nm : Str
  fl : List Str
  deriving DecidableEq
/-- plain data -/
inductive D where
  | non | bl (b : Bool) | int (i : Int) | str (s : Str) | tup (xs : List D) | lst (xs : List D)
  /-- the script: a list of ints that is only read -/
  | scr (ns : List Int)
  /-- an object of a class: its fields by name -/
  | ins (c : Cn) (ns : List Str) (ds : List D)
  /-- a dict whose keys are ints and texts -/
  | dk (ks : List Key) (ds : List D)

/-- a slot of a def: nothing, a value that never changes again, a list held by this slot alone (io: lent by the caller), the same while it is walked -/
inductive Sl where
  | un | fz (d : D) | ow (io : Bool) (d : D) | lk (io : Bool) (d : D)
  /-- a range object -/
  | rg (lo hi : Int)
abbrev En := List Sl

/-- what an expression gives: a value, a new list that nothing else holds, the list of a slot -/
inductive Op where
  | v (d : D) | nw (d : D) | p (i : Nat)

def rd (env : En) : Op → Option D
  | .v d => some d
  | .nw d => some d
  | .p i => match env[i]? with
    | some (.fz d) => some d
    | some (.ow _ d) => some d
    | some (.lk _ d) => some d
    | _ => none
def rds (env : En) : List Op → Option (List D)
  | [] => some []
  | o :: os => (rd env o).bind fun d => (rds env os).map fun ds => d :: ds
/-- the value is kept somewhere else, too: it never changes again -/
def esc (env : En) : Op → Option (D × En)
  | .v d => some (d, env)
  | .nw d => some (d, env)
  | .p i => match env[i]? with
    | some (.fz d) => some (d, env)
    | some (.ow false d) => some (d, env.set i (.fz d))
    | _ => none
def Op.frz : Op → Op
  | .nw d => .v d
  | o => o

inductive Ty where | int | bool | str | tuple | list | none
/-- built-in functions -/
inductive Bf where | len | int | abs | tuple | list | sorted | sum | max | min | any | all | str | bool | minp
  deriving DecidableEq
/-- methods that change a list -/
inductive Mf where | append | pop | reverse | extend | insert | remove | clear | sort
  deriving DecidableEq
/-- other methods -/
inductive Ms where | index | count | join
  deriving DecidableEq

mutual
inductive T where | nm (i : Nat) | tup (ts : Ts)
inductive Ts where | nil | cons (t : T) (ts : Ts)
end

mutual
inductive E where
  | nm (i : Nat) | lit (d : D)
  | bin (op : Operator) (a b : E) | un (op : UnaryOp) (a : E)
  | cmp (op : CmpOp) (a b : E) | cmp2 (op op' : CmpOp) (a b c : E)
  | and (es : Es) | or (es : Es)
  | ifx (c : C) (a b : E) | tup (es : Es) | lst (es : Es)
  | idx (a b : E) | sli (a : E) (lo hi : OE)
  | call (f : Nat) (es : Es) | blt (b : Bf) (es : Es) | rng (tp : Bool) (a : E) (b : OE)
  | isi (a : E) (ts : List Ty)
  | mth (m : Mf) (i : Nat) (es : Es)
  | mt (m : Ms) (a : E) (es : Es)
  | lc (vs : List Nat) (el : E) (t : T) (it : I) (c : OC)
  | lc2 (vs vs1 : List Nat) (el : E) (t : T) (it : I) (c : OC) (t1 : T) (it1 : I) (c1 : OC)
  /-- what the run never comes to -/
  | never
  /-- len({.. for ..}), len(set(..)), ints -/
  | slen (vs : List Nat) (el : E) (t : T) (it : I) (c : OC) | setlen (a : E)
  /-- sorted(set(..)), ints -/
  | srtset (e : E)
  /-- min(.., default=..), max -/
  | dfl (mx : Bool) (a d : E)
  /-- a.bit_length(), gcd(a, b), a.index(b) -/
  | bits (a : E) | gcd (a b : E) | ixof (a b : E) | cntof (a b : E) | inrng (a b c : E)
  /-- a constant of the module -/
  | glo (x : Str) (d : D)
  /-- the value is held for good: a new list is no slot's own -/
  | frz (a : E)
  /-- {k: v for ..}, {}, a.get(k, d) -/
  | dc (vs : List Nat) (ke ve : E) (t : T) (it : I) (c : OC) | dnew | dget (a k d : E)
  | attr (a : E) (f : Str) | make (c : Cn) (fi : Nat) (es : Es) | meth (c : Cn) (m : Str) (fi : Nat) (a : E) (es : Es)
inductive Es where | nil | cons (e : E) (es : Es)
inductive OE where | no | so (e : E)
inductive C where
  | val (e : E) | and (cs : Cs) | or (cs : Cs) | not (c : C) | ifc (c : C) (a b : E) | cmp (op : CmpOp) (a b : E) | cmp2 (op op' : CmpOp) (a b c : E)
inductive Cs where | nil | cons (c : C) (cs : Cs)
inductive OC where | no | so (c : C)
inductive I where | seq (e : E) | rng1 (a : E) | rng2 (a b : E) | rng3 (a b c : E) | enum (e : E) | zip (a b : E) | zip3 (a b c : E) | rev (e : E) | revr (e : E) | rgv (i : Nat)
end
end VI
namespace VI
open PySem L2

mutual
def D.toP : D → PyData
  | .non => .none | .bl b => .bool b | .int i => .int i | .str s => .str s | .tup xs => .tuple (toPs xs) | .lst xs => .list (toPs xs) | .scr _ => .dict [] | .ins _ _ _ => .dict [] | .dk _ _ => .dict []
def toPs : List D → List PyData
  | [] => [] | x :: xs => x.toP :: toPs xs
end
/-- a value that == may be asked of -/
def okD (d : D) : Bool := SeqAt.shaped d.toP
def deq (d e : D) : Bool := PyData.eqv d.toP e.toP
def flatD : D → Bool
  | .non => true | .bl _ => true | .int _ => true | .str _ => true | _ => false

instance (i j : Int) : Decidable (CMul i j) := by unfold CMul; infer_instance
instance (i j : Int) : Decidable (CMulW i j) := by unfold CMulW; infer_instance
instance (i j : Int) : Decidable (CDiv i j) := by unfold CDiv; infer_instance
instance (i j : Int) : Decidable (CDivW i j) := by unfold CDivW; infer_instance
def mulOk (i j : Int) : Bool := decide (CMul i j) || decide (CMulW i j)
def divOk (i j : Int) : Bool := decide (CDiv i j) || decide (CDivW i j)
instance (i j : Int) : Decidable (CPow i j) := by unfold CPow; infer_instance

def binS : Operator → D → D → Option Op
  | .Add, .int i, .int j => some (.v (.int (i + j)))
  | .Add, .str x, .str y => if x.length + y.length ≤ sizeLine then some (.v (.str (x ++ y))) else none
  | .Add, .lst xs, .lst ys => if xs.length + ys.length ≤ sizeLine then some (.nw (.lst (xs ++ ys))) else none
  | .Add, .tup xs, .tup ys => if xs.length + ys.length ≤ sizeLine then some (.v (.tup (xs ++ ys))) else none
  | .Sub, .int i, .int j => some (.v (.int (i - j)))
  | .Mult, .int i, .int j => if mulOk i j then some (.v (.int (i * j))) else none
  | .Mult, .lst xs, .int k => if -(2 ^ 63) ≤ k ∧ k < 2 ^ 63 ∧ xs.length * k.toNat ≤ sizeLine then some (.nw (.lst (List.replicate k.toNat xs).flatten)) else none
  | .Mult, .tup xs, .int k => if 0 < xs.length ∧ 0 ≤ k ∧ k ≤ 1000 ∧ xs.length ≤ 1000 then some (.v (.tup (List.replicate k.toNat xs).flatten)) else none
  | .FloorDiv, .int i, .int j => if divOk i j then some (.v (.int (i / j))) else if j < 0 ∧ j.natAbs.log2 < 9000 then some (.v (.int (i.fdiv j))) else none
  | .Mod, .int i, .int j => if 0 < j then some (.v (.int (i % j))) else none
  | .Pow, .int i, .int j => if CPow i j then some (.v (.int (i ^ j.toNat))) else none
  | .LShift, .int i, .int j => if CPow i j then some (.v (.int (i * 2 ^ j.toNat))) else none
  | .RShift, .int i, .int j => if 0 ≤ j then some (.v (.int (i / 2 ^ j.toNat))) else none
  | .BitAnd, .int i, .int j => some (.v (.int (Builtin.bitAnd i j)))
  | .BitOr, .int i, .int j => some (.v (.int (Builtin.bitOr i j)))
  | .BitXor, .int i, .int j => some (.v (.int (Builtin.bitXor i j)))
  | _, _, _ => none
def unS : UnaryOp → D → Option D
  | .USub, .int i => some (.int (-i))
  | .Invert, .int i => some (.int (Builtin.bitNot i))
  | .Not, .bl b => some (.bl (!b))
  | _, _ => none
def isNon : D → Bool
  | .non => true
  | _ => false
def keyD : D → Option Key
  | .int i => some (.inl i)
  | .str s => some (.inr s)
  | _ => none
def keyB : Key → D
  | .inl i => .int i
  | .inr s => .str s
/-- what a dict holds at a key -/
def valD : List Key → List D → Key → Option D
  | k :: ks, d :: ds, j => if k = j then some d else valD ks ds j
  | _, _, _ => none
/-- in its place, or at the end -/
def putDk (k : Key) (d : D) (ks : List Key) (ds : List D) : List Key × List D :=
  if (ks.any fun j => decide (j = k)) = true then (ks, List.zipWith (fun j x => if j = k then d else x) ks ds) else (ks ++ [k], ds ++ [d])
def dfold : List (Key × D) → List Key × List D → List Key × List D
  | [], z => z
  | p :: ps, z => dfold ps (putDk p.1 p.2 z.1 z.2)
def prsD : List D → Option (List (Key × D))
  | [] => some []
  | .tup [k, d] :: r => (keyD k).bind fun k => (prsD r).map ((k, d) :: ·)
  | _ :: _ => none
def inS (x : D) : D → Option Bool
  | .lst ds => if okD x && okD (.lst ds) then some (ds.any fun z => deq z x) else none
  | .tup ds => if flatD x && ds.all flatD then some (ds.any fun z => deq z x) else none
  | .dk ks ds => (keyD x).map fun k => (valD ks ds k).isSome
  | _ => none
def cmpS : CmpOp → D → D → Option Bool
  | .Lt, .int i, .int j => some (decide (i < j))
  | .LtE, .int i, .int j => some (decide (i ≤ j))
  | .Gt, .int i, .int j => some (decide (j < i))
  | .GtE, .int i, .int j => some (decide (j ≤ i))
  | .Eq, x, y => if okD x && okD y then some (deq x y) else none
  | .NotEq, x, y => if okD x && okD y then some (!deq x y) else none
  | .Is, x, .non => some (isNon x)
  | .IsNot, x, .non => some (!isNon x)
  | .Is, .bl a, .bl b => some (a == b)
  | .IsNot, .bl a, .bl b => some (!(a == b))
  | .In, x, y => inS x y
  | .NotIn, x, y => (inS x y).map (!·)
  | _, _, _ => none
def idxS : D → D → Option D
  | .lst xs, .int i => atI xs i
  | .tup xs, .int i => atI xs i
  | .str z, .int i => if z.length ≤ sizeLine then (atI z.cps.toList i).map fun c => .str ⟨#[c]⟩ else none
  | .dk ks ds, y => (keyD y).bind fun k => valD ks ds k
  | _, _ => none
def cutD (xs : List D) (lo hi : Option Int) : List D := (xs.drop (HT.sIx xs.length 0 lo)).take (HT.sIx xs.length xs.length hi - HT.sIx xs.length 0 lo)
def slS : D → Option Int → Option Int → Option Op
  | .lst xs, lo, hi => some (.nw (.lst (cutD xs lo hi)))
  | .tup xs, lo, hi => some (.v (.tup (cutD xs lo hi)))
  | _, _, _ => none
def intD : D → Option Int
  | .int i => some i
  | _ => none
def blD : D → Option Bool
  | .bl b => some b
  | _ => none
def intsD : List D → Option (List Int)
  | [] => some []
  | .int i :: r => (intsD r).map (i :: ·)
  | _ :: _ => none
def blsD : List D → Option (List Bool)
  | [] => some []
  | .bl i :: r => (blsD r).map (i :: ·)
  | _ :: _ => none
def maxL : List Int → Int
  | [] => 0
  | [x] => x
  | x :: y :: r => max x (maxL (y :: r))
def minL : List Int → Int
  | [] => 0
  | [x] => x
  | x :: y :: r => min x (minL (y :: r))
def pairsD : List D → Option (List (Int × Int))
  | [] => some []
  | .tup [.int a, .int b] :: r => (pairsD r).map ((a, b) :: ·)
  | _ :: _ => none
def minPr : List (Int × Int) → Int × Int
  | [] => (0, 0)
  | [p] => p
  | p :: q :: r => if SrtO.lexB (minPr (q :: r)) p = true then minPr (q :: r) else p
def itemsOf : D → Option (List D)
  | .lst xs => some xs
  | .tup xs => some xs
  | .scr ns => some (ns.map .int)
  | _ => none
def bltS : Bf → List D → Option Op
  | .len, [.lst xs] => some (.v (.int xs.length))
  | .len, [.tup xs] => some (.v (.int xs.length))
  | .len, [.scr xs] => some (.v (.int xs.length))
  | .len, [.str z] => if z.length ≤ sizeLine then some (.v (.int z.length)) else none
  | .len, [.dk ks _] => some (.v (.int ks.length))
  | .int, [.int i] => some (.v (.int i))
  | .int, [.bl b] => some (.v (.int (if b then 1 else 0)))
  | .abs, [.int i] => some (.v (.int (if i < 0 then -i else i)))
  | .tuple, [.lst xs] => some (.v (.tup xs))
  | .tuple, [.tup xs] => some (.v (.tup xs))
  | .list, [.lst xs] => some (.nw (.lst xs))
  | .list, [.tup xs] => some (.nw (.lst xs))
  | .sorted, [.lst xs] => (intsD xs).map fun ns => .nw (.lst ((ns.mergeSort (· ≤ ·)).map .int))
  | .sum, [.lst xs] => (intsD xs).map fun ns => .v (.int ns.sum)
  | .sum, [.tup xs] => (intsD xs).map fun ns => .v (.int ns.sum)
  | .max, [.lst xs] => (intsD xs).bind fun ns => if 0 < ns.length then some (.v (.int (maxL ns))) else none
  | .max, [.tup xs] => (intsD xs).bind fun ns => if 0 < ns.length then some (.v (.int (maxL ns))) else none
  | .min, [.tup xs] => (intsD xs).bind fun ns => if 0 < ns.length then some (.v (.int (minL ns))) else none
  | .min, [.lst xs] => (intsD xs).bind fun ns => if 0 < ns.length then some (.v (.int (minL ns))) else none
  | .minp, [.lst xs] => (pairsD xs).bind fun ps => if 0 < ps.length then some (.v (.tup [.int (minPr ps).1, .int (minPr ps).2])) else none
  | .max, [.int i, .int j] => some (.v (.int (if j > i then j else i)))
  | .min, [.int i, .int j] => some (.v (.int (if j < i then j else i)))
  | .any, [.lst xs] => (blsD xs).map fun bs => .v (.bl (bs.any id))
  | .all, [.lst xs] => (blsD xs).map fun bs => .v (.bl (bs.all id))
  | _, _ => none
def Ty.has : Ty → D → Bool
  | .int, .int _ => true | .int, .bl _ => true | .bool, .bl _ => true | .str, .str _ => true | .tuple, .tup _ => true | .list, .lst _ => true | .list, .scr _ => true
  | _, _ => false
/-- a method that changes the list xs: its value, the list behind it -/
def mthS : Mf → List D → List D → Option (D × List D)
  | .append, xs, [d] => if xs.length < sizeLine then some (.non, xs ++ [d]) else none
  | .pop, xs, [] => match xs.getLast? with
    | some d => some (d, xs.dropLast)
    | none => none
  | .pop, xs, [.int i] => match ixN xs.length i with
    | some k => match xs[k]? with
      | some d => if -(2 ^ 63) ≤ i ∧ i < 2 ^ 63 then some (d, xs.eraseIdx k) else none
      | none => none
    | none => none
  | .reverse, xs, [] => some (.non, xs.reverse)
  | .extend, xs, [.lst ys] => if xs.length + ys.length ≤ sizeLine then some (.non, xs ++ ys) else none
  | .clear, _, [] => some (.non, [])
  | .insert, xs, [.int i, d] => if 0 ≤ i ∧ i < 2 ^ 63 ∧ xs.length < sizeLine then some (.non, xs.take i.toNat ++ [d] ++ xs.drop i.toNat) else none
  | .remove, xs, [.int k] => (intsD xs).bind fun ns => if k ∈ ns then some (.non, (ns.erase k).map .int) else none
  | _, _, _ => none
def msS : Ms → D → List D → Option Op
  | _, _, _ => none
def enumD (k : Int) : List D → List D
  | [] => []
  | d :: ds => .tup [.int k, d] :: enumD (k + 1) ds
def zipD : List D → List D → List D
  | d :: ds, e :: es => .tup [d, e] :: zipD ds es
  | _, _ => []
def zip3D : List D → List D → List D → List D
  | d :: ds, e :: es, f :: fs => .tup [d, e, f] :: zip3D ds es fs
  | _, _, _ => []
def zip3S : D → D → D → Option (List D)
  | .lst xs, .lst ys, .lst zs => some (zip3D xs ys zs)
  | .tup xs, .tup ys, .tup zs => some (zip3D xs ys zs)
  | _, _, _ => none
def zipS : D → D → Option (List D)
  | .lst xs, .lst ys => some (zipD xs ys)
  | .tup xs, .tup ys => some (zipD xs ys)
  | .tup xs, .lst ys => some (zipD xs ys)
  | .lst xs, .tup ys => some (zipD xs ys)
  | _, _ => none
def rngS (i j : Int) : Option (List D) :=
  if -(2 ^ 62) ≤ i ∧ i < 2 ^ 62 ∧ -(2 ^ 62) ≤ j ∧ j < 2 ^ 62 then some ((List.range (j - i).toNat).map fun k => .int (i + (k : Nat))) else none

/-- i, i - 1, .. above j -/
def rngD (i j : Int) : Option (List D) :=
  if -(2 ^ 62) ≤ i ∧ i < 2 ^ 62 ∧ -(2 ^ 62) ≤ j ∧ j < 2 ^ 62 then some ((List.range (i - j).toNat).map fun k => .int (i + (k : Nat) * (-1))) else none
def rgS (i j : Int) : Option (List D) :=
  if -(2 ^ 62) ≤ i ∧ i < 2 ^ 62 ∧ -(2 ^ 62) ≤ j ∧ j < 2 ^ 62 ∧ (j - i).toNat ≤ 2 ^ 24 then some ((List.range (j - i).toNat).map fun k => .int (i + (k : Nat))) else none

def seqD : D → Option (List D)
  | .lst xs => some xs
  | .tup xs => some xs
  | _ => none
/-- the first place of an equal one -/
def ixS : D → D → D → Option Int
  | .lst _, .lst xs, d => if okD (.lst xs) && okD d then Option.map (fun j : Nat => (j : Int)) (xs.findIdx? fun z => deq z d) else none
  | .tup _, .tup xs, d => if okD (.tup xs) && okD d then Option.map (fun j : Nat => (j : Int)) (xs.findIdx? fun z => deq z d) else none
  | _, _, _ => none
/-- the different ones -/
def dedI (ns : List Int) : List Int := ns.foldl (fun acc k => if k ∈ acc then acc else acc ++ [k]) []
def dcnt (ns : List Int) : Nat := (dedI ns).length
/-- xs.count(i), ints -/
def cntS : D → D → D → Option Int
  | .lst _, .lst xs, .int k => (intsD xs).map fun ns => ((ns.count k : Nat) : Int)
  | _, _, _ => none
/-- a field -/
def attrS (f : Str) : D → Option D
  | .ins c ns ds => if c.fl.contains f then (ns.zip ds).lookup f else none
  | _ => none
def putFD (f : Str) (d : D) : List Str → List D → List Str × List D
  | n :: ns, x :: xs => if n = f then (n :: ns, d :: xs) else (n :: (putFD f d ns xs).1, x :: (putFD f d ns xs).2)
  | _, _ => ([f], [d])
/-- the field is set -/
def setaS (f : Str) (d : D) : D → Option D
  | .ins c ns ds => if c.fl.contains f ∧ ns.length < 900 then some (.ins c (putFD f d ns ds).1 (putFD f d ns ds).2) else none
  | _ => none
/-- the object is of the class, no field has the method's name -/
def hasM (c : Cn) (m : Str) : D → Bool
  | .ins c' ns _ => decide (c' = c) && !ns.contains m
  | _ => false
def madeS : Op × List Sl → Option (D × List Sl)
  | (.v .non, .ow _ d :: fin) => some (d, fin)
  | _ => none
def wipeE (env : En) : List Nat → En
  | [] => env
  | v :: vs => (wipeE env vs).set v .un
def putS (env : En) (i : Nat) (s : Sl) : Option En := match env[i]? with
  | some .un => some (env.set i s)
  | some (.fz _) => some (env.set i s)
  | some (.ow false _) => some (env.set i s)
  | _ => none
mutual
def T.put : T → En → D → Option En
  | .nm i, env, d => putS env i (.fz d)
  | .tup ts, env, d => match d with
    | .tup ds => ts.put env ds
    | .lst ds => ts.put env ds
    | _ => none
def Ts.put : Ts → En → List D → Option En
  | .nil, env, ds => match ds with
    | [] => some env
    | _ => none
  | .cons t ts, env, ds => match ds with
    | d :: ds => (t.put env d).bind fun e => ts.put e ds
    | [] => none
end
/-- an argument as the callee has it -/
def toArg (env : En) : Op → Option Sl
  | .v d => some (.fz d)
  | .nw d => some (.fz d)
  | .p i => match env[i]? with
    | some (.fz d) => some (.fz d)
    | some (.ow _ d) => some (.ow true d)
    | some (.lk _ d) => some (.lk true d)
    | _ => none
def toArgs (env : En) : List Op → Option (List Sl)
  | [] => some []
  | o :: os => (toArg env o).bind fun a => (toArgs env os).map (a :: ·)
/-- the lists that were lent, as they are behind the call -/
def backArgs (env : En) : List Op → List Sl → En
  | .p i :: os, .ow _ d :: fs => match env[i]? with
    | some (.ow io _) => backArgs (env.set i (.ow io d)) os fs
    | _ => backArgs env os fs
  | _ :: os, _ :: fs => backArgs env os fs
  | _, _ => env
/-- the places that are lent -/
def lent (env : En) : List Op → List Nat
  | [] => []
  | .p i :: os => match env[i]? with
    | some (.ow _ _) => i :: lent env os
    | some (.lk _ _) => i :: lent env os
    | _ => lent env os
  | _ :: os => lent env os
abbrev CallF := Nat → List Sl → Option (Op × List Sl)

/-- what is walked: its items, the slots that are locked meanwhile (false: one that was locked ahead) -/
def lockS (env : En) : Op → En × List (Nat × Bool)
  | .p i => match env[i]? with
    | some (.ow io d) => (env.set i (.lk io d), [(i, true)])
    | some (.lk _ _) => (env, [(i, false)])
    | _ => (env, [])
  | _ => (env, [])
def unlock (env : En) : List (Nat × Bool) → En
  | [] => env
  | (i, true) :: is => match env[i]? with
    | some (.lk io d) => unlock (env.set i (.ow io d)) is
    | _ => unlock env is
  | (_, false) :: is => unlock env is
def restE (env env0 : En) : List Nat → En
  | [] => env
  | v :: vs => match env0[v]? with
    | some s => (restE env env0 vs).set v s
    | none => restE env env0 vs

def lcLoop (c : En → Option (Bool × En)) (el : En → Option (D × En)) (t : T) (vs : List Nat) : List D → En → Option (List D × En)
  | [], env => some ([], env)
  | d :: ds, env => do
    let env ← t.put env d
    let (b, env) ← c env
    if b then do
      let (y, env) ← el env
      let (ys, env) ← lcLoop c el t vs ds (wipeE env vs)
      return (y :: ys, env)
    else lcLoop c el t vs ds (wipeE env vs)
def lcLoop2 (c : En → Option (Bool × En)) (inner : En → Option (List D × En)) (t : T) (vs : List Nat) : List D → En → Option (List D × En)
  | [], env => some ([], env)
  | d :: ds, env => do
    let env ← t.put env d
    let (b, env) ← c env
    if b then do
      let (ys, env) ← inner env
      let (zs, env) ← lcLoop2 c inner t vs ds (wipeE env vs)
      return (ys ++ zs, env)
    else lcLoop2 c inner t vs ds (wipeE env vs)
def isOwK (env : En) (i : Nat) : Bool := match env[i]? with
  | some (.ow _ (.dk _ _)) => true
  | _ => false
def isOwL (env : En) (i : Nat) : Bool := match env[i]? with
  | some (.ow _ (.lst _)) => true
  | _ => false
section
variable (cl : CallF)
mutual
def evE : E → En → Option (Op × En)
  | .nm i, env => match env[i]? with
    | some (.fz d) => some (.v d, env)
    | some (.ow _ _) => some (.p i, env)
    | some (.lk _ _) => some (.p i, env)
    | _ => none
  | .lit d, env => some (.v d, env)
  | .bin op a b, env => do
    let (x, env) ← evB a env
    let (y, env) ← evB b env
    let dx ← rd env x
    let dy ← rd env y
    let r ← binS op dx dy
    return (r, env)
  | .un op a, env => do
    let (x, env) ← evB a env
    let dx ← rd env x
    let r ← unS op dx
    return (.v r, env)
  | .cmp op a b, env => do
    let (x, env) ← evB a env
    let (y, env) ← evB b env
    let dx ← rd env x
    let dy ← rd env y
    let r ← cmpS op dx dy
    return (.v (.bl r), env)
  | .cmp2 op op' a b c, env => do
    let (x, env) ← evB a env
    let (y, env) ← evB b env
    let dx ← rd env x
    let dy ← rd env y
    let r ← cmpS op dx dy
    if r then do
      let (z, env) ← evB c env
      let dy ← rd env y
      let dz ← rd env z
      let r ← cmpS op' dy dz
      return (.v (.bl r), env)
    else return (.v (.bl false), env)
  | .and es, env => evAnd es env
  | .or es, env => evOr es env
  | .ifx c a b, env => do
    let (r, env) ← evC c env
    if r then evE a env else evE b env
  | .tup es, env => do
    let (ds, env) ← evDs es env
    if ds.length ≤ sizeLine then return (.v (.tup ds), env) else none
  | .lst es, env => do
    let (ds, env) ← evDs es env
    if ds.length ≤ sizeLine then return (.nw (.lst ds), env) else none
  | .idx a b, env => do
    let (x, env) ← evB a env
    let (y, env) ← evB b env
    let dx ← rd env x
    let dy ← rd env y
    let r ← idxS dx dy
    return (.v r, env)
  | .sli a lo hi, env => do
    let (x, env) ← evB a env
    let (l, env) ← evO lo env
    let (h, env) ← evO hi env
    let dx ← rd env x
    let r ← slS dx l h
    return (r, env)
  | .call f es, env => do
    let (os, env) ← evBs es env
    let args ← toArgs env os
    if (lent env os).Nodup then do
      let (r, fin) ← cl f args
      return (r, backArgs env os fin)
    else none
  | .blt b es, env => do
    let (os, env) ← evBs es env
    let ds ← rds env os
    let r ← bltS b ds
    return (r, env)
  | .rng tp a b, env => do
    let (x, env) ← evB a env
    let (h, env) ← evO b env
    let dx ← rd env x
    let i ← intD dx
    let ds ← match h with
      | none => rgS 0 i
      | some j => rgS i j
    return (if tp then .v (.tup ds) else .nw (.lst ds), env)
  | .isi a ts, env => do
    let (x, env) ← evB a env
    let dx ← rd env x
    return (.v (.bl (ts.any fun t => t.has dx)), env)
  | .mth m i es, env => do
    if !isOwL env i then none
    let (ds, env) ← evDs es env
    match env[i]? with
    | some (.ow io (.lst xs)) => do
      let (r, ys) ← mthS m xs ds
      return (.v r, env.set i (.ow io (.lst ys)))
    | _ => none
  | .mt m a es, env => do
    let (x, env) ← evB a env
    let (os, env) ← evBs es env
    let dx ← rd env x
    let ds ← rds env os
    let r ← msS m dx ds
    return (r, env)
  | .lc vs el t it c, env => do
    let (items, lk, env1) ← evI it env
    if !(lk.all fun j => !vs.contains j.1) then none
    let (outs, env2) ← lcLoop (fun env => evOC c env) (fun env => do let (o, env) ← evE el env; esc env o) t vs items (wipeE env1 vs)
    if outs.length ≤ sizeLine then return (.nw (.lst outs), unlock (restE env2 env1 vs) lk) else none
  | .lc2 vs vs1 el t it c t1 it1 c1, env => do
    let (items, lk, env1) ← evI it env
    if !(lk.all fun j => !vs.contains j.1) then none
    let (outs, env2) ← lcLoop2 (fun env => evOC c env) (fun env => do
      let (items1, lk1, env1) ← evI it1 env
      if !(lk1.all fun j => !vs1.contains j.1) then none
      let (ys, env2) ← lcLoop (fun env => evOC c1 env) (fun env => do let (o, env) ← evE el env; esc env o) t1 vs1 items1 (wipeE env1 vs1)
      return (ys, unlock (restE env2 env1 vs1) lk1)) t vs items (wipeE env1 vs)
    if outs.length ≤ sizeLine then return (.nw (.lst outs), unlock (restE env2 env1 vs) lk) else none
  | .slen vs el t it c, env => do
    let (items, lk, env1) ← evI it env
    if !(lk.all fun j => !vs.contains j.1) then none
    let (outs, env2) ← lcLoop (fun env => evOC c env) (fun env => do let (o, env) ← evE el env; esc env o) t vs items (wipeE env1 vs)
    let ns ← intsD outs
    if ns.length < 4000 then return (.v (.int (dcnt ns : Nat)), unlock (restE env2 env1 vs) lk) else none
  | .dc vs ke ve t it c, env => do
    let (items, lk, env1) ← evI it env
    if !(lk.all fun j => !vs.contains j.1) then none
    let (outs, env2) ← lcLoop (fun env => evOC c env) (fun env => do
      let (x, env) ← evB ke env
      let kd ← rd env x
      let k ← keyD kd
      let (o, env) ← evE ve env
      let (d, env) ← esc env o
      return (.tup [keyB k, d], env)) t vs items (wipeE env1 vs)
    let ps ← prsD outs
    if ps.length < sizeLine then return (.nw (.dk (dfold ps ([], [])).1 (dfold ps ([], [])).2), unlock (restE env2 env1 vs) lk) else none
  | .dnew, env => some (.nw (.dk [] []), env)
  | .dget a k d, env => do
    let (x, env) ← evB a env
    let d0 ← rd env x
    let (y, env) ← evB k env
    let (z, env) ← evB d env
    let dx ← rd env x
    let dy ← rd env y
    let j ← keyD dy
    match d0, dx with
    | .dk _ _, .dk ks ds => match valD ks ds j with
      | some r => return (.v r, env)
      | none => return (z, env)
    | _, _ => none
  | .setlen a, env => do
    let (x, env) ← evB a env
    let dx ← rd env x
    let xs ← seqD dx
    let ns ← intsD xs
    if ns.length < 64 then return (.v (.int (dcnt ns : Nat)), env) else none
  | .never, _ => none
  | .srtset e, env => do
    let (x, env) ← evB e env
    let dx ← rd env x
    let xs ← seqD dx
    let ns ← intsD xs
    if ns.length < 64 then return (.nw (.lst ((VIS.srtU ns).map .int)), env) else none
  | .dfl mx a d, env => do
    let (x, env) ← evB a env
    let (y, env) ← evB d env
    let dx ← rd env x
    let dy ← rd env y
    if !flatD dy then none
    match dx with
    | .lst xs => do
      let ns ← intsD xs
      return (.v (if ns.length = 0 then dy else .int (if mx = true then maxL ns else minL ns)), env)
    | .tup xs => if mx = true then (do
      let ns ← intsD xs
      return (.v (if ns.length = 0 then dy else .int (if mx = true then maxL ns else minL ns)), env)) else none
    | _ => none
  | .bits a, env => do
    let (x, env) ← evB a env
    let dx ← rd env x
    let i ← intD dx
    return (.v (.int (Builtin.Int.intBits i : Nat)), env)
  | .gcd a b, env => do
    let (x, env) ← evB a env
    let (y, env) ← evB b env
    let dx ← rd env x
    let dy ← rd env y
    let i ← intD dx
    let j ← intD dy
    return (.v (.int (Nat.gcd i.natAbs j.natAbs : Nat)), env)
  | .glo _ d, env => some (.v d, env)
  | .frz a, env => do
    let (o, env) ← evE a env
    return (o.frz, env)
  | .attr a f, env => do
    let (x, env) ← evB a env
    let dx ← rd env x
    let d ← attrS f dx
    return (.v d, env)
  | .make c fi es, env => do
    let (os, env) ← evBs es env
    let args ← toArgs env os
    if (lent env os).Nodup then do
      let z ← cl fi (.ow true (.ins c [] []) :: args)
      let (d, fin) ← madeS z
      return (.nw d, backArgs env os fin)
    else none
  | .meth c m fi a es, env => do
    let (x, env) ← evB a env
    let d0 ← rd env x
    if hasM c m d0 then do
      let (os, env) ← evBs es env
      let args ← toArgs env (x :: os)
      if (lent env (x :: os)).Nodup then do
        let (r, fin) ← cl fi args
        return (r, backArgs env (x :: os) fin)
      else none
    else none
  | .ixof a b, env => do
    let (x, env) ← evB a env
    let d0 ← rd env x
    let (y, env) ← evB b env
    let dx ← rd env x
    let dy ← rd env y
    let r ← ixS d0 dx dy
    return (.v (.int r), env)
  | .inrng a b c, env => do
    let (x, env) ← evB a env
    let (y, env) ← evB b env
    let (z, env) ← evB c env
    let dx ← rd env x
    let dy ← rd env y
    let dz ← rd env z
    let i ← intD dx
    let j ← intD dy
    let k ← intD dz
    return (.v (.bl (decide (j ≤ i ∧ i < k))), env)
  | .cntof a b, env => do
    let (x, env) ← evB a env
    let d0 ← rd env x
    let (y, env) ← evB b env
    let dx ← rd env x
    let dy ← rd env y
    let r ← cntS d0 dx dy
    return (.v (.int r), env)
def evB : E → En → Option (Op × En)
  | e, env => do
    let (o, env) ← evE e env
    return (o.frz, env)
def evAnd : Es → En → Option (Op × En)
  | .nil, _ => none
  | .cons e .nil, env => evE e env
  | .cons e es, env => do
    let (x, env) ← evB e env
    let dx ← rd env x
    let b ← blD dx
    if b then evAnd es env else return (.v (.bl false), env)
def evOr : Es → En → Option (Op × En)
  | .nil, _ => none
  | .cons e .nil, env => evE e env
  | .cons e es, env => do
    let (x, env) ← evB e env
    let dx ← rd env x
    let b ← blD dx
    if b then return (.v (.bl true), env) else evOr es env
def evBs : Es → En → Option (List Op × En)
  | .nil, env => some ([], env)
  | .cons e es, env => do
    let (o, env) ← evB e env
    let (os, env) ← evBs es env
    return (o :: os, env)
def evDs : Es → En → Option (List D × En)
  | .nil, env => some ([], env)
  | .cons e es, env => do
    let (o, env) ← evE e env
    let (d, env) ← esc env o
    let (ds, env) ← evDs es env
    return (d :: ds, env)
def evO : OE → En → Option (Option Int × En)
  | .no, env => some (none, env)
  | .so e, env => do
    let (o, env) ← evB e env
    let d ← rd env o
    let i ← intD d
    return (some i, env)
def evC : C → En → Option (Bool × En)
  | .val e, env => do
    let (o, env) ← evB e env
    let d ← rd env o
    let b ← blD d
    return (b, env)
  | .ifc c a b, env => do
    let (r, env) ← evC c env
    let (o, env) ← if r then evB a env else evB b env
    let d ← rd env o
    let k ← blD d
    return (k, env)
  | .and cs, env => evCand cs env
  | .or cs, env => evCor cs env
  | .not c, env => do
    let (b, env) ← evC c env
    return (!b, env)
  | .cmp op a b, env => do
    let (x, env) ← evB a env
    let (y, env) ← evB b env
    let dx ← rd env x
    let dy ← rd env y
    let r ← cmpS op dx dy
    return (r, env)
  | .cmp2 op op' a b c, env => do
    let (x, env) ← evB a env
    let (y, env) ← evB b env
    let dx ← rd env x
    let dy ← rd env y
    let r ← cmpS op dx dy
    if r then do
      let (z, env) ← evB c env
      let dy ← rd env y
      let dz ← rd env z
      let r ← cmpS op' dy dz
      return (r, env)
    else return (false, env)
def evCand : Cs → En → Option (Bool × En)
  | .nil, _ => none
  | .cons c .nil, env => evC c env
  | .cons c cs, env => do
    let (b, env) ← evC c env
    if b then evCand cs env else return (false, env)
def evCor : Cs → En → Option (Bool × En)
  | .nil, _ => none
  | .cons c .nil, env => evC c env
  | .cons c cs, env => do
    let (b, env) ← evC c env
    if b then return (true, env) else evCor cs env
def evOC : OC → En → Option (Bool × En)
  | .no, env => some (true, env)
  | .so c, env => evC c env
def evI : I → En → Option (List D × List (Nat × Bool) × En)
  | .seq e, env => do
    let (o, env) ← evB e env
    let d ← rd env o
    let ds ← itemsOf d
    let (env, lk) := lockS env o
    return (ds, lk, env)
  | .rng1 a, env => do
    let (x, env) ← evB a env
    let dx ← rd env x
    let i ← intD dx
    let ds ← rngS 0 i
    return (ds, [], env)
  | .rng2 a b, env => do
    let (x, env) ← evB a env
    let (y, env) ← evB b env
    let dx ← rd env x
    let dy ← rd env y
    let i ← intD dx
    let j ← intD dy
    let ds ← rngS i j
    return (ds, [], env)
  | .enum e, env => do
    let (o, env) ← evB e env
    let d ← rd env o
    let ds ← itemsOf d
    let (env, lk) := lockS env o
    return (enumD 0 ds, lk, env)
  | .zip a b, env => do
    let (x, env) ← evB a env
    let (y, env) ← evB b env
    let dx ← rd env x
    let dy ← rd env y
    let ds ← zipS dx dy
    let (env, lk) := lockS env x
    let (env, lk1) := lockS env y
    return (ds, lk1 ++ lk, env)
  | .zip3 a b c, env => do
    let (x, env) ← evB a env
    let (y, env) ← evB b env
    let (z, env) ← evB c env
    let dx ← rd env x
    let dy ← rd env y
    let dz ← rd env z
    let ds ← zip3S dx dy dz
    let (env, lk) := lockS env x
    let (env, lk1) := lockS env y
    let (env, lk2) := lockS env z
    return (ds, lk2 ++ (lk1 ++ lk), env)
  | .rev e, env => do
    let (o, env) ← evB e env
    let d ← rd env o
    let ds ← itemsOf d
    let (env, lk) := lockS env o
    return (ds.reverse, lk, env)
  | .rng3 a b c, env => do
    let (x, env) ← evB a env
    let (y, env) ← evB b env
    let (z, env) ← evB c env
    let dx ← rd env x
    let dy ← rd env y
    let dz ← rd env z
    let i ← intD dx
    let j ← intD dy
    let k ← intD dz
    if k = -1 then do
      let ds ← rngD i j
      return (ds, [], env)
    else none
  | .revr a, env => do
    let (x, env) ← evB a env
    let dx ← rd env x
    let j ← intD dx
    if 0 ≤ j ∧ j < 2 ^ 62 then do
      let ds ← rngD (j - 1) (-1)
      return (ds, [], env)
    else none
  | .rgv i, env => match env[i]? with
    | some (.rg lo hi) => do
      let ds ← rngS lo hi
      return (ds, [], env)
    | _ => none
end
end
end VI
namespace VIT
open PySem PySem.Spec PyProof.Rows L2
set_option maxHeartbeats 4000000 in
theorem tuple_mul1 (l : Addr) (items : Array Value) (n : Nat) (dd : Option Addr) (sl : Array (Option Value)) (x : Int) (u : Tok) (c0 : (decide (x < -(2 ^ 63)) || decide (x ≥ 2 ^ 63)) = false) (c1 : (items.isEmpty || x == 1) = true) :
    Meets (Builtin.«tuple.__mul__» ⟨[.ref l, .int x u], []⟩) (fun _ R s => s.heap.get? l = some { cls := .type "tuple", dict := dd, data := .seq items n, slots := sl } ∧ R (.ok (.ret (Value.ref l))) s) :=
  .of_wp fun prog w A R s h => by
    obtain ⟨hp, g, d, tk, os⟩ := s
    obtain ⟨hl, h⟩ := h
    have f1 := AutoSeq1.idx_int
    wp_walk using wpAny_loadPart' hl
    repeat (first
      | (refine wpAny_ite_false (decide_eq_false (by rw [c0]; exact Bool.false_ne_true)) ?_; wp_walk using wpAny_loadPart' hl)
      | (refine wpAny_ite_true (decide_eq_true c1) ?_; wp_walk using wpAny_loadPart' hl))
    exact ⟨_, rfl, h⟩
def rRep1 (K : PySem.W.Frag) : R2 := fun x y H Q => ∃ l xs, x = .ref l ∧ y = .int 1 ∧ SqT K H l xs ∧ Q (.ref l) H
theorem op_rep1 {X : Cx} : OpR X (binaryOp .Mult) (rRep1 X.K) := by
  intro pins s σ H x y v u Q I rx ry h
  obtain ⟨l, xs, rfl, rfl, hT, q⟩ := h
  cases rx
  obtain ⟨t, rfl⟩ := ry
  obtain ⟨its, r, ⟨⟨cls, dd, data, sl⟩, ho, hc, n, hd⟩, hs⟩ := I.tuple hT
  simp only at hc hd
  subst hc hd
  refine wpAny_binaryOp_repeat_ref (T := "tuple") (U := "int") (by decide) ⟨_, ho, rfl⟩ (fun s' => typeIs_int s' 1 t) noFill_tuple_mul F.fills_int_mul F.slot_int_rmul repeat_tuple F.slot_int_index.lookup
    (call_meets F.slot_int_rmul (typeIs_int s 1 t) F.entry_int_rmul (F.args_int_rmul_2 _ _) (int_rmul_tuple 1 t l its.toArray n dd sl)
      ⟨ho, rfl, ⟨_, ho, rfl⟩, call_meets F.slot_tuple_mul ⟨_, ho, rfl⟩ F.entry_tuple_mul (F.args_tuple_mul_2 _ _) (tuple_mul1 l its.toArray n dd sl 1 t (by decide) (by simp)) ⟨ho, ?_⟩⟩)
  exact ⟨.ref l, H, I, rfl, q⟩
set_option maxHeartbeats 4000000 in
theorem tuple_mul0 (l : Addr) (items : Array Value) (n : Nat) (dd : Option Addr) (sl : Array (Option Value)) (x : Int) (u : Tok) (c0 : (decide (x < -(2 ^ 63)) || decide (x ≥ 2 ^ 63)) = false) (c1 : (items.isEmpty || x == 1) = false) (c2 : (decide (x ≤ 0) || items.isEmpty) = true) :
    Meets (Builtin.«tuple.__mul__» ⟨[.ref l, .int x u], []⟩) (fun _ R s => s.heap.get? l = some { cls := .type "tuple", dict := dd, data := .seq items n, slots := sl } ∧
      R (.ok (.ret (Value.ref s.heap.objs.size))) { s with heap := s.heap.push { cls := Value.type "tuple", data := Data.seq #[] }, toks := s.toks }) :=
  .of_wp fun prog w A R s h => by
    obtain ⟨hp, g, d, tk, os⟩ := s
    obtain ⟨hl, h⟩ := h
    have f1 := AutoSeq1.idx_int
    wp_walk using wpAny_loadPart' hl
    repeat (first
      | (refine wpAny_ite_false (decide_eq_false (by rw [c0]; exact Bool.false_ne_true)) ?_; wp_walk using wpAny_loadPart' hl)
      | (refine wpAny_ite_false (decide_eq_false (by rw [c1]; exact Bool.false_ne_true)) ?_; wp_walk using wpAny_loadPart' hl)
      | (refine wpAny_ite_true (decide_eq_true c2) ?_; wp_walk using wpAny_loadPart' hl))
    exact ⟨_, rfl, h⟩
end VIT
namespace VIU
open PySem PySem.Spec PyProof.Rows L2
/-- a plain tuple's object: no dict of its own -/
def PO (o : Obj) : Prop := o.cls = .type "tuple" ∧ o.dict = none
/-- what follows the making of a plain tuple -/
def NewT (H : Hp) (xs : List V) (Q : VK) : Prop := ∀ p o, PO o → H p = none → Q (.ref p) (upd H p (.frz o (.tup xs)))
def plainO (us : Array Value) : Obj := { cls := .type "tuple", data := .seq us }
theorem po_new (us : Array Value) : PO (plainO us) := ⟨rfl, rfl⟩
section
variable {X : Cx}
theorem laidT {pins : List (Addr × Obj)} {σ : List (Option V)} {H : Hp} {s : Shared} {xs : List V} {us : List Value} {h' : Heap} {t : Nat} (I : Inv X pins σ H s) (r : Vals xs us) (hz : xs.length ≤ sizeLine)
    (k : ∀ b u, s.heap.get? b = some u → (h'.push (plainO us.toArray)).get? b = some u) (hp : s.heap.objs.size ≤ h'.objs.size) :
    Inv X pins σ (upd H h'.objs.size (.frz (plainO us.toArray) (.tup xs))) { s with heap := h'.push (plainO us.toArray), toks := t } :=
  I.laid (t' := t) k hp (show ObjOk X.prog X.w _ _ _ (.frz (plainO us.toArray) (.tup xs)) from ⟨Heap.get?_push_size _ rfl, hz, us, r, _, Heap.get?_push_size _ rfl, rfl, _, rfl⟩)
theorem laidT0 {pins : List (Addr × Obj)} {σ : List (Option V)} {H : Hp} {s : Shared} {xs : List V} {us : List Value} {Q : VK} (I : Inv X pins σ H s) (r : Vals xs us) (hz : xs.length ≤ sizeLine) (q : NewT H xs Q) :
    EP X pins σ Q (.ref s.heap.objs.size) { s with heap := s.heap.push (plainO us.toArray) } :=
  ⟨.ref s.heap.objs.size, _, laidT (t := s.toks) I r hz (fun b u e => Heap.get?_push_of_some _ e) (Nat.le_refl _), rfl, q _ _ (po_new _) (I.hok.fresh (Nat.le_refl _))⟩
/-- (a, b, ..) -/
def tTupP (t : TA) : TE := fun σ H Q => t σ H fun xs H1 => xs.length ≤ sizeLine ∧ NewT H1 xs Q
theorem pe_tupP {es : List Expr} {pos : Pos} {t : TA} {x1} (h : PA X es t) : PE X (.Tuple es x1 pos) (tTupP t) :=
  ⟨fun pins s σ H Q I hq => wpAny_Tuple_spliced (thn (h.run pos pins s σ H _ I hq) fun us s1 ⟨xs, H1, I1, r, z, q⟩ => ⟨by rw [← r.length]; exact z, laidT0 I1 r z q⟩)⟩
/-- t + u -/
def rCatP (K : PySem.W.Frag) : R2 := fun x y H Q => ∃ a b xs ys, x = .ref a ∧ y = .ref b ∧ SqT K H a xs ∧ SqT K H b ys ∧ xs.length + ys.length ≤ sizeLine ∧
  (xs = [] → Q y H) ∧ (xs ≠ [] → ys = [] → Q x H) ∧ (xs ≠ [] → ys ≠ [] → NewT H (xs ++ ys) Q)
theorem op_catP : OpR X (binaryOp .Add) (rCatP X.K) := by
  intro pins s σ H x y v u Q I rx ry h
  obtain ⟨a, b, xs, ys, ex, ey, ha, hb, hz, q0, q1, q2⟩ := h
  subst ex ey
  cases rx
  cases ry
  obtain ⟨us, ra, pa, _⟩ := I.tuple ha
  obtain ⟨vs, rb, pb, _⟩ := I.tuple hb
  by_cases hx : xs = []
  · have hu : us = [] := ra.nil_iff.mpr hx
    subst hu
    exact cat_tup0 pa pb ⟨.ref b, H, I, rfl, q0 hx⟩
  · refine HT.cat_tup pa pb (fun e => hx (ra.nil_iff.mp e)) (fun e => ⟨.ref a, H, I, rfl, q1 hx (rb.nil_iff.mp e)⟩) (fun e => ?_) (by have := ra.length; have := rb.length; omega)
    exact laidT0 I (ra.append rb) (by rw [List.length_append]; exact hz) (q2 hx fun e' => e (rb.nil_iff.mpr e'))
/-- t[lo:hi] -/
def rSlP (K : PySem.W.Frag) : V → Option Int → Option Int → Hp → VK → Prop := fun x lo hi H Q => ∃ a xs, x = .ref a ∧ SqT K H a xs ∧
  ((HT.sIx xs.length 0 lo = 0 ∧ HT.sIx xs.length xs.length hi = xs.length) → Q x H) ∧ (¬ (HT.sIx xs.length 0 lo = 0 ∧ HT.sIx xs.length xs.length hi = xs.length) → NewT H (cutV xs lo hi) Q)
theorem sl_tupP : SlR X (rSlP X.K) := by
  intro pins s σ H x v vl vu lo hi sl Q I rx hs pl pu h
  obtain ⟨a, xs, ex, hx, q1, q2⟩ := h
  subst ex
  cases rx
  obtain ⟨us, r, ht, hz⟩ := I.tuple hx
  have hn : us.toArray.size = xs.length := by rw [List.size_toArray, r.length]
  refine ⟨"tuple", _, PyProof.Rows.slot_tuple_getitem.lookup, ht.typeIs, ?_⟩
  by_cases hw : HT.sIx xs.length 0 lo = 0 ∧ HT.sIx xs.length xs.length hi = xs.length
  · exact getItem_tuple_whole ht hs pl pu (by rw [hn]; exact hw) ⟨.ref a, H, I, rfl, q1 hw⟩
  · refine HT.getItem_tuple_cut ht hs pl pu (by rw [hn]; exact hw) ?_ (by rw [hn]; exact hz)
    rw [hn]
    exact laidT0 I ((r.drop _).take _) (Nat.le_trans (cutV_length xs lo hi) hz) (q2 hw)
/-- tuple(l), tuple(t) -/
theorem call_tupleP : CallR X (.type "tuple") (fun xs H Q => ∃ p ys, xs = [.ref p] ∧ ((SqL X.K H p ys ∧ NewT H ys Q) ∨ (SqT X.K H p ys ∧ Q (.ref p) H))) := by
  intro pins s σ H xs us Q I r h
  obtain ⟨p, ys, ex, h⟩ := h
  subst ex
  obtain ⟨u, eu, ru⟩ := vals1 r
  subst eu
  cases ru
  rcases h with ⟨hq, q⟩ | ⟨hq, q⟩
  · obtain ⟨vs, rv, pl, hz⟩ := I.list hq
    refine call_tuple_list pl.isList (fun h' kp => ?_) (by rw [List.size_toArray, ← rv.length]; exact hz)
    have J : Inv X pins σ H { s with heap := h' } := I.kept (t' := s.toks) kp
    exact ⟨.ref h'.objs.size, _, laidT (s := { s with heap := h' }) (t := s.toks) J rv hz (fun b o e => Heap.get?_push_of_some _ e) (Nat.le_refl _), rfl, q _ _ (po_new _) (J.hok.fresh (Nat.le_refl _))⟩
  · obtain ⟨_, _, pt, _⟩ := I.tuple hq
    exact call_tuple_same pt ⟨.ref p, H, I, rfl, q⟩
/-- tuple(range(..)) -/
def tTupRgP (te : L2.St → Hp → (Int → Int → Hp → Prop) → Prop) : TE := fun σ H Q => te σ H fun a b H1 => RgOk a b ∧ NewT H1 (rgV a b) Q
theorem pe_tupRgP {e : Expr} {te : L2.St → Hp → (Int → Int → Hp → Prop) → Prop} {p pos : Pos} (hc : X.calm = true) (hg : Gl X "tuple") (hm : X.mg "tuple" = none) (he : PRg X e te)
    (na : starEach [e] X.env = (false, eval e X.env) :: starEach [] X.env := by rfl) : PE X (.Call (.Name "tuple" p) [e] [] pos) (tTupRgP te) := by
  refine ⟨fun pins s σ H Q I h => Call_ (ld_blt I hg hm boot_tuple (PyProof.Rows.callWith_type1 (args_cons (thn (he pins s σ H _ I h) fun x s1 hh => args_nil ?_) na) na))⟩
  obtain ⟨r, a, b, t, u, v, H1, ex, hr, J, ok, q⟩ := hh
  subst ex
  have ok' := ok
  obtain ⟨b1, b2, b3, b4, b5⟩ := ok'
  refine call_tuple_range (n := (b - a).toNat) (J.ok.hd hc) hr (small_one b1 b2 b3 b4) (rangeSize_nat a b) b5 fun h' tk acc hk hi => ?_
  have J2 : Inv X pins σ H1 { s1 with heap := h', toks := tk } := J.kept hk
  have hv : Vals (rgV a b) acc.toList := vals_rg hi
  have e0 : acc.toList.toArray = acc := by simp
  have L := laidT (t := tk) (h' := h') J2 hv (by rw [rgV_length, sizeLine_eq]; omega) (fun c o e => Heap.get?_push_of_some _ e) (Nat.le_refl _)
  rw [e0] at L
  exact ⟨.ref h'.objs.size, _, L, rfl, q _ _ (po_new _) (J2.hok.fresh (Nat.le_refl _))⟩
/-- t * k -/
def rRepP (K : PySem.W.Frag) : R2 := fun x y H Q => ∃ l k xs, x = .ref l ∧ y = .int k ∧ SqT K H l xs ∧ xs ≠ [] ∧ 2 ≤ k ∧ k ≤ 1000 ∧ xs.length ≤ 1000 ∧ NewT H (List.replicate k.toNat xs).flatten Q
theorem op_repP : OpR X (binaryOp .Mult) (rRepP X.K) := by
  intro pins s σ H x y v u Q I rx ry h
  obtain ⟨l, k, xs, ex, ey, hT, hne, h1, h2, hz, q⟩ := h
  subst ex ey
  cases rx
  obtain ⟨t, rfl⟩ := ry
  obtain ⟨us, r, ht, hs⟩ := I.tuple hT
  obtain ⟨⟨cls, dd, data, sl⟩, ho, hc, n, hd⟩ := ht
  dsimp only at hc hd
  subst hc hd
  have hl : us.length = xs.length := r.length.symm
  have hn : us ≠ [] := fun e => hne (r.nil_iff.mp e)
  have hi : us.toArray.isEmpty = false := by
    cases us with
    | nil => exact absurd rfl hn
    | cons _ _ => rfl
  have hb : k.toNat * xs.length ≤ 1000000 := Nat.mul_le_mul (show k.toNat ≤ 1000 by omega) hz
  have hm : ((us.toArray.size : Nat) : Int) * k ≤ 1000000 := by
    have e : ((us.toArray.size : Nat) : Int) * k = ((k.toNat * xs.length : Nat) : Int) := by
      rw [List.size_toArray, hl, Int.mul_comm, Int.natCast_mul, Int.toNat_of_nonneg (by omega)]
    rw [e]; omega
  have hf : (List.replicate k.toNat us).flatten.length ≤ sizeLine := by
    rw [lm_len_rep_flat, hl, sizeLine_eq]; omega
  have big : Builtin.Tuple.tupleTooMany (((us.toArray.size : Nat) : Int) * k) = false := by
    unfold Builtin.Tuple.tupleTooMany
    rw [sizeLine_eq, decide_eq_false_iff_not]; omega
  have s0 : (decide (k < -(2 ^ 63)) || decide (k ≥ 2 ^ 63)) = false := by simp; omega
  have s1 : (us.toArray.isEmpty || k == 1) = false := by rw [hi, Bool.false_or, beq_eq_false_iff_ne]; omega
  have s2 : (decide (k ≤ 0) || us.toArray.isEmpty) = false := by rw [hi, Bool.or_false, decide_eq_false_iff_not]; omega
  refine wpAny_binaryOp_repeat_ref (T := "tuple") (U := "int") (by decide) ⟨_, ho, rfl⟩ (fun _ => typeIs_int _ k t) noFill_tuple_mul F.fills_int_mul F.slot_int_rmul repeat_tuple F.slot_int_index.lookup
    (call_meets F.slot_int_rmul (typeIs_int s k t) F.entry_int_rmul (F.args_int_rmul_2 _ _) (int_rmul_tuple k t l us.toArray n dd sl) ⟨ho, rfl, ⟨_, ho, rfl⟩, ?_⟩)
  refine call_meets F.slot_tuple_mul ⟨_, ho, rfl⟩ F.entry_tuple_mul (F.args_tuple_mul_2 _ _) (tuple_mulW l us.toArray n dd sl k t s0 s1 s2 (by omega) big (by rw [size_rep, List.size_toArray]; exact hf)) ⟨ho, ?_⟩
  rw [size_rep]
  exact laidT0 I (r.rep k.toNat) (by rw [lm_len_rep_flat, sizeLine_eq]; omega) q
def rRep0P (K : PySem.W.Frag) : R2 := fun x y H Q => ∃ l xs, x = .ref l ∧ y = .int 0 ∧ SqT K H l xs ∧ xs ≠ [] ∧ NewT H [] Q
theorem op_rep0P : OpR X (binaryOp .Mult) (rRep0P X.K) := by
  intro pins s σ H x y v u Q I rx ry h
  obtain ⟨l, xs, ex, ey, hT, hne, q⟩ := h
  subst ex ey
  cases rx
  obtain ⟨t, rfl⟩ := ry
  obtain ⟨us, r, ht, hs⟩ := I.tuple hT
  obtain ⟨⟨cls, dd, data, sl⟩, ho, hc, n, hd⟩ := ht
  dsimp only at hc hd
  subst hc hd
  have hi : us.toArray.isEmpty = false := by
    cases us with
    | nil => exact absurd (r.nil_iff.mp rfl) hne
    | cons _ _ => rfl
  have c1 : (us.toArray.isEmpty || (0 : Int) == 1) = false := by rw [hi]; rfl
  refine wpAny_binaryOp_repeat_ref (T := "tuple") (U := "int") (by decide) ⟨_, ho, rfl⟩ (fun _ => typeIs_int _ 0 t) noFill_tuple_mul F.fills_int_mul F.slot_int_rmul repeat_tuple F.slot_int_index.lookup
    (call_meets F.slot_int_rmul (typeIs_int s 0 t) F.entry_int_rmul (F.args_int_rmul_2 _ _) (int_rmul_tuple 0 t l us.toArray n dd sl) ⟨ho, rfl, ⟨_, ho, rfl⟩, ?_⟩)
  refine call_meets F.slot_tuple_mul ⟨_, ho, rfl⟩ F.entry_tuple_mul (F.args_tuple_mul_2 _ _) (VIT.tuple_mul0 l us.toArray n dd sl 0 t (by decide) c1 rfl) ⟨ho, ?_⟩
  exact laidT0 (us := []) I .nil (Nat.zero_le _) q
/-- t.index(x): the first place of an equal one -/
def rIndexT (K : PySem.W.Frag) : V → List V → Hp → VK → Prop := fun x xs H Q => ∃ (a : Addr) (y : V) (d : PyData) (ds : List PyData) (j : Nat) (z : PyData), x = V.ref a ∧ xs = [y] ∧ Dp K H (V.ref a) (.tuple ds) ∧ Dp K H y d ∧
  SeqAt.shaped (.tuple ds) = true ∧ SeqAt.shaped d = true ∧ ds[j]? = some z ∧ PyData.eqv z d = true ∧ (∀ (m : Nat) (w : PyData), m < j → ds[m]? = some w → PyData.eqv w d = false) ∧ Q (.int (j : Nat)) H
theorem mt_indexT (hu : X.A.units + 65 < cLine) : MtR X "tuple.index" (rIndexT X.K) := by
  intro pins s σ H x xs v us Q I rx rxs h
  obtain ⟨a, y, d, ds, j, z, ex, exs, hl, hy, sl, sd, hz, hzj, hno, q⟩ := h
  subst ex exs
  cases rx
  obtain ⟨uy, rfl, ry⟩ := rxs.one
  obtain ⟨bs, r1⟩ := Dp.reads I d y uy hy ry
  have lay : PyData.canLayAll0 ds = true := SeqAt.canLay_of_shaped sl
  cases hl with
  | tup hs ha =>
    obtain ⟨its, rv, ⟨⟨cls, dd, data, slt⟩, ho, hc, n, hdt⟩, hlen⟩ := I.tuple hs
    dsimp only at hc hdt
    subst hc hdt
    obtain ⟨as, h4⟩ := Dp.readsAll I ds _ its ha rv
    have hn : its.length = ds.length := SeqAt.ReadsAll.length ds its as h4
    have hmap : its.map (SeqAt.readOf s.heap) = ds := SeqAt.readsAll_map ds its as lay h4
    have hjd : j < ds.length := (List.getElem?_eq_some_iff.mp hz).1
    have hj : j < its.toArray.size := by rw [List.size_toArray]; omega
    have rd : ∀ (m : Nat) (hm : m < its.toArray.size) (w : PyData), ds[m]? = some w → SeqAt.readOf s.heap its.toArray[m] = w := fun m hm w hw => by
      have hml : m < its.length := by rwa [List.size_toArray] at hm
      have := congrArg (fun l => l[m]?) hmap
      simp only [List.getElem?_map, List.getElem?_eq_getElem hml, hw, Option.map_some, Option.some.injEq] at this
      simpa using this
    refine call_meets F.slot_tuple_index ⟨_, ho, rfl⟩ F.entry_tuple_index (F.args_tuple_index_2 _ _)
      (SeqAt.tuple_index2_found a its.toArray n dd slt uy (fun m => (ds[m]?.map fun w => PyData.eqv w d).getD false) j hj (Nat.zero_le _) hj ?_ ?_)
      ⟨ho, fun m hm => ?_, .int (j : Nat), H, I.tok _, ⟨_, rfl⟩, q⟩
    · show (ds[j]?.map fun w => PyData.eqv w d).getD false = true
      rw [hz]; exact hzj
    · intro m hm _ hmj
      have hw : ds[m]? = some ds[m] := List.getElem?_eq_getElem (by omega)
      show (ds[m]?.map fun w => PyData.eqv w d).getD false = false
      rw [hw]; exact hno m _ hmj hw
    · have k := SeqAt.items_eqAt (vs := its.toArray) (show ReadsAll s.heap its.toArray.toList ds as from h4) r1 lay (SeqAt.canLay_of_shaped sd) (room_in_shaped sd hu) its.toArray[m] (Array.getElem_mem hm)
      have hml : m < ds.length := by rw [List.size_toArray] at hm; omega
      have hw : ds[m]? = some ds[m] := List.getElem?_eq_getElem hml
      rw [rd m hm _ hw] at k
      show SeqAt.EqAt _ _ _ _ ((ds[m]?.map fun w => PyData.eqv w d).getD false)
      rw [hw]; exact k
end
end VIU
namespace VI
open PySem PySem.Spec L2

abbrev FS := Addr → Prop
abbrev Slots := List (Option V)
def KL (K : PySem.W.Frag) (a : Addr) (xs : List V) : Prop :=
  ∃ (o : Obj) (its : Array Value) (n : Nat), K.lookup a = some o ∧ o.cls = .type "list" ∧ o.dict = none ∧ o.data = .seq its n ∧ its.size ≤ sizeLine ∧ Vals xs its.toList
def KT (K : PySem.W.Frag) (a : Addr) (xs : List V) : Prop :=
  ∃ (o : Obj) (its : Array Value) (n : Nat), K.lookup a = some o ∧ VIU.PO o ∧ o.data = .seq its n ∧ its.size ≤ sizeLine ∧ Vals xs its.toList
def FL (F : FS) (H : Hp) (a : Addr) (xs : List V) : Prop := F a ∧ H a = some (.lst xs)
def FS_ (K : PySem.W.Frag) (F : FS) (H : Hp) (a : Addr) (xs : List V) : Prop := (F a ∧ Rd H a (.lst xs)) ∨ KL K a xs
def FT (K : PySem.W.Frag) (F : FS) (H : Hp) (a : Addr) (xs : List V) : Prop := (F a ∧ ∃ o, VIU.PO o ∧ H a = some (.frz o (.tup xs))) ∨ KT K a xs
theorem FS_.seq {K F H a xs} (h : FS_ K F H a xs) : SqL K H a xs := h.elim (fun z => .inl z.2) .inr
theorem FT.seq {K F H a xs} (h : FT K F H a xs) : SqT K H a xs := by
  rcases h with ⟨_, o, _, e⟩ | ⟨o, its, n, e1, e2, e3, e4, e5⟩
  · exact .inl (.inr ⟨o, e⟩)
  · exact .inr ⟨o, its, n, e1, e2.1, e3, e4, e5⟩
/-- it has no dict of its own -/
theorem FT.nod {X : Cx} {pins : List (Addr × Obj)} {σ : List (Option V)} {s : Shared} {F H a xs} (I : Inv X pins σ H s) (h : FT X.K F H a xs) : ∃ o, s.heap.get? a = some o ∧ VIU.PO o := by
  rcases h with ⟨_, o, po, e⟩ | ⟨o, its, n, e1, e2, _⟩
  · exact ⟨o, (I.hok a _ e).1, po⟩
  · exact ⟨o, I.kIn a o e1, e2⟩

/-- the class c stands at C -/
structure CA (K : PySem.W.Frag) (c : Cn) (C : Addr) : Prop where
  at_ : PySem.W.nsIn K mainGlobals c.nm = some (some (.ref C))
  na : ∀ f ∈ c.fl, NoAttr K C f
  cl : Cls K C
  ha : PySem.W.findIn K (.ref C) "__class__" = some (some (.builtin "object.__class__"))
  hn : PySem.W.specialIn K (.builtin "object.__class__") "__get__" = some (some (.builtin "getset_descriptor.__get__"))
  htk : PySem.W.takesIn K (.builtin "object.__class__") = some true
  hm : PySem.W.mroIn K C (.type "object") = some true
  is : ∀ t ∈ ["int", "bool", "str", "tuple", "list", "NoneType"], PySem.W.kitOne K (.ref C) (.type t) = some false
mutual
def Is (K : PySem.W.Frag) (F : FS) (H : Hp) : D → V → Prop
  | .non, v => v = .non
  | .bl b, v => v = .bl b
  | .int i, v => v = .int i
  | .str s, v => v = .str s
  | .tup xs, v => ∃ a vs, v = .ref a ∧ FT K F H a vs ∧ IsL K F H xs vs
  | .lst xs, v => ∃ a vs, v = .ref a ∧ FL F H a vs ∧ IsL K F H xs vs
  | .scr ns, v => ∃ a, v = .ref a ∧ FS_ K F H a (ns.map .int)
  | .ins c ns ds, v => ∃ a C dx vs, v = .ref a ∧ F a ∧ H a = some (.ins C dx (ns.zip vs)) ∧ CA K c C ∧ ns.length = vs.length ∧ IsL K F H ds vs
  | .dk ks ds, v => ∃ a vs, v = .ref a ∧ F a ∧ H a = some (.dK (ks.zip vs)) ∧ ks.length = vs.length ∧ IsL K F H ds vs
def IsL (K : PySem.W.Frag) (F : FS) (H : Hp) : List D → List V → Prop
  | [], vs => vs = []
  | x :: xs, vs => ∃ w ws, vs = w :: ws ∧ Is K F H x w ∧ IsL K F H xs ws
end
/-- the list at a is held by one slot alone -/
def OwnAt (K : PySem.W.Frag) (F : FS) (H : Hp) : D → Addr → Prop
  | .lst xs, a => ¬ F a ∧ ∃ vs, H a = some (.lst vs) ∧ IsL K F H xs vs
  | .ins c ns ds, a => ¬ F a ∧ ∃ C dx vs, H a = some (.ins C dx (ns.zip vs)) ∧ CA K c C ∧ ns.length = vs.length ∧ IsL K F H ds vs
  | .dk ks ds, a => ¬ F a ∧ ∃ vs, H a = some (.dK (ks.zip vs)) ∧ ks.length = vs.length ∧ IsL K F H ds vs
  | _, _ => False
def Has (K : PySem.W.Frag) (F : FS) (H : Hp) (d : D) (v : V) : Prop := Is K F H d v ∨ ∃ a, v = .ref a ∧ OwnAt K F H d a

section
variable {K : PySem.W.Frag} {F F' : FS} {H H' : Hp}
theorem FL.mono {a xs} (sub : ∀ a, F a → F' a) (agr : ∀ a, F a → H' a = H a) (h : FL F H a xs) : FL F' H' a xs := ⟨sub a h.1, (agr a h.1).trans h.2⟩
theorem FS_.mono {a xs} (sub : ∀ a, F a → F' a) (agr : ∀ a, F a → H' a = H a) (h : FS_ K F H a xs) : FS_ K F' H' a xs := by
  rcases h with ⟨f, h⟩ | h
  · refine .inl ⟨sub a f, ?_⟩
    unfold Rd at h ⊢
    rw [agr a f]; exact h
  · exact .inr h
theorem FT.mono {a xs} (sub : ∀ a, F a → F' a) (agr : ∀ a, F a → H' a = H a) (h : FT K F H a xs) : FT K F' H' a xs := by
  rcases h with ⟨f, o, po, e⟩ | h
  · exact .inl ⟨sub a f, o, po, (agr a f).trans e⟩
  · exact .inr h
mutual
theorem Is.mono (sub : ∀ a, F a → F' a) (agr : ∀ a, F a → H' a = H a) : ∀ {d : D} {v : V}, Is K F H d v → Is K F' H' d v
  | .non, _, h => h
  | .bl _, _, h => h
  | .int _, _, h => h
  | .str _, _, h => h
  | .tup xs, v, h => by
    simp only [Is] at h ⊢
    obtain ⟨a, vs, e, h1, h2⟩ := h
    exact ⟨a, vs, e, h1.mono sub agr, IsL.mono sub agr h2⟩
  | .lst xs, v, h => by
    simp only [Is] at h ⊢
    obtain ⟨a, vs, e, h1, h2⟩ := h
    exact ⟨a, vs, e, h1.mono sub agr, IsL.mono sub agr h2⟩
  | .scr xs, v, h => by
    simp only [Is] at h ⊢
    obtain ⟨a, e, h1⟩ := h
    exact ⟨a, e, h1.mono sub agr⟩
  | .ins c ns ds, v, h => by
    simp only [Is] at h ⊢
    obtain ⟨a, C, dx, vs, e, f, h1, h2, h3, h4⟩ := h
    exact ⟨a, C, dx, vs, e, sub a f, (agr a f).trans h1, h2, h3, IsL.mono sub agr h4⟩
  | .dk ks ds, v, h => by
    simp only [Is] at h ⊢
    obtain ⟨a, vs, e, f, h1, h3, h4⟩ := h
    exact ⟨a, vs, e, sub a f, (agr a f).trans h1, h3, IsL.mono sub agr h4⟩
theorem IsL.mono (sub : ∀ a, F a → F' a) (agr : ∀ a, F a → H' a = H a) : ∀ {ds : List D} {vs : List V}, IsL K F H ds vs → IsL K F' H' ds vs
  | [], _, h => h
  | x :: xs, vs, h => by
    simp only [IsL] at h ⊢
    obtain ⟨w, ws, e, h1, h2⟩ := h
    exact ⟨w, ws, e, Is.mono sub agr h1, IsL.mono sub agr h2⟩
end
theorem IsL.nil : IsL K F H [] [] := by simp [IsL]
theorem IsL.cons {x w xs ws} (h1 : Is K F H x w) (h2 : IsL K F H xs ws) : IsL K F H (x :: xs) (w :: ws) := by
  simp only [IsL]; exact ⟨w, ws, rfl, h1, h2⟩
theorem IsL.length : ∀ {ds : List D} {vs : List V}, IsL K F H ds vs → ds.length = vs.length
  | [], _, h => by simp only [IsL] at h; subst h; rfl
  | x :: xs, _, h => by
    simp only [IsL] at h
    obtain ⟨w, ws, rfl, _, h2⟩ := h
    rw [List.length_cons, List.length_cons, IsL.length h2]
theorem IsL.get : ∀ {ds : List D} {vs : List V} {i : Nat} {d : D}, IsL K F H ds vs → ds[i]? = some d → ∃ v, vs[i]? = some v ∧ Is K F H d v
  | [], _, _, _, _, e => by simp at e
  | x :: xs, _, 0, d, h, e => by
    simp only [IsL] at h
    obtain ⟨w, ws, rfl, h1, h2⟩ := h
    simp at e; subst e
    exact ⟨w, rfl, h1⟩
  | x :: xs, _, i + 1, d, h, e => by
    simp only [IsL] at h
    obtain ⟨w, ws, rfl, h1, h2⟩ := h
    obtain ⟨v, e1, e2⟩ := IsL.get (i := i) h2 (by simpa using e)
    exact ⟨v, by simpa using e1, e2⟩
theorem IsL.append : ∀ {xs ys : List D} {us ws : List V}, IsL K F H xs us → IsL K F H ys ws → IsL K F H (xs ++ ys) (us ++ ws)
  | [], _, _, _, h, h' => by simp only [IsL] at h; subst h; exact h'
  | x :: xs, _, _, _, h, h' => by
    simp only [IsL] at h
    obtain ⟨w, ws, rfl, h1, h2⟩ := h
    exact IsL.cons h1 (IsL.append h2 h')
theorem IsL.snoc {xs : List D} {us : List V} {d v} (h : IsL K F H xs us) (h' : Is K F H d v) : IsL K F H (xs ++ [d]) (us ++ [v]) := h.append (.cons h' .nil)
theorem IsL.take : ∀ {xs : List D} {us : List V} (n : Nat), IsL K F H xs us → IsL K F H (xs.take n) (us.take n)
  | _, _, 0, _ => by simp [IsL]
  | [], _, n + 1, h => by simp only [IsL] at h; subst h; simp [IsL]
  | x :: xs, _, n + 1, h => by
    simp only [IsL] at h
    obtain ⟨w, ws, rfl, h1, h2⟩ := h
    exact IsL.cons h1 (IsL.take n h2)
theorem IsL.drop : ∀ {xs : List D} {us : List V} (n : Nat), IsL K F H xs us → IsL K F H (xs.drop n) (us.drop n)
  | _, _, 0, h => h
  | [], _, n + 1, h => by simp only [IsL] at h; subst h; simp [IsL]
  | x :: xs, _, n + 1, h => by
    simp only [IsL] at h
    obtain ⟨w, ws, rfl, h1, h2⟩ := h
    exact IsL.drop n h2
theorem IsL.set : ∀ {xs : List D} {us : List V} {d v} (i : Nat), IsL K F H xs us → Is K F H d v → IsL K F H (xs.set i d) (us.set i v)
  | [], _, _, _, _, h, _ => by simp only [IsL] at h; subst h; simp [IsL]
  | x :: xs, _, _, _, 0, h, h' => by
    simp only [IsL] at h
    obtain ⟨w, ws, rfl, h1, h2⟩ := h
    exact IsL.cons h' h2
  | x :: xs, _, _, _, i + 1, h, h' => by
    simp only [IsL] at h
    obtain ⟨w, ws, rfl, h1, h2⟩ := h
    exact IsL.cons h1 (IsL.set i h2 h')
theorem IsL.reverse : ∀ {xs : List D} {us : List V}, IsL K F H xs us → IsL K F H xs.reverse us.reverse
  | [], _, h => by simp only [IsL] at h; subst h; simp [IsL]
  | x :: xs, _, h => by
    simp only [IsL] at h
    obtain ⟨w, ws, rfl, h1, h2⟩ := h
    rw [List.reverse_cons, List.reverse_cons]
    exact IsL.append (IsL.reverse h2) (.cons h1 .nil)
theorem IsL.eraseIdx : ∀ {xs : List D} {us : List V} (i : Nat), IsL K F H xs us → IsL K F H (xs.eraseIdx i) (us.eraseIdx i)
  | [], _, _, h => by simp only [IsL] at h; subst h; simp [IsL]
  | x :: xs, _, 0, h => by
    simp only [IsL] at h
    obtain ⟨w, ws, rfl, h1, h2⟩ := h
    exact h2
  | x :: xs, _, i + 1, h => by
    simp only [IsL] at h
    obtain ⟨w, ws, rfl, h1, h2⟩ := h
    exact IsL.cons h1 (IsL.eraseIdx i h2)
theorem IsL.rep {xs : List D} {us : List V} (h : IsL K F H xs us) : ∀ k : Nat, IsL K F H (List.replicate k xs).flatten (List.replicate k us).flatten
  | 0 => by simp [IsL]
  | k + 1 => by
    rw [List.replicate_succ, List.replicate_succ, List.flatten_cons, List.flatten_cons]
    exact h.append (IsL.rep h k)
theorem IsL.repl {k : Key} {d : D} {v : V} : ∀ {ks : List Key} {ds : List D} {vs : List V}, IsL K F H ds vs → Is K F H d v → IsL K F H (List.zipWith (fun j x => if j = k then d else x) ks ds) (List.zipWith (fun j x => if j = k then v else x) ks vs)
  | [], _, _, _, _ => by simp [IsL]
  | _ :: _, [], _, h, _ => by simp only [IsL] at h; subst h; simp [IsL]
  | j :: ks, x :: xs, _, h, hv => by
    simp only [IsL] at h
    obtain ⟨w, ws, rfl, h1, h2⟩ := h
    rw [List.zipWith_cons_cons, List.zipWith_cons_cons]
    refine IsL.cons ?_ (IsL.repl h2 hv)
    split
    · exact hv
    · exact h1
theorem valD_has {j : Key} : ∀ {ks : List Key} {ds : List D} {vs : List V}, IsL K F H ds vs → match valD ks ds j with
    | some d => ∃ v, valV (ks.zip vs) j = some v ∧ Is K F H d v
    | none => valV (ks.zip vs) j = none
  | [], _, _, _ => by simp [valD, valV_nil]
  | k :: ks, [], _, h => by simp only [IsL] at h; subst h; simp [valD, valV_nil]
  | k :: ks, d :: ds, _, h => by
    simp only [IsL] at h
    obtain ⟨w, ws, rfl, h1, h2⟩ := h
    rw [List.zip_cons_cons]
    by_cases e : k = j
    · simp only [valD, if_pos e]
      exact ⟨w, valV_pos e, h1⟩
    · simp only [valD, if_neg e]
      rw [valV_neg (p := (k, w)) e]
      exact valD_has h2
theorem zip_any (k : Key) : ∀ {ks : List Key} {vs : List V}, ks.length = vs.length → ((ks.zip vs).any fun kv => decide (kv.1 = k)) = (ks.any fun j => decide (j = k))
  | [], _, _ => by simp
  | j :: ks, [], h => by cases h
  | j :: ks, v :: vs, h => by
    rw [List.zip_cons_cons, List.any_cons, List.any_cons, zip_any k (by simpa using h)]
theorem zip_repl (k : Key) (v : V) : ∀ (ks : List Key) (vs : List V), (ks.zip vs).map (fun kv => if kv.1 = k then (kv.1, v) else kv) = ks.zip (List.zipWith (fun j x => if j = k then v else x) ks vs)
  | [], _ => rfl
  | _ :: _, [] => rfl
  | j :: ks, x :: xs => by
    rw [List.zip_cons_cons, List.map_cons, List.zipWith_cons_cons, List.zip_cons_cons, zip_repl k v ks xs]
    by_cases e : j = k <;> simp [e]
theorem putDk_has {k : Key} {d : D} {v : V} {ks : List Key} {ds : List D} {vs : List V} (hl : ks.length = vs.length) (h : IsL K F H ds vs) (hv : Is K F H d v) :
    ∃ ws, putK (ks.zip vs) k v = (putDk k d ks ds).1.zip ws ∧ (putDk k d ks ds).1.length = ws.length ∧ IsL K F H (putDk k d ks ds).2 ws := by
  unfold putK putDk
  rw [zip_any k hl]
  by_cases e : (ks.any fun j => decide (j = k)) = true
  · rw [if_pos e, if_pos e]
    refine ⟨_, zip_repl k v ks vs, ?_, h.repl hv⟩
    simp [hl]
  · rw [if_neg e, if_neg e]
    refine ⟨vs ++ [v], ?_, by simp [hl], h.snoc hv⟩
    rw [List.zip_append hl]
    rfl
theorem IsL.dropLast {xs : List D} {us : List V} (h : IsL K F H xs us) : IsL K F H xs.dropLast us.dropLast := by
  rw [List.dropLast_eq_take, List.dropLast_eq_take, h.length]; exact h.take _

theorem Has.lst {xs : List D} {v : V} (h : Has K F H (.lst xs) v) : ∃ a vs, v = .ref a ∧ H a = some (.lst vs) ∧ IsL K F H xs vs := by
  rcases h with h | ⟨a, e, h⟩
  · simp only [Is] at h
    obtain ⟨a, vs, e, h1, h2⟩ := h
    exact ⟨a, vs, e, h1.2, h2⟩
  · obtain ⟨_, vs, h1, h2⟩ := h
    exact ⟨a, vs, e, h1, h2⟩
theorem Has.scr {ns : List Int} {v : V} (h : Has K F H (.scr ns) v) : ∃ a, v = .ref a ∧ SqL K H a (ns.map .int) := by
  rcases h with h | ⟨a, e, h⟩
  · simp only [Is] at h
    obtain ⟨a, e, h1⟩ := h
    exact ⟨a, e, h1.seq⟩
  · exact h.elim
theorem Has.tup {xs : List D} {v : V} (h : Has K F H (.tup xs) v) : ∃ a vs, v = .ref a ∧ SqT K H a vs ∧ IsL K F H xs vs := by
  rcases h with h | ⟨a, e, h⟩
  · simp only [Is] at h
    obtain ⟨a, vs, e, h1, h2⟩ := h
    exact ⟨a, vs, e, h1.seq, h2⟩
  · exact h.elim
theorem Has.tupF {xs : List D} {v : V} (h : Has K F H (.tup xs) v) : ∃ a vs, v = .ref a ∧ FT K F H a vs ∧ IsL K F H xs vs := by
  rcases h with h | ⟨a, e, h⟩
  · simpa only [Is] using h
  · exact h.elim
theorem Has.int {i : Int} {v : V} (h : Has K F H (.int i) v) : v = .int i := by
  rcases h with h | ⟨_, _, h⟩
  · simpa only [Is] using h
  · exact h.elim
theorem Has.bl {i : Bool} {v : V} (h : Has K F H (.bl i) v) : v = .bl i := by
  rcases h with h | ⟨_, _, h⟩
  · simpa only [Is] using h
  · exact h.elim
theorem Has.str {i : Str} {v : V} (h : Has K F H (.str i) v) : v = .str i := by
  rcases h with h | ⟨_, _, h⟩
  · simpa only [Is] using h
  · exact h.elim
theorem Has.ins {c : Cn} {ns : List Str} {ds : List D} {v : V} (h : Has K F H (.ins c ns ds) v) : ∃ a C dx vs, v = .ref a ∧ H a = some (.ins C dx (ns.zip vs)) ∧ CA K c C ∧ ns.length = vs.length ∧ IsL K F H ds vs := by
  rcases h with h | ⟨a, rfl, h⟩
  · simp only [Is] at h
    obtain ⟨a, C, dx, vs, e, _, h1, h2, h3, h4⟩ := h
    exact ⟨a, C, dx, vs, e, h1, h2, h3, h4⟩
  · obtain ⟨_, C, dx, vs, e1, e2, e3, e4⟩ := h
    exact ⟨a, C, dx, vs, rfl, e1, e2, e3, e4⟩
theorem Has.dk {ks : List Key} {ds : List D} {v : V} (h : Has K F H (.dk ks ds) v) : ∃ a vs, v = .ref a ∧ H a = some (.dK (ks.zip vs)) ∧ ks.length = vs.length ∧ IsL K F H ds vs := by
  rcases h with h | ⟨a, rfl, h⟩
  · simp only [Is] at h
    obtain ⟨a, vs, e, _, h1, h3, h4⟩ := h
    exact ⟨a, vs, e, h1, h3, h4⟩
  · obtain ⟨_, vs, e1, e3, e4⟩ := h
    exact ⟨a, vs, rfl, e1, e3, e4⟩
theorem Has.non {v : V} (h : Has K F H .non v) : v = .non := by
  rcases h with h | ⟨_, _, h⟩
  · simpa only [Is] using h
  · exact h.elim
mutual
theorem Is.dp : ∀ {d : D} {v : V}, d.toP.canLay0 = true → Is K F H d v → Dp K H v d.toP
  | .non, _, _, h => by simp only [Is] at h; subst h; exact .non
  | .bl _, _, _, h => by simp only [Is] at h; subst h; exact .bl _
  | .int _, _, _, h => by simp only [Is] at h; subst h; exact .int _
  | .str _, _, _, h => by simp only [Is] at h; subst h; exact .str _
  | .tup xs, v, c, h => by
    simp only [Is] at h
    obtain ⟨a, vs, rfl, h1, h2⟩ := h
    exact .tup h1.seq (IsL.dp c h2)
  | .lst xs, v, c, h => by
    simp only [Is] at h
    obtain ⟨a, vs, rfl, h1, h2⟩ := h
    exact .lst (.of h1.2) (IsL.dp c h2)
  | .scr _, _, c, _ => nomatch c
  | .ins _ _ _, _, c, _ => nomatch c
  | .dk _ _, _, c, _ => nomatch c
theorem IsL.dp : ∀ {ds : List D} {vs : List V}, PyData.canLayAll0 (toPs ds) = true → IsL K F H ds vs → DpAll K H vs (toPs ds)
  | [], _, _, h => by simp only [IsL] at h; subst h; exact .nil
  | x :: xs, _, c, h => by
    simp only [IsL] at h
    obtain ⟨w, ws, rfl, h1, h2⟩ := h
    have c : (x.toP.canLay0 && PyData.canLayAll0 (toPs xs)) = true := c
    rw [Bool.and_eq_true] at c
    exact .cons (Is.dp c.1 h1) (IsL.dp c.2 h2)
end
theorem Has.dp {d : D} {v : V} (o : okD d = true) (h : Has K F H d v) : Dp K H v d.toP := by
  have c : d.toP.canLay0 = true := SeqAt.canLay_of_shaped o
  rcases h with h | ⟨a, rfl, h⟩
  · exact h.dp c
  · cases d with
    | lst xs =>
      obtain ⟨_, vs, h1, h2⟩ := h
      exact .lst (.of h1) (IsL.dp c h2)
    | ins _ _ _ => exact nomatch c
    | dk _ _ => exact nomatch c
    | _ => exact h.elim
theorem IsL.ints : ∀ {ds : List D} {vs : List V} {ns : List Int}, IsL K F H ds vs → intsD ds = some ns → vs = ns.map V.int
  | [], _, _, h, e => by simp only [IsL] at h; subst h; simp [intsD] at e; subst e; rfl
  | x :: xs, _, _, h, e => by
    simp only [IsL] at h
    obtain ⟨w, ws, rfl, h1, h2⟩ := h
    cases x with
    | int i =>
      simp only [intsD, Option.map_eq_some_iff] at e
      obtain ⟨ms, e1, rfl⟩ := e
      simp only [Is] at h1
      rw [h1, h2.ints e1]; rfl
    | _ => simp [intsD] at e
theorem IsL.bls : ∀ {ds : List D} {vs : List V} {ns : List Bool}, IsL K F H ds vs → blsD ds = some ns → vs = ns.map V.bl
  | [], _, _, h, e => by simp only [IsL] at h; subst h; simp [blsD] at e; subst e; rfl
  | x :: xs, _, _, h, e => by
    simp only [IsL] at h
    obtain ⟨w, ws, rfl, h1, h2⟩ := h
    cases x with
    | bl i =>
      simp only [blsD, Option.map_eq_some_iff] at e
      obtain ⟨ms, e1, rfl⟩ := e
      simp only [Is] at h1
      rw [h1, h2.bls e1]; rfl
    | _ => simp [blsD] at e
theorem IsL.of_ints (ns : List Int) : IsL K F H (ns.map D.int) (ns.map V.int) := by
  induction ns with
  | nil => simp [IsL]
  | cons n r ih => exact IsL.cons (by simp [Is]) ih
end

def Sl.own : Sl → Option D
  | .ow _ d => some d
  | .lk _ d => some d
  | _ => none
def OA (env : En) (σ : Slots) (a : Addr) : Prop := ∃ (i : Nat) (s : Sl) (d : D), env[i]? = some s ∧ s.own = some d ∧ σ[i]? = some (some (.ref a))
structure RelE (K : PySem.W.Frag) (F : FS) (H : Hp) (env : En) (σ : Slots) : Prop where
  len : env.length = σ.length
  fz : ∀ (i : Nat) (d : D), env[i]? = some (.fz d) → ∃ v, σ[i]? = some (some v) ∧ Is K F H d v
  ow : ∀ (i : Nat) (s : Sl) (d : D), env[i]? = some s → s.own = some d → ∃ a : Addr, σ[i]? = some (some (.ref a)) ∧ OwnAt K F H d a
  ne : ∀ (i j : Nat) (s t : Sl) (d e : D) (a : Addr), env[i]? = some s → s.own = some d → env[j]? = some t → t.own = some e → σ[i]? = some (some (.ref a)) → σ[j]? = some (some (.ref a)) → i = j
  fdm : ∀ a, F a → H a ≠ none
  rg : ∀ (i : Nat) (lo hi : Int), env[i]? = some (.rg lo hi) → ∃ a : Addr, σ[i]? = some (some (.ref a)) ∧ F a ∧ H a = some (.rng lo hi)
/-- from one state of the memory to a later one; oa: the lists that the code at hand may change -/
structure Ste (F : FS) (H : Hp) (oa : Addr → Prop) (F' : FS) (H' : Hp) : Prop where
  sub : ∀ a, F a → F' a
  agr : ∀ a, F a → H' a = H a
  dom : ∀ a, H a ≠ none → H' a ≠ none
  oth : ∀ a, H a ≠ none → ¬ F a → ¬ oa a → H' a = H a ∧ ¬ F' a
structure Pst (K : PySem.W.Frag) (F : FS) (H : Hp) (env : En) (σ : Slots) (F' : FS) (H' : Hp) (env' : En) (σ' : Slots) : Prop where
  st : Ste F H (OA env σ) F' H'
  rel : RelE K F' H' env' σ'
  own : ∀ a, OA env' σ' a → OA env σ a ∨ H a = none
  io : ∀ (i : Nat) (d : D), env[i]? = some (.ow true d) → (∃ d', env'[i]? = some (.ow true d')) ∧ σ'[i]? = σ[i]?
  lk : ∀ (i : Nat) (io : Bool) (d : D), env[i]? = some (.lk io d) → env'[i]? = some (.lk io d) ∧ σ'[i]? = σ[i]?
section
variable {K : PySem.W.Frag} {F F1 F2 : FS} {H H1 H2 : Hp} {env env1 env2 : En} {σ σ1 σ2 : Slots}
theorem Ste.refl {oa} : Ste F H oa F H := ⟨fun _ h => h, fun _ _ => rfl, fun _ h => h, fun _ _ h _ => ⟨rfl, h⟩⟩
theorem Ste.trans {oa oa1 : Addr → Prop} (a : Ste F H oa F1 H1) (b : Ste F1 H1 oa1 F2 H2) (h : ∀ c, oa1 c → oa c ∨ H c = none) : Ste F H oa F2 H2 where
  sub := fun c h => b.sub c (a.sub c h)
  agr := fun c h => (b.agr c (a.sub c h)).trans (a.agr c h)
  dom := fun c h => b.dom c (a.dom c h)
  oth := fun c h1 h2 h3 => by
    obtain ⟨e1, e2⟩ := a.oth c h1 h2 h3
    obtain ⟨e3, e4⟩ := b.oth c (a.dom c h1) e2 fun z => by
      rcases h c z with z | z
      · exact h3 z
      · exact h1 z
    exact ⟨e3.trans e1, e4⟩
theorem Pst.refl (r : RelE K F H env σ) : Pst K F H env σ F H env σ := ⟨.refl, r, fun _ h => .inl h, fun i d h => ⟨⟨d, h⟩, rfl⟩, fun _ _ _ h => ⟨h, rfl⟩⟩
theorem Pst.trans (a : Pst K F H env σ F1 H1 env1 σ1) (b : Pst K F1 H1 env1 σ1 F2 H2 env2 σ2) : Pst K F H env σ F2 H2 env2 σ2 where
  st := a.st.trans b.st a.own
  rel := b.rel
  own := fun c h => by
    rcases b.own c h with h | h
    · exact a.own c h
    · refine .inr ?_
      cases q : H c with
      | none => rfl
      | some o => exact absurd h (a.st.dom c (by rw [q]; simp))
  io := fun i d h => by
    obtain ⟨⟨d1, e1⟩, e2⟩ := a.io i d h
    obtain ⟨⟨d3, e3⟩, e4⟩ := b.io i d1 e1
    exact ⟨⟨d3, e3⟩, e4.trans e2⟩
  lk := fun i io d h => by
    obtain ⟨e1, e2⟩ := a.lk i io d h
    obtain ⟨e3, e4⟩ := b.lk i io d e1
    exact ⟨e3, e4.trans e2⟩
theorem OwnAt.some {d a} (h : OwnAt K F H d a) : H a ≠ none := by
  cases d with
  | lst xs => obtain ⟨_, vs, e, _⟩ := h; rw [e]; simp
  | ins c ns ds => obtain ⟨_, C, dx, vs, e, _⟩ := h; rw [e]; simp
  | dk ks ds => obtain ⟨_, vs, e, _⟩ := h; rw [e]; simp
  | _ => exact h.elim
theorem OwnAt.nF {d a} (h : OwnAt K F H d a) : ¬ F a := by
  cases d with
  | lst xs => exact h.1
  | ins c ns ds => exact h.1
  | dk ks ds => exact h.1
  | _ => exact h.elim
theorem OwnAt.mono {d a} (sub : ∀ a, F a → F1 a) (agr : ∀ a, F a → H1 a = H a) (e : H1 a = H a) (n : ¬ F1 a) (h : OwnAt K F H d a) : OwnAt K F1 H1 d a := by
  cases d with
  | lst xs =>
    obtain ⟨_, vs, e1, e2⟩ := h
    exact ⟨n, vs, e.trans e1, e2.mono sub agr⟩
  | ins c ns ds =>
    obtain ⟨_, C, dx, vs, e1, e2, e3, e4⟩ := h
    exact ⟨n, C, dx, vs, e.trans e1, e2, e3, e4.mono sub agr⟩
  | dk ks ds =>
    obtain ⟨_, vs, e1, e3, e4⟩ := h
    exact ⟨n, vs, e.trans e1, e3, e4.mono sub agr⟩
  | _ => exact h.elim
/-- the list as a value that stays -/
theorem OwnAt.is {d a} (h : OwnAt K F H d a) : Is K (fun b => F b ∨ b = a) H d (.ref a) := by
  cases d with
  | lst xs =>
    obtain ⟨n, vs, e1, e2⟩ := h
    simp only [Is]
    exact ⟨a, vs, rfl, ⟨.inr rfl, e1⟩, e2.mono (fun _ => .inl) fun _ _ => rfl⟩
  | ins c ns ds =>
    obtain ⟨n, C, dx, vs, e1, e2, e3, e4⟩ := h
    simp only [Is]
    exact ⟨a, C, dx, vs, rfl, .inr rfl, e1, e2, e3, e4.mono (fun _ => .inl) fun _ _ => rfl⟩
  | dk ks ds =>
    obtain ⟨n, vs, e1, e3, e4⟩ := h
    simp only [Is]
    exact ⟨a, vs, rfl, .inr rfl, e1, e3, e4.mono (fun _ => .inl) fun _ _ => rfl⟩
  | _ => exact h.elim
theorem RelE.oa_some (r : RelE K F H env σ) {a} (h : OA env σ a) : H a ≠ none ∧ ¬ F a := by
  obtain ⟨i, s, d, e1, e2, e3⟩ := h
  obtain ⟨b, e4, o⟩ := r.ow i s d e1 e2
  rw [e3] at e4; cases e4
  exact ⟨o.some, o.nF⟩
/-- the memory grows, the slots' lists stay -/
theorem RelE.move (r : RelE K F H env σ) (sub : ∀ a, F a → F1 a) (agr : ∀ a, F a → H1 a = H a) (ho : ∀ a, OA env σ a → H1 a = H a ∧ ¬ F1 a) (fd : ∀ a, F1 a → H1 a ≠ none) : RelE K F1 H1 env σ where
  len := r.len
  fz := fun i d e => let ⟨v, e1, e2⟩ := r.fz i d e; ⟨v, e1, e2.mono sub agr⟩
  ow := fun i s d e1 e2 => by
    obtain ⟨a, e3, o⟩ := r.ow i s d e1 e2
    obtain ⟨h1, h2⟩ := ho a ⟨i, s, d, e1, e2, e3⟩
    exact ⟨a, e3, o.mono sub agr h1 h2⟩
  ne := r.ne
  fdm := fd
  rg := fun i lo hi e => let ⟨a, e1, e2, e3⟩ := r.rg i lo hi e; ⟨a, e1, sub a e2, (agr a e2).trans e3⟩
/-- a pure operation: new things at most -/
structure Nst (F : FS) (H : Hp) (F' : FS) (H' : Hp) : Prop where
  sub : ∀ a, F a → F' a
  old : ∀ a, H a ≠ none → H' a = H a ∧ (F' a → F a)
  fdm : (∀ a, F a → H a ≠ none) → ∀ a, F' a → H' a ≠ none
theorem Nst.refl : Nst F H F H := ⟨fun _ h => h, fun _ _ => ⟨rfl, fun h => h⟩, fun h => h⟩
theorem Nst.rel (n : Nst F H F1 H1) (r : RelE K F H env σ) : RelE K F1 H1 env σ :=
  r.move n.sub (fun a h => (n.old a (r.fdm a h)).1) (fun a h => by
    obtain ⟨h1, h2⟩ := r.oa_some h
    obtain ⟨e1, e2⟩ := n.old a h1
    exact ⟨e1, fun z => h2 (e2 z)⟩) (n.fdm r.fdm)
theorem Nst.pst (n : Nst F H F1 H1) (r : RelE K F H env σ) : Pst K F H env σ F1 H1 env σ where
  st := ⟨n.sub, fun a h => (n.old a (r.fdm a h)).1, fun a h => by rw [(n.old a h).1]; exact h, fun a h1 h2 _ => ⟨(n.old a h1).1, fun z => h2 ((n.old a h1).2 z)⟩⟩
  rel := n.rel r
  own := fun _ h => .inl h
  io := fun i d h => ⟨⟨d, h⟩, rfl⟩
  lk := fun _ _ _ h => ⟨h, rfl⟩
/-- a new object, frozen or not -/
theorem Nst.new {p : Addr} {o : HO} (h : H p = none) : Nst F H F (upd H p o) :=
  ⟨fun _ h => h, fun a q => ⟨upd_ne fun z => q (z ▸ h), fun h => h⟩, fun hd a f => by
    by_cases e : a = p
    · subst e; rw [upd_same]; simp
    · rw [upd_ne e]; exact hd a f⟩
theorem Nst.newF {p : Addr} {o : HO} (h : H p = none) : Nst F H (fun b => F b ∨ b = p) (upd H p o) :=
  ⟨fun _ h => .inl h, fun a q => ⟨upd_ne fun z => q (z ▸ h), fun f => f.elim id fun z => absurd (z ▸ h) q⟩, fun hd a f => by
    by_cases e : a = p
    · subst e; rw [upd_same]; simp
    · rw [upd_ne e]
      exact f.elim (hd a) fun z => absurd z e⟩
/-- a value of an operation -/
def RelOp (K : PySem.W.Frag) (F : FS) (H : Hp) (σ : Slots) : Op → V → Prop
  | .v d, x => Is K F H d x
  | .nw d, x => ∃ a, x = .ref a ∧ OwnAt K F H d a
  | .p i, x => σ[i]? = some (some x)
def Op.fresh (H : Hp) : Op → V → Prop
  | .nw _, x => ∀ a, x = .ref a → H a = none
  | _, _ => True
theorem rd_has {o : Op} {v : V} {d : D} (r : RelE K F H env σ) (h : RelOp K F H σ o v) (e : rd env o = some d) : Has K F H d v := by
  cases o with
  | v x => simp only [rd, Option.some.injEq] at e; subst e; exact .inl h
  | nw x => simp only [rd, Option.some.injEq] at e; subst e; exact .inr h
  | p i =>
    have h : σ[i]? = some (some v) := h
    simp only [rd] at e
    split at e
    · rename_i q; cases e
      obtain ⟨w, e1, e2⟩ := r.fz i _ q
      rw [h] at e1; cases e1; exact .inl e2
    · rename_i q; cases e
      obtain ⟨a, e1, e2⟩ := r.ow i _ _ q rfl
      rw [h] at e1; cases e1; exact .inr ⟨a, rfl, e2⟩
    · rename_i q; cases e
      obtain ⟨a, e1, e2⟩ := r.ow i _ _ q rfl
      rw [h] at e1; cases e1; exact .inr ⟨a, rfl, e2⟩
    · cases e
/-- a value that is no new list stays -/
theorem RelOp.stay {o : Op} {v : V} (h : RelOp K F H σ o v) (hn : ∀ d, o ≠ .nw d) (p : Ste F H (OA env σ) F1 H1) : RelOp K F1 H1 σ o v := by
  cases o with
  | v d => exact Is.mono p.sub p.agr h
  | nw d => exact absurd rfl (hn d)
  | p i => exact h
theorem frz_ne (o : Op) : ∀ d, o.frz ≠ .nw d := by
  intro d; cases o <;> simp [Op.frz]
/-- a new list is frozen -/
theorem Pst.freeze {a : Addr} {d : D} (p : Pst K F H env σ F1 H1 env1 σ) (ho : OwnAt K F1 H1 d a) (hn : H a = none) (hf : ¬ OA env1 σ a) : Pst K F H env σ (fun b => F1 b ∨ b = a) H1 env1 σ where
  st := ⟨fun c h => .inl (p.st.sub c h), p.st.agr, p.st.dom, fun c h1 h2 h3 => by
    obtain ⟨e1, e2⟩ := p.st.oth c h1 h2 h3
    exact ⟨e1, fun z => z.elim e2 fun z => h1 (z ▸ hn)⟩⟩
  rel := p.rel.move (fun _ => .inl) (fun _ _ => rfl) (fun c h => ⟨rfl, fun z => z.elim (p.rel.oa_some h).2 fun z => hf (z ▸ h)⟩) fun c z => z.elim (p.rel.fdm c) fun z => z ▸ ho.some
  own := p.own
  io := p.io
  lk := p.lk
end
end VI
namespace VIX
open PySem PySem.Spec L2 PyProof.Rows PySem.W
theorem hold_ints {h : Heap} : ∀ {us : List Value} {ns : List Int}, IntsAre us ns → HoldAll h us ns
  | _, _, .nil => ⟨[], .nil⟩
  | _, _, .cons n t r => let ⟨as, q⟩ := hold_ints r; ⟨_, .cons (.int n t) q⟩
theorem maxOf_spec : ∀ (xs : List Int) (x : Int), maxOf x xs ∈ x :: xs ∧ ∀ y ∈ x :: xs, y ≤ maxOf x xs
  | [], x => by simp [maxOf]
  | z :: xs, x => by
    have e : maxOf x (z :: xs) = maxOf (if DatumOrd.lt x z = true then z else x) xs := rfl
    rw [e]
    have hlt : (DatumOrd.lt x z = true) ↔ x < z := by show decide (x < z) = true ↔ _; simp
    obtain ⟨h1, h2⟩ := maxOf_spec xs (if DatumOrd.lt x z = true then z else x)
    by_cases q : x < z
    · rw [if_pos (hlt.mpr q)] at h1 h2 ⊢
      refine ⟨List.mem_cons_of_mem _ h1, fun y hy => ?_⟩
      rcases List.mem_cons.mp hy with rfl | hy
      · have := h2 z List.mem_cons_self; omega
      · exact h2 y hy
    · rw [if_neg (fun z => q (hlt.mp z))] at h1 h2 ⊢
      refine ⟨?_, fun y hy => ?_⟩
      · rcases List.mem_cons.mp h1 with h1 | h1
        · rw [h1]; exact List.mem_cons_self
        · exact List.mem_cons_of_mem _ (List.mem_cons_of_mem _ h1)
      · rcases List.mem_cons.mp hy with rfl | hy
        · exact h2 y List.mem_cons_self
        · rcases List.mem_cons.mp hy with rfl | hy
          · have := h2 x List.mem_cons_self; omega
          · exact h2 y (List.mem_cons_of_mem _ hy)
theorem minOf_spec : ∀ (xs : List Int) (x : Int), minOf x xs ∈ x :: xs ∧ ∀ y ∈ x :: xs, minOf x xs ≤ y
  | [], x => by simp [minOf]
  | z :: xs, x => by
    have e : minOf x (z :: xs) = minOf (if DatumOrd.lt z x = true then z else x) xs := rfl
    rw [e]
    have hlt : (DatumOrd.lt z x = true) ↔ z < x := by show decide (z < x) = true ↔ _; simp
    obtain ⟨h1, h2⟩ := minOf_spec xs (if DatumOrd.lt z x = true then z else x)
    by_cases q : z < x
    · rw [if_pos (hlt.mpr q)] at h1 h2 ⊢
      refine ⟨List.mem_cons_of_mem _ h1, fun y hy => ?_⟩
      rcases List.mem_cons.mp hy with rfl | hy
      · have := h2 z List.mem_cons_self; omega
      · exact h2 y hy
    · rw [if_neg (fun z => q (hlt.mp z))] at h1 h2 ⊢
      refine ⟨?_, fun y hy => ?_⟩
      · rcases List.mem_cons.mp h1 with h1 | h1
        · rw [h1]; exact List.mem_cons_self
        · exact List.mem_cons_of_mem _ (List.mem_cons_of_mem _ h1)
      · rcases List.mem_cons.mp hy with rfl | hy
        · exact h2 y List.mem_cons_self
        · rcases List.mem_cons.mp hy with rfl | hy
          · have := h2 x List.mem_cons_self; omega
          · exact h2 y (List.mem_cons_of_mem _ hy)
theorem holds_int {h : Heap} {v : Value} {i : Int} (q : Holds h v i) : ∃ t, v = .int i t := by
  obtain ⟨as, r⟩ := q
  cases r with
  | int i t => exact ⟨t, rfl⟩
section
variable {X : Cx}
def rMaxT (K : PySem.W.Frag) : List V → Hp → VK → Prop := fun vs H Q => ∃ (a : Addr) (ns : List Int), vs = [V.ref a] ∧ SqT K H a (ns.map V.int) ∧ 0 < ns.length ∧ ∀ m, m ∈ ns → (∀ y, y ∈ ns → y ≤ m) → Q (.int m) H
def rMinT (K : PySem.W.Frag) : List V → Hp → VK → Prop := fun vs H Q => ∃ (a : Addr) (ns : List Int), vs = [V.ref a] ∧ SqT K H a (ns.map V.int) ∧ 0 < ns.length ∧ ∀ m, m ∈ ns → (∀ y, y ∈ ns → m ≤ y) → Q (.int m) H
theorem cr_maxT (hc : X.calm = true) (hu : X.A.units + 10 < cLine) : CallR X (.builtin "max") (rMaxT X.K) := by
  intro pins s σ H vs us Q I r h
  obtain ⟨a, ns, rfl, hs, hne, q⟩ := h
  obtain ⟨its, rv, hl, _⟩ := I.tuple hs
  rw [Vals.ref1 r]
  cases ns with
  | nil => cases hne
  | cons n ns =>
    obtain ⟨h1, h2⟩ := maxOf_spec ns n
    refine max_tuple_datum (α := Int) (x := n) (xs := ns) (I.ok.hd hc) hl (hold_ints rv.ints) (by show X.A.units + 1 + 0 < cLine; omega) fun i v h' tk hi hv hk => ?_
    obtain ⟨t, rfl⟩ := holds_int hv
    exact ⟨.int _, H, I.kept hk, ⟨_, rfl⟩, q _ h1 h2⟩
theorem cr_minT (hc : X.calm = true) (hu : X.A.units + 10 < cLine) : CallR X (.builtin "min") (rMinT X.K) := by
  intro pins s σ H vs us Q I r h
  obtain ⟨a, ns, rfl, hs, hne, q⟩ := h
  obtain ⟨its, rv, hl, _⟩ := I.tuple hs
  rw [Vals.ref1 r]
  cases ns with
  | nil => cases hne
  | cons n ns =>
    obtain ⟨h1, h2⟩ := minOf_spec ns n
    refine min_tuple_datum (α := Int) (x := n) (xs := ns) (I.ok.hd hc) hl (hold_ints rv.ints) (by show X.A.units + 1 + 0 < cLine; omega) fun i v h' tk hi hv hk => ?_
    obtain ⟨t, rfl⟩ := holds_int hv
    exact ⟨.int _, H, I.kept hk, ⟨_, rfl⟩, q _ h1 h2⟩
def rSumT (K : PySem.W.Frag) : List V → Hp → VK → Prop := fun vs H Q => ∃ (a : Addr) (ns : List Int), vs = [V.ref a] ∧ SqT K H a (ns.map V.int) ∧ Q (.int ns.sum) H
theorem cr_sumT (hc : X.calm = true) : CallR X (.builtin "sum") (rSumT X.K) := by
  intro pins s σ H vs us Q I r h
  obtain ⟨a, ns, rfl, hs, q⟩ := h
  obtain ⟨its, rv, hl, _⟩ := I.tuple hs
  rw [Vals.ref1 r]
  have hi := rv.ints
  obtain ⟨xs, e⟩ := hi.allInts.items
  have hn : numsOf (intItems xs).toList = ns := by rw [← e]; exact hi.numsOf
  rw [nums_intItems] at hn
  have hl : s.heap.IsTuple a its.toArray := hl
  have hlt : a < s.heap.objs.size := by
    obtain ⟨o, h1, _⟩ := hl
    exact Heap.lt_size h1
  refine call_sum_walkG (wpAny_pyIter_tuple hl ?_)
  refine ⟨_, _, _, _, _, _, numAt xs, rfl, Walks.tuple (A := X.A.in1) (I.ok.hd hc) s.heap.objs.size a (Nat.ne_of_lt hlt) its.toArray, ⟨⟨_, Heap.get?_push_size _ rfl, rfl, rfl⟩, hl.at fun o e => Heap.get?_push_of_some _ e⟩, fun b hb => ?_, fun i v hv => ?_, fun h' tk t' hk => ?_⟩
  · simp only [List.mem_cons, List.not_mem_nil, or_false] at hb
    rw [Heap.size_push]
    rcases hb with rfl | rfl
    · exact Nat.lt_succ_self _
    · exact Nat.lt_succ_of_lt hlt
  · rw [e] at hv
    exact intItems_at hv
  · rw [preSum_eq, e]
    have : (List.take (intItems xs).size (List.map (fun x => x.1) xs.toList)).sum = ns.sum := by
      rw [List.take_of_length_le (by simp [intItems]), hn]
    exact ⟨.int _, H, I.kept fun b o eb => hk b o (fun z => by simp at z; subst z; exact absurd (Heap.lt_size eb) (Nat.lt_irrefl _)) (Heap.get?_push_of_some _ eb), ⟨t', by rw [this]⟩, q⟩
/-- // by a negative divisor -/
def CDivNW (_ j : Int) : Prop := j < 0 ∧ j.natAbs.log2 < 9000
theorem op_fdivNW : OpR X (binaryOp .FloorDiv) (rI CDivNW fun i j => .int (i.fdiv j)) := opI fun _ j _ _ _ _ _ hc q => floordiv_int (by have : j < 0 := hc.1; omega) q (.inl (PyProof.noPylong_of_log2 hc.2))
/-- max, min of a list with default=; max of a tuple -/
def rDfl2 (K : PySem.W.Frag) (mx : Bool) : List V → List V → Hp → VK → Prop := fun vs zs H Q => VIM.rDfl K mx vs zs H Q ∨ (mx = true ∧ ∃ (a : Addr) (ns : List Int) (d : V), vs = [V.ref a] ∧ zs = [d] ∧ SqT K H a (ns.map V.int) ∧ (ns = [] → Q d H) ∧ ∀ m, m ∈ ns → (∀ y, y ∈ ns → y ≤ m) → Q (.int m) H)
theorem cr_dfl2 (mx : Bool) (hc : X.calm = true) (hu : X.A.units + 10 < cLine) : CallRK X (.builtin (if mx = true then "max" else "min")) [Str.ofString "default"] (rDfl2 X.K mx) := by
  intro pins s σ H vs zs us ws Q I r rz h
  rcases h with h | ⟨rfl, a, ns, d, rfl, rfl, hs, q0, q⟩
  · exact VIM.cr_dfl mx hc pins s σ H vs zs us ws Q I r rz h
  · obtain ⟨its, rv, hl, _⟩ := I.tuple hs
    obtain rfl := Vals.ref1 r
    obtain ⟨dv, rfl, e1⟩ := vals1 rz
    refine max_tuple_datum_default (α := Int) (xs := ns) (I.ok.hd hc) hl (hold_ints rv.ints) (by show X.A.units + 1 + 0 < cLine; omega) (fun e h' tk hk => ⟨d, H, I.kept hk, e1, q0 e⟩) fun y ys i v h' tk e hi hv hk => ?_
    obtain ⟨t, rfl⟩ := holds_int hv
    obtain ⟨h1, h2⟩ := maxOf_spec ys y
    rw [← e] at h1 h2
    exact ⟨.int _, H, I.kept hk, ⟨_, rfl⟩, q _ h1 h2⟩
end
end VIX
namespace VI
open PySem PySem.Spec L2

section
variable (X : Cx)
def WE (e : Expr) : TE := fun σ H Q => ∀ (pins : List (Addr × Obj)) (s : Shared), Inv X pins σ H s → wpAny (model X.prog X.w) X.A (eval e X.env) (EP X pins σ Q) X.xe s
def WT (e : Expr) : TT := fun σ H Q => ∀ (pins : List (Addr × Obj)) (s : Shared), Inv X pins σ H s → wpAny (model X.prog X.w) X.A (isTrue e X.env (eval e X.env)) (TP X pins σ Q) X.xe s
def WW (e : Expr) : TT := fun σ H Q => ∀ (whole : Sem Value) (pins : List (Addr × Obj)) (s : Shared), Inv X pins σ H s → wpAny (model X.prog X.w) X.A (isTrue e X.env whole) (TP X pins σ Q) X.xe s
def WA (es : List Expr) : TA := fun σ H Q => ∀ (pos : Pos) (pins : List (Addr × Obj)) (s : Shared), Inv X pins σ H s → wpAny (model X.prog X.w) X.A (spliced (backTo pos (starEach es X.env))) (AP X pins σ Q) X.xe s
def WO (e : Option Expr) : TO := fun σ H Q => ∀ (pins : List (Addr × Obj)) (s : Shared), Inv X pins σ H s → wpAny (model X.prog X.w) X.A (evalPart e X.env) (fun u s' => ∃ o H', Inv X pins σ H' s' ∧ IsPart u o ∧ Q o H') X.xe s
def WG (tg : Expr) : TG := fun v σ H Q => ∀ (pins : List (Addr × Obj)) (s : Shared) (u : Value), Inv X pins σ H s → RelV v u → wpAny (model X.prog X.w) X.A (assign tg X.env u) (fun _ s' => ∃ σ' H', Inv X pins σ' H' s' ∧ Q σ' H') X.xe s
def WS (st : Stmt) : TS := fun D σ H => ∀ (pins : List (Addr × Obj)) (s : Shared), Inv X pins σ H s → wpAny (model X.prog X.w) X.A (exec st X.env) (SP X pins D) X.xe s
def WSs (st : List Stmt) : TS := fun D σ H => ∀ (pins : List (Addr × Obj)) (s : Shared), Inv X pins σ H s → wpAny (model X.prog X.w) X.A (execs st X.env) (SP X pins D) X.xe s
def WI (tg it : Expr) : TI := fun σ H R => ∀ (pins : List (Addr × Obj)) (s : Shared), Inv X pins σ H s → wpAny (model X.prog X.w) X.A (eval it X.env) (fun v s1 => wpAny (model X.prog X.w) X.A (pyIter v) (PIE X pins σ tg R) X.xe s1) X.xe s
theorem pE (e : Expr) : PE X e (WE X e) := ⟨fun pins s σ H Q I h => h pins s I⟩
theorem pT (e : Expr) : PT X e (WT X e) := ⟨fun pins s σ H Q I h => h pins s I⟩
theorem pW (e : Expr) : PW X e (WW X e) := ⟨fun w pins s σ H Q I h => h w pins s I⟩
theorem pA (es : List Expr) : PA X es (WA X es) := ⟨fun pos pins s σ H Q I h => h pos pins s I⟩
theorem pO (e : Option Expr) : PO X e (WO X e) := ⟨fun pins s σ H Q I h => h pins s I⟩
theorem pG (e : Expr) : PG X e (WG X e) := ⟨fun pins s σ H v u Q I r h => h pins s u I r⟩
theorem pS (st : Stmt) : PS X st (WS X st) := ⟨fun pins s σ H D I h => h pins s I⟩
theorem pSs (st : List Stmt) : PSs X st (WSs X st) := ⟨fun pins s σ H D I h => h pins s I⟩
theorem pI (tg it : Expr) : PI X tg it (WI X tg it) := ⟨fun pins s σ H R I h => h pins s I⟩
variable {X}
theorem WE.of {e : Expr} {t : TE} {σ H Q} (p : PE X e t) (h : t σ H Q) : WE X e σ H Q := fun pins s I => p.run pins s σ H Q I h
theorem WT.of {e : Expr} {t : TT} {σ H Q} (p : PT X e t) (h : t σ H Q) : WT X e σ H Q := fun pins s I => p.run pins s σ H Q I h
theorem WW.of {e : Expr} {t : TT} {σ H Q} (p : PW X e t) (h : t σ H Q) : WW X e σ H Q := fun w pins s I => p.run w pins s σ H Q I h
theorem WA.of {es : List Expr} {t : TA} {σ H Q} (p : PA X es t) (h : t σ H Q) : WA X es σ H Q := fun pos pins s I => p.run pos pins s σ H Q I h
theorem WO.of {e : Option Expr} {t : TO} {σ H Q} (p : PO X e t) (h : t σ H Q) : WO X e σ H Q := fun pins s I => p.run pins s σ H Q I h
theorem WG.of {e : Expr} {t : TG} {v σ H Q} (p : PG X e t) (h : t v σ H Q) : WG X e v σ H Q := fun pins s u I r => p.run pins s σ H v u Q I r h
theorem WS.of {st : Stmt} {t : TS} {D σ H} (p : PS X st t) (h : t D σ H) : WS X st D σ H := fun pins s I => p.run pins s σ H D I h
theorem WSs.of {st : List Stmt} {t : TS} {D σ H} (p : PSs X st t) (h : t D σ H) : WSs X st D σ H := fun pins s I => p.run pins s σ H D I h
theorem WI.of {tg it : Expr} {t : TI} {σ H R} (p : PI X tg it t) (h : t σ H R) : WI X tg it σ H R := fun pins s I => p.run pins s σ H R I h
theorem WW.wt {e : Expr} {σ H Q} (h : WW X e σ H Q) : WT X e σ H Q := fun pins s I => h _ pins s I
end

def ResOp (K : PySem.W.Frag) (H : Hp) (F' : FS) (H' : Hp) : Op → V → Prop
  | .v d, x => Is K F' H' d x
  | .nw d, x => ∃ a, x = .ref a ∧ OwnAt K F' H' d a ∧ H a = none
  | .p _, _ => False
section
variable {X : Cx} {F : FS} {H : Hp} {x y : V} {dx dy : D} {r : Op} {Q : VK}
def rB (X : Cx) (f : Value → Value → Sem Value) : R2 := fun x y H Q => ∀ (pins : List (Addr × Obj)) (s : Shared) (σ : Slots) (v u : Value), Inv X pins σ H s → RelV x v → RelV y u → wpAny (model X.prog X.w) X.A (f v u) (EP X pins σ Q) X.xe s
theorem opB (f : Value → Value → Sem Value) : OpR X f (rB X f) := fun pins s σ H x y v u Q I rx ry h => h pins s σ v u I rx ry
theorem rB.of {f : Value → Value → Sem Value} {rr : R2} (h : OpR X f rr) (q : rr x y H Q) : rB X f x y H Q := fun pins s σ v u I rx ry => h pins s σ H x y v u Q I rx ry q
/-- what follows an operation -/
def Fol (K : PySem.W.Frag) (F : FS) (H : Hp) (r : Op) (Q : VK) : Prop := ∀ v F' H', Nst F H F' H' → ResOp K H F' H' r v → Q v H'
theorem Fol.val {K} {d : D} {v : V} (h : Fol K F H (.v d) Q) (i : Is K F H d v) : Q v H := h v F H .refl i
theorem Fol.int {K} {i : Int} (h : Fol K F H (.v (.int i)) Q) : Q (.int i) H := h.val (by simp [Is])
theorem Fol.bl {K} {i : Bool} (h : Fol K F H (.v (.bl i)) Q) : Q (.bl i) H := h.val (by simp [Is])
theorem Fol.str {K} {i : Str} (h : Fol K F H (.v (.str i)) Q) : Q (.str i) H := h.val (by simp [Is])
theorem Fol.newL {K} {ds : List D} {vs : List V} (h : Fol K F H (.nw (.lst ds)) Q) (hd : ∀ a, F a → H a ≠ none) (i : IsL K F H ds vs) {p : Addr} (hp : H p = none) : Q (.ref p) (upd H p (.lst vs)) := by
  refine h _ F _ (.new hp) ⟨p, rfl, ⟨fun f => hd p f hp, vs, upd_same, i.mono (fun _ h => h) fun a f => ?_⟩, hp⟩
  exact upd_ne fun z => hd a f (by rw [z]; exact hp)
theorem Fol.newT {K} {ds : List D} {vs : List V} (h : Fol K F H (.v (.tup ds)) Q) (hd : ∀ a, F a → H a ≠ none) (i : IsL K F H ds vs) : VIU.NewT H vs Q := fun p o po hp => by
  refine h _ _ _ (.newF hp) ?_
  simp only [ResOp, Is]
  exact ⟨p, vs, rfl, .inl ⟨.inr rfl, o, po, upd_same⟩, i.mono (fun _ => .inl) fun a f => upd_ne fun z => hd a f (by rw [z]; exact hp)⟩
theorem IsL.cut {K} {ds : List D} {vs : List V} (i : IsL K F H ds vs) (lo hi : Option Int) : IsL K F H (cutD ds lo hi) (cutV vs lo hi) := by
  unfold cutD cutV
  rw [i.length]
  exact (i.drop _).take _
theorem mulOk_iff {i j : Int} (h : mulOk i j = true) : CMul i j ∨ CMulW i j := by simpa [mulOk] using h
theorem divOk_iff {i j : Int} (h : divOk i j = true) : CDiv i j ∨ CDivW i j := by simpa [divOk] using h


theorem Has.tupI {K} {xs : List D} {v : V} (h : Has K F H (.tup xs) v) : Is K F H (.tup xs) v := by
  rcases h with h | ⟨_, _, h⟩
  · exact h
  · exact h.elim
theorem binS_ok (hd : ∀ a, F a → H a ≠ none) {op : Operator} (e : binS op dx dy = some r) (hx : Has X.K F H dx x) (hy : Has X.K F H dy y) (q : Fol X.K F H r Q) : rB X (binaryOp op) x y H Q := by
  unfold binS at e
  split at e
  · cases e; exact rB.of op_add ⟨_, _, hx.int, hy.int, q.int⟩
  · split at e
    · cases e; exact rB.of op_add_str ⟨_, _, hx.str, hy.str, by assumption, q.str⟩
    · cases e
  · split at e
    · rename_i hz
      cases e
      obtain ⟨a, vs, rfl, h1, i1⟩ := hx.lst
      obtain ⟨b, ws, rfl, h2, i2⟩ := hy.lst
      exact rB.of op_cat ⟨a, b, vs, ws, rfl, rfl, h1, h2, by rw [← i1.length, ← i2.length]; exact hz, fun p hp => q.newL hd (i1.append i2) hp⟩
    · cases e
  · split at e
    · rename_i xs ys hz
      cases e
      obtain ⟨a, vs, rfl, h1, i1⟩ := hx.tup
      obtain ⟨b, ws, rfl, h2, i2⟩ := hy.tup
      refine rB.of VIU.op_catP ⟨a, b, vs, ws, rfl, rfl, h1, h2, by rw [← i1.length, ← i2.length]; exact hz, fun z => ?_, fun _ z => ?_, fun _ _ => q.newT hd (i1.append i2)⟩
      · subst z
        have e0 := i1.length
        cases xs with
        | nil => exact q.val (by rw [List.nil_append]; exact hy.tupI)
        | cons => cases e0
      · subst z
        have e0 := i2.length
        cases ys with
        | nil => exact q.val (by rw [List.append_nil]; exact hx.tupI)
        | cons => cases e0
    · cases e
  · cases e; exact rB.of op_sub ⟨_, _, hx.int, hy.int, q.int⟩
  · split at e
    · rename_i hm
      cases e
      rcases mulOk_iff hm with hm | hm
      · exact rB.of op_mul ⟨_, _, hx.int, hy.int, hm, q.int⟩
      · exact rB.of op_mulW ⟨_, _, hx.int, hy.int, hm, q.int⟩
    · cases e
  · split at e
    · rename_i hz
      cases e
      obtain ⟨a, vs, rfl, h1, i1⟩ := hx.lst
      exact rB.of op_rep ⟨a, _, vs, rfl, hy.int, h1, hz.1, hz.2.1, by rw [← i1.length]; exact hz.2.2, fun p hp => q.newL hd (i1.rep _) hp⟩
    · cases e
  · rename_i xs k
    split at e
    · rename_i hz
      cases e
      obtain ⟨a, vs, rfl, h1, i1⟩ := hx.tup
      have hl := i1.length
      by_cases hk : k = 1
      · subst hk
        refine rB.of VIT.op_rep1 ⟨a, vs, rfl, hy.int, h1, ?_⟩
        have e1 : (List.replicate (1 : Int).toNat xs).flatten = xs := by simp
        rw [e1] at q
        exact q.val hx.tupI
      · by_cases hk0 : k = 0
        · subst hk0
          refine rB.of VIU.op_rep0P ⟨a, vs, rfl, hy.int, h1, (by intro z; rw [z, List.length_nil] at hl; omega), ?_⟩
          have e1 : (List.replicate (0 : Int).toNat xs).flatten = [] := rfl
          rw [e1] at q
          exact q.newT hd IsL.nil
        exact rB.of VIU.op_repP ⟨a, _, vs, rfl, hy.int, h1, (by intro z; rw [z, List.length_nil] at hl; omega), by omega, hz.2.2.1, by omega, q.newT hd (i1.rep _)⟩
    · cases e
  · split at e
    · rename_i hm
      cases e
      rcases divOk_iff hm with hm | hm
      · exact rB.of op_fdiv ⟨_, _, hx.int, hy.int, hm, q.int⟩
      · exact rB.of op_fdivW ⟨_, _, hx.int, hy.int, hm, q.int⟩
    · split at e
      · rename_i hn
        cases e
        exact rB.of VIX.op_fdivNW ⟨_, _, hx.int, hy.int, hn, q.int⟩
      · cases e
  · split at e
    · cases e; exact rB.of op_mod ⟨_, _, hx.int, hy.int, by assumption, q.int⟩
    · cases e
  · split at e
    · cases e; exact rB.of op_pow ⟨_, _, hx.int, hy.int, by assumption, q.int⟩
    · cases e
  · split at e
    · cases e; exact rB.of op_shl ⟨_, _, hx.int, hy.int, by assumption, q.int⟩
    · cases e
  · split at e
    · cases e; exact rB.of op_shr ⟨_, _, hx.int, hy.int, by assumption, q.int⟩
    · cases e
  · cases e; exact rB.of op_and ⟨_, _, hx.int, hy.int, q.int⟩
  · cases e; exact rB.of op_or ⟨_, _, hx.int, hy.int, q.int⟩
  · cases e; exact rB.of op_xor ⟨_, _, hx.int, hy.int, q.int⟩
  · cases e

/-- one-place -/
def rU1 (X : Cx) (f : Value → Sem Value) : V → Hp → VK → Prop := fun x H Q => ∀ (pins : List (Addr × Obj)) (s : Shared) (σ : Slots) (v : Value), Inv X pins σ H s → RelV x v → wpAny (model X.prog X.w) X.A (f v) (EP X pins σ Q) X.xe s
theorem unB (f : Value → Sem Value) : UnR X f (rU1 X f) := fun pins s σ H x v Q I rx h => h pins s σ v I rx
theorem rU1.of {f : Value → Sem Value} {rr : V → Hp → VK → Prop} (h : UnR X f rr) (q : rr x H Q) : rU1 X f x H Q := fun pins s σ v I rx => h pins s σ H x v Q I rx q
theorem keyD_v {K} {d : D} {k : Key} {v : V} (e : keyD d = some k) (h : Has K F H d v) : v = kV k := by
  cases d with
  | int i => cases e; exact h.int
  | str z => cases e; exact h.str
  | _ => cases e
theorem dk_get {K} {ks : List Key} {ds : List D} {a : Addr} {vs : List V} {k : Key} (e : H a = some (.dK (ks.zip vs))) (i : IsL K F H ds vs) :
    ∃ o, DGet H a (kV k) o ∧ o.isSome = (valD ks ds k).isSome ∧ ∀ d, valD ks ds k = some d → ∃ v, o = some v ∧ Is K F H d v := by
  refine ⟨_, DGet.k e, ?_, fun d hd => ?_⟩
  · have := valD_has (j := k) (ks := ks) i
    cases q : valD ks ds k with
    | none => rw [q] at this; simp only at this; rw [this]; rfl
    | some d => rw [q] at this; obtain ⟨v, h1, _⟩ := this; rw [h1]; rfl
  · have := valD_has (j := k) (ks := ks) i
    rw [hd] at this
    exact this
def rInK : R2 := fun y x H Q => ∃ a o, x = .ref a ∧ DGet H a y o ∧ Q (.bl o.isSome) H
def rNotInK : R2 := fun y x H Q => ∃ a o, x = .ref a ∧ DGet H a y o ∧ Q (.bl (!o.isSome)) H
theorem op_inK (hu : X.A.units + 1 < cLine) : OpR X (compareOp .In) rInK := by
  intro pins s σ H y x v u Q I ry rx h
  obtain ⟨a, o, rfl, g, q⟩ := h
  obtain rfl : u = Value.ref a := rx
  exact d_in hu I g ry fun s3 I3 => ⟨.bl o.isSome, H, I3, rfl, q⟩
theorem op_notInK (hu : X.A.units + 1 < cLine) : OpR X (compareOp .NotIn) rNotInK := by
  intro pins s σ H y x v u Q I ry rx h
  obtain ⟨a, o, rfl, g, q⟩ := h
  obtain rfl : u = Value.ref a := rx
  exact d_notIn hu I g ry fun s3 I3 => ⟨.bl (!o.isSome), H, I3, rfl, q⟩
theorem inS_ok {c : Bool} (hu : X.A.units + 65 < cLine) (e : inS dx dy = some c) (hx : Has X.K F H dx x) (hy : Has X.K F H dy y) : (Q (.bl c) H → rB X (compareOp .In) x y H Q) ∧ (Q (.bl (!c)) H → rB X (compareOp .NotIn) x y H Q) := by
  unfold inS at e
  split at e
  · split at e
    · rename_i ds o
      cases e
      rw [Bool.and_eq_true] at o
      have h1 := hx.dp o.1
      have h2 := hy.dp o.2
      have ea : ((toPs ds).any fun z => PyData.eqv z dx.toP) = ds.any fun z => deq z dx := by
        clear o h2 hy
        induction ds with
        | nil => rfl
        | cons d r ih => rw [List.any_cons, ← ih]; rfl
      rw [← ea]
      exact ⟨fun q => rB.of (op_inD hu) ⟨_, _, h1, h2, o.1, o.2, q⟩, fun q => rB.of (op_notInD hu) ⟨_, _, h1, h2, o.1, o.2, q⟩⟩
    · cases e
  · split at e
    · rename_i ds o
      cases e
      rw [Bool.and_eq_true] at o
      obtain ⟨a, vs, rfl, h1, i1⟩ := hy.tup
      have fl : ∀ {d : D} {v : V}, flatD d = true → Has X.K F H d v → flatV v = true := by
        intro d v f h
        cases d with
        | non => cases h.non; rfl
        | bl b => cases h.bl; rfl
        | int i => cases h.int; rfl
        | str z => cases h.str; rfl
        | _ => cases f
      have ee : ∀ {d e : D} {v w : V}, flatD d = true → flatD e = true → Has X.K F H d v → Has X.K F H e w → eqV v w = deq d e := by
        intro d e v w f1 f2 h1 h2
        cases d <;> first | (cases f1; done) | (cases e <;> first | (cases f2; done) | (first | cases h1.non | cases h1.bl | cases h1.int | cases h1.str) <;> (first | cases h2.non | cases h2.bl | cases h2.int | cases h2.str) <;> rfl)
      have fa : ∀ {ds : List D} {vs : List V}, IsL X.K F H ds vs → ds.all flatD = true → vs.all flatV = true ∧ inV x vs = ds.any fun z => deq z dx := by
        intro ds
        induction ds with
        | nil => intro vs i _; simp only [IsL] at i; subst i; exact ⟨rfl, rfl⟩
        | cons d r ih =>
          intro vs i f
          simp only [IsL] at i
          obtain ⟨w, ws, rfl, j1, j2⟩ := i
          rw [List.all_cons, Bool.and_eq_true] at f
          obtain ⟨k1, k2⟩ := ih j2 f.2
          refine ⟨by rw [List.all_cons, k1, fl f.1 (.inl j1)]; rfl, ?_⟩
          rw [List.any_cons, ← k2, ← ee f.1 o.1 (.inl j1) hx]; rfl
      obtain ⟨k1, k2⟩ := fa i1 o.2
      rw [← k2]
      exact ⟨fun q => rB.of op_in_seq ⟨a, vs, rfl, .inr h1, fl o.1 hx, k1, q⟩, fun q => rB.of op_notIn_seq ⟨a, vs, rfl, .inr h1, fl o.1 hx, k1, q⟩⟩
    · cases e
  · rename_i ks ds
    obtain ⟨k, e1, rfl⟩ := Option.map_eq_some_iff.mp e
    obtain ⟨a, vs, rfl, h1, _, i1⟩ := hy.dk
    cases keyD_v e1 hx
    obtain ⟨o, g, e2, _⟩ := dk_get (k := k) h1 i1
    rw [← e2]
    exact ⟨fun q => rB.of (op_inK (by omega)) ⟨a, o, rfl, g, q⟩, fun q => rB.of (op_notInK (by omega)) ⟨a, o, rfl, g, q⟩⟩
  · cases e
theorem op_isBB {X : Cx} : OpR X (compareOp .Is) (fun x y H Q => ∃ a b, x = .bl a ∧ y = .bl b ∧ Q (.bl (a == b)) H) := by
  intro pins s σ H x y v u Q I rx ry h
  obtain ⟨a, b, rfl, rfl, q⟩ := h
  cases (show v = Value.bool a from rx)
  cases (show u = Value.bool b from ry)
  exact wpAny_is_plain rfl (fin_bl I q (by cases a <;> cases b <;> rfl))
theorem op_isnotBB {X : Cx} : OpR X (compareOp .IsNot) (fun x y H Q => ∃ a b, x = .bl a ∧ y = .bl b ∧ Q (.bl (!(a == b))) H) := by
  intro pins s σ H x y v u Q I rx ry h
  obtain ⟨a, b, rfl, rfl, q⟩ := h
  cases (show v = Value.bool a from rx)
  cases (show u = Value.bool b from ry)
  exact wpAny_isNot_plain rfl (fin_bl I q (by cases a <;> cases b <;> rfl))
theorem cmpS_ok {op : CmpOp} {b : Bool} (hu : X.A.units + 65 < cLine) (e : cmpS op dx dy = some b) (hx : Has X.K F H dx x) (hy : Has X.K F H dy y) (q : Q (.bl b) H) : rB X (compareOp op) x y H Q := by
  unfold cmpS at e
  split at e
  · cases e; exact rB.of op_lt ⟨_, _, hx.int, hy.int, q⟩
  · cases e; exact rB.of op_le ⟨_, _, hx.int, hy.int, q⟩
  · cases e; exact rB.of op_gt ⟨_, _, hx.int, hy.int, q⟩
  · cases e; exact rB.of op_ge ⟨_, _, hx.int, hy.int, q⟩
  · split at e
    · rename_i o
      cases e
      rw [Bool.and_eq_true] at o
      exact rB.of (op_eqD (by omega)) ⟨_, _, hx.dp o.1, hy.dp o.2, o.1, o.2, q⟩
    · cases e
  · split at e
    · rename_i o
      cases e
      rw [Bool.and_eq_true] at o
      exact rB.of (op_neD (by omega)) ⟨_, _, hx.dp o.1, hy.dp o.2, o.1, o.2, q⟩
    · cases e
  · cases e
    cases hy.non
    refine rB.of op_isN ⟨rfl, ?_⟩
    have : decide (x = .non) = isNon dx := by
      cases dx with
      | non => cases hx.non; rfl
      | bl b => cases hx.bl; rfl
      | int i => cases hx.int; rfl
      | str z => cases hx.str; rfl
      | tup xs => obtain ⟨a, vs, rfl, _⟩ := hx.tup; rfl
      | lst xs => obtain ⟨a, vs, rfl, _⟩ := hx.lst; rfl
      | scr xs => obtain ⟨a, rfl, _⟩ := hx.scr; rfl
      | ins c ns ds => obtain ⟨a, C, dx, vs, rfl, _⟩ := hx.ins; rfl
      | dk ks ds => obtain ⟨a, vs, rfl, _⟩ := hx.dk; rfl
    rw [this]; exact q
  · cases e
    cases hy.non
    refine rB.of op_notN ⟨rfl, ?_⟩
    have : decide (x = .non) = isNon dx := by
      cases dx with
      | non => cases hx.non; rfl
      | bl b => cases hx.bl; rfl
      | int i => cases hx.int; rfl
      | str z => cases hx.str; rfl
      | tup xs => obtain ⟨a, vs, rfl, _⟩ := hx.tup; rfl
      | lst xs => obtain ⟨a, vs, rfl, _⟩ := hx.lst; rfl
      | scr xs => obtain ⟨a, rfl, _⟩ := hx.scr; rfl
      | ins c ns ds => obtain ⟨a, C, dx, vs, rfl, _⟩ := hx.ins; rfl
      | dk ks ds => obtain ⟨a, vs, rfl, _⟩ := hx.dk; rfl
    rw [this]; exact q
  · cases e
    cases hx.bl
    cases hy.bl
    exact rB.of op_isBB ⟨_, _, rfl, rfl, q⟩
  · cases e
    cases hx.bl
    cases hy.bl
    exact rB.of op_isnotBB ⟨_, _, rfl, rfl, q⟩
  · exact (inS_ok hu e hx hy).1 q
  · obtain ⟨c, e1, rfl⟩ := Option.map_eq_some_iff.mp e
    exact (inS_ok hu e1 hx hy).2 q
  · cases e
theorem unS_ok {op : UnaryOp} {d : D} (hn : op ≠ .Not) (e : unS op dx = some d) (hx : Has X.K F H dx x) (q : Fol X.K F H (.v d) Q) : rU1 X (unaryOp op) x H Q := by
  unfold unS at e
  split at e
  · cases e; exact rU1.of un_neg ⟨_, hx.int, q.int⟩
  · cases e; exact rU1.of un_inv ⟨_, hx.int, q.int⟩
  · exact absurd rfl hn
  · cases e
theorem ixD {α β : Type} {xs : List α} {ys : List β} (h : xs.length = ys.length) {i : Int} {a : α} (e : atI xs i = some a) : ∃ j : Nat, xs[j]? = some a ∧ ∀ b, ys[j]? = some b → atI ys i = some b := by
  unfold atI at e ⊢
  obtain ⟨j, e1, e2⟩ := Option.bind_eq_some_iff.mp e
  exact ⟨j, e2, fun b eb => by rw [← h, e1]; exact eb⟩
def rIxK : R2 := fun x y H Q => ∃ a v, x = .ref a ∧ DGet H a y (some v) ∧ Q v H
open PyProof.Rows in
theorem ix_dict (hu : X.A.units + 1 < cLine) : IxR X rIxK := by
  intro value slice pins s σ H x y v u Q I rx ry h hs
  obtain ⟨a, w, rfl, g, q⟩ := h
  obtain rfl : v = Value.ref a := rx
  have hT := dict_typeIs I g
  have h2 : wpAny (model X.prog X.w) X.A (getItem (.ref a) u) (EP X pins σ Q) X.xe s := d_getItem hu I g ry fun w' s3 I3 rw' => ⟨w, H, I3, rw', q⟩
  unfold subscriptTail
  refine wpAny_bind ?_
  rw [getitemInPython_of_ne hT.not_modules]
  refine wpAny_bind (wpAny_specialOf hT PySem.F.slot_dict_getitem.lookup ?_)
  have fin : wpAny (model X.prog X.w) X.A (subscripted slice false (.ref a) u) (fun r s₃ => wpAny (model X.prog X.w) X.A (letTemporaryGo value (.ref a) r >>= fun _ => pure r) (EP X pins σ Q) X.xe s₃) X.xe s := by
    rw [hs]
    exact wpAny_operating (wpAny_mono h2 (fun r s₃ h₃ => wpAny_bind (wpAny_letTemporaryGo (wpAny_pure h₃))) fun _ _ x => x)
  first
    | exact wpAny_pure (wpAny_bind fin)
    | exact wpAny_bind (wpAny_pure (wpAny_bind fin))
    | exact wpAny_bind fin
def rIxA (K : PySem.W.Frag) : R2 := fun x y H Q => rIx K x y H Q ∨ rIxK x y H Q
theorem ix_all (hu : X.A.units + 1 < cLine) : IxR X (rIxA X.K) := ix_seq.or (ix_dict hu)
theorem idxS_ok {d : D} (e : idxS dx dy = some d) (hx : Has X.K F H dx x) (hy : Has X.K F H dy y) (q : Fol X.K F H (.v d) Q) : rIxA X.K x y H Q := by
  unfold idxS at e
  split at e
  · obtain ⟨a, vs, rfl, h1, i1⟩ := hx.lst
    obtain ⟨j, e1, e2⟩ := ixD i1.length e
    obtain ⟨v, e3, e4⟩ := i1.get e1
    exact .inl (.inl ⟨a, vs, _, v, rfl, hy.int, .of h1, e2 v e3, q.val e4⟩)
  · obtain ⟨a, vs, rfl, h1, i1⟩ := hx.tup
    obtain ⟨j, e1, e2⟩ := ixD i1.length e
    obtain ⟨v, e3, e4⟩ := i1.get e1
    exact .inl (.inr (.inl ⟨a, vs, _, v, rfl, hy.int, h1, e2 v e3, q.val e4⟩))
  · split at e
    · obtain ⟨c, e1, rfl⟩ := Option.map_eq_some_iff.mp e
      exact .inl (.inr (.inr ⟨_, _, c, hx.str, hy.int, by assumption, e1, q.str⟩))
    · cases e
  · obtain ⟨k, e1, e2⟩ := Option.bind_eq_some_iff.mp e
    obtain ⟨a, vs, rfl, h1, _, i1⟩ := hx.dk
    cases keyD_v e1 hy
    obtain ⟨o, g, _, e3⟩ := dk_get (k := k) h1 i1
    obtain ⟨v, rfl, e4⟩ := e3 d e2
    exact .inr ⟨a, v, rfl, g, q.val e4⟩
  · cases e
def rS1 (K : PySem.W.Frag) : V → Option Int → Option Int → Hp → VK → Prop := fun x lo hi H Q => rSlL K x lo hi H Q ∨ VIU.rSlP K x lo hi H Q
theorem sl_any : SlR X (rS1 X.K) := sl_list.or VIU.sl_tupP
theorem slS_ok (hd : ∀ a, F a → H a ≠ none) {lo hi : Option Int} (e : slS dx lo hi = some r) (hx : Has X.K F H dx x) (q : Fol X.K F H r Q) : rS1 X.K x lo hi H Q := by
  unfold slS at e
  split at e
  · cases e
    obtain ⟨a, vs, rfl, h1, i1⟩ := hx.lst
    exact .inl ⟨a, vs, rfl, .of h1, fun p hp => q.newL hd (i1.cut lo hi) hp⟩
  · cases e
    rename_i xs
    obtain ⟨a, vs, rfl, h1, i1⟩ := hx.tup
    refine .inr ⟨a, vs, rfl, h1, fun z => ?_, fun _ => q.newT hd (i1.cut lo hi)⟩
    have ec : cutD xs lo hi = xs := by
      unfold cutD
      rw [i1.length, z.1, z.2, List.drop_zero, Nat.sub_zero, ← i1.length, List.take_length]
    rw [ec] at q
    exact q.val hx.tupI
  · cases e

def HasL (K : PySem.W.Frag) (F : FS) (H : Hp) : List D → List V → Prop
  | [], vs => vs = []
  | d :: ds, vs => ∃ w ws, vs = w :: ws ∧ Has K F H d w ∧ HasL K F H ds ws
def rC (X : Cx) (f : Value) : List V → Hp → VK → Prop := fun xs H Q => ∀ (pins : List (Addr × Obj)) (s : Shared) (σ : Slots) (us : List Value), Inv X pins σ H s → Vals xs us → wpAny (model X.prog X.w) X.A (call f us) (EP X pins σ Q) X.xe s
theorem callB (f : Value) : CallR X f (rC X f) := fun pins s σ H xs us Q I r h => h pins s σ us I r
theorem rC.of {f : Value} {rr : List V → Hp → VK → Prop} {xs : List V} (h : CallR X f rr) (q : rr xs H Q) : rC X f xs H Q := fun pins s σ us I r => h pins s σ H xs us Q I r q
def Bf.val : Bf → Value
  | .len => .builtin "len" | .int => .type "int" | .abs => .builtin "abs" | .tuple => .type "tuple" | .list => .type "list" | .sorted => .builtin "sorted"
  | .sum => .builtin "sum" | .max => .builtin "max" | .min => .builtin "min" | .any => .builtin "any" | .all => .builtin "all" | .minp => .builtin "min" | .str => .type "str" | .bool => .type "bool"
def Bf.nm : Bf → Str
  | .len => "len" | .int => "int" | .abs => "abs" | .tuple => "tuple" | .list => "list" | .sorted => "sorted"
  | .sum => "sum" | .max => "max" | .min => "min" | .any => "any" | .all => "all" | .minp => "min" | .str => "str" | .bool => "bool"
theorem HasL.one {K} {d : D} {vs : List V} (h : HasL K F H [d] vs) : ∃ v, vs = [v] ∧ Has K F H d v := by
  obtain ⟨w, ws, rfl, h1, h2⟩ := h
  cases (show ws = [] from h2)
  exact ⟨w, rfl, h1⟩
theorem HasL.two {K} {d e : D} {vs : List V} (h : HasL K F H [d, e] vs) : ∃ v w, vs = [v, w] ∧ Has K F H d v ∧ Has K F H e w := by
  obtain ⟨w, ws, rfl, h1, h2⟩ := h
  obtain ⟨w', rfl, h3⟩ := HasL.one h2
  exact ⟨w, w', rfl, h1, h3⟩
theorem maxL_ge : ∀ {ns : List Int} {y : Int}, y ∈ ns → y ≤ maxL ns
  | [x], y, h => by simp at h; subst h; exact Int.le_refl _
  | x :: z :: r, y, h => by
    simp only [maxL]
    rcases List.mem_cons.mp h with rfl | h
    · omega
    · have := maxL_ge h
      omega
theorem maxL_mem : ∀ {ns : List Int}, 0 < ns.length → maxL ns ∈ ns
  | [x], _ => by simp [maxL]
  | x :: z :: r, _ => by
    have ih := maxL_mem (ns := z :: r) (by simp)
    simp only [maxL]
    by_cases h : x ≤ maxL (z :: r)
    · rw [Int.max_eq_right h]; exact List.mem_cons_of_mem _ ih
    · rw [Int.max_eq_left (by omega)]; exact List.mem_cons_self
theorem minL_le : ∀ {ns : List Int} {y : Int}, y ∈ ns → minL ns ≤ y
  | [x], y, h => by simp at h; subst h; exact Int.le_refl _
  | x :: z :: r, y, h => by
    simp only [minL]
    rcases List.mem_cons.mp h with rfl | h
    · omega
    · have := minL_le h
      omega
theorem minL_mem : ∀ {ns : List Int}, 0 < ns.length → minL ns ∈ ns
  | [x], _ => by simp [minL]
  | x :: z :: r, _ => by
    have ih := minL_mem (ns := z :: r) (by simp)
    simp only [minL]
    by_cases h : x ≤ minL (z :: r)
    · rw [Int.min_eq_left h]; exact List.mem_cons_self
    · rw [Int.min_eq_right (by omega)]; exact List.mem_cons_of_mem _ ih
theorem sort_perm (ns : List Int) : (ns.mergeSort (· ≤ ·)).Perm ns := List.mergeSort_perm ns _
theorem sort_pw (ns : List Int) : (ns.mergeSort (· ≤ ·)).Pairwise (· ≤ ·) := by
  have h := List.pairwise_mergeSort (le := fun a b : Int => decide (a ≤ b)) (fun a b c h1 h2 => by simp at *; omega) (fun a b => by simp; omega) ns
  exact h.imp fun h => by simpa using h
theorem pairs_len : ∀ {xs : List D} {ps : List (Int × Int)}, pairsD xs = some ps → ps.length = xs.length
  | [], ps, h => by simp only [pairsD, Option.some.injEq] at h; subst h; rfl
  | d :: xs, ps, h => by
    unfold pairsD at h
    split at h
    · rename_i hh; cases hh
    · rename_i a b r hh
      cases hh
      obtain ⟨qs, h1, rfl⟩ := Option.map_eq_some_iff.mp h
      simp [pairs_len h1]
    · cases h
theorem pairs_get : ∀ {xs : List D} {ps : List (Int × Int)} {i : Nat} {d : D}, pairsD xs = some ps → xs[i]? = some d → ∃ p, ps[i]? = some p ∧ d = .tup [.int p.1, .int p.2]
  | [], ps, i, d, h, hd => by simp at hd
  | e :: xs, ps, i, d, h, hd => by
    unfold pairsD at h
    split at h
    · rename_i hh; cases hh
    · rename_i a b r hh
      cases hh
      obtain ⟨qs, h1, rfl⟩ := Option.map_eq_some_iff.mp h
      cases i with
      | zero =>
        simp only [List.getElem?_cons_zero, Option.some.injEq] at hd
        subst hd
        exact ⟨(a, b), rfl, rfl⟩
      | succ i =>
        obtain ⟨p, k1, k2⟩ := pairs_get (i := i) h1 (by simpa using hd)
        exact ⟨p, by simpa using k1, k2⟩
    · cases h
theorem minPr_mem : ∀ {ps : List (Int × Int)}, 0 < ps.length → minPr ps ∈ ps
  | [p], _ => by simp [minPr]
  | p :: q :: r, _ => by
    have ih := minPr_mem (ps := q :: r) (by simp)
    simp only [minPr]
    split
    · exact List.mem_cons_of_mem _ ih
    · exact List.mem_cons_self
theorem minPr_le : ∀ {ps : List (Int × Int)} {y : Int × Int}, y ∈ ps → SrtO.lexB y (minPr ps) = false
  | [p], y, h => by
    simp at h; subst h
    exact SrtO.lexB_no.mpr (by simp [minPr])
  | p :: q :: r, y, h => by
    simp only [minPr]
    have ih : ∀ y ∈ q :: r, SrtO.lexB y (minPr (q :: r)) = false := fun y hy => minPr_le hy
    cases hb : SrtO.lexB (minPr (q :: r)) p with
    | true =>
      simp only [if_true]
      rcases List.mem_cons.mp h with rfl | h
      · have := SrtO.lexB_iff.mp hb
        exact SrtO.lexB_no.mpr (by omega)
      · exact ih y h
    | false =>
      simp only [Bool.false_eq_true, if_false]
      rcases List.mem_cons.mp h with rfl | h
      · exact SrtO.lexB_no.mpr (by omega)
      · have a := SrtO.lexB_no.mp (ih y h)
        have b := SrtO.lexB_no.mp hb
        exact SrtO.lexB_no.mpr (by omega)
theorem call_lenK : CallR X (.builtin "len") (fun xs H Q => ∃ p kvs, xs = [.ref p] ∧ H p = some (.dK kvs) ∧ Q (.int kvs.length) H) := by
  intro pins s σ H xs us Q I r h
  obtain ⟨p, kvs, rfl, e, q⟩ := h
  rw [Vals.ref1 r]
  exact d_len I (.inl e) fun t s' I' => ⟨.int kvs.length, H, I', ⟨t, rfl⟩, q⟩
theorem bltS_ok (hc : X.calm = true) (hu : X.A.units + 10 < cLine) (hd : ∀ a, F a → H a ≠ none) {b : Bf} {ds : List D} {vs : List V} (e : bltS b ds = some r) (hx : HasL X.K F H ds vs) (q : Fol X.K F H r Q) : rC X b.val vs H Q := by
  unfold bltS at e
  split at e
  · cases e
    obtain ⟨v, rfl, h⟩ := hx.one
    obtain ⟨a, ws, rfl, h1, i1⟩ := h.lst
    exact rC.of call_len_seq ⟨a, ws, rfl, .inl (.of h1), by rw [← i1.length]; exact q.int⟩
  · cases e
    obtain ⟨v, rfl, h⟩ := hx.one
    obtain ⟨a, ws, rfl, h1, i1⟩ := h.tup
    exact rC.of call_len_seq ⟨a, ws, rfl, .inr h1, by rw [← i1.length]; exact q.int⟩
  · cases e
    obtain ⟨v, rfl, h⟩ := hx.one
    obtain ⟨a, rfl, h1⟩ := h.scr
    refine rC.of call_len_seq ⟨a, _, rfl, .inl h1, by rw [List.length_map]; exact q.int⟩
  · split at e
    · cases e
      obtain ⟨v, rfl, h⟩ := hx.one
      cases h.str
      exact rC.of call_len_str ⟨_, rfl, by assumption, q.int⟩
    · cases e
  · cases e
    obtain ⟨v, rfl, h⟩ := hx.one
    obtain ⟨a, ws, rfl, h1, hl, i1⟩ := h.dk
    refine rC.of call_lenK ⟨a, _, rfl, h1, ?_⟩
    rw [List.length_zip, ← hl, Nat.min_self]
    exact q.int
  · cases e
    obtain ⟨v, rfl, h⟩ := hx.one
    cases h.int
    exact rC.of call_int1 (.inl ⟨_, rfl, q.int⟩)
  · cases e
    obtain ⟨v, rfl, h⟩ := hx.one
    cases h.bl
    exact rC.of call_int1 (.inr ⟨_, rfl, q.int⟩)
  · cases e
    obtain ⟨v, rfl, h⟩ := hx.one
    cases h.int
    exact rC.of call_abs ⟨_, rfl, q.int⟩
  · cases e
    obtain ⟨v, rfl, h⟩ := hx.one
    obtain ⟨a, ws, rfl, h1, i1⟩ := h.lst
    exact rC.of VIU.call_tupleP ⟨a, ws, rfl, .inl ⟨.of h1, q.newT hd i1⟩⟩
  · cases e
    obtain ⟨v, rfl, h⟩ := hx.one
    have h0 := h.tupI
    obtain ⟨a, ws, rfl, h1, i1⟩ := h.tup
    exact rC.of VIU.call_tupleP ⟨a, ws, rfl, .inr ⟨h1, q.val h0⟩⟩
  · cases e
    obtain ⟨v, rfl, h⟩ := hx.one
    obtain ⟨a, ws, rfl, h1, i1⟩ := h.lst
    exact rC.of call_list_of ⟨a, ws, rfl, .inl (.of h1), fun p hp => q.newL hd i1 hp⟩
  · cases e
    obtain ⟨v, rfl, h⟩ := hx.one
    obtain ⟨a, ws, rfl, h1, i1⟩ := h.tup
    exact rC.of call_list_of ⟨a, ws, rfl, .inr h1, fun p hp => q.newL hd i1 hp⟩
  · obtain ⟨ns, e1, rfl⟩ := Option.map_eq_some_iff.mp e
    obtain ⟨v, rfl, h⟩ := hx.one
    obtain ⟨a, ws, rfl, h1, i1⟩ := h.lst
    rw [i1.ints e1] at h1
    refine rC.of cr_sortedI ⟨a, ns, rfl, .of h1, fun ns' p hp hs hn => ?_⟩
    have : ns' = ns.mergeSort (· ≤ ·) := PySem.W.ksm_same (hp.trans (sort_perm ns).symm) hs (sort_pw ns)
    subst this
    exact q.newL hd (IsL.of_ints _) hn
  · obtain ⟨ns, e1, rfl⟩ := Option.map_eq_some_iff.mp e
    obtain ⟨v, rfl, h⟩ := hx.one
    obtain ⟨a, ws, rfl, h1, i1⟩ := h.lst
    rw [i1.ints e1] at h1
    exact rC.of (cr_sum hc) ⟨a, ns, rfl, .of h1, q.int⟩
  · obtain ⟨ns, e1, rfl⟩ := Option.map_eq_some_iff.mp e
    obtain ⟨v, rfl, h⟩ := hx.one
    obtain ⟨a, ws, rfl, h1, i1⟩ := h.tup
    rw [i1.ints e1] at h1
    exact rC.of (VIX.cr_sumT hc) ⟨a, ns, rfl, h1, q.int⟩
  · obtain ⟨ns, e1, e2⟩ := Option.bind_eq_some_iff.mp e
    obtain ⟨v, rfl, h⟩ := hx.one
    obtain ⟨a, ws, rfl, h1, i1⟩ := h.lst
    rw [i1.ints e1] at h1
    split at e2
    · rename_i hl
      cases e2
      refine rC.of (cr_max hc) ⟨a, ns, rfl, .of h1, hl, fun m hm hy => ?_⟩
      have : m = maxL ns := Int.le_antisymm (maxL_ge hm) (hy _ (maxL_mem hl))
      subst this
      exact q.int
    · cases e2
  · obtain ⟨ns, e1, e2⟩ := Option.bind_eq_some_iff.mp e
    obtain ⟨v, rfl, h⟩ := hx.one
    obtain ⟨a, ws, rfl, h1, i1⟩ := h.tup
    rw [i1.ints e1] at h1
    split at e2
    · rename_i hl
      cases e2
      refine rC.of (VIX.cr_maxT hc hu) ⟨a, ns, rfl, h1, hl, fun m hm hy => ?_⟩
      have : m = maxL ns := Int.le_antisymm (maxL_ge hm) (hy _ (maxL_mem hl))
      subst this
      exact q.int
    · cases e2
  · obtain ⟨ns, e1, e2⟩ := Option.bind_eq_some_iff.mp e
    obtain ⟨v, rfl, h⟩ := hx.one
    obtain ⟨a, ws, rfl, h1, i1⟩ := h.tup
    rw [i1.ints e1] at h1
    split at e2
    · rename_i hl
      cases e2
      refine rC.of (VIX.cr_minT hc hu) ⟨a, ns, rfl, h1, hl, fun m hm hy => ?_⟩
      have : m = minL ns := Int.le_antisymm (hy _ (minL_mem hl)) (minL_le hm)
      subst this
      exact q.int
    · cases e2
  · obtain ⟨ns, e1, e2⟩ := Option.bind_eq_some_iff.mp e
    obtain ⟨v, rfl, h⟩ := hx.one
    obtain ⟨a, ws, rfl, h1, i1⟩ := h.lst
    rw [i1.ints e1] at h1
    split at e2
    · rename_i hl
      cases e2
      refine rC.of (cr_min hc) ⟨a, ns, rfl, .of h1, hl, fun m hm hy => ?_⟩
      have : m = minL ns := Int.le_antisymm (hy _ (minL_mem hl)) (minL_le hm)
      subst this
      exact q.int
    · cases e2
  · obtain ⟨ps, e1, e2⟩ := Option.bind_eq_some_iff.mp e
    obtain ⟨v, rfl, h⟩ := hx.one
    obtain ⟨a, ws, rfl, h1, i1⟩ := h.lst
    split at e2
    · rename_i xs hl
      cases e2
      have hlen := i1.length
      have hlp := pairs_len e1
      have at_ : ∀ (i : Nat) (x : V), ws[i]? = some x → ∃ p, ps[i]? = some p ∧ Is X.K F H (.tup [.int p.1, .int p.2]) x := fun i x hx => by
        have hi : i < ws.length := (List.getElem?_eq_some_iff.mp hx).1
        have hi' : i < xs.length := by omega
        obtain ⟨p, k1, k2⟩ := pairs_get e1 (List.getElem?_eq_getElem hi')
        obtain ⟨v, k3, k4⟩ := i1.get (List.getElem?_eq_getElem hi')
        rw [hx] at k3; cases k3
        rw [k2] at k4
        exact ⟨p, k1, k4⟩
      refine rC.of (VIP.cr_minP hc hu) ⟨a, ws, fun i => ps.getD i (0, 0), rfl, .of h1, by omega, fun i x hx => ?_, fun i x hx hm => ?_⟩
      · obtain ⟨p, k1, k2⟩ := at_ i x hx
        simp only [Is, IsL] at k2
        obtain ⟨t, vs, rfl, k3, w1, ws1, rfl, rfl, w2, ws2, rfl, rfl, rfl⟩ := k2
        have k4 : ps.getD i (0, 0) = p := by rw [List.getD_eq_getElem?_getD, k1] <;> rfl
        refine ⟨t, rfl, ?_⟩
        show SqT X.K H t [V.int (ps.getD i (0, 0)).1, V.int (ps.getD i (0, 0)).2]
        rw [k4]
        exact k3.seq
      · obtain ⟨p, k1, k2⟩ := at_ i x hx
        have k4 : ps.getD i (0, 0) = p := by rw [List.getD_eq_getElem?_getD, k1] <;> rfl
        obtain ⟨j, hj⟩ := List.mem_iff_getElem?.mp (minPr_mem hl)
        have hjl : j < ps.length := (List.getElem?_eq_some_iff.mp hj).1
        have g1 := hm j (by omega)
        simp only [k4] at g1
        rw [List.getD_eq_getElem?_getD, hj] at g1
        have g1 := SrtO.lexB_no.mp g1
        simp only [Option.getD_some] at g1
        have g2 := SrtO.lexB_no.mp (minPr_le (List.mem_of_getElem? k1))
        have e5 : p.1 = (minPr ps).1 := by omega
        have e6 : p.2 = (minPr ps).2 := by omega
        rw [e5, e6] at k2
        exact q.val k2
    · cases e2
  · cases e
    obtain ⟨v, w, rfl, h, h'⟩ := hx.two
    cases h.int
    cases h'.int
    exact rC.of (call_max2 hc) ⟨_, _, rfl, q.int⟩
  · cases e
    obtain ⟨v, w, rfl, h, h'⟩ := hx.two
    cases h.int
    cases h'.int
    exact rC.of (call_min2 hc) ⟨_, _, rfl, q.int⟩
  · obtain ⟨ns, e1, rfl⟩ := Option.map_eq_some_iff.mp e
    obtain ⟨v, rfl, h⟩ := hx.one
    obtain ⟨a, ws, rfl, h1, i1⟩ := h.lst
    rw [i1.bls e1] at h1
    exact rC.of (cr_any hc) ⟨a, ns, rfl, .of h1, q.bl⟩
  · obtain ⟨ns, e1, rfl⟩ := Option.map_eq_some_iff.mp e
    obtain ⟨v, rfl, h⟩ := hx.one
    obtain ⟨a, ws, rfl, h1, i1⟩ := h.lst
    rw [i1.bls e1] at h1
    exact rC.of (cr_all hc) ⟨a, ns, rfl, .of h1, q.bl⟩
  · cases e
def rM (X : Cx) (id : String) : V → List V → Hp → VK → Prop := fun x xs H Q => ∀ (pins : List (Addr × Obj)) (s : Shared) (σ : Slots) (v : Value) (us : List Value), Inv X pins σ H s → RelV x v → Vals xs us → wpAny (model X.prog X.w) X.A (call (.builtin id) (v :: us)) (EP X pins σ Q) X.xe s
theorem mtB (id : String) : MtR X id (rM X id) := fun pins s σ H x xs v us Q I rx r h => h pins s σ v us I rx r
theorem rM.of {id : String} {rr : V → List V → Hp → VK → Prop} {xs : List V} (h : MtR X id rr) (q : rr x xs H Q) : rM X id x xs H Q := fun pins s σ v us I rx r => h pins s σ H x xs v us Q I rx r q
def Mf.nm : Mf → Str
  | .append => "append" | .pop => "pop" | .reverse => "reverse" | .extend => "extend" | .insert => "insert" | .remove => "remove" | .clear => "clear" | .sort => "sort"
def Mf.id : Mf → String
  | .append => "list.append" | .pop => "list.pop" | .reverse => "list.reverse" | .extend => "list.extend" | .insert => "list.insert" | .remove => "list.remove" | .clear => "list.clear" | .sort => "list.sort"
theorem mthS_ok {m : Mf} {xs ys ds : List D} {ws vs : List V} {d : D} {p : Addr} (e : mthS m xs ds = some (d, ys)) (h1 : H p = some (.lst ws)) (i1 : IsL X.K F H xs ws) (i2 : IsL X.K F H ds vs)
    (q : ∀ v zs, Is X.K F H d v → IsL X.K F H ys zs → Q v (upd H p (.lst zs))) : rM X m.id (.ref p) vs H Q := by
  unfold mthS at e
  split at e
  · split at e
    · rename_i hz
      cases e
      simp only [IsL] at i2
      obtain ⟨w, ws', rfl, j1, rfl⟩ := i2
      exact rM.of mt_append ⟨p, ws, w, rfl, rfl, h1, by rw [← i1.length]; exact hz, q _ _ (by simp [Is]) (i1.snoc j1)⟩
    · cases e
  · split at e
    · rename_i d' hd
      cases e
      simp only [IsL] at i2
      subst i2
      rw [List.getLast?_eq_getElem?] at hd
      obtain ⟨v, e1, e2⟩ := i1.get hd
      exact rM.of mt_pop ⟨p, ws, v, rfl, rfl, h1, by rw [← i1.length]; exact e1, q _ _ e2 i1.dropLast⟩
    · cases e
  · split at e
    · split at e
      · split at e
        · rename_i _ k hk _ d' hd hb
          cases e
          simp only [IsL] at i2
          obtain ⟨w, ws', rfl, j1, rfl⟩ := i2
          simp only [Is] at j1
          subst j1
          obtain ⟨v, e1, e2⟩ := i1.get hd
          refine rM.of mt_popAt ⟨p, ws, _, k, v, rfl, rfl, h1, hb.1, hb.2, by rw [← i1.length]; exact (ixN_seq hk).1, e1, q _ _ e2 (i1.eraseIdx k)⟩
        · cases e
      · cases e
    · cases e
  · cases e
    simp only [IsL] at i2
    subst i2
    exact rM.of mt_reverse ⟨p, ws, rfl, rfl, h1, q _ _ (by simp [Is]) i1.reverse⟩
  · split at e
    · rename_i hz
      cases e
      simp only [IsL] at i2
      obtain ⟨w, ws', rfl, j1, rfl⟩ := i2
      simp only [Is] at j1
      obtain ⟨b, zs, rfl, f1, j2⟩ := j1
      exact rM.of mt_extend ⟨p, b, ws, zs, rfl, rfl, h1, f1.2, by rw [← i1.length, ← j2.length]; exact hz, q _ _ (by simp [Is]) (i1.append j2)⟩
    · cases e
  · cases e
    simp only [IsL] at i2
    subst i2
    exact rM.of mt_clear ⟨p, ws, rfl, rfl, h1, q _ _ (by simp [Is]) IsL.nil⟩
  · split at e
    · rename_i hz
      cases e
      simp only [IsL] at i2
      obtain ⟨w, ws', rfl, j1, w2, ws2, rfl, j2, rfl⟩ := i2
      simp only [Is] at j1
      subst j1
      exact rM.of mt_insert ⟨p, ws, _, w2, rfl, rfl, h1, by rw [← i1.length]; exact hz.2.2, hz.1, hz.2.1, q _ _ (by simp [Is]) (((i1.take _).snoc j2).append (i1.drop _))⟩
    · cases e
  · obtain ⟨ns, e1, e2⟩ := Option.bind_eq_some_iff.mp e
    split at e2
    · rename_i k hk
      cases e2
      simp only [IsL] at i2
      obtain ⟨w, ws', rfl, j1, rfl⟩ := i2
      simp only [Is] at j1
      subst j1
      have e3 := i1.ints e1
      subst e3
      have hj : ns.idxOf k < ns.length := List.idxOf_lt_length_of_mem hk
      refine rM.of mt_remove ⟨p, ns, _, ns.idxOf k, rfl, rfl, h1, ?_, fun m hm hh => ?_, ?_⟩
      · rw [List.getElem?_eq_getElem hj, List.getElem_idxOf]
      · obtain ⟨hl, hv⟩ := List.getElem?_eq_some_iff.mp hh
        have := List.not_of_lt_findIdx (p := fun z => z == k) (show m < ns.findIdx (fun z => z == k) from hm)
        simp [hv] at this
      · rw [← List.erase_eq_eraseIdx_of_idxOf (by rfl)]
        exact q _ _ (by simp [Is]) (IsL.of_ints _)
    · cases e2
  · cases e
end
end VI
namespace VI
open PySem PySem.Spec L2

structure Gm where
  fns : List (Str × Nat)
  frees : List Str
  /-- gcd is math.gcd -/
  gc : Bool := false
  /-- classes with their numbers of __init__ -/
  mks : List (Cn × Nat) := []
  /-- methods -/
  mes : List ((Cn × Str) × Nat) := []
  /-- constants -/
  cons : List (Str × D) := []

mutual
def sameD : D → D → Bool
  | .non, .non => true
  | .bl a, .bl b => a == b
  | .int a, .int b => a == b
  | .str a, .str b => a == b
  | .tup a, .tup b => sameDs a b
  | _, _ => false
def sameDs : List D → List D → Bool
  | [], [] => true
  | a :: as, b :: bs => sameD a b && sameDs as bs
  | _, _ => false
end
mutual
theorem sameD_eq : ∀ {a b : D}, sameD a b = true → a = b
  | .non, b, h => by cases b <;> simp_all [sameD]
  | .bl a, b, h => by cases b <;> simp_all [sameD]
  | .int a, b, h => by cases b <;> simp_all [sameD]
  | .str a, b, h => by cases b <;> simp_all [sameD]
  | .tup a, b, h => by
    cases b with
    | tup b => rw [sameDs_eq (show sameDs a b = true from by simpa [sameD] using h)]
    | _ => simp [sameD] at h
  | .lst _, b, h => by simp [sameD] at h
  | .scr _, b, h => by simp [sameD] at h
  | .ins _ _ _, b, h => by simp [sameD] at h
  | .dk _ _, b, h => by simp [sameD] at h
theorem sameDs_eq : ∀ {a b : List D}, sameDs a b = true → a = b
  | [], b, h => by cases b <;> simp_all [sameDs]
  | a :: as, b, h => by
    cases b with
    | nil => simp [sameDs] at h
    | cons b bs =>
      simp only [sameDs, Bool.and_eq_true] at h
      rw [sameD_eq h.1, sameDs_eq h.2]
end
def visB (sc : Scope) (x : Str) : Bool := (match sc.names.lookup x with
  | some .local => true
  | some .cell => true
  | some .free => true
  | _ => false) && !(x == ("__debug__" : Str)) && !(x == ("__classdict__" : Str))
def locB (sc : Scope) (x : Str) : Bool := match sc.names.lookup x with
  | some .local => true
  | some .cell => true
  | _ => false
def glB (sc : Scope) (x : Str) : Bool := sc.names.lookup x == some .globalImplicit && !(x == ("__debug__" : Str)) && !(x == ("__name__" : Str))
def freeB (Γ : Gm) (sc : Scope) (x : Str) : Bool := glB sc x && Γ.frees.contains x
def litB : D → Const → Bool
  | .non, .none => true
  | .bl b, .bool c => b == c
  | .int i, .int j => i == j
  | .str x, .str y => x == y
  | _, _ => false
def nmB (N : List Str) (sc : Scope) (i : Nat) (x : Str) : Bool := N[i]? == some x && visB sc x
/-- a target's name: its slot; st: where the block itself may store -/
def tnB (N : List Str) (sc : Scope) (st : Str → Bool) (i : Nat) (x : Str) : Bool := N[i]? == some x && locB sc x && (st x || sc.names.lookup x == some .local)
mutual
def mT (N : List Str) (sc : Scope) (st : Str → Bool) : T → Expr → Bool
  | .nm i, e => match e with
    | .Name x _ => tnB N sc st i x
    | _ => false
  | .tup ts, e => match e with
    | .Tuple es _ _ => mTs N sc st ts es
    | _ => false
def mTs (N : List Str) (sc : Scope) (st : Str → Bool) : Ts → List Expr → Bool
  | .nil, es => es.isEmpty
  | .cons t ts, es => match es with
    | e :: es => mT N sc st t e && mTs N sc st ts es
    | [] => false
end
mutual
def T.slots : T → List Nat
  | .nm i => [i]
  | .tup ts => ts.slots
def Ts.slots : Ts → List Nat
  | .nil => []
  | .cons t ts => t.slots ++ ts.slots
end
def T.isTup : T → Bool
  | .tup _ => true
  | _ => false
def Ty.nm : Ty → Str
  | .int => "int" | .bool => "bool" | .str => "str" | .tuple => "tuple" | .list => "list" | .none => "NoneType"
def Ty.ok : Ty → Bool
  | .none => false
  | _ => true
def tysB (Γ : Gm) (sc : Scope) : List Ty → List Expr → Bool
  | [], [] => true
  | t :: ts, e :: es => t.ok && (match e with | .Name x _ => x == t.nm && freeB Γ sc x | _ => false) && tysB Γ sc ts es
  | _, _ => false
/-- no head that asks for a rule of its own -/
def headOk : Expr → Bool
  | .Starred _ _ => false
  | .Set _ _ _ => false
  | .Slice _ _ _ _ => false
  | _ => true
def neverOk : Expr → Bool
  | .Starred _ _ => false
  | .Set _ _ _ => false
  | .Slice _ _ _ _ => false
  | .SetComp _ _ _ _ => false
  | .DictComp _ _ _ _ _ => false
  | _ => true
def plainT : Expr → Bool
  | .UnaryOp _ _ _ => false
  | .BoolOp _ _ _ => false
  | .IfExp _ _ _ _ => false
  | .Compare _ _ _ _ => false
  | _ => true
def baseOk : Expr → Bool
  | .Call _ [] _ _ => false
  | _ => true
def frzHd : Expr → Bool
  | .Call _ _ _ _ => true
  | .Name _ _ => true
  | _ => false
def stOf (scope : Scope) (x : Str) : Bool := scope.names.lookup x == some .cell
section
variable (Γ : Gm) (N : List Str)
mutual
def mE : E → Scope → Expr → Bool
  | .nm i, sc, e => match e with
    | .Name x _ => nmB N sc i x
    | _ => false
  | .lit d, _, e => match e with
    | .Constant c _ _ => litB d c
    | _ => false
  | .bin op a b, sc, e => match e with
    | .BinOp pa pop pb _ => decide (op = pop) && mE a sc pa && mE b sc pb
    | _ => false
  | .un op a, sc, e => match e with
    | .UnaryOp pop pa _ => decide (op = pop) && mE a sc pa
    | _ => false
  | .cmp op a b, sc, e => match e with
    | .Compare pa [pop] [pb] _ => decide (op = pop) && mE a sc pa && mE b sc pb
    | _ => false
  | .cmp2 op op' a b c, sc, e => match e with
    | .Compare pa [p1, p2] [pb, pc] _ => decide (op = p1) && decide (op' = p2) && mE a sc pa && mE b sc pb && mE c sc pc
    | _ => false
  | .and es, sc, e => match e with
    | .BoolOp .And ps _ => mEs es sc ps
    | _ => false
  | .or es, sc, e => match e with
    | .BoolOp .Or ps _ => mEs es sc ps
    | _ => false
  | .ifx c a b, sc, e => match e with
    | .IfExp pc pa pb _ => mC c sc pc && mE a sc pa && mE b sc pb
    | _ => false
  | .tup es, sc, e => match e with
    | .Tuple ps _ _ => mEs es sc ps
    | _ => false
  | .lst es, sc, e => match e with
    | .List ps _ => mEs es sc ps
    | _ => false
  | .idx a b, sc, e => match e with
    | .Subscript pa pb _ => mE a sc pa && mE b sc pb
    | _ => false
  | .sli a lo hi, sc, e => match e with
    | .Subscript pa (.Slice plo phi none _) _ => mE a sc pa && mO lo sc plo && mO hi sc phi
    | _ => false
  | .call f es, sc, e => match e with
    | .Call (.Name x _) ps [] _ => glB sc x && Γ.fns.contains (x, f) && mEs es sc ps
    | _ => false
  | .blt b es, sc, e => match e with
    | .Call (.Name x _) ps [] _ => x == b.nm && freeB Γ sc x && !ps.isEmpty && mEs es sc ps
    | _ => false
  | .rng tp a b, sc, e => match e with
    | .Call (.Name x _) [.Call (.Name y _) ps [] _] [] _ => x == (if tp then "tuple" else "list" : Str) && freeB Γ sc x && y == ("range" : Str) && freeB Γ sc y && (match ps with
      | [pa] => mE a sc pa && mO b sc none
      | [pa, pb] => mE a sc pa && mO b sc (some pb)
      | _ => false)
    | _ => false
  | .isi a ts, sc, e => match e with
    | .Call (.Name x _) [pa, pt] [] _ => x == ("isinstance" : Str) && freeB Γ sc x && decide (ts.length ≤ 10) && mE a sc pa && (match pt with
      | .Tuple ps _ _ => tysB Γ sc ts ps
      | .Name y p => tysB Γ sc ts [.Name y p]
      | _ => false)
    | _ => false
  | .mth m i es, sc, e => match e with
    | .Call (.Attribute (.Name x _) n apos) ps [] cpos => nmB N sc i x && n == m.nm && apos.endLine == cpos.line && decide (ps.length < 20) && mEs es sc ps
    | _ => false
  | .mt m a es, sc, e => false
  | .frz a, sc, e => frzHd e && (headOk e && mE a sc e)
  | .glo x d, sc, e => match e with
    | .Name y _ => y == x && glB sc y && (match Γ.cons.lookup x with
      | some d' => sameD d d'
      | none => false)
    | _ => false
  | .attr a f, sc, e => match e with
    | .Attribute pa n _ => n == f && baseOk pa && mE a sc pa
    | _ => false
  | .make c fi es, sc, e => match e with
    | .Call (.Name x _) ps [] _ => x == c.nm && glB sc x && Γ.mks.contains (c, fi) && mEs es sc ps
    | _ => false
  | .meth c m fi a es, sc, e => match e with
    | .Call (.Attribute pa n apos) ps [] cpos => n == m && baseOk pa && apos.endLine == cpos.line && decide (ps.length < 20) && Γ.mes.contains ((c, m), fi) && mE a sc pa && mEs es sc ps
    | _ => false
  | .lc vs el t it c, sc, e => match e with
    | .ListComp pel [⟨ptg, pit, pifs, 0⟩] scope _ =>
      let own := vs.map fun i => (N.getD i "", i)
      blkC N sc scope own && mI it t.isTup sc pit && mT N (relS scope sc) (stOf scope) t ptg && t.slots.all (vs.contains ·) &&
        mOC c (relS scope sc) pifs && mE el (relS scope sc) pel
    | _ => false
  | .lc2 vs vs1 el t it c t1 it1 c1, sc, e => match e with
    | .ListComp pel [⟨ptg, pit, pifs, 0⟩, ⟨ptg1, pit1, pifs1, 0⟩] scope _ =>
      let own := vs.map fun i => (N.getD i "", i)
      blkC N sc scope own && vs1.all (vs.contains ·) && mI it t.isTup sc pit && mT N (relS scope sc) (stOf scope) t ptg && t.slots.all (vs.contains ·) && mOC c (relS scope sc) pifs &&
        mI it1 t1.isTup (relS scope sc) pit1 && mT N (relS scope sc) (stOf scope) t1 ptg1 && t1.slots.all (vs1.contains ·) && mOC c1 (relS scope sc) pifs1 && mE el (relS scope sc) pel
    | _ => false
  | .never, _, e => neverOk e
  | .slen vs el t it c, sc, e => match e with
    | .Call (.Name x _) [.SetComp pel [⟨ptg, pit, pifs, 0⟩] scope _] [] _ =>
      let own := vs.map fun i => (N.getD i "", i)
      x == ("len" : Str) && freeB Γ sc x && (blkC N sc scope own && mI it t.isTup sc pit && mT N (relS scope sc) (stOf scope) t ptg && t.slots.all (vs.contains ·) &&
        mOC c (relS scope sc) pifs && mE el (relS scope sc) pel)
    | _ => false
  | .dc vs ke ve t it c, sc, e => match e with
    | .DictComp pk pv [⟨ptg, pit, pifs, 0⟩] scope _ =>
      let own := vs.map fun i => (N.getD i "", i)
      blkC N sc scope own && mI it t.isTup sc pit && mT N (relS scope sc) (stOf scope) t ptg && t.slots.all (vs.contains ·) &&
        mOC c (relS scope sc) pifs && mE ke (relS scope sc) pk && mE ve (relS scope sc) pv
    | _ => false
  | .dnew, _, e => match e with
    | .Dict [] [] _ => true
    | _ => false
  | .dget a k d, sc, e => match e with
    | .Call (.Attribute pa n apos) [pb, pc] [] cpos => n == ("get" : Str) && baseOk pa && apos.endLine == cpos.line && mE a sc pa && mE k sc pb && mE d sc pc
    | _ => false
  | .setlen a, sc, e => match e with
    | .Call (.Name x _) [.Call (.Name y _) [pa] [] _] [] _ => x == ("len" : Str) && freeB Γ sc x && y == ("set" : Str) && freeB Γ sc y && mE a sc pa
    | _ => false
  | .srtset a, sc, e => match e with
    | .Call (.Name x _) [.Call (.Name y _) [pa] [] _] [] _ => x == ("sorted" : Str) && freeB Γ sc x && y == ("set" : Str) && freeB Γ sc y && mE a sc pa
    | _ => false
  | .dfl mx a d, sc, e => match e with
    | .Call (.Name x _) [pa] [⟨some k, pd, _⟩] _ => x == (if mx then "max" else "min" : Str) && freeB Γ sc x && k == ("default" : Str) && mE a sc pa && mE d sc pd
    | _ => false
  | .bits a, sc, e => match e with
    | .Call (.Attribute pa n apos) [] [] cpos => n == ("bit_length" : Str) && baseOk pa && apos.endLine == cpos.line && mE a sc pa
    | _ => false
  | .gcd a b, sc, e => match e with
    | .Call (.Name x _) [pa, pb] [] _ => x == ("gcd" : Str) && glB sc x && Γ.gc && mE a sc pa && mE b sc pb
    | _ => false
  | .ixof a b, sc, e => match e with
    | .Call (.Attribute pa n apos) [pb] [] cpos => n == ("index" : Str) && baseOk pa && apos.endLine == cpos.line && mE a sc pa && mE b sc pb
    | _ => false
  | .inrng a b c, sc, e => match e with
    | .Compare pa [.In] [.Call (.Name x _) [pb, pc] [] _] _ => x == ("range" : Str) && freeB Γ sc x && mE a sc pa && mE b sc pb && mE c sc pc
    | _ => false
  | .cntof a b, sc, e => match e with
    | .Call (.Attribute pa n apos) [pb] [] cpos => n == ("count" : Str) && baseOk pa && apos.endLine == cpos.line && mE a sc pa && mE b sc pb
    | _ => false
def mEs : Es → Scope → List Expr → Bool
  | .nil, _, ps => ps.isEmpty
  | .cons e es, sc, ps => match ps with
    | p :: ps => mE e sc p && mEs es sc ps
    | [] => false
def mO : OE → Scope → Option Expr → Bool
  | .no, _, p => p.isNone
  | .so e, sc, p => match p with
    | some p => mE e sc p
    | none => false
def mC : C → Scope → Expr → Bool
  | .ifc c a b, sc, p => match p with
    | .IfExp pc pa pb _ => plainT pa && plainT pb && mC c sc pc && mE a sc pa && mE b sc pb
    | _ => false
  | .val e, sc, p => plainT p && mE e sc p
  | .and cs, sc, e => match e with
    | .BoolOp .And ps _ => mCs cs sc ps
    | _ => false
  | .or cs, sc, e => match e with
    | .BoolOp .Or ps _ => mCs cs sc ps
    | _ => false
  | .not c, sc, e => match e with
    | .UnaryOp .Not p _ => mC c sc p
    | _ => false
  | .cmp op a b, sc, e => match e with
    | .Compare pa [pop] [pb] _ => decide (op = pop) && mE a sc pa && mE b sc pb
    | _ => false
  | .cmp2 op op' a b c, sc, e => match e with
    | .Compare pa [p1, p2] [pb, pc] _ => decide (op = p1) && decide (op' = p2) && mE a sc pa && mE b sc pb && mE c sc pc
    | _ => false
def mCs : Cs → Scope → List Expr → Bool
  | .nil, _, ps => ps.isEmpty
  | .cons c cs, sc, ps => match ps with
    | p :: ps => mC c sc p && mCs cs sc ps
    | [] => false
def mOC : OC → Scope → List Expr → Bool
  | .no, _, ps => ps.isEmpty
  | .so c, sc, ps => match ps with
    | [p] => mC c sc p
    | _ => false
def mI : I → Bool → Scope → Expr → Bool
  | .seq e, _, sc, p => mE e sc p
  | .rng1 a, _, sc, p => match p with
    | .Call (.Name x _) [pa] [] _ => x == ("range" : Str) && freeB Γ sc x && mE a sc pa
    | _ => false
  | .rng2 a b, _, sc, p => match p with
    | .Call (.Name x _) [pa, pb] [] _ => x == ("range" : Str) && freeB Γ sc x && mE a sc pa && mE b sc pb
    | _ => false
  | .rng3 a b c, _, sc, p => match p with
    | .Call (.Name x _) [pa, pb, pc] [] _ => x == ("range" : Str) && freeB Γ sc x && mE a sc pa && mE b sc pb && mE c sc pc
    | _ => false
  | .revr a, _, sc, p => match p with
    | .Call (.Name x _) [.Call (.Name y _) [pa] [] _] [] _ => x == ("reversed" : Str) && freeB Γ sc x && y == ("range" : Str) && freeB Γ sc y && mE a sc pa
    | _ => false
  | .rgv i, _, sc, p => match p with
    | .Name x _ => nmB N sc i x
    | _ => false
  | .enum e, tp, sc, p => match p with
    | .Call (.Name x _) [pa] [] _ => tp && x == ("enumerate" : Str) && freeB Γ sc x && mE e sc pa
    | _ => false
  | .zip a b, tp, sc, p => match p with
    | .Call (.Name x _) [pa, pb] [] _ => tp && x == ("zip" : Str) && freeB Γ sc x && mE a sc pa && mE b sc pb
    | _ => false
  | .zip3 a b c, tp, sc, p => match p with
    | .Call (.Name x _) [pa, pb, pc] [] _ => tp && x == ("zip" : Str) && freeB Γ sc x && mE a sc pa && mE b sc pb && mE c sc pc
    | _ => false
  | .rev _, _, _, _ => false
end
end
theorem ba {a b : Bool} (h : (a && b) = true) : a = true ∧ b = true := by simpa using h
theorem mE_head {Γ : Gm} {N : List Str} : ∀ {e : E} {sc : Scope} {p : Expr}, mE Γ N e sc p = true → headOk p = true := by
  intro e sc p h
  cases e with
  | never => unfold mE at h; cases p <;> first | rfl | cases h
  | frz a => unfold mE at h; exact (ba (ba h).2).1
  | _ => unfold mE at h; first | (split at h <;> first | rfl | cases h) | cases h
theorem starEach_of {e : Expr} {es : List Expr} {env : Env} (h : headOk e = true) : starEach (e :: es) env = (false, eval e env) :: starEach es env := by
  cases e <;> first | rfl | cases h
theorem mEs_star {Γ : Gm} {N : List Str} : ∀ {es : Es} {sc : Scope} {ps : List Expr}, mEs Γ N es sc ps = true → ∀ (pos : Pos) (env : Env), (backTo pos (starEach ps env)).any (·.1) = false
  | .nil, sc, ps, h, pos, env => by
    unfold mEs at h
    cases ps with
    | nil => rfl
    | cons => cases h
  | .cons e es, sc, ps, h, pos, env => by
    unfold mEs at h
    cases ps with
    | nil => cases h
    | cons p ps =>
      obtain ⟨h1, h2⟩ := ba h
      rw [starEach_of (mE_head h1)]
      show (false || (backTo pos (starEach ps env)).any (·.1)) = false
      rw [mEs_star h2 pos env] <;> rfl
theorem mark_of {op : CmpOp} {e : Expr} (h : headOk e = true) : behindInMarks op e = false := by
  cases e <;> first | rfl | cases h
theorem ix_of {e : Expr} (h : headOk e = true) : PlainIx e := by
  intro o i
  cases e <;> first | rfl | cases h
theorem fold_of {e : Expr} {env : Env} (h : headOk e = true) : ∀ x, foldedSetIterable e env x = pure x := by
  intro x
  cases e <;> first | rfl | cases h
end VI
namespace VI
open PySem PySem.Spec L2
section
variable {K : PySem.W.Frag} {F F1 F2 : FS} {H H1 H2 : Hp} {env env1 env2 : En} {σ σ1 σ2 : Slots}

theorem getset {i j : Nat} {s t : Sl} (h : (env.set i s)[j]? = some t) : (i = j ∧ t = s ∧ i < env.length) ∨ (i ≠ j ∧ env[j]? = some t) := by
  by_cases e : i = j
  · subst e
    by_cases hl : i < env.length
    · rw [List.getElem?_set_self hl] at h; cases h; exact .inl ⟨rfl, rfl, hl⟩
    · rw [List.getElem?_eq_none (by rw [List.length_set]; omega)] at h; cases h
  · rw [List.getElem?_set_ne e] at h
    exact .inr ⟨e, h⟩
theorem lt_of_get {i : Nat} {t : Sl} (h : env[i]? = some t) : i < env.length := (List.getElem?_eq_some_iff.mp h).1
theorem OwnAt.nea {d : D} {a c : Addr} (ho : OwnAt K F H d a) (f : F c) : c ≠ a := fun z => by subst z; exact ho.nF f
/-- a list held by a slot alone becomes a value that stays -/
theorem Pst.setFz (p : Pst K F H env σ F1 H1 env1 σ) {i : Nat} {d : D} {a : Addr} (e : env1[i]? = some (.ow false d)) (ea : σ[i]? = some (some (.ref a))) (ho : OwnAt K F1 H1 d a) :
    Pst K F H env σ (fun b => F1 b ∨ b = a) H1 (env1.set i (.fz d)) σ where
  st := ⟨fun c h => .inl (p.st.sub c h), p.st.agr, p.st.dom, fun c h1 h2 h3 => by
    obtain ⟨e1, e2⟩ := p.st.oth c h1 h2 h3
    refine ⟨e1, fun z => z.elim e2 fun z => ?_⟩
    subst z
    rcases p.own c ⟨i, _, d, e, rfl, ea⟩ with z | z
    · exact h3 z
    · exact h1 z⟩
  rel := {
    len := by rw [List.length_set]; exact p.rel.len
    fz := fun j d' h => by
      rcases getset h with ⟨rfl, h, _⟩ | ⟨_, h⟩
      · cases h; exact ⟨_, ea, ho.is⟩
      · obtain ⟨v, e1, e2⟩ := p.rel.fz j d' h
        exact ⟨v, e1, e2.mono (fun _ => .inl) fun _ _ => rfl⟩
    ow := fun j s d' h hs => by
      rcases getset h with ⟨rfl, h, _⟩ | ⟨hn, h⟩
      · cases h; cases hs
      · obtain ⟨b, e1, e2⟩ := p.rel.ow j s d' h hs
        refine ⟨b, e1, e2.mono (fun _ => .inl) (fun _ _ => rfl) rfl fun z => z.elim e2.nF fun z => ?_⟩
        subst z
        exact hn (p.rel.ne i j _ _ _ _ _ e rfl h hs ea e1)
    ne := fun j k s t d' e' c h hs h' ht q q' => by
      rcases getset h with ⟨rfl, h, _⟩ | ⟨hn, h⟩
      · cases h; cases hs
      · rcases getset h' with ⟨rfl, h', _⟩ | ⟨hn', h'⟩
        · cases h'; cases ht
        · exact p.rel.ne j k s t d' e' c h hs h' ht q q'
    fdm := fun c z => z.elim (p.rel.fdm c) fun z => z ▸ ho.some
    rg := fun j lo hi h => by
      rcases getset h with ⟨rfl, h, _⟩ | ⟨_, h⟩
      · cases h
      · obtain ⟨b, e1, e2, e3⟩ := p.rel.rg j lo hi h
        exact ⟨b, e1, .inl e2, e3⟩ }
  own := fun c ⟨j, s, d', h, hs, q⟩ => by
    rcases getset h with ⟨rfl, h, _⟩ | ⟨hn, h⟩
    · cases h; cases hs
    · exact p.own c ⟨j, s, d', h, hs, q⟩
  io := fun j d' h => by
    obtain ⟨⟨d2, h1⟩, h2⟩ := p.io j d' h
    have hn : i ≠ j := fun z => by subst z; rw [e] at h1; cases h1
    exact ⟨⟨d2, by rw [List.getElem?_set_ne hn]; exact h1⟩, h2⟩
  lk := fun j io d' h => by
    obtain ⟨h1, h2⟩ := p.lk j io d' h
    have hn : i ≠ j := fun z => by subst z; rw [e] at h1; cases h1
    exact ⟨by rw [List.getElem?_set_ne hn]; exact h1, h2⟩
/-- a list held by a slot alone is changed -/
theorem Pst.mut (p : Pst K F H env σ F1 H1 env1 σ) {i : Nat} {io : Bool} {d d' : D} {a : Addr} {o : HO} (e : env1[i]? = some (.ow io d)) (ea : σ[i]? = some (some (.ref a))) (ho : OwnAt K F1 H1 d a)
    (new : OwnAt K F1 (upd H1 a o) d' a) : Pst K F H env σ F1 (upd H1 a o) (env1.set i (.ow io d')) σ where
  st := ⟨p.st.sub, fun c h => by
      rw [upd_ne (ho.nea (p.st.sub c h))]
      exact p.st.agr c h, fun c h => by
      by_cases z : c = a
      · rw [z, upd_same]; simp
      · rw [upd_ne z]; exact p.st.dom c h, fun c h1 h2 h3 => by
    obtain ⟨e1, e2⟩ := p.st.oth c h1 h2 h3
    refine ⟨?_, e2⟩
    rw [upd_ne fun z => ?_]
    · exact e1
    subst z
    rcases p.own c ⟨i, _, d, e, rfl, ea⟩ with z | z
    · exact h3 z
    · exact h1 z⟩
  rel := {
    len := by rw [List.length_set]; exact p.rel.len
    fz := fun j d2 h => by
      rcases getset h with ⟨rfl, h, _⟩ | ⟨_, h⟩
      · cases h
      · obtain ⟨v, e1, e2⟩ := p.rel.fz j d2 h
        exact ⟨v, e1, e2.mono (fun _ h => h) fun c f => upd_ne (ho.nea f)⟩
    ow := fun j s d2 h hs => by
      rcases getset h with ⟨rfl, h, _⟩ | ⟨hn, h⟩
      · cases h; cases hs; exact ⟨a, ea, new⟩
      · obtain ⟨b, e1, e2⟩ := p.rel.ow j s d2 h hs
        have nb : b ≠ a := fun z => by
          subst z
          exact hn (p.rel.ne i j _ _ _ _ _ e rfl h hs ea e1)
        exact ⟨b, e1, e2.mono (fun _ h => h) (fun c f => upd_ne (ho.nea f)) (upd_ne nb) e2.nF⟩
    ne := fun j k s t d2 e2 c h hs h' ht q q' => by
      have bk : ∀ {j : Nat} {s : Sl} {d2 : D}, (env1.set i (.ow io d'))[j]? = some s → s.own = some d2 → ∃ s' d3, env1[j]? = some s' ∧ s'.own = some d3 := fun {j s d2} h hs => by
        rcases getset h with ⟨rfl, h, _⟩ | ⟨_, h⟩
        · exact ⟨_, d, e, rfl⟩
        · exact ⟨s, d2, h, hs⟩
      obtain ⟨s1, d3, h3, h4⟩ := bk h hs
      obtain ⟨s2, d4, h5, h6⟩ := bk h' ht
      exact p.rel.ne j k s1 s2 d3 d4 c h3 h4 h5 h6 q q'
    fdm := fun c f => by
      rw [upd_ne (ho.nea f)]
      exact p.rel.fdm c f
    rg := fun j lo hi h => by
      rcases getset h with ⟨rfl, h, _⟩ | ⟨_, h⟩
      · cases h
      · obtain ⟨b, e1, e2, e3⟩ := p.rel.rg j lo hi h
        exact ⟨b, e1, e2, (upd_ne (ho.nea e2)).trans e3⟩ }
  own := fun c ⟨j, s, d2, h, hs, q⟩ => by
    rcases getset h with ⟨rfl, h, _⟩ | ⟨hn, h⟩
    · exact p.own c ⟨i, _, d, e, rfl, q⟩
    · exact p.own c ⟨j, s, d2, h, hs, q⟩
  io := fun j d2 h => by
    obtain ⟨⟨d3, h1⟩, h2⟩ := p.io j d2 h
    by_cases hn : i = j
    · subst hn
      rw [e] at h1; cases h1
      exact ⟨⟨d', by rw [List.getElem?_set_self (lt_of_get e)]⟩, h2⟩
    · exact ⟨⟨d3, by rw [List.getElem?_set_ne hn]; exact h1⟩, h2⟩
  lk := fun j io' d2 h => by
    obtain ⟨h1, h2⟩ := p.lk j io' d2 h
    have hn : i ≠ j := fun z => by subst z; rw [e] at h1; cases h1
    exact ⟨by rw [List.getElem?_set_ne hn]; exact h1, h2⟩
/-- a pure operation behind -/
theorem Pst.nst (p : Pst K F H env σ F1 H1 env1 σ) (n : Nst F1 H1 F2 H2) : Pst K F H env σ F2 H2 env1 σ := p.trans (n.pst p.rel)
theorem ResOp.rel {r : Op} {v : V} (n : ResOp K H F1 H1 r v) : RelOp K F1 H1 σ r v := by
  cases r with
  | v d => exact n
  | nw d =>
    obtain ⟨a, e, o, _⟩ := n
    exact ⟨a, e, o⟩
  | p i => exact n.elim
/-- esc -/
theorem esc_ok (p : Pst K F H env σ F1 H1 env1 σ) {o : Op} {v : V} {d : D} (r : RelOp K F1 H1 σ o v) (hn : ∀ d, o = .nw d → ∀ a, v = .ref a → H a = none ∧ ¬ OA env1 σ a) (e : esc env1 o = some (d, env2)) :
    ∃ F2, Pst K F H env σ F2 H1 env2 σ ∧ Is K F2 H1 d v ∧ (∀ b, F1 b → F2 b) := by
  cases o with
  | v x =>
    simp only [esc, Option.some.injEq, Prod.mk.injEq] at e
    obtain ⟨rfl, rfl⟩ := e
    exact ⟨F1, p, r, fun _ h => h⟩
  | nw x =>
    simp only [esc, Option.some.injEq, Prod.mk.injEq] at e
    obtain ⟨rfl, rfl⟩ := e
    obtain ⟨a, rfl, ho⟩ := r
    obtain ⟨h1, h2⟩ := hn _ rfl a rfl
    exact ⟨_, p.freeze ho h1 h2, ho.is, fun _ => .inl⟩
  | p i =>
    have r : σ[i]? = some (some v) := r
    simp only [esc] at e
    split at e
    · rename_i q
      cases e
      obtain ⟨w, e1, e2⟩ := p.rel.fz i _ q
      rw [r] at e1; cases e1
      exact ⟨F1, p, e2, fun _ h => h⟩
    · rename_i q
      cases e
      obtain ⟨a, e1, e2⟩ := p.rel.ow i _ _ q rfl
      rw [r] at e1; cases e1
      exact ⟨_, p.setFz q r e2, e2.is, fun _ => .inl⟩
    · cases e
end

/-- what a call gives, by evaluation -/
def spOf (K : PySem.W.Frag) (cl : CallF) (f n : Nat) : Sp := fun vs H Q _ => vs.length = n ∧ ∃ F args r fin, cl f args = some (r, fin) ∧ RelE K F H args (vs.map some) ∧
  ∀ v F' H', Pst K F H args (vs.map some) F' H' fin (vs.map some) → RelOp K F' H' (vs.map some) r v → (∀ d, r = .nw d → ∀ a, v = .ref a → H a = none ∧ ¬ OA fin (vs.map some) a) → Q v H'
structure CalOk (X : Cx) (cl : CallF) (x : Str) (f : Nat) : Prop where
  ex : ∃ k a fd ps, FnOk X.prog X.w X.K X.mg X.base CX0 k a fd ps (spOf X.K cl f ps.length) ∧ Room k X.A ∧ X.mg x = some (.ref a) ∧ PySem.W.keepIn X.K (.ref a) = true ∧ Binds X.K fd ps [] ∧ ∀ args r fin, cl f args = some (r, fin) → args.length = ps.length
  np : ∀ args r fin, cl f args = some (r, fin) → (∀ i, r ≠ .p i)
/-- a class can be made -/
structure MkOk (X : Cx) (cl : CallF) (c : Cn) (f : Nat) : Prop where
  ex : ∃ k C a fd ps, FnOk X.prog X.w X.K X.mg X.base CX0 k a fd ps (spOf X.K cl f ps.length) ∧ Room (k + 1) X.A ∧ X.mg c.nm = some (.ref C) ∧ CA X.K c C ∧ Mk X.K C a ∧ Binds X.K fd ps [] ∧ ∀ args r fin, cl f args = some (r, fin) → args.length = ps.length
/-- a method -/
structure MeOk (X : Cx) (cl : CallF) (c : Cn) (m : Str) (f : Nat) : Prop where
  ex : ∃ k C a fd ps, FnOk X.prog X.w X.K X.mg X.base CX0 k a fd ps (spOf X.K cl f ps.length) ∧ Room k X.A ∧ CA X.K c C ∧ Meth X.K C m a ∧ Binds X.K fd ps [] ∧ ∀ args r fin, cl f args = some (r, fin) → args.length = ps.length
  np : ∀ args r fin, cl f args = some (r, fin) → (∀ i, r ≠ .p i)
structure Gd (Γ : Gm) (cl : CallF) (N : List Str) (sc : Scope) (X : Cx) : Prop where
  hN : X.N = N
  hsc : X.env.scope = sc
  nd : X.N.Nodup
  calm : X.calm = true
  xe : X.xe = fun _ _ => False
  hu : X.A.units + 100 < cLine
  fr : ∀ x, Γ.frees.contains x = true → X.mg x = none
  fn : ∀ x f, Γ.fns.contains (x, f) = true → CalOk X cl x f
  gc : Γ.gc = true → X.mg "gcd" = some (.builtin "math.gcd")
  cn : ∀ x d, Γ.cons.lookup x = some d → ∃ u v, X.mg x = some u ∧ RelV v u ∧ ∀ F H, Is X.K F H d v
  mak : ∀ c f, Γ.mks.contains (c, f) = true → MkOk X cl c f
  me : ∀ c m f, Γ.mes.contains ((c, m), f) = true → MeOk X cl c m f
def QE (K : PySem.W.Frag) (F : FS) (H : Hp) (env : En) (σ : Slots) (o : Op) (env' : En) (Q : VK) : Prop :=
  ∀ v F' H', Pst K F H env σ F' H' env' σ → RelOp K F' H' σ o v → (∀ d, o = .nw d → ∀ a, v = .ref a → H a = none ∧ ¬ OA env' σ a) → Q v H'
def SE (X : Cx) (p : Expr) (f : En → Option (Op × En)) : Prop :=
  ∀ env o env', f env = some (o, env') → ∀ σ F H Q, RelE X.K F H env σ → QE X.K F H env σ o env' Q → WE X p σ H Q
/-- .. where the value is no new list any more -/
def SB (X : Cx) (p : Expr) (f : En → Option (Op × En)) : Prop :=
  ∀ env o env', f env = some (o, env') → ∀ σ F H Q, RelE X.K F H env σ → (∀ v F' H', Pst X.K F H env σ F' H' env' σ → RelOp X.K F' H' σ o v → (∀ d, o ≠ .nw d) → Q v H') → WE X p σ H Q
def RelOps (K : PySem.W.Frag) (F : FS) (H : Hp) (σ : Slots) : List Op → List V → Prop
  | [], vs => vs = []
  | o :: os, vs => ∃ w ws, vs = w :: ws ∧ RelOp K F H σ o w ∧ (∀ d, o ≠ .nw d) ∧ RelOps K F H σ os ws
def SA (X : Cx) (ps : List Expr) (f : En → Option (List Op × En)) : Prop :=
  ∀ env os env', f env = some (os, env') → ∀ σ F H Q, RelE X.K F H env σ → (∀ vs F' H', Pst X.K F H env σ F' H' env' σ → RelOps X.K F' H' σ os vs → Q vs H') → WA X ps σ H Q
def SD (X : Cx) (ps : List Expr) (f : En → Option (List D × En)) : Prop :=
  ∀ env ds env', f env = some (ds, env') → ∀ σ F H Q, RelE X.K F H env σ → (∀ vs F' H', Pst X.K F H env σ F' H' env' σ → IsL X.K F' H' ds vs → Q vs H') → WA X ps σ H Q
def SO (X : Cx) (p : Option Expr) (f : En → Option (Option Int × En)) : Prop :=
  ∀ env o env', f env = some (o, env') → ∀ σ F H Q, RelE X.K F H env σ → (∀ F' H', Pst X.K F H env σ F' H' env' σ → Q o H') → WO X p σ H Q
def SC (X : Cx) (p : Expr) (f : En → Option (Bool × En)) : Prop :=
  ∀ env b env', f env = some (b, env') → ∀ σ F H Q, RelE X.K F H env σ → (∀ F' H', Pst X.K F H env σ F' H' env' σ → Q b H') → WT X p σ H Q
def SCw (X : Cx) (p : Expr) (f : En → Option (Bool × En)) : Prop :=
  ∀ env b env', f env = some (b, env') → ∀ σ F H Q, RelE X.K F H env σ → (∀ F' H', Pst X.K F H env σ F' H' env' σ → Q b H') → WW X p σ H Q
theorem SE.b {X : Cx} {p : Expr} {f g : En → Option (Op × En)} (h : SE X p f) (hg : ∀ env, g env = (f env).bind fun z => some (z.1.frz, z.2)) : SB X p g := by
  intro env o env' e σ F H Q r q
  rw [hg] at e
  obtain ⟨⟨o1, env1⟩, e1, e2⟩ := Option.bind_eq_some_iff.mp e
  simp only [Option.some.injEq, Prod.mk.injEq] at e2
  obtain ⟨rfl, rfl⟩ := e2
  refine h env o1 env1 e1 σ F H Q r fun v F' H' p' r' hn => ?_
  cases o1 with
  | v d => exact q v F' H' p' r' (frz_ne _)
  | p i => exact q v F' H' p' r' (frz_ne _)
  | nw d =>
    obtain ⟨a, rfl, ho⟩ := r'
    obtain ⟨h1, h2⟩ := hn _ rfl a rfl
    exact q _ _ H' (p'.freeze ho h1 h2) ho.is (frz_ne _)
end VI
namespace VI
open PySem PySem.Spec L2
section
variable {X : Cx} {F : FS} {H : Hp} {env env1 env2 : En} {σ : Slots}

theorem res_fresh {K : PySem.W.Frag} {F2 F3 : FS} {H2 H3 : Hp} {r : Op} {v : V} (p : Pst K F H env σ F2 H2 env2 σ) (n : ResOp K H2 F3 H3 r v) : ∀ d, r = .nw d → ∀ a, v = .ref a → H a = none ∧ ¬ OA env2 σ a := by
  intro d e a ea
  subst e ea
  obtain ⟨b, eb, ho, hn⟩ := n
  cases eb
  refine ⟨?_, fun z => (p.rel.oa_some z).1 hn⟩
  cases q : H a with
  | none => rfl
  | some o => exact absurd hn (p.st.dom a (by rw [q]; simp))
theorem fol_q {F2 : FS} {H2 : Hp} {r : Op} {Q : VK} (p : Pst X.K F H env σ F2 H2 env2 σ) (q : QE X.K F H env σ r env2 Q) : Fol X.K F2 H2 r Q :=
  fun v F' H' n res => q v F' H' (p.nst n) res.rel (res_fresh p res)
theorem two_ops {pa pb : Expr} {fa fb : En → Option (Op × En)} (ha : SB X pa fa) (hb : SB X pb fb) {x y : Op} (h1 : fa env = some (x, env1)) (h2 : fb env1 = some (y, env2)) (r : RelE X.K F H env σ) {R : V → V → Hp → Prop}
    (k : ∀ v w F2 H2, Pst X.K F H env σ F2 H2 env2 σ → RelOp X.K F2 H2 σ x v → RelOp X.K F2 H2 σ y w → (∀ d, x ≠ .nw d) → (∀ d, y ≠ .nw d) → R v w H2) : WE X pa σ H fun v H1 => WE X pb σ H1 fun w H2 => R v w H2 :=
  ha env x env1 h1 σ F H _ r fun v F1 H1 p1 r1 n1 => hb env1 y env2 h2 σ F1 H1 _ p1.rel fun w F2 H2 p2 r2 n2 => k v w F2 H2 (p1.trans p2) (r1.stay n1 p2.st) r2 n1 n2

theorem s_bin {op : Operator} {a b : Expr} {pos : Pos} {fa fb f : En → Option (Op × En)} (ha : SB X a fa) (hb : SB X b fb)
    (hf : ∀ env o env', f env = some (o, env') → ∃ x env1 y, fa env = some (x, env1) ∧ fb env1 = some (y, env') ∧ ∃ dx dy, rd env' x = some dx ∧ rd env' y = some dy ∧ binS op dx dy = some o) : SE X (.BinOp a op b pos) f := by
  intro env o env' e σ F H Q r q
  obtain ⟨x, env1, y, h1, h2, dx, dy, h3, h4, h5⟩ := hf env o env' e
  exact WE.of (pe_op (opB _) (pE X a) (pE X b)) (two_ops ha hb h1 h2 r fun v w F2 H2 p r1 r2 _ _ => binS_ok p.rel.fdm h5 (rd_has p.rel r1 h3) (rd_has p.rel r2 h4) (fol_q p q))
theorem s_cmp {op : CmpOp} {a b : Expr} {pos : Pos} {fa fb : En → Option (Op × En)} (hu : X.A.units + 65 < cLine) (hm : headOk b = true) (ha : SB X a fa) (hb : SB X b fb) {x y : Op} {dx dy : D} {k : Bool}
    (h1 : fa env = some (x, env1)) (h2 : fb env1 = some (y, env2)) (h3 : rd env2 x = some dx) (h4 : rd env2 y = some dy) (h5 : cmpS op dx dy = some k) (r : RelE X.K F H env σ) {Q : VK}
    (q : ∀ F' H', Pst X.K F H env σ F' H' env2 σ → Q (.bl k) H') : WE X (.Compare a [op] [b] pos) σ H Q :=
  WE.of (pe_cmpR (opB _) (pE X a) (pE X b) (mark_of hm)) (two_ops ha hb h1 h2 r fun v w F2 H2 p r1 r2 _ _ => cmpS_ok hu h5 (rd_has p.rel r1 h3) (rd_has p.rel r2 h4) (q F2 H2 p))
theorem s_cmpT {op : CmpOp} {a b : Expr} {pos : Pos} {fa fb : En → Option (Op × En)} (hu : X.A.units + 65 < cLine) (hm : headOk b = true) (ha : SB X a fa) (hb : SB X b fb) {x y : Op} {dx dy : D} {k : Bool}
    (h1 : fa env = some (x, env1)) (h2 : fb env1 = some (y, env2)) (h3 : rd env2 x = some dx) (h4 : rd env2 y = some dy) (h5 : cmpS op dx dy = some k) (r : RelE X.K F H env σ) {Q : Bool → Hp → Prop}
    (q : ∀ F' H', Pst X.K F H env σ F' H' env2 σ → Q k H') : WT X (.Compare a [op] [b] pos) σ H Q :=
  WT.of (pt_cmpR (opB _) (pE X a) (pE X b) (mark_of hm)) (two_ops ha hb h1 h2 r fun v w F2 H2 p r1 r2 _ _ => cmpS_ok hu h5 (rd_has p.rel r1 h3) (rd_has p.rel r2 h4) ⟨k, rfl, q F2 H2 p⟩)
/-- a chain of two comparisons -/
theorem s_chain {op op' : CmpOp} {a b c : Expr} {fa fb fc : En → Option (Op × En)} (hu : X.A.units + 65 < cLine) (ha : SB X a fa) (hb : SB X b fb) (hc : SB X c fc) {x y : Op} {dx dy : D} {k k' : Bool} {env3 : En}
    (h1 : fa env = some (x, env1)) (h2 : fb env1 = some (y, env2)) (h3 : rd env2 x = some dx) (h4 : rd env2 y = some dy) (h5 : cmpS op dx dy = some k)
    (h6 : (k = true ∧ ∃ z dy' dz, fc env2 = some (z, env3) ∧ rd env3 y = some dy' ∧ rd env3 z = some dz ∧ cmpS op' dy' dz = some k') ∨ (k = false ∧ k' = false ∧ env3 = env2)) (r : RelE X.K F H env σ) {Q : VK}
    (q : ∀ F' H', Pst X.K F H env σ F' H' env3 σ → Q (.bl k') H') : tChain (rB X (compareOp op)) (rB X (compareOp op')) (WE X a) (WE X b) (WE X c) σ H Q := by
  refine two_ops ha hb h1 h2 r fun v w F2 H2 p r1 r2 n1 n2 => cmpS_ok hu h5 (rd_has p.rel r1 h3) (rd_has p.rel r2 h4) ⟨k, rfl, ?_⟩
  rcases h6 with ⟨rfl, z, dy', dz, h7, h8, h9, h10⟩ | ⟨rfl, rfl, rfl⟩
  · refine iteT (hc env2 z env3 h7 σ F2 H2 _ p.rel fun u F3 H3 p3 r3 n3 => cmpS_ok hu h10 (rd_has p3.rel (r2.stay n2 p3.st) h8) (rd_has p3.rel r3 h9) (q F3 H3 (p.trans p3)))
  · exact iteF (q F2 H2 p)
theorem s_un {op : UnaryOp} {a : Expr} {pos : Pos} {fa f : En → Option (Op × En)} (hn : op ≠ .Not) (ha : SB X a fa)
    (hf : ∀ env o env', f env = some (o, env') → ∃ x, fa env = some (x, env') ∧ ∃ dx d, rd env' x = some dx ∧ unS op dx = some d ∧ o = .v d) : SE X (.UnaryOp op a pos) f := by
  intro env o env' e σ F H Q r q
  obtain ⟨x, h1, dx, d, h2, h3, rfl⟩ := hf env o env' e
  exact WE.of (pe_un (unB _) (pE X a)) (ha env x env' h1 σ F H _ r fun v F1 H1 p1 r1 n1 => unS_ok hn h3 (rd_has p1.rel r1 h2) (fol_q p1 q))
theorem s_notv {a : Expr} {pos : Pos} {fa f : En → Option (Op × En)} (ha : SB X a fa)
    (hf : ∀ env o env', f env = some (o, env') → ∃ x, fa env = some (x, env') ∧ ∃ dx d, rd env' x = some dx ∧ unS .Not dx = some d ∧ o = .v d) : SE X (.UnaryOp .Not a pos) f := by
  intro env o env' e σ F H Q r q
  obtain ⟨x, h1, dx, d, h2, h3, rfl⟩ := hf env o env' e
  refine WE.of (pe_not (pE X a)) (ha env x env' h1 σ F H _ r fun v F1 H1 p1 r1 n1 => ?_)
  unfold unS at h3
  split at h3
  · rename_i hh; cases hh
  · rename_i hh; cases hh
  · cases h3
    have e1 := (rd_has p1.rel r1 h2).bl
    subst e1
    exact ⟨_, rfl, q _ F1 H1 p1 (by simp [RelOp, Is]) fun d ed => by cases ed⟩
  · cases h3
theorem s_idx {a b : Expr} {pos : Pos} {fa fb f : En → Option (Op × En)} (hu : X.A.units + 1 < cLine) (hm : headOk b = true) (ha : SB X a fa) (hb : SB X b fb)
    (hf : ∀ env o env', f env = some (o, env') → ∃ x env1 y, fa env = some (x, env1) ∧ fb env1 = some (y, env') ∧ ∃ dx dy d, rd env' x = some dx ∧ rd env' y = some dy ∧ idxS dx dy = some d ∧ o = .v d) : SE X (.Subscript a b pos) f := by
  intro env o env' e σ F H Q r q
  obtain ⟨x, env1, y, h1, h2, dx, dy, d, h3, h4, h5, rfl⟩ := hf env o env' e
  exact WE.of (pe_ix (ix_all hu) (pE X a) (pE X b) (ix_of hm)) (two_ops ha hb h1 h2 r fun v w F2 H2 p r1 r2 _ _ => idxS_ok h5 (rd_has p.rel r1 h3) (rd_has p.rel r2 h4) (fol_q p q))
theorem s_sli {a : Expr} {lo hi : Option Expr} {p2 pos : Pos} {fa f : En → Option (Op × En)} {fl fh : En → Option (Option Int × En)} (ha : SB X a fa) (hl : SO X lo fl) (hh : SO X hi fh)
    (hf : ∀ env o env', f env = some (o, env') → ∃ x env1 l env2 u, fa env = some (x, env1) ∧ fl env1 = some (l, env2) ∧ fh env2 = some (u, env') ∧ ∃ dx, rd env' x = some dx ∧ slS dx l u = some o) : SE X (.Subscript a (.Slice lo hi none p2) pos) f := by
  intro env o env' e σ F H Q r q
  obtain ⟨x, env1, l, env2, u, h1, h2, h3, dx, h4, h5⟩ := hf env o env' e
  refine WE.of (pe_slice sl_any (pE X a) (pO X lo) (pO X hi)) ?_
  refine ha env x env1 h1 σ F H _ r fun v F1 H1 p1 r1 n1 => ?_
  refine hl env1 l env2 h2 σ F1 H1 _ p1.rel fun F2 H2 p2 => ?_
  refine hh env2 u env' h3 σ F2 H2 _ p2.rel fun F3 H3 p3 => ?_
  exact slS_ok p3.rel.fdm h5 (rd_has p3.rel ((r1.stay n1 p2.st).stay n1 p3.st) h4) (fol_q ((p1.trans p2).trans p3) q)
theorem s_ifx {c a b : Expr} {pos : Pos} {fc : En → Option (Bool × En)} {fa fb f : En → Option (Op × En)} (hc : SC X c fc) (ha : SE X a fa) (hb : SE X b fb)
    (hf : ∀ env o env', f env = some (o, env') → ∃ k env1, fc env = some (k, env1) ∧ (if k = true then fa env1 else fb env1) = some (o, env')) : SE X (.IfExp c a b pos) f := by
  intro env o env' e σ F H Q r q
  obtain ⟨k, env1, h1, h2⟩ := hf env o env' e
  have fr : ∀ {F1 H1} (p1 : Pst X.K F H env σ F1 H1 env1 σ), QE X.K F1 H1 env1 σ o env' Q := fun {F1 H1} p1 v F2 H2 p2 r2 n2 => q v F2 H2 (p1.trans p2) r2 fun d ed a ea => by
    obtain ⟨z1, z2⟩ := n2 d ed a ea
    refine ⟨?_, z2⟩
    cases q' : H a with
    | none => rfl
    | some o' => exact absurd z1 (p1.st.dom a (by rw [q']; simp))
  refine WE.of (pe_ifExp (pT X c) (pE X a) (pE X b)) (hc env k env1 h1 σ F H _ r fun F1 H1 p1 => ?_)
  cases k with
  | true => exact iteT (ha env1 o env' h2 σ F1 H1 Q p1.rel (fr p1))
  | false => exact iteF (hb env1 o env' h2 σ F1 H1 Q p1.rel (fr p1))
theorem s_tup {ps : List Expr} {x1 : Nat} {pos : Pos} {fd : En → Option (List D × En)} {f : En → Option (Op × En)} (hd : SD X ps fd)
    (hf : ∀ env o env', f env = some (o, env') → ∃ ds, fd env = some (ds, env') ∧ ds.length ≤ sizeLine ∧ o = .v (.tup ds)) : SE X (.Tuple ps x1 pos) f := by
  intro env o env' e σ F H Q r q
  obtain ⟨ds, h1, h2, rfl⟩ := hf env o env' e
  refine WE.of (VIU.pe_tupP (pA X ps)) (hd env ds env' h1 σ F H _ r fun vs F1 H1 p1 i1 => ⟨by rw [← i1.length]; exact h2, (fol_q p1 q).newT p1.rel.fdm i1⟩)
theorem s_lst {ps : List Expr} {pos : Pos} {fd : En → Option (List D × En)} {f : En → Option (Op × En)} (hd : SD X ps fd)
    (hf : ∀ env o env', f env = some (o, env') → ∃ ds, fd env = some (ds, env') ∧ ds.length ≤ sizeLine ∧ o = .nw (.lst ds)) : SE X (.List ps pos) f := by
  intro env o env' e σ F H Q r q
  obtain ⟨ds, h1, h2, rfl⟩ := hf env o env' e
  refine WE.of (pe_lst (pA X ps)) (hd env ds env' h1 σ F H _ r fun vs F1 H1 p1 i1 => ⟨by rw [← i1.length]; exact h2, fun p hp => (fol_q p1 q).newL p1.rel.fdm i1 hp⟩)
theorem RelOps.stay {K : PySem.W.Frag} {F1 F2 : FS} {H1 H2 : Hp} {oa : En} : ∀ {os : List Op} {vs : List V}, RelOps K F1 H1 σ os vs → Ste F1 H1 (OA oa σ) F2 H2 → RelOps K F2 H2 σ os vs
  | [], _, h, _ => h
  | o :: os, _, h, p => by
    obtain ⟨w, ws, rfl, h1, h2, h3⟩ := h
    exact ⟨w, ws, rfl, h1.stay h2 p, h2, RelOps.stay h3 p⟩
theorem rds_has {K : PySem.W.Frag} (r : RelE K F H env σ) : ∀ {os : List Op} {vs : List V} {ds : List D}, RelOps K F H σ os vs → rds env os = some ds → HasL K F H ds vs
  | [], _, _, h, e => by simp only [rds, Option.some.injEq] at e; subst e; exact h
  | o :: os, _, _, h, e => by
    obtain ⟨w, ws, rfl, h1, h2, h3⟩ := h
    simp only [rds, Option.bind_eq_some_iff, Option.map_eq_some_iff] at e
    obtain ⟨d, e1, ds, e2, rfl⟩ := e
    exact ⟨w, ws, rfl, rd_has r h1 e1, rds_has r h3 e2⟩
theorem sa_nil {f : En → Option (List Op × En)} (hf : ∀ env, f env = some ([], env)) : SA X [] f := by
  intro env os env' e σ F H Q r q
  rw [hf] at e
  cases e
  exact WA.of pa_nil (q [] F H (.refl r) rfl)
theorem sa_cons {p : Expr} {ps : List Expr} {fb : En → Option (Op × En)} {fs f : En → Option (List Op × En)} (hm : headOk p = true) (hb : SB X p fb) (hs : SA X ps fs)
    (hf : ∀ env os env', f env = some (os, env') → ∃ o env1 os', fb env = some (o, env1) ∧ fs env1 = some (os', env') ∧ os = o :: os') : SA X (p :: ps) f := by
  intro env os env' e σ F H Q r q
  obtain ⟨o, env1, os', h1, h2, rfl⟩ := hf env os env' e
  refine WA.of (pa_cons (pE X p) (pA X ps) (starEach_of hm)) (hb env o env1 h1 σ F H _ r fun v F1 H1 p1 r1 n1 => hs env1 os' env' h2 σ F1 H1 _ p1.rel fun vs F2 H2 p2 r2 => ?_)
  exact q _ F2 H2 (p1.trans p2) ⟨v, vs, rfl, r1.stay n1 p2.st, n1, r2⟩
theorem sd_nil {f : En → Option (List D × En)} (hf : ∀ env, f env = some ([], env)) : SD X [] f := by
  intro env os env' e σ F H Q r q
  rw [hf] at e
  cases e
  exact WA.of pa_nil (q [] F H (.refl r) IsL.nil)
theorem sd_cons {p : Expr} {ps : List Expr} {fe : En → Option (Op × En)} {fs f : En → Option (List D × En)} (hm : headOk p = true) (he : SE X p fe) (hs : SD X ps fs)
    (hf : ∀ env ds env', f env = some (ds, env') → ∃ o env1 d env2 ds', fe env = some (o, env1) ∧ esc env1 o = some (d, env2) ∧ fs env2 = some (ds', env') ∧ ds = d :: ds') : SD X (p :: ps) f := by
  intro env os env' e σ F H Q r q
  obtain ⟨o, env1, d, env2, ds', h1, h2, h3, rfl⟩ := hf env os env' e
  refine WA.of (pa_cons (pE X p) (pA X ps) (starEach_of hm)) (he env o env1 h1 σ F H _ r fun v F1 H1 p1 r1 n1 => ?_)
  obtain ⟨F2, p2, i2, _⟩ := esc_ok p1 r1 n1 h2
  exact hs env2 ds' env' h3 σ F2 H1 _ p2.rel fun vs F3 H3 p3 i3 => q _ F3 H3 (p2.trans p3) (IsL.cons (i2.mono p3.st.sub p3.st.agr) i3)
theorem so_none {f : En → Option (Option Int × En)} (hf : ∀ env, f env = some (none, env)) : SO X none f := by
  intro env o env' e σ F H Q r q
  rw [hf] at e
  cases e
  exact WO.of po_none (q F H (.refl r))
theorem so_some {p : Expr} {fb : En → Option (Op × En)} {f : En → Option (Option Int × En)} (hb : SB X p fb)
    (hf : ∀ env o env', f env = some (o, env') → ∃ x i, fb env = some (x, env') ∧ rd env' x = some (.int i) ∧ o = some i) : SO X (some p) f := by
  intro env o env' e σ F H Q r q
  obtain ⟨x, i, h1, h2, rfl⟩ := hf env o env' e
  exact WO.of (po_some (pE X p)) (hb env x env' h1 σ F H _ r fun v F1 H1 p1 r1 n1 => ⟨i, (rd_has p1.rel r1 h2).int, q F1 H1 p1⟩)
theorem s_blt {Γ : Gm} {cl : CallF} {N : List Str} {sc : Scope} (g : Gd Γ cl N sc X) {b : Bf} {p : Expr} {ps : List Expr} {x : Str} {pp pos : Pos} {fs : En → Option (List Op × En)} {f : En → Option (Op × En)} (hx : x = b.nm) (hg : freeB Γ sc x = true)
    (hs : SA X (p :: ps) fs) (he : starEach (p :: ps) X.env = (false, eval p X.env) :: starEach ps X.env) (hpl : (backTo pos (starEach ps X.env)).any (·.1) = false)
    (hf : ∀ env o env', f env = some (o, env') → ∃ os ds, fs env = some (os, env') ∧ rds env' os = some ds ∧ bltS b ds = some o) : SE X (.Call (.Name x pp) (p :: ps) [] pos) f := by
  intro env o env' e σ F H Q r q
  obtain ⟨os, ds, h1, h2, h3⟩ := hf env o env' e
  have body : (tCB (rC X b.val) (WA X (p :: ps))) σ H Q := hs env os env' h1 σ F H _ r fun vs F1 H1 p1 r1 => bltS_ok g.calm (by have := g.hu; omega) p1.rel.fdm h3 (rds_has p1.rel r1 h2) (fol_q p1 q)
  obtain ⟨g1, g2⟩ := ba hg
  obtain ⟨g1, g3⟩ := ba g1
  obtain ⟨g1, g4⟩ := ba g1
  have G : Gl X x := by
    show X.env.scope.names.lookup x = some .globalImplicit
    rw [g.hsc]; simpa using g1
  have M : X.mg x = none := g.fr x g2
  have hdb : (x == ("__debug__" : Str)) = false := by simpa using g4
  have hn : x ≠ "__name__" := by simpa using g3
  have bt : ∀ {id : String}, b.val = .builtin id → bootBuiltins x = some (.builtin id) → WE X (.Call (.Name x pp) (p :: ps) [] pos) σ H Q := fun {id} e1 e2 => by
    rw [e1] at body
    exact WE.of (pe_callB (callB _) G M e2 (pA X (p :: ps)) hn hdb he hpl) body
  have ty : ∀ {id : String}, b.val = .type id → bootBuiltins x = some (.type id) → WE X (.Call (.Name x pp) (p :: ps) [] pos) σ H Q := fun {id} e1 e2 => by
    rw [e1] at body
    exact WE.of (pe_callTy (callB _) G M e2 (pA X (p :: ps)) hn hdb he hpl) body
  subst hx
  cases b
  · exact bt rfl (by decide +kernel)
  · exact ty rfl (by decide +kernel)
  · exact bt rfl (by decide +kernel)
  · exact ty rfl (by decide +kernel)
  · exact ty rfl (by decide +kernel)
  · exact bt rfl (by decide +kernel)
  · exact bt rfl (by decide +kernel)
  · exact bt rfl (by decide +kernel)
  · exact bt rfl (by decide +kernel)
  · exact bt rfl (by decide +kernel)
  · exact bt rfl (by decide +kernel)
  · exact ty rfl (by decide +kernel)
  · exact ty rfl (by decide +kernel)
  · exact bt rfl (by decide +kernel)
end
end VI
namespace VI
open PySem PySem.Spec L2
section
variable {K : PySem.W.Frag} {F F1 F2 : FS} {H H1 H2 : Hp} {env env1 env2 : En} {σ σ1 σ2 : Slots}

/-- the slots' relation but for the lists at L, which a callee has -/
structure RelX (K : PySem.W.Frag) (F : FS) (H : Hp) (env : En) (σ : Slots) (L : List Nat) : Prop where
  len : env.length = σ.length
  fz : ∀ (i : Nat) (d : D), env[i]? = some (.fz d) → ∃ v, σ[i]? = some (some v) ∧ Is K F H d v
  adr : ∀ (i : Nat) (s : Sl) (d : D), env[i]? = some s → s.own = some d → ∃ a : Addr, σ[i]? = some (some (.ref a))
  ow : ∀ (i : Nat) (s : Sl) (d : D) (a : Addr), env[i]? = some s → s.own = some d → i ∉ L → σ[i]? = some (some (.ref a)) → OwnAt K F H d a
  ne : ∀ (i j : Nat) (s t : Sl) (d e : D) (a : Addr), env[i]? = some s → s.own = some d → env[j]? = some t → t.own = some e → σ[i]? = some (some (.ref a)) → σ[j]? = some (some (.ref a)) → i = j
  fdm : ∀ a, F a → H a ≠ none
  rg : ∀ (i : Nat) (lo hi : Int), env[i]? = some (.rg lo hi) → ∃ a : Addr, σ[i]? = some (some (.ref a)) ∧ F a ∧ H a = some (.rng lo hi)
theorem RelX.rel (r : RelX K F H env σ []) : RelE K F H env σ := ⟨r.len, r.fz, fun i s d e h => let ⟨a, ea⟩ := r.adr i s d e h; ⟨a, ea, r.ow i s d a e h (by simp) ea⟩, r.ne, r.fdm, r.rg⟩

/-- the same slots hold lists; those that are no lists are the same -/
structure Kin (env env' : En) : Prop where
  len : env'.length = env.length
  at_ : ∀ i : Nat, env'[i]? = env[i]? ∨ ∃ io d d', env[i]? = some (.ow io d) ∧ env'[i]? = some (.ow io d')
theorem Kin.refl : Kin env env := ⟨rfl, fun _ => .inl rfl⟩
theorem Kin.trans (a : Kin env env1) (b : Kin env1 env2) : Kin env env2 := ⟨b.len.trans a.len, fun i => by
  rcases b.at_ i with h | ⟨io, d, d', h1, h2⟩
  · rw [h]; exact a.at_ i
  · rcases a.at_ i with h | ⟨io', e, e', h3, h4⟩
    · exact .inr ⟨io, d, d', by rw [← h]; exact h1, h2⟩
    · rw [h1] at h4; cases h4; exact .inr ⟨io, e, d', h3, h2⟩⟩
theorem Kin.set {i : Nat} {io d d'} (h : env[i]? = some (.ow io d)) : Kin env (env.set i (.ow io d')) := ⟨by rw [List.length_set], fun j => by
  by_cases e : i = j
  · subst e
    exact .inr ⟨io, d, d', h, List.getElem?_set_self (lt_of_get h)⟩
  · exact .inl (List.getElem?_set_ne e)⟩
theorem Kin.own (k : Kin env env1) {i : Nat} {s : Sl} {d : D} (h : env1[i]? = some s) (hs : s.own = some d) : ∃ s' d', env[i]? = some s' ∧ s'.own = some d' := by
  rcases k.at_ i with e | ⟨io, d1, d2, e1, e2⟩
  · exact ⟨s, d, by rw [← e]; exact h, hs⟩
  · exact ⟨_, d1, e1, rfl⟩
/-- which slots are lent does not hang on what the lists hold -/
theorem Kin.lent (k : Kin env env1) : ∀ os : List Op, lent env1 os = lent env os
  | [] => rfl
  | o :: os => by
    cases o with
    | v d => exact Kin.lent k os
    | nw d => exact Kin.lent k os
    | p i =>
      simp only [VI.lent]
      rw [Kin.lent k os]
      rcases k.at_ i with e | ⟨io, d, d', e1, e2⟩
      · rw [e]
      · rw [e1, e2]
/-- what a callee leaves of its arguments -/
inductive Lft (K : PySem.W.Frag) (F : FS) (H : Hp) : List Sl → List Sl → List V → Prop where
  | nil : Lft K F H [] [] []
  | fz {d s args fin v vs} : Lft K F H args fin vs → Lft K F H (.fz d :: args) (s :: fin) (v :: vs)
  | ow {d d' args fin a vs} : OwnAt K F H d' a → Lft K F H args fin vs → Lft K F H (.ow true d :: args) (.ow true d' :: fin) (.ref a :: vs)
  | lk {d args fin a vs} : OwnAt K F H d a → Lft K F H args fin vs → Lft K F H (.lk true d :: args) (.lk true d :: fin) (.ref a :: vs)
theorem toArg_cases {o : Op} {s : Sl} (h : toArg env o = some s) (hn : ∀ d, o ≠ .nw d) :
    (∃ d, s = .fz d ∧ lent env [o] = [] ∧ rd env o = some d) ∨ (∃ i io d, o = .p i ∧ env[i]? = some (.ow io d) ∧ s = .ow true d) ∨ (∃ i io d, o = .p i ∧ env[i]? = some (.lk io d) ∧ s = .lk true d) := by
  cases o with
  | v d => simp only [toArg, Option.some.injEq] at h; exact .inl ⟨d, h.symm, rfl, rfl⟩
  | nw d => exact absurd rfl (hn d)
  | p i =>
    simp only [toArg] at h
    split at h
    · rename_i q; cases h; exact .inl ⟨_, rfl, by simp only [lent, q], by simp only [rd, q]⟩
    · rename_i q; cases h; exact .inr (.inl ⟨i, _, _, rfl, q, rfl⟩)
    · rename_i q; cases h; exact .inr (.inr ⟨i, _, _, rfl, q, rfl⟩)
    · cases h
theorem lent_cons (o : Op) (os : List Op) : lent env (o :: os) = lent env [o] ++ lent env os := by
  cases o with
  | v d => rfl
  | nw d => rfl
  | p i =>
    simp only [lent]
    split <;> rfl
theorem Lft.of (r : RelE K F H env σ) : ∀ {os : List Op} {args : List Sl} {vs : List V} {fin : List Sl}, toArgs env os = some args → RelOps K F H σ os vs →
    args.length = fin.length → (∀ (i : Nat) (d : D), args[i]? = some (.ow true d) → ∃ d' a, fin[i]? = some (.ow true d') ∧ vs[i]? = some (.ref a) ∧ OwnAt K F1 H1 d' a) →
    (∀ (i : Nat) (d : D), args[i]? = some (.lk true d) → ∃ a, fin[i]? = some (.lk true d) ∧ vs[i]? = some (.ref a) ∧ OwnAt K F1 H1 d a) → Lft K F1 H1 args fin vs
  | [], args, vs, fin, e, h, hl, _, _ => by
    simp only [toArgs, Option.some.injEq] at e
    subst e
    cases (show vs = [] from h)
    cases fin with
    | nil => exact .nil
    | cons => cases hl
  | o :: os, args, vs, fin, e, h, hl, h1, h2 => by
    obtain ⟨w, ws, rfl, g1, g2, g3⟩ := h
    simp only [toArgs, Option.bind_eq_some_iff, Option.map_eq_some_iff] at e
    obtain ⟨s, e1, args', e2, rfl⟩ := e
    cases fin with
    | nil => cases hl
    | cons t fin =>
      have rest : Lft K F1 H1 args' fin ws := Lft.of r e2 g3 (by simpa using hl) (fun i d h => by simpa using h1 (i + 1) d (by simpa using h)) (fun i d h => by simpa using h2 (i + 1) d (by simpa using h))
      rcases toArg_cases e1 g2 with ⟨d, rfl, _⟩ | ⟨i, io, d, rfl, q, rfl⟩ | ⟨i, io, d, rfl, q, rfl⟩
      · exact .fz rest
      · obtain ⟨d', a, k1, k2, k3⟩ := h1 0 d rfl
        simp at k1 k2
        subst k1 k2
        exact .ow k3 rest
      · obtain ⟨a, k1, k2, k3⟩ := h2 0 d rfl
        simp at k1 k2
        subst k1 k2
        exact .lk k3 rest
theorem back_ok : ∀ {os : List Op} {args fin : List Sl} {vs : List V} {env : En}, toArgs env os = some args → (lent env os).Nodup → RelX K F H env σ (lent env os) →
    RelOps K F2 H2 σ os vs → Lft K F H args fin vs → RelX K F H (backArgs env os fin) σ [] ∧ Kin env (backArgs env os fin)
  | [], args, fin, vs, env, e, nd, r, ro, f => by
    simp only [toArgs, Option.some.injEq] at e
    subst e
    cases f
    exact ⟨r, .refl⟩
  | o :: os, args, fin, vs, env, e, nd, r, ro, f => by
    obtain ⟨w, ws, rfl, g1, g2, g3⟩ := ro
    simp only [toArgs, Option.bind_eq_some_iff, Option.map_eq_some_iff] at e
    obtain ⟨s, e1, args', e2, rfl⟩ := e
    rw [lent_cons] at nd r
    rcases toArg_cases e1 g2 with ⟨d, rfl, q, _⟩ | ⟨i, io, d, rfl, q, rfl⟩ | ⟨i, io, d, rfl, q, rfl⟩
    · rw [q, List.nil_append] at nd r
      cases f with
      | @fz _ s _ _ _ _ f =>
        have := back_ok e2 nd r g3 f
        cases o with
        | v d => exact this
        | nw d => exact absurd rfl (g2 d)
        | p i =>
          cases s with
          | ow io d' =>
            simp only [backArgs]
            split
            · rename_i q2; simp only [lent, q2] at q; cases q
            · exact this
          | _ => exact this
    · have l1 : lent env [.p i] = [i] := by simp only [lent, q]
      rw [l1] at nd r
      have nd : (i :: lent env os).Nodup := nd
      have ni : i ∉ lent env os := (List.nodup_cons.mp nd).1
      have g1 : σ[i]? = some (some w) := g1
      cases f with
      | @ow _ d' _ fin' a _ ho f =>
        have k1 : Kin env (env.set i (.ow io d')) := .set q
        have r1 : RelX K F H (env.set i (.ow io d')) σ (lent (env.set i (.ow io d')) os) := by
          rw [k1.lent]
          refine ⟨by rw [List.length_set]; exact r.len, fun j d2 h => ?_, fun j s d2 h hs => ?_, fun j s d2 b h hs hj ea => ?_, fun j k s t d2 e2 c h hs h' ht => ?_, r.fdm, fun j lo hi h => (getset h).elim (fun z => nomatch z.2.1) fun z => r.rg j lo hi z.2⟩
          · rcases getset h with ⟨rfl, h, _⟩ | ⟨_, h⟩
            · cases h
            · exact r.fz j d2 h
          · obtain ⟨s', d3, h1, h2⟩ := k1.own h hs
            exact r.adr j s' d3 h1 h2
          · rcases getset h with ⟨rfl, h, _⟩ | ⟨hn, h⟩
            · cases h; cases hs
              rw [g1] at ea; cases ea
              exact ho
            · exact r.ow j s d2 b h hs (by
                intro z
                rcases List.mem_cons.mp z with z | z
                · exact hn z.symm
                · exact hj z) ea
          · obtain ⟨s', d3, h1, h2⟩ := k1.own h hs
            obtain ⟨t', e3, h3, h4⟩ := k1.own h' ht
            exact r.ne j k s' t' d3 e3 c h1 h2 h3 h4
        have e3 : toArgs (env.set i (.ow io d')) os = some args' := by
          have : ∀ os' : List Op, i ∉ lent env os' → toArgs (env.set i (.ow io d')) os' = toArgs env os' := by
            intro os'
            induction os' with
            | nil => intro _; rfl
            | cons o' os' ih =>
              intro hn
              rw [lent_cons, List.mem_append, not_or] at hn
              simp only [toArgs]
              rw [ih hn.2]
              congr 1
              cases o' with
              | v _ => rfl
              | nw _ => rfl
              | p j =>
                simp only [toArg]
                have hj : i ≠ j := fun z => by
                  subst z
                  exact hn.1 (by simp only [lent, q]; simp)
                rw [List.getElem?_set_ne hj]
          rw [this os ni]; exact e2
        obtain ⟨z1, z2⟩ := back_ok e3 (by rw [k1.lent]; exact (List.nodup_cons.mp nd).2) r1 g3 f
        have eb : backArgs env (.p i :: os) (.ow true d' :: fin') = backArgs (env.set i (.ow io d')) os fin' := by
          simp only [backArgs, q]
        rw [eb]
        exact ⟨z1, k1.trans z2⟩
    · have l1 : lent env [.p i] = [i] := by simp only [lent, q]
      rw [l1] at nd r
      have nd : (i :: lent env os).Nodup := nd
      have g1 : σ[i]? = some (some w) := g1
      cases f with
      | @lk _ _ fin' a _ ho f =>
        have r1 : RelX K F H env σ (lent env os) := ⟨r.len, r.fz, r.adr, fun j s d2 b h hs hj ea => by
          by_cases z : j = i
          · subst z
            rw [q] at h; cases h; cases hs
            rw [g1] at ea; cases ea
            exact ho
          · exact r.ow j s d2 b h hs (fun y => (List.mem_cons.mp y).elim z hj) ea, r.ne, r.fdm, r.rg⟩
        have := back_ok e2 (List.nodup_cons.mp nd).2 r1 g3 f
        have eb : backArgs env (.p i :: os) (.lk true d :: fin') = backArgs env os fin' := by
          simp only [backArgs]
        rw [eb]; exact this
theorem args_len : ∀ {os : List Op} {args : List Sl} {vs : List V}, toArgs env os = some args → RelOps K F H σ os vs → args.length = vs.length
  | [], _, _, e, h => by
    simp only [toArgs, Option.some.injEq] at e
    subst e
    cases (show _ = [] from h); rfl
  | o :: os, _, _, e, h => by
    obtain ⟨w, ws, rfl, g1, g2, g3⟩ := h
    simp only [toArgs, Option.bind_eq_some_iff, Option.map_eq_some_iff] at e
    obtain ⟨s, e1, args', e2, rfl⟩ := e
    rw [List.length_cons, List.length_cons, args_len e2 g3]
theorem args_fz {d : D} (r : RelE K F H env σ) : ∀ {os : List Op} {args : List Sl} {vs : List V} {j : Nat}, toArgs env os = some args → RelOps K F H σ os vs → args[j]? = some (.fz d) → ∃ v, vs[j]? = some v ∧ Is K F H d v
  | [], _, _, _, e, h, q => by
    simp only [toArgs, Option.some.injEq] at e
    subst e
    simp at q
  | o :: os, _, _, j, e, h, q => by
    obtain ⟨w, ws, rfl, g1, g2, g3⟩ := h
    simp only [toArgs, Option.bind_eq_some_iff, Option.map_eq_some_iff] at e
    obtain ⟨s, e1, args', e2, rfl⟩ := e
    cases j with
    | succ j =>
      obtain ⟨v, z1, z2⟩ := args_fz (j := j) r e2 g3 (by simpa using q)
      exact ⟨v, by simpa using z1, z2⟩
    | zero =>
      simp at q
      subst q
      rcases toArg_cases e1 g2 with ⟨d', q, _, rd'⟩ | ⟨_, _, _, _, _, q⟩ | ⟨_, _, _, _, _, q⟩
      · cases q
        refine ⟨w, rfl, ?_⟩
        cases o with
        | v x => simp only [rd, Option.some.injEq] at rd'; subst rd'; exact g1
        | nw x => exact absurd rfl (g2 x)
        | p i =>
          have g1 : σ[i]? = some (some w) := g1
          simp only [toArg] at e1
          split at e1
          · rename_i q
            cases e1
            obtain ⟨v, k1, k2⟩ := r.fz i _ q
            rw [g1] at k1; cases k1; exact k2
          · cases e1
          · cases e1
          · cases e1
      · cases q
      · cases q
/-- a list among the arguments is one of the caller's slots -/
theorem args_own : ∀ {os : List Op} {args : List Sl} {vs : List V} {j : Nat} {s : Sl} {d : D}, toArgs env os = some args → RelOps K F H σ os vs → args[j]? = some s → s.own = some d →
    ∃ i t v, i ∈ lent env os ∧ env[i]? = some t ∧ t.own = some d ∧ σ[i]? = some (some v) ∧ vs[j]? = some v ∧ ((∃ io, s = .ow true d ∧ t = .ow io d) ∨ ∃ io, s = .lk true d ∧ t = .lk io d)
  | [], _, _, _, _, _, e, h, q, _ => by
    simp only [toArgs, Option.some.injEq] at e
    subst e
    simp at q
  | o :: os, _, _, j, s, d, e, h, q, hs => by
    obtain ⟨w, ws, rfl, g1, g2, g3⟩ := h
    simp only [toArgs, Option.bind_eq_some_iff, Option.map_eq_some_iff] at e
    obtain ⟨s', e1, args', e2, rfl⟩ := e
    cases j with
    | succ j =>
      obtain ⟨i, t, v, z1, z2, z3, z4, z5, z6⟩ := args_own (j := j) e2 g3 (by simpa using q) hs
      exact ⟨i, t, v, by rw [lent_cons]; exact List.mem_append_right _ z1, z2, z3, z4, by simpa using z5, z6⟩
    | zero =>
      simp at q
      subst q
      rcases toArg_cases e1 g2 with ⟨d', rfl, _⟩ | ⟨i, io, d', rfl, q, rfl⟩ | ⟨i, io, d', rfl, q, rfl⟩
      · cases hs
      · cases hs
        exact ⟨i, _, w, by simp only [lent, q]; simp, q, rfl, g1, rfl, .inl ⟨io, rfl, rfl⟩⟩
      · cases hs
        exact ⟨i, _, w, by simp only [lent, q]; simp, q, rfl, g1, rfl, .inr ⟨io, rfl, rfl⟩⟩
theorem map_some {vs : List V} {j : Nat} {v : V} : (vs.map some)[j]? = some (some v) ↔ vs[j]? = some v := by
  rw [List.getElem?_map]
  cases vs[j]? <;> simp
theorem args_ne (r : RelE K F H env σ) : ∀ {os : List Op} {args : List Sl} {vs : List V} {j k : Nat} {s t : Sl} {d e : D} {a : Addr}, toArgs env os = some args → RelOps K F H σ os vs → (lent env os).Nodup →
    args[j]? = some s → s.own = some d → args[k]? = some t → t.own = some e → vs[j]? = some (.ref a) → vs[k]? = some (.ref a) → j = k
  | [], _, _, _, _, _, _, _, _, _, ea, _, _, q, _, _, _, _, _ => by
    simp only [toArgs, Option.some.injEq] at ea
    subst ea
    simp at q
  | o :: os, args0, vs0, j, k, s, t, d, e, a, ea, h, nd, q, hs, q', ht, v1, v2 => by
    have h0 := h
    have ea0 := ea
    obtain ⟨w, ws, rfl, g1, g2, g3⟩ := h
    simp only [toArgs, Option.bind_eq_some_iff, Option.map_eq_some_iff] at ea
    obtain ⟨s', e1, args', e2, rfl⟩ := ea
    rw [lent_cons] at nd
    have mixed : ∀ {k : Nat} {s t : Sl} {d e : D}, (s' :: args')[0]? = some s → s.own = some d → (s' :: args')[k + 1]? = some t → t.own = some e → (w :: ws)[0]? = some (V.ref a) → (w :: ws)[k + 1]? = some (V.ref a) → False := by
      intro k s t d e q hs q' ht v1 v2
      simp at q v1
      subst q v1
      obtain ⟨i, t', v, z1, z2, z3, z4, z5, _⟩ := args_own (j := k) e2 g3 (by simpa using q') ht
      have v2 : ws[k]? = some (V.ref a) := by simpa using v2
      rw [z5] at v2; cases v2
      rcases toArg_cases e1 g2 with ⟨d', rfl, _⟩ | ⟨i', io, d', rfl, y, rfl⟩ | ⟨i', io, d', rfl, y, rfl⟩
      · cases hs
      · have : i' = i := r.ne i' i _ _ _ _ _ y rfl z2 z3 g1 z4
        subst this
        have l1 : lent env [.p i'] = [i'] := by simp only [lent, y]
        rw [l1] at nd
        exact (List.nodup_cons.mp nd).1 z1
      · have : i' = i := r.ne i' i _ _ _ _ _ y rfl z2 z3 g1 z4
        subst this
        have l1 : lent env [.p i'] = [i'] := by simp only [lent, y]
        rw [l1] at nd
        exact (List.nodup_cons.mp nd).1 z1
    cases j with
    | zero =>
      cases k with
      | zero => rfl
      | succ k => exact (mixed q hs q' ht v1 v2).elim
    | succ j =>
      cases k with
      | zero => exact (mixed q' ht q hs v2 v1).elim
      | succ k =>
        have := args_ne r (j := j) (k := k) e2 g3 (List.nodup_append.mp nd).2.1 (by simpa using q) hs (by simpa using q') ht (by simpa using v1) (by simpa using v2)
        rw [this]
theorem args_norg : ∀ {os : List Op} {args : List Sl} {j : Nat} {lo hi : Int}, toArgs env os = some args → args[j]? ≠ some (.rg lo hi)
  | [], _, _, _, _, e => by
    simp only [toArgs, Option.some.injEq] at e
    subst e
    simp
  | o :: os, _, j, lo, hi, e => by
    simp only [toArgs, Option.bind_eq_some_iff, Option.map_eq_some_iff] at e
    obtain ⟨s, e1, args', e2, rfl⟩ := e
    cases j with
    | succ j => simpa using args_norg (j := j) e2
    | zero =>
      intro q
      simp at q
      subst q
      cases o with
      | v d => cases e1
      | nw d => cases e1
      | p i =>
        simp only [toArg] at e1
        split at e1 <;> cases e1
theorem args_rel (r : RelE K F H env σ) {os : List Op} {args : List Sl} {vs : List V} (e : toArgs env os = some args) (h : RelOps K F H σ os vs) (nd : (lent env os).Nodup) : RelE K F H args (vs.map some) where
  len := by rw [List.length_map, args_len e h]
  fz := fun j d q => by
    obtain ⟨v, z1, z2⟩ := args_fz r e h q
    exact ⟨v, map_some.mpr z1, z2⟩
  ow := fun j s d q hs => by
    obtain ⟨i, t, v, z1, z2, z3, z4, z5, _⟩ := args_own e h q hs
    obtain ⟨a, k1, k2⟩ := r.ow i t d z2 z3
    rw [z4] at k1; cases k1
    exact ⟨a, map_some.mpr z5, k2⟩
  ne := fun j k s t d d' a q hs q' ht v1 v2 => args_ne r e h nd q hs q' ht (map_some.mp v1) (map_some.mp v2)
  fdm := r.fdm
  rg := fun j lo hi q => absurd q (args_norg e)
/-- behind a call -/
theorem call_back (p : Pst K F H env σ F1 H1 env1 σ) {os : List Op} {args fin : List Sl} {vs : List V} (e : toArgs env1 os = some args) (h : RelOps K F1 H1 σ os vs) (nd : (lent env1 os).Nodup)
    (q : Pst K F1 H1 args (vs.map some) F2 H2 fin (vs.map some)) : Pst K F H env σ F2 H2 (backArgs env1 os fin) σ := by
  have oaA : ∀ a, OA args (vs.map some) a → ∃ i t d, i ∈ lent env1 os ∧ env1[i]? = some t ∧ t.own = some d ∧ σ[i]? = some (some (.ref a)) := by
    rintro a ⟨j, s, d, q1, q2, q3⟩
    obtain ⟨i, t, v, z1, z2, z3, z4, z5, _⟩ := args_own e h q1 q2
    rw [map_some.mp q3] at z5; cases z5
    exact ⟨i, t, d, z1, z2, z3, z4⟩
  have fn : Lft K F2 H2 args fin vs := by
    refine Lft.of p.rel e h ?_ (fun i d z => ?_) (fun i d z => ?_)
    · have l1 := q.rel.len
      have l2 := args_len e h
      rw [List.length_map] at l1
      omega
    · obtain ⟨⟨d', k1⟩, k2⟩ := q.io i d z
      obtain ⟨a, k3, k4⟩ := q.rel.ow i _ _ k1 rfl
      exact ⟨d', a, k1, map_some.mp k3, k4⟩
    · obtain ⟨k1, k2⟩ := q.lk i true d z
      obtain ⟨a, k3, k4⟩ := q.rel.ow i _ _ k1 rfl
      exact ⟨a, k1, map_some.mp k3, k4⟩
  have rx : RelX K F2 H2 env1 σ (lent env1 os) := ⟨p.rel.len, fun i d z => by
      obtain ⟨v, k1, k2⟩ := p.rel.fz i d z
      exact ⟨v, k1, k2.mono q.st.sub q.st.agr⟩, fun i s d z hs => let ⟨a, k1, _⟩ := p.rel.ow i s d z hs; ⟨a, k1⟩, fun i s d a z hs hn ea => by
      obtain ⟨b, k1, k2⟩ := p.rel.ow i s d z hs
      rw [ea] at k1; cases k1
      obtain ⟨z1, z2⟩ := q.st.oth a k2.some k2.nF fun y => by
        obtain ⟨i', t, d', y1, y2, y3, y4⟩ := oaA a y
        have := p.rel.ne i i' _ _ _ _ _ z hs y2 y3 ea y4
        subst this
        exact hn y1
      exact k2.mono q.st.sub q.st.agr z1 z2, p.rel.ne, q.rel.fdm, fun i lo hi z => by
      obtain ⟨a, k1, k2, k3⟩ := p.rel.rg i lo hi z
      exact ⟨a, k1, q.st.sub a k2, (q.st.agr a k2).trans k3⟩⟩
  obtain ⟨rb, kb⟩ := back_ok e nd rx h fn
  refine p.trans ⟨⟨q.st.sub, q.st.agr, q.st.dom, fun a z1 z2 z3 => q.st.oth a z1 z2 fun y => ?_⟩, rb.rel, fun a ⟨i, s, d, z1, z2, z3⟩ => ?_, fun i d z => ?_, fun i io d z => ?_⟩
  · obtain ⟨i', t, d', y1, y2, y3, y4⟩ := oaA a y
    exact z3 ⟨i', t, d', y2, y3, y4⟩
  · obtain ⟨s', d', y1, y2⟩ := kb.own z1 z2
    exact .inl ⟨i, s', d', y1, y2, z3⟩
  · refine ⟨?_, rfl⟩
    rcases kb.at_ i with y | ⟨io, d1, d2, y1, y2⟩
    · exact ⟨d, by rw [y]; exact z⟩
    · rw [z] at y1; cases y1; exact ⟨d2, y2⟩
  · refine ⟨?_, rfl⟩
    rcases kb.at_ i with y | ⟨io', d1, d2, y1, y2⟩
    · rw [y]; exact z
    · rw [z] at y1; cases y1
end
end VI
namespace VI
open PySem PySem.Spec L2
theorem back_kin : ∀ (os : List Op) (fin : List Sl) (env : En), Kin env (backArgs env os fin)
  | [], fin, _ => by cases fin <;> exact .refl
  | o :: os, [], env => by
    cases o <;> (simp only [backArgs]; exact .refl)
  | .v d :: os, s :: fin, env => by simp only [backArgs]; exact back_kin os fin env
  | .nw d :: os, s :: fin, env => by simp only [backArgs]; exact back_kin os fin env
  | .p i :: os, s :: fin, env => by
    cases s with
    | ow io d =>
      simp only [backArgs]
      split
      · rename_i q
        exact (Kin.set q).trans (back_kin os fin _)
      · exact back_kin os fin env
    | _ => simp only [backArgs]; exact back_kin os fin env
section
variable {X : Cx} {F : FS} {H : Hp} {env env1 env2 : En} {σ : Slots}
theorem gl_of {Γ : Gm} {cl : CallF} {N : List Str} {sc : Scope} (g : Gd Γ cl N sc X) {x : Str} (h : glB sc x = true) : Gl X x ∧ (x == ("__debug__" : Str)) = false ∧ x ≠ "__name__" := by
  obtain ⟨g1, g3⟩ := ba h
  obtain ⟨g1, g4⟩ := ba g1
  refine ⟨?_, by simpa using g4, by simpa using g3⟩
  show X.env.scope.names.lookup x = some .globalImplicit
  rw [g.hsc]; simpa using g1
theorem free_of {Γ : Gm} {cl : CallF} {N : List Str} {sc : Scope} (g : Gd Γ cl N sc X) {x : Str} (h : freeB Γ sc x = true) : Gl X x ∧ (x == ("__debug__" : Str)) = false ∧ x ≠ "__name__" ∧ X.mg x = none := by
  obtain ⟨h1, h2⟩ := ba h
  obtain ⟨a, b, c⟩ := gl_of g h1
  exact ⟨a, b, c, g.fr x h2⟩
theorem none_back {H1 : Hp} {F1 : FS} {env1 : En} {σ1 : Slots} {a : Addr} (p : Pst X.K F H env σ F1 H1 env1 σ1) (h : H1 a = none) : H a = none := by
  cases q' : H a with
  | none => rfl
  | some o' => exact absurd h (p.st.dom a (by rw [q']; simp))
theorem call_body {Γ : Gm} {cl : CallF} {N : List Str} {sc : Scope} {x : Str} {fi : Nat} {n : Nat} (np : ∀ args r fin, cl fi args = some (r, fin) → ∀ i, r ≠ .p i) (hlen : ∀ args r fin, cl fi args = some (r, fin) → args.length = n)
    {os : List Op} {args fin : List Sl} {o : Op} {vs : List V} {F1 : FS} {H1 : Hp} {Q : VK} (p1 : Pst X.K F H env σ F1 H1 env1 σ) (h2 : toArgs env1 os = some args) (h3 : (lent env1 os).Nodup) (h4 : cl fi args = some (o, fin))
    (r1 : RelOps X.K F1 H1 σ os vs) (q : QE X.K F H env σ o (backArgs env1 os fin) Q) : spOf X.K cl fi n vs H1 Q E0 := by
  refine ⟨?_, F1, args, o, fin, h4, args_rel p1.rel h2 r1 h3, fun v F2 H2 p2 r2 n2 => ?_⟩
  · rw [← args_len h2 r1]; exact hlen _ _ _ h4
  · refine q v F2 H2 (call_back p1 h2 r1 h3 p2) ?_ fun d ed a ea => ?_
    · cases o with
      | v d => exact r2
      | nw d => exact r2
      | p i => exact absurd rfl (np _ _ _ h4 i)
    · obtain ⟨z1, z2⟩ := n2 d ed a ea
      refine ⟨none_back p1 z1, fun ⟨i, s, d', w1, w2, w3⟩ => ?_⟩
      obtain ⟨s', d2, w4, w5⟩ := (back_kin os fin env1).own w1 w2
      exact (p1.rel.oa_some ⟨i, s', d2, w4, w5, w3⟩).1 z1
theorem s_call {Γ : Gm} {cl : CallF} {N : List Str} {sc : Scope} (g : Gd Γ cl N sc X) {fi : Nat} {ps : List Expr} {x : Str} {pp pos : Pos} {fs : En → Option (List Op × En)} {f : En → Option (Op × En)} (hg : glB sc x = true)
    (hx : Γ.fns.contains (x, fi) = true) (hs : SA X ps fs) (h0 : ps = [] → ∀ env os env1, fs env = some (os, env1) → os = [] ∧ env1 = env)
    (he : ∀ p r, ps = p :: r → starEach (p :: r) X.env = (false, eval p X.env) :: starEach r X.env) (hpl : ∀ p r, ps = p :: r → (backTo pos (starEach r X.env)).any (·.1) = false)
    (hf : ∀ env o env', f env = some (o, env') → ∃ os env1 args fin, fs env = some (os, env1) ∧ toArgs env1 os = some args ∧ (lent env1 os).Nodup ∧ cl fi args = some (o, fin) ∧ env' = backArgs env1 os fin) : SE X (.Call (.Name x pp) ps [] pos) f := by
  intro env o env' e σ F H Q r q
  obtain ⟨os, env1, args, fin, h1, h2, h3, h4, rfl⟩ := hf env o env' e
  obtain ⟨⟨k, a, fd, pn, hF, hR, hM, hK, hB, hlen⟩, np⟩ := g.fn x fi hx
  obtain ⟨G, hdb, _⟩ := gl_of g hg
  cases ps with
  | nil =>
    obtain ⟨rfl, rfl⟩ := h0 rfl _ _ _ h1
    refine WE.of (pe_call0 hF hR G hM hK hB .nil pass0 hdb) ?_
    exact call_body (Γ := Γ) (N := N) (sc := sc) (x := x) np hlen (.refl r) h2 h3 h4 (vs := []) rfl q
  | cons p ps =>
    refine WE.of (pe_call hF hR G hM hK hB .nil pass0 (pA X (p :: ps)) hdb (he p ps rfl) (hpl p ps rfl)) ?_
    refine hs env os env1 h1 σ F H _ r fun vs F1 H1 p1 r1 => ?_
    rw [List.append_nil]
    exact call_body (Γ := Γ) (N := N) (sc := sc) (x := x) np hlen p1 h2 h3 h4 r1 q

def D.ty : D → String
  | .non => "NoneType" | .bl _ => "bool" | .int _ => "int" | .str _ => "str" | .tup _ => "tuple" | .lst _ => "list" | .scr _ => "list" | .ins _ _ _ => "object" | .dk _ _ => "dict"
def D.obj : D → Bool
  | .ins _ _ _ => true
  | _ => false
def Ty.ts : Ty → String
  | .int => "int" | .bool => "bool" | .str => "str" | .tuple => "tuple" | .list => "list" | .none => "NoneType"
theorem tyx {K : PySem.W.Frag} {d : D} {v : V} (hd : d.obj = false) (h : Has K F H d v) : TyX K H v (.type d.ty) := by
  cases d with
  | non => cases h.non; exact .base .non
  | bl b => cases h.bl; exact .base (.bl b)
  | int b => cases h.int; exact .base (.int b)
  | str b => cases h.str; exact .base (.str b)
  | lst xs =>
    obtain ⟨a, vs, rfl, h1, _⟩ := h.lst
    exact .base (.lst h1)
  | tup xs =>
    obtain ⟨a, vs, rfl, h1, _⟩ := h.tup
    rcases h1 with (h1 | ⟨o, h1⟩) | ⟨o, its, n, h1, h2, _⟩
    · exact .base (.tup h1)
    · exact .fTuple h1
    · exact .kTuple h1 h2
  | scr xs =>
    obtain ⟨a, rfl, h1⟩ := h.scr
    rcases h1 with (h1 | ⟨o, h1⟩) | ⟨o, its, n, h1, h2, _⟩
    · exact .base (.lst h1)
    · exact .base (.frz h1)
    · exact .kList h1 h2
  | dk ks ds =>
    obtain ⟨a, vs, rfl, h1, _⟩ := h.dk
    exact .base (.dK h1)
  | ins c ns ds => cases hd
theorem kit_has (t : Ty) (ht : t.ok = true) (d : D) (hd : d.obj = false) : kitB d.ty t.ts = some (t.has d) := by
  cases t <;> first | exact absurd ht (by decide) | (cases d <;> first | cases hd; done | rfl | decide +kernel | simp [D.ty, Ty.ts, Ty.has]; decide +kernel)
theorem tyk {K : PySem.W.Frag} {d : D} {v : V} (h : Has K F H d v) : ∃ u, TyX K H v u ∧ ∀ t : Ty, t.ok = true → PySem.W.kitOne K u (.type t.ts) = some (t.has d) := by
  cases hd : d.obj with
  | false => exact ⟨_, tyx hd h, fun t ht => kit_ty (kit_has t ht d hd)⟩
  | true =>
    cases d with
    | ins c ns ds =>
      obtain ⟨a, C, dx, vs, rfl, h1, h2, h3, h4⟩ := h.ins
      refine ⟨.ref C, .base (.ins h1 h2.cl h2.ha h2.hn h2.htk h2.hm), fun t ht => ?_⟩
      have := h2.is t.ts (by cases t <;> simp [Ty.ts])
      rw [this]
      cases t <;> rfl
    | _ => cases hd
def tysT (ts : List Ty) : TA := fun _ H Q => Q (ts.map fun t => .ty t.ts) H
theorem ty_boot (t : Ty) (h : t.ok = true) : bootBuiltins t.nm = some (.type t.ts) := by
  cases t <;> first | exact absurd h (by decide) | decide +kernel
theorem tysA {Γ : Gm} {cl : CallF} {N : List Str} {sc : Scope} (g : Gd Γ cl N sc X) : ∀ {ts : List Ty} {ps : List Expr}, tysB Γ sc ts ps = true → PA X ps (tysT ts)
  | [], [], _ => pa_nil
  | [], _ :: _, h => by cases h
  | _ :: _, [], h => by cases h
  | t :: ts, p :: ps, h => by
    obtain ⟨h1, h2⟩ := ba (show ((t.ok && _) && tysB Γ sc ts ps) = true from h)
    obtain ⟨h0, h1⟩ := ba h1
    cases p with
    | Name x pos =>
      obtain ⟨h3, h4⟩ := ba (show (x == t.nm && freeB Γ sc x) = true from h1)
      have ex : x = t.nm := by simpa using h3
      obtain ⟨G, d1, d2, M⟩ := free_of g h4
      have pe : PE X (.Name x pos) (tC (.ty t.ts)) := pe_bltn G M (by rw [ex]; exact ty_boot t h0) rfl d2 d1
      refine ⟨fun ps' pins s σ H Q I q => (pa_cons pe (tysA g h2)).run ps' pins s σ H Q I q⟩
    | _ => cases h1
theorem kit_any {K : PySem.W.Frag} {Γ : Gm} {sc : Scope} (d : D) {u : Value} (hk : ∀ t : Ty, t.ok = true → PySem.W.kitOne K u (.type t.ts) = some (t.has d)) : ∀ {ts : List Ty} {ps : List Expr}, tysB Γ sc ts ps = true → PySem.W.kitAny K u (ts.map fun t => Value.type t.ts) = some (ts.any fun t => t.has d) ∧ Paired ClsV (ts.map fun t => V.ty t.ts) (ts.map fun t => Value.type t.ts)
  | [], [], _ => ⟨rfl, .nil⟩
  | [], _ :: _, h => by cases h
  | _ :: _, [], h => by cases h
  | t :: ts, p :: ps, h => by
    obtain ⟨h1, h2⟩ := ba (show ((t.ok && _) && tysB Γ sc ts ps) = true from h)
    obtain ⟨h0, h1⟩ := ba h1
    obtain ⟨k1, k2⟩ := kit_any d hk h2
    refine ⟨kitAny_cons (hk t h0) (fun e => by rw [k1, List.any_cons, e]; rfl) (fun e => by rw [List.any_cons, e]; rfl), .cons (.ty _) k2⟩
theorem Has.nst {K : PySem.W.Frag} {F2 : FS} {H2 : Hp} {d : D} {v : V} (hd : ∀ a, F a → H a ≠ none) (h : Has K F H d v) (n : Nst F H F2 H2) : Has K F2 H2 d v := by
  rcases h with h | ⟨a, e, h⟩
  · exact .inl (h.mono n.sub fun a f => (n.old a (hd a f)).1)
  · obtain ⟨z1, z2⟩ := n.old a h.some
    exact .inr ⟨a, e, h.mono n.sub (fun a f => (n.old a (hd a f)).1) z1 fun z => h.nF (z2 z)⟩
theorem boot_isi : bootBuiltins "isinstance" = some (.builtin "isinstance") := by decide +kernel
theorem s_isi {Γ : Gm} {cl : CallF} {N : List Str} {sc : Scope} (g : Gd Γ cl N sc X) {ts : List Ty} {pa pt : Expr} {x : Str} {pp pos : Pos} {fa f : En → Option (Op × En)} (hx : x = "isinstance") (hg : freeB Γ sc x = true) (hh : headOk pa = true) (h10 : ts.length ≤ 10) (ha : SB X pa fa)
    (ht : (∃ y p, pt = .Name y p ∧ tysB Γ sc ts [.Name y p] = true) ∨ ∃ ps k p, pt = .Tuple ps k p ∧ tysB Γ sc ts ps = true)
    (hf : ∀ env o env', f env = some (o, env') → ∃ x d, fa env = some (x, env') ∧ rd env' x = some d ∧ o = .v (.bl (ts.any fun t => t.has d))) : SE X (.Call (.Name x pp) [pa, pt] [] pos) f := by
  intro env o env' e σ F H Q r q
  obtain ⟨z, d, h1, h2, rfl⟩ := hf env o env' e
  obtain ⟨G, hdb, hn, M⟩ := free_of g hg
  subst hx
  have hpt : headOk pt = true := by
    rcases ht with ⟨y, p, rfl, _⟩ | ⟨ps, k, p, rfl, _⟩ <;> rfl
  have hpl : (backTo pos (starEach [pt] X.env)).any (·.1) = false := by
    rw [starEach_of hpt]; rfl
  have hA : ∃ tt : TE, PE X pt tt ∧ ∀ v F1 H1, Pst X.K F H env σ F1 H1 env' σ → Has X.K F1 H1 d v → (∀ F2 H2, Nst F1 H1 F2 H2 → Q (.bl (ts.any fun t => t.has d)) H2) → tt σ H1 fun w H2 => rC X (.builtin "isinstance") [v, w] H2 Q := by
    rcases ht with ⟨y, p, rfl, hb⟩ | ⟨ps, k, p, rfl, hb⟩
    · cases ts with
      | nil => cases hb
      | cons t ts =>
        obtain ⟨b1, b2⟩ := ba (show ((t.ok && (y == t.nm && freeB Γ sc y)) && tysB Γ sc ts []) = true from hb)
        cases ts with
        | cons => cases b2
        | nil =>
          obtain ⟨b0, b1⟩ := ba b1
          obtain ⟨b3, b4⟩ := ba b1
          have ey : y = t.nm := by simpa using b3
          obtain ⟨G2, d1, d2, M2⟩ := free_of g b4
          refine ⟨tC (.ty t.ts), pe_bltn G2 M2 (by rw [ey]; exact ty_boot t b0) rfl d2 d1, fun v F1 H1 p1 hv qq => ?_⟩
          show rC X (.builtin "isinstance") [v, .ty t.ts] H1 Q
          obtain ⟨u, hu1, hu2⟩ := tyk hv
          refine rC.of call_isi ⟨v, .ty t.ts, _, _, t.has d, rfl, .ty _, hu1, hu2 t b0, ?_⟩
          have := qq F1 H1 .refl
          simpa using this
    · refine ⟨tTup (tysT ts), pe_tup (tysA g hb), fun v F1 H1 p1 hv qq => ?_⟩
      refine ⟨?_, fun tp htp => ?_⟩
      · rw [List.length_map, sizeLine_eq]; omega
      · have n : Nst F1 H1 F1 (upd H1 tp (.tup (ts.map fun t => .ty t.ts))) := .new htp
        obtain ⟨u, hu1, hu2⟩ := tyk (hv.nst p1.rel.fdm n)
        obtain ⟨k1, k2⟩ := kit_any (K := X.K) d hu2 hb
        exact rC.of call_isiT ⟨v, tp, _, _, _, _, rfl, upd_same, k2, hu1, k1, qq _ _ n⟩
  obtain ⟨tt, pt', ht'⟩ := hA
  refine WE.of (pe_callB (callB _) G M boot_isi (pa_cons (pE X pa) (pa_cons pt' pa_nil (starEach_of hpt)) (starEach_of hh)) hn hdb (starEach_of hh) hpl) ?_
  refine ha env z env' h1 σ F H _ r fun v F1 H1 p1 r1 n1 => ?_
  exact ht' v F1 H1 p1 (rd_has p1.rel r1 h2) fun F2 H2 n => q _ F2 H2 (p1.nst n) (by simp [RelOp, Is]) (fun d ed => by cases ed)
end
end VI
namespace VI
open PySem PySem.Spec L2
section
variable {X : Cx} {F : FS} {H : Hp} {env env1 env2 : En} {σ : Slots}
theorem IsL.maps {K : PySem.W.Frag} {α : Type} {f : α → D} {g : α → V} (h : ∀ k, Is K F H (f k) (g k)) : ∀ l : List α, IsL K F H (l.map f) (l.map g)
  | [] => IsL.nil
  | k :: l => IsL.cons (h k) (IsL.maps h l)
theorem rgS_ok {i j : Int} {ds : List D} (e : rgS i j = some ds) : RgOk i j ∧ ∀ (K : PySem.W.Frag) (F : FS) (H : Hp), IsL K F H ds (rgV i j) := by
  unfold rgS at e
  split at e
  · rename_i h
    cases e
    exact ⟨h, fun K F H => IsL.maps (fun k => by simp [Is]) _⟩
  · cases e
theorem s_rng1 {Γ : Gm} {cl : CallF} {N : List Str} {sc : Scope} (g : Gd Γ cl N sc X) {tp : Bool} {pa : Expr} {x y : Str} {pp pp2 pos pos2 : Pos} {fa f : En → Option (Op × En)} (hx : x = if tp then "tuple" else "list") (gx : freeB Γ sc x = true) (hy : y = "range") (gy : freeB Γ sc y = true)
    (hh : headOk pa = true) (ha : SB X pa fa)
    (hf : ∀ env o env', f env = some (o, env') → ∃ z j ds, fa env = some (z, env') ∧ rd env' z = some (.int j) ∧ rgS 0 j = some ds ∧ o = if tp then .v (.tup ds) else .nw (.lst ds)) : SE X (.Call (.Name x pp) [.Call (.Name y pp2) [pa] [] pos2] [] pos) f := by
  intro env o env' e σ F H Q r q
  obtain ⟨z, j, ds, h1, h2, h3, rfl⟩ := hf env o env' e
  obtain ⟨G, _, _, M⟩ := free_of g gx
  obtain ⟨G2, _, _, M2⟩ := free_of g gy
  obtain ⟨ok, il⟩ := rgS_ok h3
  subst hx hy
  cases tp with
  | true =>
    refine WE.of (VIU.pe_tupRgP g.calm G M (prg_1 G2 M2 (pE X pa) (starEach_of hh))) ?_
    exact ha env z env' h1 σ F H _ r fun v F1 H1 p1 r1 n1 => ⟨j, (rd_has p1.rel r1 h2).int, ok, (fol_q p1 q).newT p1.rel.fdm (il _ _ _)⟩
  | false =>
    refine WE.of (pe_listRg g.calm G M (prg_1 G2 M2 (pE X pa) (starEach_of hh))) ?_
    exact ha env z env' h1 σ F H _ r fun v F1 H1 p1 r1 n1 => ⟨j, (rd_has p1.rel r1 h2).int, ok, fun p hp => (fol_q p1 q).newL p1.rel.fdm (il _ _ _) hp⟩
theorem s_rng2 {Γ : Gm} {cl : CallF} {N : List Str} {sc : Scope} (g : Gd Γ cl N sc X) {tp : Bool} {pa pb : Expr} {x y : Str} {pp pp2 pos pos2 : Pos} {fa fb f : En → Option (Op × En)} (hx : x = if tp then "tuple" else "list") (gx : freeB Γ sc x = true) (hy : y = "range") (gy : freeB Γ sc y = true)
    (hh : headOk pa = true) (hh2 : headOk pb = true) (ha : SB X pa fa) (hb : SB X pb fb)
    (hf : ∀ env o env', f env = some (o, env') → ∃ z i env1 u j ds, fa env = some (z, env1) ∧ fb env1 = some (u, env') ∧ rd env' z = some (.int i) ∧ rd env' u = some (.int j) ∧ rgS i j = some ds ∧ o = if tp then .v (.tup ds) else .nw (.lst ds)) :
    SE X (.Call (.Name x pp) [.Call (.Name y pp2) [pa, pb] [] pos2] [] pos) f := by
  intro env o env' e σ F H Q r q
  obtain ⟨z, i, env1, u, j, ds, h1, h2, h3, h4, h5, rfl⟩ := hf env o env' e
  obtain ⟨G, _, _, M⟩ := free_of g gx
  obtain ⟨G2, _, _, M2⟩ := free_of g gy
  obtain ⟨ok, il⟩ := rgS_ok h5
  have hpl : (backTo pos2 (starEach [pb] X.env)).any (·.1) = false := by rw [starEach_of hh2]; rfl
  subst hx hy
  cases tp with
  | true =>
    refine WE.of (VIU.pe_tupRgP g.calm G M (prg_2 G2 M2 (pE X pa) (pE X pb) (starEach_of hh) (starEach_of hh2) hpl)) ?_
    exact two_ops ha hb h1 h2 r fun v w F2 H2 p r1 r2 _ _ => ⟨i, j, (rd_has p.rel r1 h3).int, (rd_has p.rel r2 h4).int, ok, (fol_q p q).newT p.rel.fdm (il _ _ _)⟩
  | false =>
    refine WE.of (pe_listRg g.calm G M (prg_2 G2 M2 (pE X pa) (pE X pb) (starEach_of hh) (starEach_of hh2) hpl)) ?_
    exact two_ops ha hb h1 h2 r fun v w F2 H2 p r1 r2 _ _ => ⟨i, j, (rd_has p.rel r1 h3).int, (rd_has p.rel r2 h4).int, ok, fun q' hp => (fol_q p q).newL p.rel.fdm (il _ _ _) hp⟩
theorem m_slot (m : Mf) : Slot "list" m.nm m.id ∧ typeOf (.builtin m.id) = pure (.type "method_descriptor") := by
  cases m
  · exact ⟨PySem.F.slot_list_append, PySem.F.type_list_append⟩
  · exact ⟨PySem.F.slot_list_pop, PySem.F.type_list_pop⟩
  · exact ⟨PySem.F.slot_list_reverse, PySem.F.type_list_reverse⟩
  · exact ⟨PySem.F.slot_list_extend, PySem.F.type_list_extend⟩
  · exact ⟨PySem.F.slot_list_insert, PySem.F.type_list_insert⟩
  · exact ⟨PySem.F.slot_list_remove, PySem.F.type_list_remove⟩
  · exact ⟨PySem.F.slot_list_clear, PySem.F.type_list_clear⟩
  · exact ⟨PySem.F.slot_list_sort, PySem.F.type_list_sort⟩
theorem vis_of {Γ : Gm} {cl : CallF} {N : List Str} {sc : Scope} (g : Gd Γ cl N sc X) {i : Nat} {x : Str} (h : nmB N sc i x = true) : X.N[i]? = some x ∧ Vis X.env.scope x ∧ (x == ("__debug__" : Str)) = false ∧ (x == ("__classdict__" : Str)) = false := by
  obtain ⟨h1, h2⟩ := ba h
  obtain ⟨h2, h4⟩ := ba h2
  obtain ⟨h2, h3⟩ := ba h2
  refine ⟨by rw [g.hN]; simpa using h1, ?_, by simpa using h3, by simpa using h4⟩
  rw [g.hsc]
  unfold Vis
  split at h2
  · rename_i q; exact .inl q
  · rename_i q; exact .inr (.inl q)
  · rename_i q; exact .inr (.inr q)
  · cases h2
theorem pe_nm {Γ : Gm} {cl : CallF} {N : List Str} {sc : Scope} (g : Gd Γ cl N sc X) {i : Nat} {x : Str} {pos : Pos} (h : nmB N sc i x = true) : PE X (.Name x pos) (tVar i) :=
  let ⟨a, b, c, d⟩ := vis_of g h
  pe_var a b c d
theorem s_nm {Γ : Gm} {cl : CallF} {N : List Str} {sc : Scope} (g : Gd Γ cl N sc X) {i : Nat} {x : Str} {pos : Pos} (h : nmB N sc i x = true) {f : En → Option (Op × En)}
    (hf : ∀ env o env', f env = some (o, env') → env' = env ∧ ((∃ d, env[i]? = some (.fz d) ∧ o = .v d) ∨ (o = .p i ∧ ∃ s d, env[i]? = some s ∧ s.own = some d))) : SE X (.Name x pos) f := by
  intro env o env' e σ F H Q r q
  obtain ⟨rfl, h2⟩ := hf env o env' e
  refine WE.of (pe_nm g h) ?_
  rcases h2 with ⟨d, h2, rfl⟩ | ⟨rfl, s, d, h2, h3⟩
  · obtain ⟨v, e1, e2⟩ := r.fz i d h2
    exact ⟨v, e1, q v F H (.refl r) e2 fun d ed => by cases ed⟩
  · obtain ⟨a, e1, e2⟩ := r.ow i s d h2 h3
    exact ⟨.ref a, e1, q _ F H (.refl r) e1 fun d ed => by cases ed⟩
theorem s_lit {d : D} {c : Const} {k : Nat} {pos : Pos} (h : litB d c = true) {f : En → Option (Op × En)} (hf : ∀ env, f env = some (.v d, env)) : SE X (.Constant c k pos) f := by
  intro env o env' e σ F H Q r q
  rw [hf] at e
  cases e
  have fin : ∀ v, Is X.K F H d v → Q v H := fun v i => q v F H (.refl r) i fun d ed => by cases ed
  unfold litB at h
  split at h
  · exact WE.of pe_non (fin _ (by simp [Is]))
  · obtain rfl := eq_of_beq h
    exact WE.of pe_bl (fin _ (by simp [Is]))
  · obtain rfl := eq_of_beq h
    exact WE.of pe_int (fin _ (by simp [Is]))
  · obtain rfl := eq_of_beq h
    exact WE.of pe_str (fin _ (by simp [Is]))
  · cases h
theorem s_mth {Γ : Gm} {cl : CallF} {N : List Str} {sc : Scope} (g : Gd Γ cl N sc X) {m : Mf} {i : Nat} {x n : Str} {ps : List Expr} {pp apos cpos : Pos} {fs : En → Option (List D × En)} {f : En → Option (Op × En)} (hx : nmB N sc i x = true) (hn : n = m.nm) (hl : (apos.endLine == cpos.line) = true)
    (hs : SD X ps fs) (h0 : ps = [] → ∀ env ds env1, fs env = some (ds, env1) → ds = [] ∧ env1 = env)
    (he : ∀ p r, ps = p :: r → starEach (p :: r) X.env = (false, eval p X.env) :: starEach r X.env) (hpl : ∀ p r, ps = p :: r → (backTo cpos (starEach r X.env)).any (·.1) = false) (hk : ps.length < 20)
    (hf : ∀ env o env', f env = some (o, env') → (∃ io xs, env[i]? = some (.ow io (.lst xs))) ∧ ∃ ds env1 io xs d ys, fs env = some (ds, env1) ∧ env1[i]? = some (.ow io (.lst xs)) ∧ mthS m xs ds = some (d, ys) ∧ o = .v d ∧ env' = env1.set i (.ow io (.lst ys))) :
    SE X (.Call (.Attribute (.Name x pp) n apos) ps [] cpos) f := by
  intro env o env' e σ F H Q r q
  obtain ⟨⟨io0, xs0, h00⟩, ds, env1, io, xs, d, ys, h1, h2, h3, rfl, rfl⟩ := hf env o env' e
  obtain ⟨a, e1, o0⟩ := r.ow i _ _ h00 rfl
  obtain ⟨_, vs0, H0, _⟩ := o0
  subst hn
  obtain ⟨slot, hty⟩ := m_slot m
  have main : ∀ {vs : List V} {F1 : FS} {H1 : Hp}, Pst X.K F H env σ F1 H1 env1 σ → IsL X.K F1 H1 ds vs → rM X m.id (.ref a) vs H1 Q := fun {vs F1 H1} p1 i1 => by
    obtain ⟨b, e2, ho⟩ := p1.rel.ow i _ _ h2 rfl
    rw [e1] at e2; cases e2
    obtain ⟨nF, ws, H1a, iw⟩ := id ho
    refine mthS_ok h3 H1a iw i1 fun v zs iv iz => ?_
    have agr : ∀ c, F1 c → upd H1 a (.lst zs) c = H1 c := fun c f => upd_ne (OwnAt.nea ho f)
    refine q v F1 _ (p1.mut h2 e1 ho ⟨nF, zs, upd_same, iz.mono (fun _ h => h) agr⟩) (iv.mono (fun _ h => h) agr) fun d ed => by cases ed
  cases ps with
  | nil =>
    obtain ⟨rfl, rfl⟩ := h0 rfl _ _ _ h1
    refine WE.of (pe_bm0 PySem.F.plainAttrs_list slot hty (mtB m.id) (pe_nm g hx) rfl hl) ?_
    exact ⟨.ref a, e1, .inl ⟨rfl, vs0, .of H0⟩, main (.refl r) IsL.nil⟩
  | cons p ps =>
    have few : ((backTo cpos (starEach (p :: ps) X.env)).all (fun x => !x.1) && (backToKw cpos (keywordEach [] X.env)).all (fun x => x.1.isSome)
      && decide ((p :: ps).length + ([] : List Keyword).length + (if ([] : List Keyword).isEmpty then 0 else 1) < 30)) = true := by
      have z1 : (backTo cpos (starEach (p :: ps) X.env)).all (fun x => !x.1) = true := by
        rw [he p ps rfl]
        have := hpl p ps rfl
        show (!false && (backTo cpos (starEach ps X.env)).all (fun x => !x.1)) = true
        rw [List.all_eq_not_any_not]
        simp only [Bool.not_not, Bool.not_false, Bool.true_and]
        rw [this]; rfl
      rw [z1, Bool.true_and, Bool.and_eq_true]
      refine ⟨rfl, decide_eq_true ?_⟩
      rw [if_pos (by rfl)]
      simp only [List.length_nil]
      omega
    refine WE.of (pe_bm PySem.F.plainAttrs_list slot hty (mtB m.id) (pe_nm g hx) (pA X (p :: ps)) rfl few hl (he p ps rfl) (hpl p ps rfl)) ?_
    exact ⟨.ref a, e1, .inl ⟨rfl, vs0, .of H0⟩, hs env ds env1 h1 σ F H _ r fun vs F1 H1 p1 i1 => main p1 i1⟩
structure Src (K : PySem.W.Frag) (J : It) (items : List D) (P : FS → Hp → Prop) : Prop where
  go : ∀ i F H, P F H → i < items.length → J.go i H
  yld : ∀ i F H x H', P F H → (∀ a, F a → H a ≠ none) → J.yld i H x H' → ∀ d, items[i]? = some d → ∃ F', Nst F H F' H' ∧ Is K F' H' d x
  stop : ∀ i F H, P F H → items.length = i → J.stop i H
/-- the slots whose lists are walked -/
def Relab (env env' : En) : Prop := env'.length = env.length ∧ ∀ i : Nat, env'[i]? = env[i]? ∨ (∃ io d, env[i]? = some (.ow io d) ∧ env'[i]? = some (.lk io d)) ∨ (∃ io d, env[i]? = some (.lk io d) ∧ env'[i]? = some (.ow io d))
theorem Relab.own (h : Relab env env1) {i : Nat} {s : Sl} {d : D} (e : env1[i]? = some s) (hs : s.own = some d) : ∃ t, env[i]? = some t ∧ t.own = some d := by
  rcases h.2 i with q | ⟨io, d', q1, q2⟩ | ⟨io, d', q1, q2⟩
  · exact ⟨s, by rw [← q]; exact e, hs⟩
  · rw [e] at q2; cases q2; cases hs; exact ⟨_, q1, rfl⟩
  · rw [e] at q2; cases q2; cases hs; exact ⟨_, q1, rfl⟩
theorem Relab.symm (h : Relab env env1) : Relab env1 env := ⟨h.1.symm, fun i => by
  rcases h.2 i with q | ⟨io, d', q1, q2⟩ | ⟨io, d', q1, q2⟩
  · exact .inl q.symm
  · exact .inr (.inr ⟨io, d', q2, q1⟩)
  · exact .inr (.inl ⟨io, d', q2, q1⟩)⟩
theorem Relab.rel {K : PySem.W.Frag} (h : Relab env env1) (r : RelE K F H env σ) : RelE K F H env1 σ where
  len := h.1.trans r.len
  fz := fun i d e => by
    rcases h.2 i with q | ⟨io, d', q1, q2⟩ | ⟨io, d', q1, q2⟩
    · exact r.fz i d (by rw [← q]; exact e)
    · rw [e] at q2; cases q2
    · rw [e] at q2; cases q2
  ow := fun i s d e hs => by
    obtain ⟨t, h1, h2⟩ := h.own e hs
    exact r.ow i t d h1 h2
  ne := fun i j s t d d' a e hs e' ht => by
    obtain ⟨s', h1, h2⟩ := h.own e hs
    obtain ⟨t', h3, h4⟩ := h.own e' ht
    exact r.ne i j s' t' d d' a h1 h2 h3 h4
  fdm := r.fdm
  rg := fun i lo hi e => by
    rcases h.2 i with q | ⟨io, d', q1, q2⟩ | ⟨io, d', q1, q2⟩
    · exact r.rg i lo hi (by rw [← q]; exact e)
    · rw [e] at q2; cases q2
    · rw [e] at q2; cases q2
theorem Relab.oa (h : Relab env env1) {a : Addr} (o : OA env1 σ a) : OA env σ a := by
  obtain ⟨i, s, d, e, hs, q⟩ := o
  obtain ⟨t, h1, h2⟩ := h.own e hs
  exact ⟨i, t, d, h1, h2, q⟩
end
end VI
namespace VI
open PySem PySem.Spec L2
section
variable {K : PySem.W.Frag} {F F1 F2 : FS} {H H1 H2 : Hp} {env env0 env1 env2 envL : En} {σ σ2 : Slots}
theorem Relab.refl : Relab env env := ⟨rfl, fun _ => .inl rfl⟩
theorem Relab.trans (a : Relab env env1) (b : Relab env1 env2) : Relab env env2 := ⟨b.1.trans a.1, fun i => by
  rcases a.2 i with h | ⟨io, d, h1, h2⟩ | ⟨io, d, h1, h2⟩ <;> rcases b.2 i with h' | ⟨io', d', h1', h2'⟩ | ⟨io', d', h1', h2'⟩
  · exact .inl (h'.trans h)
  · exact .inr (.inl ⟨io', d', by rw [← h]; exact h1', h2'⟩)
  · exact .inr (.inr ⟨io', d', by rw [← h]; exact h1', h2'⟩)
  · exact .inr (.inl ⟨io, d, h1, by rw [h']; exact h2⟩)
  · rw [h2] at h1'; cases h1'
  · rw [h2] at h1'; cases h1'; exact .inl (h2'.trans h1.symm)
  · exact .inr (.inr ⟨io, d, h1, by rw [h']; exact h2⟩)
  · rw [h2] at h1'; cases h1'; exact .inl (h2'.trans h1.symm)
  · rw [h2] at h1'; cases h1'⟩
theorem Relab.lock {i : Nat} {io d} (h : env[i]? = some (.ow io d)) : Relab env (env.set i (.lk io d)) := ⟨by rw [List.length_set], fun j => by
  by_cases e : i = j
  · subst e; exact .inr (.inl ⟨io, d, h, List.getElem?_set_self (lt_of_get h)⟩)
  · exact .inl (List.getElem?_set_ne e)⟩
theorem Relab.unlock1 {i : Nat} {io d} (h : env[i]? = some (.lk io d)) : Relab env (env.set i (.ow io d)) := ⟨by rw [List.length_set], fun j => by
  by_cases e : i = j
  · subst e; exact .inr (.inr ⟨io, d, h, List.getElem?_set_self (lt_of_get h)⟩)
  · exact .inl (List.getElem?_set_ne e)⟩
theorem unlock_app (a b : List (Nat × Bool)) : ∀ env : En, unlock env (a ++ b) = unlock (unlock env a) b := by
  induction a with
  | nil => intro env; rfl
  | cons x a ih =>
    intro env
    obtain ⟨i, t⟩ := x
    cases t with
    | false => exact ih env
    | true =>
      simp only [List.cons_append, unlock]
      split <;> exact ih _
/-- what unlocking undoes -/
def Lks (env0 env1 : En) (lk : List (Nat × Bool)) (σ : Slots) : Prop :=
  ∀ (K : PySem.W.Frag) (F1 : FS) (H1 : Hp) (F2 : FS) (H2 : Hp) (env2 : En) (σ2 : Slots), Pst K F1 H1 env1 σ F2 H2 env2 σ2 → Pst K F1 H1 env0 σ F2 H2 (unlock env2 lk) σ2
theorem Ste.less {oa oa' : Addr → Prop} (s : Ste F H oa F1 H1) (h : ∀ a, oa a → oa' a) : Ste F H oa' F1 H1 := ⟨s.sub, s.agr, s.dom, fun a h1 h2 h3 => s.oth a h1 h2 fun z => h3 (h a z)⟩
theorem lks_of (o : Op) : Relab env0 (lockS env0 o).1 ∧ Lks env0 (lockS env0 o).1 (lockS env0 o).2 σ := by
  have same : Relab env0 env0 ∧ Lks env0 env0 [] σ := ⟨.refl, fun K F1 H1 F2 H2 env2 σ2 p => p⟩
  cases o with
  | v d => exact same
  | nw d => exact same
  | p i =>
    simp only [lockS]
    split
    · rename_i io d q
      refine ⟨.lock q, fun K F1 H1 F2 H2 env2 σ2 p => ?_⟩
      have gi : (env0.set i (.lk io d))[i]? = some (.lk io d) := List.getElem?_set_self (lt_of_get q)
      obtain ⟨g2, gσ⟩ := p.lk i io d gi
      simp only [unlock, g2]
      have rl : Relab env2 (env2.set i (.ow io d)) := .unlock1 g2
      refine ⟨p.st.less fun a z => (Relab.lock q).oa z, rl.rel p.rel, fun a z => ?_, fun j d' h => ?_, fun j io' d' h => ?_⟩
      · rcases p.own a (rl.oa z) with y | y
        · exact .inl ((Relab.lock q).oa y)
        · exact .inr y
      · by_cases e : i = j
        · subst e
          rw [q] at h; cases h
          exact ⟨⟨d, List.getElem?_set_self (lt_of_get g2)⟩, gσ⟩
        · have h' : (env0.set i (.lk io d))[j]? = some (.ow true d') := by rw [List.getElem?_set_ne e]; exact h
          obtain ⟨⟨d2, k1⟩, k2⟩ := p.io j d' h'
          exact ⟨⟨d2, by rw [List.getElem?_set_ne e]; exact k1⟩, k2⟩
      · by_cases e : i = j
        · subst e
          rw [q] at h; cases h
        · have h' : (env0.set i (.lk io d))[j]? = some (.lk io' d') := by rw [List.getElem?_set_ne e]; exact h
          obtain ⟨k1, k2⟩ := p.lk j io' d' h'
          exact ⟨by rw [List.getElem?_set_ne e]; exact k1, k2⟩
    · exact ⟨.refl, fun K F1 H1 F2 H2 env2 σ2 p => p⟩
    · exact same
theorem Lks.trans {lk lk' : List (Nat × Bool)} (a : Lks env0 env1 lk σ) (b : Lks env1 env2 lk' σ) : Lks env0 env2 (lk' ++ lk) σ := fun K F1 H1 F2 H2 e σ2 p => by
  rw [unlock_app]; exact a K F1 H1 F2 H2 _ σ2 (b K F1 H1 F2 H2 e σ2 p)
/-- what a source leans on stays -/
def Keep (K : PySem.W.Frag) (F' : FS) (H' : Hp) (env1 : En) (σ : Slots) (lk : List (Nat × Bool)) (P : FS → Hp → Prop) : Prop :=
  ∀ F2 H2, (∀ a, F' a → F2 a) → (∀ a, F' a → H2 a = H' a) → (∀ (i : Nat) (io : Bool) (d : D) (a : Addr), i ∈ lk.map (·.1) → env1[i]? = some (.lk io d) → σ[i]? = some (some (.ref a)) → OwnAt K F2 H2 d a) → P F2 H2
theorem lock_lk {o : Op} {i : Nat} {io d} (h : env0[i]? = some (.lk io d)) : (lockS env0 o).1[i]? = some (.lk io d) := by
  cases o with
  | v d => exact h
  | nw d => exact h
  | p j =>
    simp only [lockS]
    split
    · rename_i q
      have : j ≠ i := fun z => by subst z; rw [q] at h; cases h
      rw [List.getElem?_set_ne this]; exact h
    · exact h
    · exact h
theorem lock_keep (r : RelE K F H env0 σ) {o : Op} {v : V} {d : D} (ro : RelOp K F H σ o v) (hn : ∀ d, o ≠ .nw d) (e : rd env0 o = some d) {envZ : En} (hz : ∀ (i : Nat) io d, (lockS env0 o).1[i]? = some (.lk io d) → envZ[i]? = some (.lk io d)) {lk' : List (Nat × Bool)}
    (hl : ∀ z, z ∈ (lockS env0 o).2 → z ∈ lk') : Keep K F H envZ σ lk' (fun F H => Has K F H d v) := by
  intro F2 H2 sub agr ho
  cases o with
  | v x =>
    simp only [rd, Option.some.injEq] at e
    subst e
    exact .inl (Is.mono sub agr ro)
  | nw x => exact absurd rfl (hn x)
  | p i =>
    have ro : σ[i]? = some (some v) := ro
    simp only [rd] at e
    split at e
    · rename_i q
      cases e
      obtain ⟨w, k1, k2⟩ := r.fz i _ q
      rw [ro] at k1; cases k1
      exact .inl (k2.mono sub agr)
    · rename_i io d' q
      cases e
      obtain ⟨a, k1, k2⟩ := r.ow i _ _ q rfl
      rw [ro] at k1; cases k1
      have g : (lockS env0 (.p i)) = (env0.set i (.lk io d), [(i, true)]) := by simp only [lockS, q]
      have gi : (env0.set i (.lk io d))[i]? = some (.lk io d) := List.getElem?_set_self (lt_of_get q)
      exact .inr ⟨a, rfl, ho i io d a (List.mem_map.mpr ⟨(i, true), hl _ (by rw [g]; simp), rfl⟩) (hz i io d (by rw [g]; exact gi)) ro⟩
    · rename_i io d' q
      cases e
      obtain ⟨a, k1, k2⟩ := r.ow i _ _ q rfl
      rw [ro] at k1; cases k1
      have g : (lockS env0 (.p i)) = (env0, [(i, false)]) := by simp only [lockS, q]
      exact .inr ⟨a, rfl, ho i io d a (List.mem_map.mpr ⟨(i, false), hl _ (by rw [g]; simp), rfl⟩) (hz i io d (by rw [g]; exact q)) ro⟩
    · cases e
def SI (X : Cx) (tg p : Expr) (f : En → Option (List D × List (Nat × Bool) × En)) : Prop :=
  ∀ env items lk env1, f env = some (items, lk, env1) → ∀ σ F H R, RelE X.K F H env σ →
    (∀ J F' H' env0 P, Pst X.K F H env σ F' H' env0 σ → Relab env0 env1 → Lks env0 env1 lk σ → Src X.K J items P → P F' H' → Keep X.K F' H' env1 σ lk P → R J H') → WI X tg p σ H R
theorem src_list {xs : List D} {a : Addr} : Src K (Itl K a) xs (fun F H => Has K F H (.lst xs) (.ref a)) where
  go := fun i F H p h => by
    obtain ⟨b, vs, e, h1, i1⟩ := p.lst
    cases e
    obtain ⟨v, e1, _⟩ := i1.get (List.getElem?_eq_getElem h)
    exact ⟨vs, v, .of h1, e1⟩
  yld := fun i F H x H' p _ y d hd => by
    obtain ⟨b, vs, e, h1, i1⟩ := p.lst
    cases e
    obtain ⟨rfl, y⟩ := y
    obtain ⟨v, e1, e2⟩ := i1.get hd
    have := y vs (.of h1)
    rw [e1] at this; cases this
    exact ⟨F, .refl, e2⟩
  stop := fun i F H p h0 => have h := Nat.le_of_eq h0; by
    obtain ⟨b, vs, e, h1, i1⟩ := p.lst
    cases e
    exact ⟨vs, .of h1, by rw [← i1.length]; exact h⟩
theorem src_scr {ns : List Int} {a : Addr} : Src K (Itl K a) (ns.map .int) (fun F H => Has K F H (.scr ns) (.ref a)) where
  go := fun i F H p h => by
    obtain ⟨b, e, h1⟩ := p.scr
    cases e
    obtain ⟨v, e1, _⟩ := (IsL.of_ints (K := K) (F := F) (H := H) ns).get (List.getElem?_eq_getElem h)
    exact ⟨_, v, h1, e1⟩
  yld := fun i F H x H' p _ y d hd => by
    obtain ⟨b, e, h1⟩ := p.scr
    cases e
    obtain ⟨rfl, y⟩ := y
    obtain ⟨v, e1, e2⟩ := (IsL.of_ints (K := K) (F := F) (H := H') ns).get hd
    have := y _ h1
    rw [e1] at this; cases this
    exact ⟨F, .refl, e2⟩
  stop := fun i F H p h0 => have h := Nat.le_of_eq h0; by
    obtain ⟨b, e, h1⟩ := p.scr
    cases e
    exact ⟨_, h1, by simpa using h⟩
theorem src_tup {xs : List D} {a : Addr} : Src K (Itt K a) xs (fun F H => Has K F H (.tup xs) (.ref a)) where
  go := fun i F H p h => by
    obtain ⟨b, vs, e, h1, i1⟩ := p.tup
    cases e
    obtain ⟨v, e1, _⟩ := i1.get (List.getElem?_eq_getElem h)
    exact ⟨vs, v, h1, e1⟩
  yld := fun i F H x H' p _ y d hd => by
    obtain ⟨b, vs, e, h1, i1⟩ := p.tup
    cases e
    obtain ⟨rfl, y⟩ := y
    obtain ⟨v, e1, e2⟩ := i1.get hd
    have := y vs h1
    rw [e1] at this; cases this
    exact ⟨F, .refl, e2⟩
  stop := fun i F H p h0 => have h := Nat.le_of_eq h0; by
    obtain ⟨b, vs, e, h1, i1⟩ := p.tup
    cases e
    exact ⟨vs, h1, by rw [← i1.length]; exact h⟩
theorem src_rng {lo : Int} {n : Nat} : Src K (Itr lo n) ((List.range n).map fun k => .int (lo + (k : Nat))) (fun _ _ => True) where
  go := fun i F H _ h => by show i < n; simpa using h
  yld := fun i F H x H' _ _ y d hd => by
    obtain ⟨rfl, rfl⟩ := y
    rw [List.getElem?_map] at hd
    obtain ⟨k, hk, rfl⟩ := Option.map_eq_some_iff.mp hd
    have : i = k := by
      by_cases hi : i < n
      · rw [List.getElem?_range hi] at hk; cases hk; rfl
      · rw [List.getElem?_eq_none (by simpa using hi)] at hk; cases hk
    subst this
    exact ⟨F, .refl, by simp [Is]⟩
  stop := fun i F H _ h0 => have h := Nat.le_of_eq h0; by show n ≤ i; simpa using h
theorem enum_get : ∀ {xs : List D} {k : Int} {i : Nat} {d : D}, (enumD k xs)[i]? = some d → ∃ x, xs[i]? = some x ∧ d = .tup [.int (k + (i : Nat)), x]
  | [], _, _, _, h => by simp [enumD] at h
  | x :: xs, k, 0, d, h => by simp [enumD] at h; subst h; exact ⟨x, rfl, by simp⟩
  | x :: xs, k, i + 1, d, h => by
    obtain ⟨y, h1, h2⟩ := enum_get (xs := xs) (k := k + 1) (i := i) (d := d) (by simpa [enumD] using h)
    exact ⟨y, by simpa using h1, by rw [h2]; congr 2; congr 1; omega⟩
theorem enum_len : ∀ (xs : List D) (k : Int), (enumD k xs).length = xs.length
  | [], _ => rfl
  | x :: xs, k => by simp [enumD, enum_len xs]
theorem is_pair {d e : D} {x y : V} {T : Addr} {o : Obj} (po : VIU.PO o) (hT : H T = none) (hd : ∀ a, F a → H a ≠ none) (h1 : Is K F H d x) (h2 : Is K F H e y) : ∃ F', Nst F H F' (upd H T (.frz o (.tup [x, y]))) ∧ Is K F' (upd H T (.frz o (.tup [x, y]))) (.tup [d, e]) (.ref T) := by
  refine ⟨_, .newF hT, ?_⟩
  simp only [Is]
  refine ⟨T, [x, y], rfl, .inl ⟨.inr rfl, o, po, upd_same⟩, ?_⟩
  have agr : ∀ a, F a → upd H T (.frz o (.tup [x, y])) a = H a := fun a f => upd_ne fun z => hd a f (by rw [z]; exact hT)
  exact IsL.cons (h1.mono (fun _ => .inl) agr) (IsL.cons (h2.mono (fun _ => .inl) agr) IsL.nil)
theorem is_trip {d e c : D} {x y z : V} {T : Addr} {o : Obj} (po : VIU.PO o) (hT : H T = none) (hd : ∀ a, F a → H a ≠ none) (h1 : Is K F H d x) (h2 : Is K F H e y) (h3 : Is K F H c z) : ∃ F', Nst F H F' (upd H T (.frz o (.tup [x, y, z]))) ∧ Is K F' (upd H T (.frz o (.tup [x, y, z]))) (.tup [d, e, c]) (.ref T) := by
  refine ⟨_, .newF hT, ?_⟩
  simp only [Is]
  refine ⟨T, [x, y, z], rfl, .inl ⟨.inr rfl, o, po, upd_same⟩, ?_⟩
  have agr : ∀ a, F a → upd H T (.frz o (.tup [x, y, z])) a = H a := fun a f => upd_ne fun z => hd a f (by rw [z]; exact hT)
  exact IsL.cons (h1.mono (fun _ => .inl) agr) (IsL.cons (h2.mono (fun _ => .inl) agr) (IsL.cons (h3.mono (fun _ => .inl) agr) IsL.nil))
theorem zip_get : ∀ {xs ys : List D} {i : Nat} {d : D}, (zipD xs ys)[i]? = some d → ∃ x y, xs[i]? = some x ∧ ys[i]? = some y ∧ d = .tup [x, y]
  | [], _, _, _, h => by simp [zipD] at h
  | _ :: _, [], _, _, h => by simp [zipD] at h
  | x :: xs, y :: ys, 0, d, h => by simp [zipD] at h; subst h; exact ⟨x, y, rfl, rfl, rfl⟩
  | x :: xs, y :: ys, i + 1, d, h => by
    obtain ⟨u, w, h1, h2, h3⟩ := zip_get (xs := xs) (ys := ys) (i := i) (d := d) (by simpa [zipD] using h)
    exact ⟨u, w, by simpa using h1, by simpa using h2, h3⟩
theorem zip_len : ∀ (xs ys : List D), (zipD xs ys).length = min xs.length ys.length
  | [], _ => by simp [zipD]
  | _ :: _, [] => by simp [zipD]
  | x :: xs, y :: ys => by simp only [zipD, List.length_cons, zip_len xs ys]; omega
end
end VI
namespace VIE
open PySem PySem.Spec L2
open Sem (wp)
set_option maxHeartbeats 4000000 in
theorem meets_new {v : Value} {o : Obj} {H : Heap → Prop} (B : Begins v o H) :
    Meets (Builtin.«enumerate.__new__» ⟨[.type "enumerate", v], []⟩) (fun _ R s => H s.heap ∧
      R (.ok (.ret (.ref (s.heap.push o).objs.size))) { s with heap := (s.heap.push o).push { cls := .type "enumerate", data := .fields #[.none, .bool false, .ref s.heap.objs.size, rawInt 0, .none, .none] } }) :=
  .of_wp fun prog w A R s h => by
    obtain ⟨hp, g, d, tk, os⟩ := s; obtain ⟨h1, h⟩ := h
    have hsub := sub_enumerate
    have q1 : ∀ {A' : Around} {E : Value → Shared → Prop} {Q : Value → Shared → Prop}, Q (.ref hp.objs.size) ⟨hp.push o, g, d, tk, os⟩ → wpAny (model prog w) A' (pyIter v) Q E ⟨hp, g, d, tk, os⟩ :=
      fun q => B.iter prog w _ _ ⟨hp, g, d, tk, os⟩ _ h1 q
    wp_walk using q1
    refine wpAny_stack_any fun st => wpAny_pure ?_
    split
    · rename_i c _ _ _ _ _
      cases (c == Value.type "enumerate")
      · wp_walk using q1
        exact ⟨_, rfl, h⟩
      · wp_walk using q1
        exact ⟨_, rfl, h⟩
    · wp_walk using q1
      exact ⟨_, rfl, h⟩
theorem call_enum {prog : Program} {w : World} {A : Around} {E : Value → Shared → Prop} {s : Shared} {v : Value} {o : Obj} {H : Heap → Prop} {Q : Value → Shared → Prop} (B : Begins v o H) (h1 : H s.heap)
    (h : ∀ h', IsEnum h' (s.heap.objs.size + 1) s.heap.objs.size 0 .none → h'.get? s.heap.objs.size = some o → h'.objs.size = s.heap.objs.size + 2 →
      (∀ b o, s.heap.get? b = some o → h'.get? b = some o) → Q (.ref (s.heap.objs.size + 1)) { s with heap := h' }) :
    wpAny (model prog w) A (call (.type "enumerate") [v]) Q E s := by
  refine callType_new F.called_enumerate (by decide) (F.typeCall_enumerate_1 _) (F.newCall_enumerate_1 _) (fun obj => F.args_object_init_2 obj _) F.entry_enumerate_new
    (meets_new B) ⟨h1, ?_⟩
  have hz : (s.heap.push o).objs.size = s.heap.objs.size + 1 := Heap.size_push ..
  show _ ∧ _
  rw [hz]
  have he : IsEnum ((s.heap.push o).push { cls := .type "enumerate", data := .fields #[.none, .bool false, .ref s.heap.objs.size, rawInt 0, .none, .none] }) (s.heap.objs.size + 1) s.heap.objs.size 0 .none := by
    have := Heap.get?_push_size (s.heap.push o) (o := { cls := .type "enumerate", data := .fields #[.none, .bool false, .ref s.heap.objs.size, rawInt 0, .none, .none] }) rfl
    rw [hz] at this; exact this
  refine ⟨⟨_, he, rfl⟩, h _ he (Heap.get?_push_of_some _ (Heap.get?_push_size _ B.free)) (by rw [Heap.size_push, hz]) fun b o x => Heap.get?_push_of_some _ (Heap.get?_push_of_some _ x)⟩
theorem boot_enum : bootBuiltins "enumerate" = some (.type "enumerate") := by decide +kernel
end VIE
namespace VIZ
open PySem PySem.Spec L2 PyProof.Rows
open Sem (wp)
def Sq (b : Bool) (K : PySem.W.Frag) (H : Hp) (a : Addr) (xs : List V) : Prop := match b with | true => SqT K H a xs | false => SqL K H a xs
def HS (b : Bool) (h : Heap) (a : Addr) (its : Array Value) : Prop := match b with | true => h.IsTuple a its | false => h.IsList a its
def IS (b : Bool) (h : Heap) (it a : Addr) (i : Nat) : Prop := match b with | true => h.IsTupleIter it a i | false => h.IsListIter it a i
def iob (b : Bool) (a : Addr) : Obj := match b with | true => { cls := .type "tuple_iterator", data := .fields #[.ref a, .int 0 0] } | false => { cls := .type "list_iterator", data := .fields #[.ref a, .int 0 0] }
theorem sq_of {b : Bool} {X : Cx} {pins : List (Addr × Obj)} {σ : L2.St} {H : Hp} {s : Shared} {a : Addr} {xs : List V} (I : Inv X pins σ H s) (h : Sq b X.K H a xs) : ∃ its : List Value, Vals xs its ∧ HS b s.heap a its.toArray := by
  cases b with
  | true => obtain ⟨its, rv, p, _⟩ := I.tuple h; exact ⟨its, rv, p⟩
  | false => obtain ⟨its, rv, p, _⟩ := I.list h; exact ⟨its, rv, p.isList⟩
theorem sq_inj {b : Bool} {X : Cx} {pins : List (Addr × Obj)} {σ : L2.St} {H : Hp} {s : Shared} {a : Addr} {xs ys : List V} (I : Inv X pins σ H s) (h : Sq b X.K H a xs) (h' : Sq b X.K H a ys) : xs = ys := by
  cases b with
  | true => exact I.tuple_inj h h'
  | false => exact I.list_inj h h'
theorem hs_lt {b : Bool} {h : Heap} {a : Addr} {its : Array Value} (p : HS b h a its) : a < h.objs.size := by
  cases b with
  | true => obtain ⟨o, e, _⟩ := p; exact Heap.lt_size e
  | false => obtain ⟨o, e, _⟩ := p; exact Heap.lt_size e
theorem is_live {b : Bool} {h : Heap} {it a : Addr} {i : Nat} (p : IS b h it a i) : ∃ o, h.get? it = some o ∧ ∀ v, o.data ≠ .cell v := by
  cases b with
  | true => obtain ⟨o, e, _, d⟩ := p; exact ⟨o, e, fun v q => by rw [d] at q; cases q⟩
  | false => obtain ⟨o, e, _, d⟩ := p; exact ⟨o, e, fun v q => by rw [d] at q; cases q⟩
theorem is_keep {b : Bool} {h h' : Heap} {it a : Addr} {i : Nat} (p : IS b h it a i) (k : ∀ o, h.get? it = some o → h'.get? it = some o) : IS b h' it a i := by
  cases b with
  | true => exact Heap.IsTupleIter.at p k
  | false => exact Heap.IsListIter.at p k
theorem is_new {b : Bool} {h : Heap} {it a : Addr} (e : h.get? it = some (iob b a)) : IS b h it a 0 := by
  cases b with
  | true => exact ⟨_, e, rfl, rfl⟩
  | false => exact ⟨_, e, rfl, rfl⟩
theorem draws {prog : Program} {w : World} {A : Around} (b : Bool) (hh : A.handled = none) (it a : Addr) (hne : a ≠ it) (items : Array Value) :
    Draws prog w A it [it, a] items.size (fun i v => items[i]? = some v) (fun i h => IS b h it a i ∧ HS b h a items) := by
  cases b with
  | true => exact Draws.tuple hh it a hne items
  | false => exact Draws.list hh it a hne items
theorem begins (b : Bool) (a : Addr) (items : Array Value) : Begins (.ref a) (iob b a) fun h => HS b h a items := by
  cases b with
  | true => exact begins_tuple a items
  | false => exact begins_list a items
def It3 (b : Bool) (K : PySem.W.Frag) (a1 a2 a3 : Addr) : It :=
  ⟨fun i H => ∃ (xs ys zs : List V) (x y z : V), Sq b K H a1 xs ∧ Sq b K H a2 ys ∧ Sq b K H a3 zs ∧ xs[i]? = some x ∧ ys[i]? = some y ∧ zs[i]? = some z,
    fun i H v H' => ∃ T o x y z, v = .ref T ∧ VIU.PO o ∧ H T = none ∧ H' = upd H T (.frz o (.tup [x, y, z])) ∧ (∀ xs, Sq b K H a1 xs → xs[i]? = some x) ∧ (∀ ys, Sq b K H a2 ys → ys[i]? = some y) ∧ ∀ zs, Sq b K H a3 zs → zs[i]? = some z,
    fun i H => ∃ xs ys zs : List V, Sq b K H a1 xs ∧ Sq b K H a2 ys ∧ Sq b K H a3 zs ∧ i ≤ xs.length ∧ i ≤ ys.length ∧ i ≤ zs.length ∧ (i = xs.length ∨ i = ys.length ∨ i = zs.length)⟩
theorem turn_zip3 {P : Program} {w : World} {K : PySem.W.Frag} {elts : List Expr} {kk : Nat} {tpos : Pos} {b : Bool} {a1 a2 a3 z TI TO i1 i2 i3 : Addr} (D : ZipSep3 z TI TO i1 i2 i3 [i1, a1] [i2, a2] [i3, a3]) :
    Turn P w K (.Tuple elts kk tpos) (It3 b K a1 a2 a3) [z, TI, TO, i1, i2, i3] z (fun i h => IsZip h z TI TO .none ∧ IsTupOf3 h TI (.ref i1) (.ref i2) (.ref i3) ∧ (∃ x y u, IsTupOf3 h TO x y u) ∧ IS b h i1 a1 i ∧ IS b h i2 a2 i ∧ IS b h i3 a3 i ∧ (a1 ≠ i1 ∧ a2 ≠ i2 ∧ a3 ≠ i3)) where
  mem := by simp
  obj := fun i h st c hc => by
    obtain ⟨hz, hTI, ⟨x, y, u, hTO⟩, h1, h2, h3, _⟩ := st
    have e' : c = z ∨ c = TI ∨ c = TO ∨ c = i1 ∨ c = i2 ∨ c = i3 := by simpa using hc
    rcases e' with q | q | q | q | q | q
    · rw [q]; exact ⟨_, hz, fun v q => nomatch q⟩
    · rw [q]; exact ⟨_, hTI, fun v q => nomatch q⟩
    · rw [q]; exact ⟨_, hTO, fun v q => nomatch q⟩
    · rw [q]; exact is_live h1
    · rw [q]; exact is_live h2
    · rw [q]; exact is_live h3
  keep := fun i h h' st k => by
    obtain ⟨hz, hTI, ⟨x, y, u, hTO⟩, h1, h2, h3, hne⟩ := st
    exact ⟨k z (by simp) _ hz, k TI (by simp) _ hTI, ⟨x, y, u, k TO (by simp) _ hTO⟩, is_keep h1 fun o q => k i1 (by simp) o q, is_keep h2 fun o q => k i2 (by simp) o q, is_keep h3 fun o q => k i3 (by simp) o q, hne⟩
  item := by
    intro X hP hw hK hc i pins s σ H E I hf st hg
    subst hP hw hK
    obtain ⟨hz, hTI, ⟨x0, y0, u0, hTO⟩, h1, h2, h3, hne1, hne2, hne3⟩ := st
    obtain ⟨xs, ys, zs, x, y, u, hqx, hqy, hqz, hx, hy, hu⟩ := hg
    obtain ⟨its1, rv1, p1⟩ := sq_of I hqx
    obtain ⟨its2, rv2, p2⟩ := sq_of I hqy
    obtain ⟨its3, rv3, p3⟩ := sq_of I hqz
    obtain ⟨w1, hw1, ru1⟩ := rv1.get hx
    obtain ⟨w2, hw2, ru2⟩ := rv2.get hy
    obtain ⟨w3, hw3, ru3⟩ := rv3.get hu
    have hzl : z < s.heap.objs.size := Heap.lt_size hz
    have lt : ∀ {its : List Value} {w : Value}, its[i]? = some w → i < its.toArray.size := fun e => by
      have := (List.getElem?_eq_some_iff.mp e).1
      simpa using this
    refine wpAny_pyNext_zipD3_item D (draws (A := X.A.in1) b (I.ok.hd hc) i1 a1 hne1 its1.toArray) (draws (A := X.A.in1) b (I.ok.hd hc) i2 a2 hne2 its2.toArray) (draws (A := X.A.in1) b (I.ok.hd hc) i3 a3 hne3 its3.toArray)
      hz hTI hTO ⟨h1, p1⟩ ⟨h2, p2⟩ ⟨h3, p3⟩ (lt hw1) (lt hw2) (lt hw3) fun y1 y2 y3 h' tk e1 e2 e3 z' TO' st1 st2 st3 hT hsz hk => ?_
    have q1 : y1 = w1 := by
      have e1 : its1.toArray[i]? = some y1 := e1
      rw [List.getElem?_toArray, hw1] at e1; cases e1; rfl
    have q2 : y2 = w2 := by
      have e2 : its2.toArray[i]? = some y2 := e2
      rw [List.getElem?_toArray, hw2] at e2; cases e2; rfl
    have q3 : y3 = w3 := by
      have e3 : its3.toArray[i]? = some y3 := e3
      rw [List.getElem?_toArray, hw3] at e3; cases e3; rfl
    subst q1 q2 q3
    refine ⟨_, rfl, wpAny_letOwnedTupleGo_zip (s := { s with heap := h', toks := tk }) z' fun h'' z'' sb => ?_⟩
    have hT2 : h''.get? s.heap.objs.size = some { cls := .type "tuple", data := .seq #[y1, y2, y3] } := (sb.2 _ (Nat.ne_of_gt hzl)).trans hT
    have new : ObjOk X.prog X.w (upd H s.heap.objs.size (.frz (VIU.plainO #[y1, y2, y3]) (.tup [x, y, u]))) h'' s.heap.objs.size (.frz (VIU.plainO #[y1, y2, y3]) (.tup [x, y, u])) :=
      ⟨hT2, by show 3 ≤ sizeLine; decide, [y1, y2, y3], .cons ru1 (.cons ru2 (.cons ru3 .nil)), ⟨_, hT2, rfl, _, rfl⟩⟩
    have I1 : Inv X pins σ (upd H s.heap.objs.size (.frz (VIU.plainO #[y1, y2, y3]) (.tup [x, y, u]))) { s with heap := h'', toks := tk } :=
      I.turnedNew (t' := tk) (ch := [z, TI, TO, i1, i2, i3]) (fun c o hb q => (sb.2 c (fun q' => hb (by simp [q']))).trans (hk c o (fun q' => hb (by simp [q'])) (fun q' => hb (by simp [q'])) (fun q' => hb (by simp [q'])) (fun q' => hb (by simp [q'])) (fun q' => hb (by simp [q'])) q)) hf (Nat.le_refl _) new
    refine ⟨.ref s.heap.objs.size, _, I1, rfl, ⟨_, _, x, y, u, rfl, VIU.po_new _, I.hok.fresh (Nat.le_refl _), rfl, fun l hl => by rw [sq_inj I hl hqx]; exact hx, fun l hl => by rw [sq_inj I hl hqy]; exact hy, fun l hl => by rw [sq_inj I hl hqz]; exact hu⟩, ⟨z'', ?_, ⟨y1, y2, y3, ?_⟩, ?_, ?_, ?_, hne1, hne2, hne3⟩, fun c hcm => ?_⟩
    · exact (sb.2 _ D.TIz).trans (hk _ _ D.TIz D.TITO D.TIi1 D.TIi2 D.TIi3 hTI)
    · exact (sb.2 _ D.TOz).trans TO'
    · exact is_keep st1.1 fun o q => (sb.2 _ D.zi1.symm).trans q
    · exact is_keep st2.1 fun o q => (sb.2 _ D.zi2.symm).trans q
    · exact is_keep st3.1 fun o q => (sb.2 _ D.zi3.symm).trans q
    · have hlt : c < s.heap.objs.size := by
        have e' : c = z ∨ c = TI ∨ c = TO ∨ c = i1 ∨ c = i2 ∨ c = i3 := by simpa using hcm
        rcases e' with q | q | q | q | q | q
        · rw [q]; exact hzl
        · rw [q]; exact Heap.lt_size hTI
        · rw [q]; exact Heap.lt_size hTO
        · rw [q]; obtain ⟨_, e1, _⟩ := is_live h1; exact Heap.lt_size e1
        · rw [q]; obtain ⟨_, e2, _⟩ := is_live h2; exact Heap.lt_size e2
        · rw [q]; obtain ⟨_, e3, _⟩ := is_live h3; exact Heap.lt_size e3
      rw [upd_ne (Nat.ne_of_lt hlt)]
      exact (hf c hcm).1
  done := by
    intro X hP hw hK hc i pins s σ H E I hf st hg
    subst hP hw hK
    obtain ⟨hz, hTI, ⟨x0, y0, u0, hTO⟩, h1, h2, h3, hne1, hne2, hne3⟩ := st
    obtain ⟨xs, ys, zs, hqx, hqy, hqz, hl1, hl2, hl3, hend⟩ := hg
    obtain ⟨its1, rv1, p1⟩ := sq_of I hqx
    obtain ⟨its2, rv2, p2⟩ := sq_of I hqy
    obtain ⟨its3, rv3, p3⟩ := sq_of I hqz
    have l1 := rv1.length
    have l2 := rv2.length
    have l3 := rv3.length
    exact wpAny_pyNext_zipD3_end D (draws (A := X.A.in1) b (I.ok.hd hc) i1 a1 hne1 its1.toArray) (draws (A := X.A.in1) b (I.ok.hd hc) i2 a2 hne2 its2.toArray) (draws (A := X.A.in1) b (I.ok.hd hc) i3 a3 hne3 its3.toArray)
      hz hTI hTO ⟨h1, p1⟩ ⟨h2, p2⟩ ⟨h3, p3⟩ (by rw [List.size_toArray]; omega) (by rw [List.size_toArray]; omega) (by rw [List.size_toArray]; omega) (by rw [List.size_toArray, List.size_toArray, List.size_toArray]; omega) fun h' tk hk => ⟨rfl, I.turnedL (t' := tk) (ch := [z, TI, TO, i1, i2, i3]) (fun c o hb q =>
      hk c o (fun q' => hb (by simp [q'])) (fun q' => hb (by simp [q'])) (fun q' => hb (by simp [q'])) (fun q' => hb (by simp [q'])) (fun q' => hb (by simp [q'])) q) hf⟩
  self := fun A i s Q E st h => wpAny_pyIter_zip st.1 h
def iZip3 (K : PySem.W.Frag) (ta : TA) : TI := fun σ H R => ta σ H fun vs H1 => ∃ (b : Bool) (a1 a2 a3 : Addr) (xs ys zs : List V), vs = [.ref a1, .ref a2, .ref a3] ∧ Sq b K H1 a1 xs ∧ Sq b K H1 a2 ys ∧ Sq b K H1 a3 zs ∧ R (It3 b K a1 a2 a3) H1
theorem sep_of {n a1 a2 a3 : Nat} (k1 : a1 < n) (k2 : a2 < n) (k3 : a3 < n) : ZipSep3 (n + 5) (n + 3) (n + 4) n (n + 1) (n + 2) [n, a1] [n + 1, a2] [n + 2, a3] := by
  constructor <;> simp only [List.mem_cons, List.not_mem_nil, or_false, true_or, Addr] <;> omega
theorem pi_zip3 {X : Cx} {e e2 e3 : Expr} {ta : TA} {p pos tpos : Pos} {elts : List Expr} {kk : Nat} (hg : Gl X "zip") (hm : X.mg "zip" = none) (ha : PA X [e, e2, e3] ta)
    (hs : starEach [e, e2, e3] X.env = (false, eval e X.env) :: starEach [e2, e3] X.env := by rfl) (hpl : (backTo pos (starEach [e2, e3] X.env)).any (·.1) = false := by rfl) :
    PI X (.Tuple elts kk tpos) (.Call (.Name "zip" p) [e, e2, e3] [] pos) (iZip3 X.K ta) := by
  refine ⟨fun pins s σ H R I h => ?_⟩
  refine Call_ (ld_blt I hg hm PyProof.Rows.boot_zip (PyProof.Rows.callWith_type1 (thn (ha.run pos pins s σ H _ I h) fun us s1 ⟨vs, H1, I1, r1, q1⟩ => ?_) hs hpl))
  obtain ⟨b, a1, a2, a3, xs, ys, zs, ex, hqx, hqy, hqz, q⟩ := q1
  subst ex
  cases r1 with
  | cons r rr =>
    cases rr with
    | cons r' rr =>
      cases rr with
      | cons r'' rr =>
        cases rr
        cases r
        cases r'
        cases r''
        obtain ⟨its1, rv1, p1⟩ := sq_of I1 hqx
        obtain ⟨its2, rv2, p2⟩ := sq_of I1 hqy
        obtain ⟨its3, rv3, p3⟩ := sq_of I1 hqz
        have k1 : @LT.lt Nat _ a1 s1.heap.objs.size := hs_lt p1
        have k2 : @LT.lt Nat _ a2 s1.heap.objs.size := hs_lt p2
        have k3 : @LT.lt Nat _ a3 s1.heap.objs.size := hs_lt p3
        refine zip_begins3 (begins b a1 its1.toArray) (begins b a2 its2.toArray) (begins b a3 its3.toArray) p1 p2 p3 fun h' hz hTI hTO h1 h2 h3 hsz hk => wpAny_pyIter_zip hz ?_
        have I2 : Inv X pins σ H1 { s1 with heap := h' } := I1.kept (t' := s1.toks) hk
        have D : ZipSep3 (s1.heap.objs.size + 5) (s1.heap.objs.size + 3) (s1.heap.objs.size + 4) s1.heap.objs.size (s1.heap.objs.size + 1) (s1.heap.objs.size + 2) [s1.heap.objs.size, a1] [s1.heap.objs.size + 1, a2] [s1.heap.objs.size + 2, a3] := by
          exact sep_of k1 k2 k3
        refine ⟨s1.heap.objs.size + 5, [s1.heap.objs.size + 5, s1.heap.objs.size + 3, s1.heap.objs.size + 4, s1.heap.objs.size, s1.heap.objs.size + 1, s1.heap.objs.size + 2], _, _, H1, rfl, I2, turn_zip3 D, ⟨hz, hTI, ⟨_, _, _, hTO⟩, is_new h1, is_new h2, is_new h3, Nat.ne_of_lt k1, Nat.ne_of_lt (Nat.lt_succ_of_lt k2), Nat.ne_of_lt (Nat.lt_succ_of_lt (Nat.lt_succ_of_lt k3))⟩, fun c hcm => ?_, q⟩
        have e' : c = s1.heap.objs.size + 5 ∨ c = s1.heap.objs.size + 3 ∨ c = s1.heap.objs.size + 4 ∨ c = s1.heap.objs.size ∨ c = s1.heap.objs.size + 1 ∨ c = s1.heap.objs.size + 2 := by simpa using hcm
        have hle : s1.heap.objs.size ≤ c := by
          rcases e' with z | z | z | z | z | z <;> rw [z] <;> first | exact Nat.le_add_right _ _ | exact Nat.le_refl _
        exact I1.fpOk hle (I1.hok.fresh hle)
end VIZ
namespace VIZ
open PySem PySem.Spec L2 PyProof.Rows
open Sem (wp)
def It2 (b c : Bool) (K : PySem.W.Frag) (a1 a2 : Addr) : It :=
  ⟨fun i H => ∃ (xs ys : List V) (x y : V), Sq b K H a1 xs ∧ Sq c K H a2 ys ∧ xs[i]? = some x ∧ ys[i]? = some y,
    fun i H v H' => ∃ T o x y, v = .ref T ∧ VIU.PO o ∧ H T = none ∧ H' = upd H T (.frz o (.tup [x, y])) ∧ (∀ xs, Sq b K H a1 xs → xs[i]? = some x) ∧ (∀ ys, Sq c K H a2 ys → ys[i]? = some y),
    fun i H => ∃ xs ys : List V, Sq b K H a1 xs ∧ Sq c K H a2 ys ∧ i ≤ xs.length ∧ i ≤ ys.length ∧ (i = xs.length ∨ i = ys.length)⟩
theorem turn_zip2 {P : Program} {w : World} {K : PySem.W.Frag} {elts : List Expr} {kk : Nat} {tpos : Pos} {b c : Bool} {a1 a2 z TI TO i1 i2 : Addr} (D : ZipSep2 z TI TO i1 i2 [i1, a1] [i2, a2]) :
    Turn P w K (.Tuple elts kk tpos) (It2 b c K a1 a2) [z, TI, TO, i1, i2] z (fun i h => IsZip h z TI TO .none ∧ IsTupOf2 h TI (.ref i1) (.ref i2) ∧ (∃ x y, IsTupOf2 h TO x y) ∧ IS b h i1 a1 i ∧ IS c h i2 a2 i ∧ (a1 ≠ i1 ∧ a2 ≠ i2)) where
  mem := by simp
  obj := fun i h st e hc => by
    obtain ⟨hz, hTI, ⟨x, y, hTO⟩, h1, h2, _⟩ := st
    have e' : e = z ∨ e = TI ∨ e = TO ∨ e = i1 ∨ e = i2 := by simpa using hc
    rcases e' with q | q | q | q | q
    · rw [q]; exact ⟨_, hz, fun v q => nomatch q⟩
    · rw [q]; exact ⟨_, hTI, fun v q => nomatch q⟩
    · rw [q]; exact ⟨_, hTO, fun v q => nomatch q⟩
    · rw [q]; exact is_live h1
    · rw [q]; exact is_live h2
  keep := fun i h h' st k => by
    obtain ⟨hz, hTI, ⟨x, y, hTO⟩, h1, h2, hne⟩ := st
    exact ⟨k z (by simp) _ hz, k TI (by simp) _ hTI, ⟨x, y, k TO (by simp) _ hTO⟩, is_keep h1 fun o q => k i1 (by simp) o q, is_keep h2 fun o q => k i2 (by simp) o q, hne⟩
  item := by
    intro X hP hw hK hc i pins s σ H E I hf st hg
    subst hP hw hK
    obtain ⟨hz, hTI, ⟨x0, y0, hTO⟩, h1, h2, hne1, hne2⟩ := st
    obtain ⟨xs, ys, x, y, hqx, hqy, hx, hy⟩ := hg
    obtain ⟨its1, rv1, p1⟩ := sq_of I hqx
    obtain ⟨its2, rv2, p2⟩ := sq_of I hqy
    obtain ⟨w1, hw1, ru1⟩ := rv1.get hx
    obtain ⟨w2, hw2, ru2⟩ := rv2.get hy
    have hzl : z < s.heap.objs.size := Heap.lt_size hz
    have lt : ∀ {its : List Value} {w : Value}, its[i]? = some w → i < its.toArray.size := fun e => by
      have := (List.getElem?_eq_some_iff.mp e).1
      simpa using this
    refine wpAny_pyNext_zipD2_item D (draws (A := X.A.in1) b (I.ok.hd hc) i1 a1 hne1 its1.toArray) (draws (A := X.A.in1) c (I.ok.hd hc) i2 a2 hne2 its2.toArray)
      hz hTI hTO ⟨h1, p1⟩ ⟨h2, p2⟩ (lt hw1) (lt hw2) fun y1 y2 h' tk e1 e2 z' TO' st1 st2 hT hsz hk => ?_
    have q1 : y1 = w1 := by
      have e1 : its1.toArray[i]? = some y1 := e1
      rw [List.getElem?_toArray, hw1] at e1; cases e1; rfl
    have q2 : y2 = w2 := by
      have e2 : its2.toArray[i]? = some y2 := e2
      rw [List.getElem?_toArray, hw2] at e2; cases e2; rfl
    subst q1 q2
    refine ⟨_, rfl, wpAny_letOwnedTupleGo_zip (s := { s with heap := h', toks := tk }) z' fun h'' z'' sb => ?_⟩
    have hT2 : h''.get? s.heap.objs.size = some { cls := .type "tuple", data := .seq #[y1, y2] } := (sb.2 _ (Nat.ne_of_gt hzl)).trans hT
    have new : ObjOk X.prog X.w (upd H s.heap.objs.size (.frz (VIU.plainO #[y1, y2]) (.tup [x, y]))) h'' s.heap.objs.size (.frz (VIU.plainO #[y1, y2]) (.tup [x, y])) :=
      ⟨hT2, by show 2 ≤ sizeLine; decide, [y1, y2], .cons ru1 (.cons ru2 .nil), ⟨_, hT2, rfl, _, rfl⟩⟩
    have I1 : Inv X pins σ (upd H s.heap.objs.size (.frz (VIU.plainO #[y1, y2]) (.tup [x, y]))) { s with heap := h'', toks := tk } :=
      I.turnedNew (t' := tk) (ch := [z, TI, TO, i1, i2]) (fun c o hb q => (sb.2 c (fun q' => hb (by simp [q']))).trans (hk c o (fun q' => hb (by simp [q'])) (fun q' => hb (by simp [q'])) (fun q' => hb (by simp [q'])) (fun q' => hb (by simp [q'])) q)) hf (Nat.le_refl _) new
    refine ⟨.ref s.heap.objs.size, _, I1, rfl, ⟨_, _, x, y, rfl, VIU.po_new _, I.hok.fresh (Nat.le_refl _), rfl, fun l hl => by rw [sq_inj I hl hqx]; exact hx, fun l hl => by rw [sq_inj I hl hqy]; exact hy⟩, ⟨z'', ?_, ⟨y1, y2, ?_⟩, ?_, ?_, hne1, hne2⟩, fun e hcm => ?_⟩
    · exact (sb.2 _ D.TIz).trans (hk _ _ D.TIz D.TITO D.TIi1 D.TIi2 hTI)
    · exact (sb.2 _ D.TOz).trans TO'
    · exact is_keep st1.1 fun o q => (sb.2 _ D.zi1.symm).trans q
    · exact is_keep st2.1 fun o q => (sb.2 _ D.zi2.symm).trans q
    · have hlt : e < s.heap.objs.size := by
        have e' : e = z ∨ e = TI ∨ e = TO ∨ e = i1 ∨ e = i2 := by simpa using hcm
        rcases e' with q | q | q | q | q
        · rw [q]; exact hzl
        · rw [q]; exact Heap.lt_size hTI
        · rw [q]; exact Heap.lt_size hTO
        · rw [q]; obtain ⟨_, e1, _⟩ := is_live h1; exact Heap.lt_size e1
        · rw [q]; obtain ⟨_, e2, _⟩ := is_live h2; exact Heap.lt_size e2
      rw [upd_ne (Nat.ne_of_lt hlt)]
      exact (hf e hcm).1
  done := by
    intro X hP hw hK hc i pins s σ H E I hf st hg
    subst hP hw hK
    obtain ⟨hz, hTI, ⟨x0, y0, hTO⟩, h1, h2, hne1, hne2⟩ := st
    obtain ⟨xs, ys, hqx, hqy, hl1, hl2, hend⟩ := hg
    obtain ⟨its1, rv1, p1⟩ := sq_of I hqx
    obtain ⟨its2, rv2, p2⟩ := sq_of I hqy
    have l1 := rv1.length
    have l2 := rv2.length
    exact wpAny_pyNext_zipD2_end D (draws (A := X.A.in1) b (I.ok.hd hc) i1 a1 hne1 its1.toArray) (draws (A := X.A.in1) c (I.ok.hd hc) i2 a2 hne2 its2.toArray)
      hz hTI hTO ⟨h1, p1⟩ ⟨h2, p2⟩ (by rw [List.size_toArray]; omega) (by rw [List.size_toArray]; omega) (by rw [List.size_toArray, List.size_toArray]; omega) fun h' tk hk => ⟨rfl, I.turnedL (t' := tk) (ch := [z, TI, TO, i1, i2]) (fun c o hb q =>
      hk c o (fun q' => hb (by simp [q'])) (fun q' => hb (by simp [q'])) (fun q' => hb (by simp [q'])) (fun q' => hb (by simp [q'])) q) hf⟩
  self := fun A i s Q E st h => wpAny_pyIter_zip st.1 h
def iZip2 (K : PySem.W.Frag) (ta : TA) : TI := fun σ H R => ta σ H fun vs H1 => ∃ (b c : Bool) (a1 a2 : Addr) (xs ys : List V), vs = [.ref a1, .ref a2] ∧ Sq b K H1 a1 xs ∧ Sq c K H1 a2 ys ∧ R (It2 b c K a1 a2) H1
theorem sep2_of {n a1 a2 : Nat} (k1 : a1 < n) (k2 : a2 < n) : ZipSep2 (n + 4) (n + 2) (n + 3) n (n + 1) [n, a1] [n + 1, a2] := by
  constructor <;> simp only [List.mem_cons, List.not_mem_nil, or_false, true_or, Addr] <;> omega
theorem pi_zip2 {X : Cx} {e e2 : Expr} {ta : TA} {p pos tpos : Pos} {elts : List Expr} {kk : Nat} (hg : Gl X "zip") (hm : X.mg "zip" = none) (ha : PA X [e, e2] ta)
    (hs : starEach [e, e2] X.env = (false, eval e X.env) :: starEach [e2] X.env := by rfl) (hpl : (backTo pos (starEach [e2] X.env)).any (·.1) = false := by rfl) :
    PI X (.Tuple elts kk tpos) (.Call (.Name "zip" p) [e, e2] [] pos) (iZip2 X.K ta) := by
  refine ⟨fun pins s σ H R I h => ?_⟩
  refine Call_ (ld_blt I hg hm PyProof.Rows.boot_zip (PyProof.Rows.callWith_type1 (thn (ha.run pos pins s σ H _ I h) fun us s1 ⟨vs, H1, I1, r1, q1⟩ => ?_) hs hpl))
  obtain ⟨b, c, a1, a2, xs, ys, ex, hqx, hqy, q⟩ := q1
  subst ex
  cases r1 with
  | cons r rr =>
    cases rr with
    | cons r' rr =>
      cases rr
      cases r
      cases r'
      obtain ⟨its1, rv1, p1⟩ := sq_of I1 hqx
      obtain ⟨its2, rv2, p2⟩ := sq_of I1 hqy
      have k1 : @LT.lt Nat _ a1 s1.heap.objs.size := hs_lt p1
      have k2 : @LT.lt Nat _ a2 s1.heap.objs.size := hs_lt p2
      refine zip_begins2 (begins b a1 its1.toArray) (begins c a2 its2.toArray) p1 p2 fun h' hz hTI hTO h1 h2 hsz hk => wpAny_pyIter_zip hz ?_
      have I2 : Inv X pins σ H1 { s1 with heap := h' } := I1.kept (t' := s1.toks) hk
      have D : ZipSep2 (s1.heap.objs.size + 4) (s1.heap.objs.size + 2) (s1.heap.objs.size + 3) s1.heap.objs.size (s1.heap.objs.size + 1) [s1.heap.objs.size, a1] [s1.heap.objs.size + 1, a2] := by
        exact sep2_of k1 k2
      refine ⟨s1.heap.objs.size + 4, [s1.heap.objs.size + 4, s1.heap.objs.size + 2, s1.heap.objs.size + 3, s1.heap.objs.size, s1.heap.objs.size + 1], _, _, H1, rfl, I2, turn_zip2 D, ⟨hz, hTI, ⟨_, _, hTO⟩, is_new h1, is_new h2, Nat.ne_of_lt k1, Nat.ne_of_lt (Nat.lt_succ_of_lt k2)⟩, fun e hcm => ?_, q⟩
      have e' : e = s1.heap.objs.size + 4 ∨ e = s1.heap.objs.size + 2 ∨ e = s1.heap.objs.size + 3 ∨ e = s1.heap.objs.size ∨ e = s1.heap.objs.size + 1 := by simpa using hcm
      have hle : s1.heap.objs.size ≤ e := by
        rcases e' with z | z | z | z | z <;> rw [z] <;> first | exact Nat.le_add_right _ _ | exact Nat.le_refl _
      exact I1.fpOk hle (I1.hok.fresh hle)
def Ite2 (b : Bool) (K : PySem.W.Frag) (a : Addr) : It :=
  ⟨fun i H => ∃ (xs : List V) (x : V), Sq b K H a xs ∧ xs[i]? = some x, fun i H v H' => ∃ T o x, v = .ref T ∧ VIU.PO o ∧ H T = none ∧ H' = upd H T (.frz o (.tup [.int (i : Nat), x])) ∧ ∀ xs, Sq b K H a xs → xs[i]? = some x, fun i H => ∃ xs : List V, Sq b K H a xs ∧ xs.length = i⟩
theorem turn_enum2 {P : Program} {w : World} {K : PySem.W.Frag} {elts : List Expr} {kk : Nat} {tpos : Pos} {b : Bool} (a e it : Addr) :
    Turn P w K (.Tuple elts kk tpos) (Ite2 b K a) [e, it] e (fun i h => (∃ old, IsEnum h e it ((i : Nat) : Int) old) ∧ IS b h it a i ∧ (e ≠ it ∧ a ≠ it ∧ e ≠ a)) where
  mem := by simp
  obj := fun i h st c hc => by
    obtain ⟨⟨old, he⟩, hi, _⟩ := st
    rcases (show c = e ∨ c = it by simpa using hc) with z | z
    · rw [z]; exact ⟨_, he, fun v q => nomatch q⟩
    · rw [z]; exact is_live hi
  keep := fun i h h' st k => let ⟨⟨old, he⟩, hi, hne⟩ := st; ⟨⟨old, k e (by simp) _ he⟩, is_keep hi fun o q => k it (by simp) o q, hne⟩
  item := by
    intro X hP hw hK hc i pins s σ H E I hf st hg
    subst hP hw hK
    obtain ⟨⟨old, he⟩, hit, hne, hna, hea⟩ := st
    obtain ⟨xs, x, hq, hx⟩ := hg
    obtain ⟨its, rv, p⟩ := sq_of I hq
    obtain ⟨u, hu, ru⟩ := rv.get hx
    have hel : e < s.heap.objs.size := Heap.lt_size he
    have hil : it < s.heap.objs.size := by obtain ⟨_, q, _⟩ := is_live hit; exact Heap.lt_size q
    have hlt : i < its.toArray.size := by rw [List.size_toArray]; exact (List.getElem?_eq_some_iff.mp hu).1
    refine wpAny_pyNext_enum_itemD (draws (A := X.A.in1) b (I.ok.hd hc) it a hna its.toArray) he ⟨hit, p⟩ hlt hne (by simp; exact ⟨hne, hea⟩) fun y h' tk hy ho hst hT hsz hk => ?_
    have hyu : y = u := by
      have hy : its.toArray[i]? = some y := hy
      rw [List.getElem?_toArray, hu] at hy; cases hy; rfl
    subst hyu
    refine ⟨_, rfl, wpAny_letOwnedTupleGo_enum (s := { s with heap := h', toks := tk + 1 }) ho fun h'' he' sb => ?_⟩
    have hT2 : h''.get? s.heap.objs.size = some (VIU.plainO #[.int i tk, y]) := (sb.2 _ (Nat.ne_of_gt hel)).trans hT
    have new : ObjOk X.prog X.w (upd H s.heap.objs.size (.frz (VIU.plainO #[.int i tk, y]) (.tup [.int (i : Nat), x]))) h'' s.heap.objs.size (.frz (VIU.plainO #[.int i tk, y]) (.tup [.int (i : Nat), x])) :=
      ⟨hT2, by show 2 ≤ sizeLine; decide, [.int i tk, y], .cons ⟨_, rfl⟩ (.cons ru .nil), ⟨_, hT2, rfl, _, rfl⟩⟩
    have J : Inv X pins σ (upd H s.heap.objs.size (.frz (VIU.plainO #[.int i tk, y]) (.tup [.int (i : Nat), x]))) { s with heap := h'', toks := tk + 1 } :=
      I.turnedNew (ch := [e, it]) (fun c ob hb q => (sb.2 c (fun z => hb (by simp [z]))).trans (hk c ob (fun z => hb (by simp [z])) (fun z => hb (by simp [z])) q)) hf (Nat.le_refl _) new
    refine ⟨.ref s.heap.objs.size, _, J, rfl, ⟨_, _, x, rfl, VIU.po_new _, I.hok.fresh (Nat.le_refl _), rfl, fun ys hy => by rw [sq_inj I hy hq]; exact hx⟩, ⟨⟨y, ?_⟩, is_keep hst.1 fun o q => (sb.2 it (Ne.symm hne)).trans q, hne, hna, hea⟩, fun c hb => ?_⟩
    · rw [show ((i + 1 : Nat) : Int) = (i : Int) + 1 by omega]; exact he'
    · have hb' : c < s.heap.objs.size := by
        rcases (show c = e ∨ c = it by simpa using hb) with z | z
        · rw [z]; exact hel
        · rw [z]; exact hil
      rw [upd_ne (Nat.ne_of_lt hb')]
      exact (hf c hb).1
  done := by
    intro X hP hw hK hc i pins s σ H E I hf st hg
    subst hP hw hK
    obtain ⟨⟨old, he⟩, hit, hne, hna, hea⟩ := st
    obtain ⟨xs, hq, hx⟩ := hg
    obtain ⟨its, rv, p⟩ := sq_of I hq
    obtain ⟨f0, f1, f2, f3, f4, f5⟩ := hf it (by simp)
    have hl : i = its.toArray.size := by rw [List.size_toArray, ← rv.length]; exact hx.symm
    subst hl
    exact wpAny_pyNext_enum_endD (draws (A := X.A.in1) b (I.ok.hd hc) it a hna its.toArray) he ⟨hit, p⟩ fun h' eb => ⟨rfl, I.turned (t' := s.toks) (fun c o hb q => eb c o hb q) f0 f1 f3 f4 f5⟩
  self := fun A i s Q E st h => let ⟨⟨_, he⟩, _⟩ := st; wpAny_pyIter_enum he h
def iEnum2 (K : PySem.W.Frag) (ta : TA) : TI := fun σ H R => ta σ H fun vs H1 => ∃ (b : Bool) (a : Addr) (xs : List V), vs = [.ref a] ∧ Sq b K H1 a xs ∧ R (Ite2 b K a) H1
theorem pi_enum2 {X : Cx} {e : Expr} {ta : TA} {p pos tpos : Pos} {elts : List Expr} {kk : Nat} (hg : Gl X "enumerate") (hm : X.mg "enumerate" = none) (ha : PA X [e] ta) (hs : starEach [e] X.env = [(false, eval e X.env)] := by rfl) :
    PI X (.Tuple elts kk tpos) (.Call (.Name "enumerate" p) [e] [] pos) (iEnum2 X.K ta) := by
  refine ⟨fun pins s σ H R I h => ?_⟩
  refine Call_ (ld_blt I hg hm VIE.boot_enum (PyProof.Rows.callWith_type1 (thn (ha.run pos pins s σ H _ I h) fun us s1 ⟨vs, H1, I1, r1, q1⟩ => ?_) hs rfl))
  obtain ⟨b, a, xs, ex, hq, q⟩ := q1
  subst ex
  obtain ⟨u, rfl, r⟩ := r1.one
  cases r
  obtain ⟨its, rv, p'⟩ := sq_of I1 hq
  have ka : @LT.lt Nat _ a s1.heap.objs.size := hs_lt p'
  refine VIE.call_enum (begins b a its.toArray) p' fun h' he hit hsz hk => wpAny_pyIter_enum he ?_
  have I2 : Inv X pins σ H1 { s1 with heap := h' } := I1.kept (t' := s1.toks) hk
  refine ⟨s1.heap.objs.size + 1, [s1.heap.objs.size + 1, s1.heap.objs.size], _, _, H1, rfl, I2, turn_enum2 a (s1.heap.objs.size + 1) s1.heap.objs.size, ⟨⟨.none, he⟩, is_new hit, Nat.succ_ne_self _, Nat.ne_of_lt ka, Nat.ne_of_gt (Nat.lt_succ_of_lt ka)⟩, fun c hb => ?_, q⟩
  have hle : s1.heap.objs.size ≤ c := by
    rcases (show c = s1.heap.objs.size + 1 ∨ c = s1.heap.objs.size by simpa using hb) with z | z
    · rw [z]; exact Nat.le_add_right _ _
    · rw [z]; exact Nat.le_refl _
  exact I1.fpOk hle (I1.hok.fresh hle)
end VIZ
namespace VI
open PySem PySem.Spec L2
section
variable {K : PySem.W.Frag} {F F1 F2 : FS} {H H1 H2 : Hp} {env env0 env1 env2 : En} {σ σ1 σ2 : Slots}
theorem putS_eq {i : Nat} {s : Sl} (e : putS env i s = some env2) : env2 = env.set i s ∧ ((env[i]? = some .un) ∨ (∃ d, env[i]? = some (.fz d)) ∨ ∃ d, env[i]? = some (.ow false d)) := by
  unfold putS at e
  split at e
  · cases e; exact ⟨rfl, .inl (by assumption)⟩
  · cases e; exact ⟨rfl, .inr (.inl ⟨_, by assumption⟩)⟩
  · cases e; exact ⟨rfl, .inr (.inr ⟨_, by assumption⟩)⟩
  · cases e
theorem putS_lt {i : Nat} {s : Sl} (e : putS env i s = some env2) : i < env.length := by
  rcases (putS_eq e).2 with h | ⟨d, h⟩ | ⟨d, h⟩ <;> exact lt_of_get h
/-- a value is stored -/
theorem store_pst (r : RelE K F H env σ) {i : Nat} {d : D} {v : V} (e : putS env i (.fz d) = some env2) (iv : Is K F H d v) : Pst K F H env σ F H env2 (σ.set i (some v)) := by
  obtain ⟨rfl, hi⟩ := putS_eq e
  have hl : i < σ.length := by rw [← r.len]; exact putS_lt e
  have nio : ∀ {j : Nat} {d'}, env[j]? = some (.ow true d') → i ≠ j := fun {j d'} h z => by
    subst z
    rcases hi with q | ⟨_, q⟩ | ⟨_, q⟩ <;> rw [q] at h <;> cases h
  have nlk : ∀ {j : Nat} {io d'}, env[j]? = some (.lk io d') → i ≠ j := fun {j io d'} h z => by
    subst z
    rcases hi with q | ⟨_, q⟩ | ⟨_, q⟩ <;> rw [q] at h <;> cases h
  refine ⟨.refl, ⟨by rw [List.length_set, List.length_set]; exact r.len, fun j d' h => ?_, fun j s d' h hs => ?_, fun j k s t d' e' a h hs h' ht q q' => ?_, r.fdm, fun j lo hi h => ?_⟩, fun a ⟨j, s, d', h, hs, q⟩ => ?_, fun j d' h => ?_, fun j io d' h => ?_⟩
  · rcases getset h with ⟨rfl, h, _⟩ | ⟨hn, h⟩
    · cases h; exact ⟨v, List.getElem?_set_self hl, iv⟩
    · rw [List.getElem?_set_ne hn]; exact r.fz j d' h
  · rcases getset h with ⟨rfl, h, _⟩ | ⟨hn, h⟩
    · cases h; cases hs
    · rw [List.getElem?_set_ne hn]; exact r.ow j s d' h hs
  · rcases getset h with ⟨rfl, h, _⟩ | ⟨hn, h⟩
    · cases h; cases hs
    · rcases getset h' with ⟨rfl, h', _⟩ | ⟨hn', h'⟩
      · cases h'; cases ht
      · rw [List.getElem?_set_ne hn] at q
        rw [List.getElem?_set_ne hn'] at q'
        exact r.ne j k s t d' e' a h hs h' ht q q'
  · rcases getset h with ⟨rfl, h, _⟩ | ⟨hn, h⟩
    · cases h
    · rw [List.getElem?_set_ne hn]; exact r.rg j lo hi h
  · rcases getset h with ⟨rfl, h, _⟩ | ⟨hn, h⟩
    · cases h; cases hs
    · rw [List.getElem?_set_ne hn] at q
      exact .inl ⟨j, s, d', h, hs, q⟩
  · exact ⟨⟨d', by rw [List.getElem?_set_ne (nio h)]; exact h⟩, List.getElem?_set_ne (nio h)⟩
  · exact ⟨by rw [List.getElem?_set_ne (nlk h)]; exact h, List.getElem?_set_ne (nlk h)⟩
/-- a new list is stored -/
theorem store_own (p : Pst K F H env σ F1 H1 env1 σ1) {i : Nat} {d : D} {a : Addr} (e : putS env1 i (.ow false d) = some env2) (ho : OwnAt K F1 H1 d a) (hn : H a = none) (hf : ¬ OA env1 σ1 a) : Pst K F H env σ F1 H1 env2 (σ1.set i (some (.ref a))) := by
  have r := p.rel
  obtain ⟨rfl, hi⟩ := putS_eq e
  have hl : i < σ1.length := by rw [← r.len]; exact putS_lt e
  have nio : ∀ {j : Nat} {d'}, env1[j]? = some (.ow true d') → i ≠ j := fun {j d'} h z => by
    subst z
    rcases hi with q | ⟨_, q⟩ | ⟨_, q⟩ <;> rw [q] at h <;> cases h
  have nlk : ∀ {j : Nat} {io d'}, env1[j]? = some (.lk io d') → i ≠ j := fun {j io d'} h z => by
    subst z
    rcases hi with q | ⟨_, q⟩ | ⟨_, q⟩ <;> rw [q] at h <;> cases h
  have oth : ∀ {j : Nat} {s : Sl} {d' : D}, i ≠ j → env1[j]? = some s → s.own = some d' → (σ1.set i (some (.ref a)))[j]? = some (some (V.ref a)) → False := fun {j s d'} hne h hs q => by
    rw [List.getElem?_set_ne hne] at q
    exact hf ⟨j, s, d', h, hs, q⟩
  refine ⟨p.st, ⟨by rw [List.length_set, List.length_set]; exact r.len, fun j d' h => ?_, fun j s d' h hs => ?_, fun j k s t d' e' c h hs h' ht q q' => ?_, r.fdm, fun j lo hi h => ?_⟩, fun c ⟨j, s, d', h, hs, q⟩ => ?_, fun j d' h => ?_, fun j io d' h => ?_⟩
  · rcases getset h with ⟨rfl, h, _⟩ | ⟨hn, h⟩
    · cases h
    · rw [List.getElem?_set_ne hn]; exact r.fz j d' h
  · rcases getset h with ⟨rfl, h, _⟩ | ⟨hn, h⟩
    · cases h; cases hs; exact ⟨a, List.getElem?_set_self hl, ho⟩
    · rw [List.getElem?_set_ne hn]; exact r.ow j s d' h hs
  · rcases getset h with ⟨rfl, h, _⟩ | ⟨hn, h⟩
    · rcases getset h' with ⟨rfl, h', _⟩ | ⟨hn', h'⟩
      · rfl
      · rw [List.getElem?_set_self hl] at q
        cases q
        exact (oth hn' h' ht q').elim
    · rcases getset h' with ⟨rfl, h', _⟩ | ⟨hn', h'⟩
      · rw [List.getElem?_set_self hl] at q'
        cases q'
        exact (oth hn h hs q).elim
      · rw [List.getElem?_set_ne hn] at q
        rw [List.getElem?_set_ne hn'] at q'
        exact r.ne j k s t d' e' c h hs h' ht q q'
  · rcases getset h with ⟨rfl, h, _⟩ | ⟨hn, h⟩
    · cases h
    · rw [List.getElem?_set_ne hn]; exact r.rg j lo hi h
  · rcases getset h with ⟨rfl, h, _⟩ | ⟨hne, h⟩
    · rw [List.getElem?_set_self hl] at q
      cases q
      exact .inr hn
    · rw [List.getElem?_set_ne hne] at q
      exact p.own c ⟨j, s, d', h, hs, q⟩
  · obtain ⟨⟨d2, h1⟩, h2⟩ := p.io j d' h
    exact ⟨⟨d2, by rw [List.getElem?_set_ne (nio h1)]; exact h1⟩, by rw [List.getElem?_set_ne (nio h1)]; exact h2⟩
  · obtain ⟨h1, h2⟩ := p.lk j io d' h
    exact ⟨by rw [List.getElem?_set_ne (nlk h1)]; exact h1, by rw [List.getElem?_set_ne (nlk h1)]; exact h2⟩

def SG (X : Cx) (tg : Expr) (t : T) : Prop := ∀ env d env', t.put env d = some env' → ∀ σ F H v Q, RelE X.K F H env σ → Is X.K F H d v →
  (∀ σ', Pst X.K F H env σ F H env' σ' → (∀ j, j ∉ t.slots → σ'[j]? = σ[j]?) → Q σ' H) → WG X tg v σ H Q
variable {X : Cx}
theorem pg_tn {N : List Str} {sc : Scope} {st : Str → Bool} (hN : X.N = N) (hsc : X.env.scope = sc) (nd : X.N.Nodup) (hst : ∀ x, st x = true → X.fn x = true) {i : Nat} {x : Str} {pos : Pos} (h : tnB N sc st i x = true) : PG X (.Name x pos) (gName i) := by
  obtain ⟨h1, h3⟩ := ba h
  obtain ⟨h1, h2⟩ := ba h1
  refine pg_name nd (by rw [hN]; simpa using h1) ?_ ?_
  · rw [hsc]
    unfold locB at h2
    split at h2
    · rename_i q; exact .inl q
    · rename_i q; exact .inr q
    · cases h2
  · rw [hsc]
    rw [Bool.or_eq_true] at h3
    rcases h3 with h3 | h3
    · exact .inl (hst x h3)
    · exact .inr (by simpa using h3)
mutual
theorem sg_of {N : List Str} {sc : Scope} {st : Str → Bool} (hN : X.N = N) (hsc : X.env.scope = sc) (nd : X.N.Nodup) (hc : X.calm = true) (hst : ∀ x, st x = true → X.fn x = true) : ∀ {t : T} {tg : Expr}, mT N sc st t tg = true → SG X tg t
  | .nm i, tg, h => by
    intro env d env' e σ F H v Q r iv q
    cases tg with
    | Name x pos =>
      have h : tnB N sc st i x = true := by unfold mT at h; exact h
      refine WG.of (pg_tn hN hsc nd hst h) ?_
      have e : putS env i (.fz d) = some env' := by unfold T.put at e; exact e
      refine q _ (store_pst r e iv) fun j hj => ?_
      have : i ≠ j := fun z => hj (by rw [z]; unfold T.slots; simp)
      exact List.getElem?_set_ne this
    | _ => unfold mT at h; cases h
  | .tup ts, tg, h => by
    intro env d env' e σ F H v Q r iv q
    cases tg with
    | Tuple es k pos =>
      have h : mTs N sc st ts es = true := by unfold mT at h; exact h
      obtain ⟨g, k1, k2, k3, k4⟩ := sgs_of hN hsc nd hc hst h
      cases d with
      | tup ds =>
        refine WG.of (pg_tup hc k1 k2 k3) ?_
        have e : ts.put env ds = some env' := by unfold T.put at e; exact e
        simp only [Is] at iv
        obtain ⟨a, vs, rfl, h1, i1⟩ := iv
        obtain ⟨k5, k6⟩ := k4 env ds env' e
        refine ⟨a, vs, rfl, h1.seq, by rw [← i1.length, k5], k6 σ F H vs Q r i1 fun σ' p hs => q σ' p fun j hj => hs j fun z => hj (by unfold T.slots; exact z)⟩
      | lst ds =>
        refine WG.of (pg_unl hc k1 k2 k3) ?_
        have e : ts.put env ds = some env' := by unfold T.put at e; exact e
        simp only [Is] at iv
        obtain ⟨a, vs, rfl, h1, i1⟩ := iv
        obtain ⟨k5, k6⟩ := k4 env ds env' e
        exact ⟨a, vs, rfl, .of h1.2, by rw [← i1.length, k5], k6 σ F H vs Q r i1 fun σ' p hs => q σ' p fun j hj => hs j fun z => hj (by unfold T.slots; exact z)⟩
      | _ => simp [T.put] at e
    | _ => unfold mT at h; cases h
theorem sgs_of {N : List Str} {sc : Scope} {st : Str → Bool} (hN : X.N = N) (hsc : X.env.scope = sc) (nd : X.N.Nodup) (hc : X.calm = true) (hst : ∀ x, st x = true → X.fn x = true) : ∀ {ts : Ts} {es : List Expr}, mTs N sc st ts es = true →
    ∃ g : TGs, PGs X es g ∧ (assignEach es X.env).length = es.length ∧ (assignEach es X.env).findIdx? (·.1) = none ∧
      ∀ env ds env', ts.put env ds = some env' → ds.length = es.length ∧ ∀ σ F H vs Q, RelE X.K F H env σ → IsL X.K F H ds vs → (∀ σ', Pst X.K F H env σ F H env' σ' → (∀ j, j ∉ ts.slots → σ'[j]? = σ[j]?) → Q σ' H) → g vs σ H Q
  | .nil, es, h => by
    cases es with
    | nil =>
      refine ⟨gNil, pgs_nil, rfl, rfl, fun env ds env' e => ?_⟩
      cases ds with
      | nil =>
        simp only [Ts.put, Option.some.injEq] at e
        subst e
        exact ⟨rfl, fun σ F H vs Q r i q => ⟨i, q σ (.refl r) fun _ _ => rfl⟩⟩
      | cons => simp [Ts.put] at e
    | cons => unfold mTs at h; cases h
  | .cons t ts, es, h => by
    cases es with
    | nil => unfold mTs at h; cases h
    | cons tg es =>
      have h : (mT N sc st t tg && mTs N sc st ts es) = true := by unfold mTs at h; exact h
      obtain ⟨h1, h2⟩ := ba h
      have hT := sg_of hN hsc nd hc hst h1
      obtain ⟨g, k1, k2, k3, k4⟩ := sgs_of hN hsc nd hc hst h2
      have ha : assignEach (tg :: es) X.env = (false, assign tg X.env) :: assignEach es X.env := by
        cases t with
        | nm i => cases tg with
          | Name x pos => rfl
          | _ => unfold mT at h1; cases h1
        | tup ts' => cases tg with
          | Tuple es' k pos => rfl
          | _ => unfold mT at h1; cases h1
      refine ⟨gCons (WG X tg) g, pgs_cons (pG X tg) k1 (by rw [ha]; rfl), by rw [ha]; simp [k2], ?_, fun env ds env' e => ?_⟩
      · rw [ha, List.findIdx?_cons]
        simp [k3]
      · cases ds with
        | nil => simp [Ts.put] at e
        | cons d ds =>
          simp only [Ts.put, Option.bind_eq_some_iff] at e
          obtain ⟨env1, e1, e2⟩ := e
          obtain ⟨k5, k6⟩ := k4 env1 ds env' e2
          refine ⟨by simp [k5], fun σ F H vs Q r il q => ?_⟩
          simp only [IsL] at il
          obtain ⟨w, ws, rfl, i1, i2⟩ := il
          refine ⟨w, ws, rfl, hT env d env1 e1 σ F H w _ r i1 fun σ1 p1 h1 => ?_⟩
          refine k6 σ1 F H ws Q p1.rel i2 fun σ' p2 h2 => q σ' (p1.trans p2) fun j hj => ?_
          unfold Ts.slots at hj
          rw [List.mem_append, not_or] at hj
          rw [h2 j hj.2, h1 j hj.1]
end


theorem wipeE_len : ∀ (vs : List Nat) (env : En), (wipeE env vs).length = env.length
  | [], _ => rfl
  | v :: vs, env => by simp only [wipeE, List.length_set, wipeE_len vs env]
theorem wipeE_in : ∀ {vs : List Nat} {env : En} {j : Nat} {s : Sl}, j ∈ vs → (wipeE env vs)[j]? = some s → s = .un
  | v :: vs, env, j, s, h, e => by
    simp only [wipeE] at e
    rcases getset e with ⟨rfl, h', _⟩ | ⟨hn, h'⟩
    · exact h'
    · rcases List.mem_cons.mp h with z | z
      · exact absurd z.symm hn
      · exact wipeE_in z h'
theorem wipeE_out : ∀ {vs : List Nat} {env : En} {j : Nat}, j ∉ vs → (wipeE env vs)[j]? = env[j]?
  | [], _, _, _ => rfl
  | v :: vs, env, j, h => by
    rw [List.mem_cons, not_or] at h
    simp only [wipeE]
    rw [List.getElem?_set_ne (Ne.symm h.1), wipeE_out h.2]
theorem wipe_out' : ∀ {vs : List Nat} {σ : Slots} {j : Nat}, j ∉ vs → (wipe σ vs)[j]? = σ[j]?
  | [], _, _, _ => rfl
  | v :: vs, σ, j, h => by
    rw [List.mem_cons, not_or] at h
    unfold wipe
    rw [List.getElem?_set_ne (Ne.symm h.1), wipe_out' h.2]
theorem wipe_in : ∀ {vs : List Nat} {σ : Slots} {j : Nat}, j ∈ vs → (wipe σ vs)[j]? = if j < σ.length then some none else none
  | v :: vs, σ, j, h => by
    unfold wipe
    by_cases hv : v = j
    · subst hv
      by_cases hl : v < σ.length
      · rw [if_pos hl, List.getElem?_set_self (by rw [wipe_length]; exact hl)]
      · rw [if_neg hl, List.getElem?_eq_none (by rw [List.length_set, wipe_length]; omega)]
    · rw [List.getElem?_set_ne hv]
      exact wipe_in ((List.mem_cons.mp h).resolve_left (Ne.symm hv))
theorem wipe_eq {vs : List Nat} {σ σ' : Slots} (hl : σ'.length = σ.length) (h : ∀ j, j ∉ vs → σ'[j]? = (wipe σ vs)[j]?) : wipe σ' vs = wipe σ vs := by
  refine List.ext_getElem? fun j => ?_
  by_cases hj : j ∈ vs
  · rw [wipe_in hj, wipe_in hj, hl]
  · rw [wipe_out' hj, h j hj]
theorem wipe_rel (r : RelE K F H env σ) (vs : List Nat) : RelE K F H (wipeE env vs) (wipe σ vs) := by
  have out : ∀ {j : Nat} {s : Sl}, (wipeE env vs)[j]? = some s → s ≠ .un → j ∉ vs ∧ env[j]? = some s := fun {j s} h hs => by
    by_cases hj : j ∈ vs
    · exact absurd (wipeE_in hj h) hs
    · exact ⟨hj, by rw [← wipeE_out hj]; exact h⟩
  refine ⟨by rw [wipeE_len, wipe_length]; exact r.len, fun j d h => ?_, fun j s d h hs => ?_, fun j k s t d e a h hs h' ht q q' => ?_, r.fdm, fun j lo hi h => ?_⟩
  · obtain ⟨hj, h⟩ := out h (by simp)
    rw [wipe_out' hj]; exact r.fz j d h
  · obtain ⟨hj, h⟩ := out h (by intro z; subst z; cases hs)
    rw [wipe_out' hj]; exact r.ow j s d h hs
  · obtain ⟨hj, h⟩ := out h (by intro z; subst z; cases hs)
    obtain ⟨hk, h'⟩ := out h' (by intro z; subst z; cases ht)
    rw [wipe_out' hj] at q
    rw [wipe_out' hk] at q'
    exact r.ne j k s t d e a h hs h' ht q q'
  · obtain ⟨hj, h⟩ := out h (by simp)
    rw [wipe_out' hj]; exact r.rg j lo hi h
/-- behind a turn the block's own slots are forgotten -/
theorem Pst.wiped {vs : List Nat} {sw : Slots} (p : Pst K F H env sw F1 H1 env1 σ1) (hw : ∀ j ∈ vs, ∀ s, env[j]? = some s → s = .un) (hs : wipe σ1 vs = sw) : Pst K F H env sw F1 H1 (wipeE env1 vs) sw := by
  have hr := wipe_rel p.rel vs
  rw [hs] at hr
  have out : ∀ {j : Nat} {s : Sl}, (wipeE env1 vs)[j]? = some s → s ≠ .un → j ∉ vs ∧ env1[j]? = some s := fun {j s} h hs => by
    by_cases hj : j ∈ vs
    · exact absurd (wipeE_in hj h) hs
    · exact ⟨hj, by rw [← wipeE_out hj]; exact h⟩
  refine ⟨p.st, hr, fun a ⟨j, s, d, h, hs', q⟩ => ?_, fun j d h => ?_, fun j io d h => ?_⟩
  · obtain ⟨hj, h⟩ := out h (by intro z; subst z; cases hs')
    rw [← hs, wipe_out' hj] at q
    exact p.own a ⟨j, s, d, h, hs', q⟩
  · obtain ⟨⟨d', h1⟩, h2⟩ := p.io j d h
    have hj : j ∉ vs := fun z => by have := hw j z _ h; cases this
    exact ⟨⟨d', by rw [wipeE_out hj]; exact h1⟩, rfl⟩
  · obtain ⟨h1, h2⟩ := p.lk j io d h
    have hj : j ∉ vs := fun z => by have := hw j z _ h; cases this
    exact ⟨by rw [wipeE_out hj]; exact h1, rfl⟩
theorem restE_len : ∀ (vs : List Nat) (env env0 : En), (restE env env0 vs).length = env.length
  | [], _, _ => rfl
  | v :: vs, env, env0 => by
    simp only [restE]
    split
    · rw [List.length_set, restE_len vs]
    · exact restE_len vs env env0
theorem restE_out : ∀ {vs : List Nat} {env env0 : En} {j : Nat}, j ∉ vs → (restE env env0 vs)[j]? = env[j]?
  | [], _, _, _, _ => rfl
  | v :: vs, env, env0, j, h => by
    rw [List.mem_cons, not_or] at h
    simp only [restE]
    split
    · rw [List.getElem?_set_ne (Ne.symm h.1), restE_out h.2]
    · exact restE_out h.2
theorem restE_in : ∀ {vs : List Nat} {env env0 : En} {j : Nat}, env.length = env0.length → j ∈ vs → (restE env env0 vs)[j]? = env0[j]?
  | v :: vs, env, env0, j, hl, h => by
    simp only [restE]
    split
    · rename_i s q
      by_cases hv : v = j
      · subst hv
        rw [List.getElem?_set_self (by rw [restE_len, hl]; exact lt_of_get q), q]
      · rw [List.getElem?_set_ne hv]
        exact restE_in hl ((List.mem_cons.mp h).resolve_left (Ne.symm hv))
    · rename_i q
      by_cases hv : v = j
      · subst hv
        rw [q, List.getElem?_eq_none]
        rw [restE_len, hl]
        exact List.getElem?_eq_none_iff.mp q
      · exact restE_in hl ((List.mem_cons.mp h).resolve_left (Ne.symm hv))
/-- behind a block the slots hold what they held -/
theorem Pst.rested {vs : List Nat} (r : RelE K F H env σ) (p : Pst K F H (wipeE env vs) (wipe σ vs) F1 H1 env1 (wipe σ vs)) : Pst K F H env σ F1 H1 (restE env1 env vs) σ := by
  have hl : env1.length = env.length := by
    have := p.rel.len
    rw [wipe_length, ← r.len] at this
    exact this
  -- a list of a slot of the block's own names is nobody's in the block
  have apart : ∀ {i : Nat} {s : Sl} {d : D} {a : Addr}, i ∈ vs → env[i]? = some s → s.own = some d → σ[i]? = some (some (.ref a)) → ¬ OA (wipeE env vs) (wipe σ vs) a := fun {i s d a} hi h hs ea ⟨j, t, d', h', ht, q⟩ => by
    have hj : j ∉ vs := fun z => by have := wipeE_in z h'; subst this; cases ht
    rw [wipeE_out hj] at h'
    rw [wipe_out' hj] at q
    have := r.ne i j s t d d' a h hs h' ht ea q
    subst this
    exact hj hi
  have stay : ∀ {i : Nat} {s : Sl} {d : D} {a : Addr}, i ∈ vs → env[i]? = some s → s.own = some d → σ[i]? = some (some (.ref a)) → OwnAt K F H d a → OwnAt K F1 H1 d a ∧ H a ≠ none := fun {i s d a} hi h hs ea ho => by
    obtain ⟨z1, z2⟩ := p.st.oth a ho.some ho.nF (apart hi h hs ea)
    exact ⟨ho.mono p.st.sub p.st.agr z1 z2, ho.some⟩
  have owns : ∀ {i : Nat} {s : Sl} {d : D} {a : Addr}, (restE env1 env vs)[i]? = some s → s.own = some d → σ[i]? = some (some (.ref a)) → (i ∈ vs ∧ env[i]? = some s ∧ H a ≠ none ∧ ¬ OA env1 (wipe σ vs) a) ∨ (i ∉ vs ∧ env1[i]? = some s ∧ (wipe σ vs)[i]? = some (some (.ref a))) := fun {i s d a} h hs ea => by
    by_cases hi : i ∈ vs
    · rw [restE_in hl hi] at h
      obtain ⟨b, e1, ho⟩ := r.ow i s d h hs
      rw [ea] at e1; cases e1
      refine .inl ⟨hi, h, ho.some, fun z => ?_⟩
      rcases p.own a z with y | y
      · exact apart hi h hs ea y
      · exact ho.some y
    · rw [restE_out hi] at h
      exact .inr ⟨hi, h, by rw [wipe_out' hi]; exact ea⟩
  refine ⟨⟨p.st.sub, p.st.agr, p.st.dom, fun a h1 h2 h3 => p.st.oth a h1 h2 fun ⟨j, t, d', h', ht, q⟩ => ?_⟩, ⟨by rw [restE_len, hl]; exact r.len, fun i d h => ?_, fun i s d h hs => ?_, fun i j s t d e a h hs h' ht q q' => ?_, p.rel.fdm, fun i lo hi' h => ?_⟩, fun a ⟨i, s, d, h, hs, q⟩ => ?_, fun i d h => ?_, fun i io d h => ?_⟩
  · have hj : j ∉ vs := fun z => by have := wipeE_in z h'; subst this; cases ht
    rw [wipeE_out hj] at h'
    rw [wipe_out' hj] at q
    exact h3 ⟨j, t, d', h', ht, q⟩
  · by_cases hi : i ∈ vs
    · rw [restE_in hl hi] at h
      obtain ⟨v, e1, e2⟩ := r.fz i d h
      exact ⟨v, e1, e2.mono p.st.sub p.st.agr⟩
    · rw [restE_out hi] at h
      obtain ⟨v, e1, e2⟩ := p.rel.fz i d h
      exact ⟨v, by rw [← wipe_out' hi]; exact e1, e2⟩
  · by_cases hi : i ∈ vs
    · rw [restE_in hl hi] at h
      obtain ⟨a, e1, ho⟩ := r.ow i s d h hs
      exact ⟨a, e1, (stay hi h hs e1 ho).1⟩
    · rw [restE_out hi] at h
      obtain ⟨a, e1, ho⟩ := p.rel.ow i s d h hs
      exact ⟨a, by rw [← wipe_out' hi]; exact e1, ho⟩
  · rcases owns h hs q with ⟨hi, g1, g2, g3⟩ | ⟨hi, g1, g2⟩ <;> rcases owns h' ht q' with ⟨hj, k1, k2, k3⟩ | ⟨hj, k1, k2⟩
    · exact r.ne i j s t d e a g1 hs k1 ht q q'
    · exact (g3 ⟨j, t, e, k1, ht, k2⟩).elim
    · exact (k3 ⟨i, s, d, g1, hs, g2⟩).elim
    · exact p.rel.ne i j s t d e a g1 hs k1 ht g2 k2
  · by_cases hi : i ∈ vs
    · rw [restE_in hl hi] at h
      obtain ⟨v, e1, e2, e3⟩ := r.rg i lo hi' h
      exact ⟨v, e1, p.st.sub _ e2, (p.st.agr _ e2).trans e3⟩
    · rw [restE_out hi] at h
      obtain ⟨v, e1, e2⟩ := p.rel.rg i lo hi' h
      exact ⟨v, by rw [← wipe_out' hi]; exact e1, e2⟩
  · rcases owns h hs q with ⟨hi, g1, g2, g3⟩ | ⟨hi, g1, g2⟩
    · exact .inl ⟨i, s, d, g1, hs, q⟩
    · rcases p.own a ⟨i, s, d, g1, hs, g2⟩ with ⟨j, t, d', h', ht, q''⟩ | y
      · have hj : j ∉ vs := fun z => by have := wipeE_in z h'; subst this; cases ht
        rw [wipeE_out hj] at h'
        rw [wipe_out' hj] at q''
        exact .inl ⟨j, t, d', h', ht, q''⟩
      · exact .inr y
  · refine ⟨?_, rfl⟩
    by_cases hi : i ∈ vs
    · exact ⟨d, by rw [restE_in hl hi]; exact h⟩
    · obtain ⟨⟨d', h1⟩, _⟩ := p.io i d (by rw [wipeE_out hi]; exact h)
      exact ⟨d', by rw [restE_out hi]; exact h1⟩
  · refine ⟨?_, rfl⟩
    by_cases hi : i ∈ vs
    · rw [restE_in hl hi]; exact h
    · obtain ⟨h1, _⟩ := p.lk i io d (by rw [wipeE_out hi]; exact h)
      rw [restE_out hi]; exact h1
end
end VI
namespace VI
open PySem PySem.Spec L2
abbrev Bc : Type := Shared × Hp × Addr × List (Str × Addr) × List Addr
abbrev Bk (X : Cx) (scope : Scope) (c : Bc) : Cx := X.blk c.1 c.2.1 scope (compEnvC scope c.2.2.2.1 c.2.2.1 X.env) c.2.2.2.2
def WTs (X : Cx) (ifs : List Expr) : TT := fun σ H Q => ∀ (pins : List (Addr × Obj)) (s : Shared), Inv X pins σ H s →
  wpAny (model X.prog X.w) X.A (forIn ifs true fun c r => if r = true then do let ok ← isTrue c X.env (eval c X.env); pure (ForInStep.yield ok) else pure (ForInStep.yield r)) (TP X pins σ Q) X.xe s
def SOC (X : Cx) (ifs : List Expr) (f : En → Option (Bool × En)) : Prop :=
  ∀ env b env', f env = some (b, env') → ∀ σ F H Q, RelE X.K F H env σ → (∀ F' H', Pst X.K F H env σ F' H' env' σ → Q b H') → WTs X ifs σ H Q
theorem soc_no {X : Cx} {f : En → Option (Bool × En)} (hf : ∀ env, f env = some (true, env)) : SOC X [] f := by
  intro env b env' e σ F H Q r q
  rw [hf] at e
  cases e
  exact fun pins s I => pts_nil.run pins s σ H Q I (q F H (.refl r))
theorem soc_so {X : Cx} {p : Expr} {f : En → Option (Bool × En)} (h : SC X p f) : SOC X [p] f := by
  intro env b env' e σ F H Q r q
  exact fun pins s I => (pts_one (pT X p)).run pins s σ H Q I (h env b env' e σ F H Q r q)
section
variable {X : Cx} {scope : Scope}
def tGb (X : Cx) (scope : Scope) (tg : Expr) : TG := fun v σ H Q => ∀ c, WG (Bk X scope c) tg v σ H Q
def tCb (X : Cx) (scope : Scope) (ifs : List Expr) : TT := fun σ H Q => ∀ c, WTs (Bk X scope c) ifs σ H Q
def tEb (X : Cx) (scope : Scope) (el : Expr) : TE := fun σ H Q => ∀ c, WE (Bk X scope c) el σ H Q
def tIb (X : Cx) (scope : Scope) (tg it : Expr) : TI := fun σ H R => ∀ c, WI (Bk X scope c) tg it σ H R
theorem pgb {tg : Expr} : ∀ (s : Shared) (H : Hp) (C : Addr) (cl : List (Str × Addr)) (fp : List Addr), PG (X.blk s H scope (compEnvC scope cl C X.env) fp) tg (tGb X scope tg) :=
  fun s H C cl fp => ⟨fun pins s' σ H' v u Q I r h => h (s, H, C, cl, fp) pins s' u I r⟩
theorem ptb {ifs : List Expr} : ∀ (s : Shared) (H : Hp) (C : Addr) (cl : List (Str × Addr)) (fp : List Addr), PTs (X.blk s H scope (compEnvC scope cl C X.env) fp) ifs (tCb X scope ifs) :=
  fun s H C cl fp => ⟨fun pins s' σ H' Q I h => h (s, H, C, cl, fp) pins s' I⟩
theorem peb {el : Expr} : ∀ (s : Shared) (H : Hp) (C : Addr) (cl : List (Str × Addr)) (fp : List Addr), PE (X.blk s H scope (compEnvC scope cl C X.env) fp) el (tEb X scope el) :=
  fun s H C cl fp => ⟨fun pins s' σ H' Q I h => h (s, H, C, cl, fp) pins s' I⟩
theorem pib {tg it : Expr} : ∀ (s : Shared) (H : Hp) (C : Addr) (cl : List (Str × Addr)) (fp : List Addr), PI (X.blk s H scope (compEnvC scope cl C X.env) fp) tg it (tIb X scope tg it) :=
  fun s H C cl fp => ⟨fun pins s' σ H' R I h => h (s, H, C, cl, fp) pins s' I⟩
end
section
variable {K : PySem.W.Frag} {F F1 F2 : FS} {H H1 H2 : Hp} {env env0 env1 env2 : En} {σ σ1 σ2 : Slots}
/-- an object that no slot holds is changed; it was not there at the start -/
theorem Pst.side (p : Pst K F H env σ F1 H1 env1 σ1) {D : Addr} {o : HO} (hn : H D = none) (hf : ¬ F1 D) (ho : ¬ OA env1 σ1 D) : Pst K F H env σ F1 (upd H1 D o) env1 σ1 where
  st := ⟨p.st.sub, fun c h => by
      rw [upd_ne fun z => hf (by rw [← z]; exact p.st.sub c h)]
      exact p.st.agr c h, fun c h => by
      by_cases z : c = D
      · rw [z, upd_same]; simp
      · rw [upd_ne z]; exact p.st.dom c h, fun c h1 h2 h3 => by
      obtain ⟨e1, e2⟩ := p.st.oth c h1 h2 h3
      exact ⟨by rw [upd_ne fun z => h1 (by rw [z]; exact hn)]; exact e1, e2⟩⟩
  rel := p.rel.move (fun _ h => h) (fun a h => upd_ne fun z => hf (by rw [← z]; exact h)) (fun a h => ⟨upd_ne fun z => ho (by rw [← z]; exact h), (p.rel.oa_some h).2⟩) fun a h => by
    by_cases z : a = D
    · rw [z, upd_same]; simp
    · rw [upd_ne z]; exact p.rel.fdm a h
  own := p.own
  io := p.io
  lk := p.lk
/-- the list D that a comprehension makes -/
structure LD (K : PySem.W.Frag) (D : Addr) (F : FS) (H : Hp) (env : En) (σ : Slots) (done : List VI.D) (acc : List V) : Prop where
  at_ : H D = some (.lst acc)
  nF : ¬ F D
  nO : ¬ OA env σ D
  is : IsL K F H done acc
theorem LD.step {D : Addr} {done : List VI.D} {acc : List V} (l : LD K D F H env σ done acc) (p : Pst K F H env σ F1 H1 env1 σ1) : LD K D F1 H1 env1 σ1 done acc := by
  have hs : H D ≠ none := by rw [l.at_]; simp
  obtain ⟨e1, e2⟩ := p.st.oth D hs l.nF l.nO
  exact ⟨e1.trans l.at_, e2, fun z => (p.own D z).elim l.nO hs, l.is.mono p.st.sub p.st.agr⟩
theorem LD.snoc {D : Addr} {done : List VI.D} {acc : List V} {y : VI.D} {v : V} (l : LD K D F H env σ done acc) (iv : Is K F H y v) : LD K D F (upd H D (.lst (acc ++ [v]))) env σ (done ++ [y]) (acc ++ [v]) := by
  have agr : ∀ c, F c → upd H D (.lst (acc ++ [v])) c = H c := fun c f => upd_ne fun z => l.nF (by rw [← z]; exact f)
  exact ⟨upd_same, l.nF, l.nO, (l.is.mono (fun _ h => h) agr).snoc (iv.mono (fun _ h => h) agr)⟩
end
section
variable {X : Cx} {scope : Scope} {tg el : Expr} {ifs : List Expr} {t : T} {vs : List Nat} {fc : En → Option (Bool × En)} {fe : En → Option (Op × En)}
def fEl (fe : En → Option (Op × En)) (env : En) : Option (VI.D × En) := (fe env).bind fun z => esc z.2 z.1
mutual
theorem put_len : ∀ {t : T} {env : En} {d : VI.D} {env' : En}, t.put env d = some env' → env'.length = env.length
  | .nm k, env, d, env', h => by
    have h : putS env k (.fz d) = some env' := by unfold T.put at h; exact h
    rw [(putS_eq h).1, List.length_set]
  | .tup ts, env, d, env', h => by
    cases d with
    | tup ds => exact puts_len (show ts.put env ds = some env' by unfold T.put at h; exact h)
    | lst ds => exact puts_len (show ts.put env ds = some env' by unfold T.put at h; exact h)
    | _ => simp [T.put] at h
theorem puts_len : ∀ {ts : Ts} {env : En} {ds : List VI.D} {env' : En}, ts.put env ds = some env' → env'.length = env.length
  | .nil, env, ds, env', h => by
    cases ds with
    | nil => simp only [Ts.put, Option.some.injEq] at h; rw [h]
    | cons => simp [Ts.put] at h
  | .cons t ts, env, ds, env', h => by
    cases ds with
    | nil => simp [Ts.put] at h
    | cons d ds =>
      simp only [Ts.put, Option.bind_eq_some_iff] at h
      obtain ⟨e3, h3, h4⟩ := h
      rw [puts_len h4, put_len h3]
end
/-- the turns of a loop over the items: from the state at (F1, H1, we, sw); what holds is told by G, which a turn may use up -/
theorem lc_loop (hT : ∀ c, SG (Bk X scope c) tg t) (hC : ∀ c, SOC (Bk X scope c) ifs fc) (hE : ∀ c, SE (Bk X scope c) el fe) (hts : ∀ j ∈ t.slots, j ∈ vs)
    {J : It} {items : List VI.D} {P : FS → Hp → Prop} (S : Src X.K J items P) {F1 : FS} {H1 : Hp} {we : En} {σ : Slots} {env2 : En} {outs done0 : List VI.D} {acc0 : List V} {D : Addr}
    (hw : ∀ j ∈ vs, ∀ s, we[j]? = some s → s = .un) (hl : lcLoop fc (fEl fe) t vs items we = some (outs, env2)) (hz : done0.length + outs.length ≤ sizeLine)
    {F0 : FS} {H0 : Hp} (r0 : Pst X.K F0 H0 we (wipe σ vs) F1 H1 we (wipe σ vs)) (hD0 : H0 D = none) (ld0 : LD X.K D F1 H1 we (wipe σ vs) done0 acc0)
    (hP : ∀ F' H' e, Pst X.K F0 H0 we (wipe σ vs) F' H' e (wipe σ vs) → P F' H')
    {Qd : Hp → Prop} (hq : ∀ F' H' acc, Pst X.K F0 H0 we (wipe σ vs) F' H' env2 (wipe σ vs) → LD X.K D F' H' env2 (wipe σ vs) (done0 ++ outs) acc → Qd H') :
    ∃ W : Nat → Nat → Hp → Prop, (∃ m, W 0 m H1) ∧ ∀ i m H, W i m H →
      (J.stop i H ∧ Qd H) ∨ (J.go i H ∧ ∃ Nx : Hp → Prop, (∀ H', Nx H' → ∃ m', m' < m ∧ W (i + 1) m' H') ∧ ∀ x H', J.yld i H x H' → tGb X scope tg x (wipe σ vs) H' fun σ2 H2 => wipe σ2 vs = wipe σ vs ∧ tCb X scope ifs σ2 H2 fun b H3 =>
        if b = true then tEb X scope el σ2 H3 fun y H4 => ∃ acc, H4 D = some (.lst acc) ∧ acc.length < sizeLine ∧ Nx (upd H4 D (.lst (acc ++ [y]))) else Nx H3) := by
  refine ⟨fun i m H => ∃ F' e done acc rest, i ≤ items.length ∧ m = items.length - i ∧ lcLoop fc (fEl fe) t vs (items.drop i) e = some (rest, env2) ∧ done0 ++ outs = done ++ rest ∧
      Pst X.K F0 H0 we (wipe σ vs) F' H e (wipe σ vs) ∧ LD X.K D F' H e (wipe σ vs) done acc, ⟨items.length, F1, we, done0, acc0, outs, Nat.zero_le _, rfl, hl, rfl, r0, ld0⟩, ?_⟩
  rintro i m H ⟨F', e, done, acc, rest, hi, rfl, hloop, hout, p, ld⟩
  have PH := hP F' H e p
  by_cases hlt : i < items.length
  · refine .inr ⟨S.go i F' H PH hlt, _, fun H' h => h, fun x H' hy => ?_⟩
    rw [List.drop_eq_getElem_cons hlt] at hloop
    simp only [lcLoop, bind, Option.bind_eq_some_iff, Prod.exists] at hloop
    obtain ⟨e1, h1, b, e2, h2, h3⟩ := hloop
    obtain ⟨F2, n2, id2⟩ := S.yld i F' H x H' PH p.rel.fdm hy _ (List.getElem?_eq_getElem hlt)
    have p2 := p.nst n2
    have ld2 := ld.step (n2.pst p.rel)
    intro c
    refine hT c e _ e1 h1 (wipe σ vs) F2 H' x _ p2.rel id2 fun σ2 p3 hs3 => ?_
    have hwp : wipe σ2 vs = wipe σ vs := by
      refine wipe_eq ?_ fun j hj => hs3 j fun z => hj (hts j z)
      have l1 := p3.rel.len
      have l2 := p2.rel.len
      have l3 : e1.length = e.length := by
        exact put_len h1
      rw [wipe_length] at l2
      omega
    refine ⟨hwp, fun c => ?_⟩
    refine hC c e1 b e2 h2 σ2 F2 H' _ p3.rel fun F4 H4 p4 => ?_
    have p24 := p2.trans (p3.trans p4)
    have ld4 := ld2.step (p3.trans p4)
    have nxt : ∀ {F5 : FS} {H5 : Hp} {e5 : En} {done' : List VI.D} {acc' : List V} {rest' : List VI.D}, Pst X.K F0 H0 we (wipe σ vs) F5 H5 e5 σ2 → LD X.K D F5 H5 e5 σ2 done' acc' → lcLoop fc (fEl fe) t vs (items.drop (i + 1)) (wipeE e5 vs) = some (rest', env2) → done0 ++ outs = done' ++ rest' →
        ∃ m', m' < items.length - i ∧ ∃ F' e done acc rest, i + 1 ≤ items.length ∧ m' = items.length - (i + 1) ∧ lcLoop fc (fEl fe) t vs (items.drop (i + 1)) e = some (rest, env2) ∧ done0 ++ outs = done ++ rest ∧
          Pst X.K F0 H0 we (wipe σ vs) F' H5 e (wipe σ vs) ∧ LD X.K D F' H5 e (wipe σ vs) done acc := fun {F5 H5 e5 done' acc' rest'} p5 ld5 hl5 ho5 => by
      refine ⟨items.length - (i + 1), by omega, F5, wipeE e5 vs, done', acc', rest', hlt, rfl, hl5, ho5, p5.wiped hw hwp, ⟨ld5.at_, ld5.nF, fun ⟨j, s, d, h, hs, q⟩ => ?_, ld5.is⟩⟩
      have hj : j ∉ vs := fun z => by have := wipeE_in z h; subst this; cases hs
      rw [wipeE_out hj] at h
      rw [← hwp, wipe_out' hj] at q
      exact ld5.nO ⟨j, s, d, h, hs, q⟩
    cases b with
    | false =>
      refine iteF ?_
      exact nxt p24 ld4 (by simpa using h3) hout
    | true =>
      simp only [if_true, Option.bind_eq_some_iff, Prod.exists] at h3
      obtain ⟨y, e4, h4, ys, e5, h5, h6⟩ := h3
      cases h6
      simp only [fEl, Option.bind_eq_some_iff, Prod.exists] at h4
      obtain ⟨o, e3, h4, h7⟩ := h4
      refine iteT fun c => ?_
      refine hE c e2 o e3 h4 σ2 F4 H4 _ p4.rel fun v F5 H5 p5 r5 n5 => ?_
      obtain ⟨F6, p6, iv, _⟩ := esc_ok p5 r5 n5 h7
      have ld6 := ld4.step p6
      have p06 := p24.trans p6
      refine ⟨acc, ld6.at_, ?_, ?_⟩
      · have l1 := ld6.is.length
        have l2 := congrArg List.length hout
        rw [List.length_append, List.length_append, List.length_cons] at l2
        omega
      · exact nxt (p06.side hD0 ld6.nF ld6.nO) (ld6.snoc iv) h5 (by rw [hout, List.append_assoc]; rfl)
  · have e0 : i = items.length := by omega
    subst e0
    rw [List.drop_length] at hloop
    simp only [lcLoop, Option.some.injEq, Prod.mk.injEq] at hloop
    obtain ⟨rfl, rfl⟩ := hloop
    rw [List.append_nil] at hout
    exact .inl ⟨S.stop _ F' H PH rfl, hq F' H acc p (by rw [hout]; exact ld)⟩
end
end VI
namespace VI
open PySem PySem.Spec L2
section
variable {K : PySem.W.Frag} {F F1 F2 : FS} {H H1 H2 : Hp} {env env0 env1 env2 : En} {σ σ1 σ2 : Slots}
theorem unlock_relab : ∀ (lk : List (Nat × Bool)) (env : En), Relab env (unlock env lk)
  | [], _ => .refl
  | (i, true) :: is, env => by
    simp only [unlock]
    split
    · rename_i q; exact (Relab.unlock1 q).trans (unlock_relab is _)
    · exact unlock_relab is env
  | (_, false) :: is, env => by simp only [unlock]; exact unlock_relab is env
def dropA (H : Hp) (D : Addr) : Hp := fun b => if b = D then none else H b
theorem dropA_ne {D a : Addr} (h : a ≠ D) : dropA H D a = H a := if_neg h
theorem dropA_same {D : Addr} : dropA H D D = none := if_pos rfl
theorem Pst.drop (p : Pst K F H env σ F1 H1 env1 σ1) {D : Addr} (hn : H D = none) (hf : ¬ F1 D) (ho : ¬ OA env1 σ1 D) : Pst K F H env σ F1 (dropA H1 D) env1 σ1 where
  st := ⟨p.st.sub, fun c h => by
      rw [dropA_ne fun z => hf (by rw [← z]; exact p.st.sub c h)]
      exact p.st.agr c h, fun c h => by
      rw [dropA_ne fun z => h (by rw [z]; exact hn)]
      exact p.st.dom c h, fun c h1 h2 h3 => by
      rw [dropA_ne fun z => h1 (by rw [z]; exact hn)]
      exact p.st.oth c h1 h2 h3⟩
  rel := p.rel.move (fun _ h => h) (fun a h => dropA_ne fun z => hf (by rw [← z]; exact h)) (fun a h => ⟨dropA_ne fun z => ho (by rw [← z]; exact h), (p.rel.oa_some h).2⟩) fun a h => by
    rw [dropA_ne fun z => hf (by rw [← z]; exact h)]
    exact p.rel.fdm a h
  own := p.own
  io := p.io
  lk := p.lk
/-- .. and it is there again -/
theorem pst_undrop {D : Addr} (r : RelE K F H env σ) (hf : ¬ F D) (ho : ¬ OA env σ D) : Pst K F (dropA H D) env σ F H env σ where
  st := ⟨fun _ h => h, fun c h => (dropA_ne fun z => hf (by rw [← z]; exact h)).symm, fun c h => by
      by_cases z : c = D
      · rw [z, dropA_same] at h; exact absurd rfl h
      · rw [dropA_ne z] at h; exact h, fun c h1 h2 _ => by
      by_cases z : c = D
      · rw [z, dropA_same] at h1; exact absurd rfl h1
      · exact ⟨(dropA_ne z).symm, h2⟩⟩
  rel := r
  own := fun _ h => .inl h
  io := fun i d h => ⟨⟨d, h⟩, rfl⟩
  lk := fun _ _ _ h => ⟨h, rfl⟩
theorem RelE.drop {D : Addr} (r : RelE K F H env σ) (hf : ¬ F D) (ho : ¬ OA env σ D) : RelE K F (dropA H D) env σ :=
  r.move (fun _ h => h) (fun a h => dropA_ne fun z => hf (by rw [← z]; exact h)) (fun a h => ⟨dropA_ne fun z => ho (by rw [← z]; exact h), (r.oa_some h).2⟩) fun a h => by
    rw [dropA_ne fun z => hf (by rw [← z]; exact h)]
    exact r.fdm a h
/-- the block's list is no slot's, behind the block -/
theorem rest_out {vs : List Nat} {lk : List (Nat × Bool)} {D : Addr} (hl : env2.length = env1.length) (h1 : ¬ OA env1 σ D) (h2 : ¬ OA env2 (wipe σ vs) D) : ¬ OA (unlock (restE env2 env1 vs) lk) σ D := by
  intro z
  obtain ⟨i, s, d, h, hs, q⟩ := (unlock_relab lk _).oa z
  by_cases hi : i ∈ vs
  · rw [restE_in hl hi] at h
    exact h1 ⟨i, s, d, h, hs, q⟩
  · rw [restE_out hi] at h
    exact h2 ⟨i, s, d, h, hs, by rw [wipe_out' hi]; exact q⟩
end
section
variable {X : Cx} {scope : Scope} {tg it el tg1 it1 : Expr} {ifs ifs1 : List Expr} {t t1 : T} {vs vs1 : List Nat} {fc fc1 : En → Option (Bool × En)} {fe : En → Option (Op × En)} {fi fi1 : En → Option (List VI.D × List (Nat × Bool) × En)}
theorem keep_in {P : FS → Hp → Prop} {F1 F' : FS} {H1 H' : Hp} {env1 e : En} {σ : Slots} {lk : List (Nat × Bool)} (k : Keep X.K F1 H1 env1 σ lk P) (hv : ∀ j ∈ lk, j.1 ∉ vs) (p : Pst X.K F1 H1 (wipeE env1 vs) (wipe σ vs) F' H' e (wipe σ vs)) : P F' H' := by
  refine k F' H' p.st.sub p.st.agr fun i io d a hi he ea => ?_
  obtain ⟨j, hj, rfl⟩ := List.mem_map.mp hi
  have hn := hv j hj
  obtain ⟨h1, _⟩ := p.lk j.1 io d (by rw [wipeE_out hn]; exact he)
  obtain ⟨b, h2, h3⟩ := p.rel.ow j.1 _ d h1 rfl
  rw [wipe_out' hn, ea] at h2
  cases h2
  exact h3
theorem s_lc {Γ : Gm} {cl : CallF} {N : List Str} {sc : Scope} (g : Gd Γ cl N sc X) {own : List (Str × Nat)} {pos : Pos} (hown : own.map (·.2) = vs) (ok : BlkOk X.N X.env.scope scope own) (hh : ∀ x, foldedSetIterable it X.env x = pure x)
    (hI : SI X tg it fi) (hT : ∀ c, SG (Bk X scope c) tg t) (hC : ∀ c, SOC (Bk X scope c) ifs fc) (hE : ∀ c, SE (Bk X scope c) el fe) (hts : ∀ j ∈ t.slots, j ∈ vs) {f : En → Option (Op × En)}
    (hf : ∀ env o env', f env = some (o, env') → ∃ items lk env1 outs env2, fi env = some (items, lk, env1) ∧ (∀ j ∈ lk, j.1 ∉ vs) ∧ lcLoop fc (fEl fe) t vs items (wipeE env1 vs) = some (outs, env2) ∧ outs.length ≤ sizeLine ∧ o = .nw (.lst outs) ∧ env' = unlock (restE env2 env1 vs) lk) :
    ∀ env o env', f env = some (o, env') → ∀ σ F H Q, RelE X.K F H env σ → QE X.K F H env σ o env' Q → tLc (WI X tg it) (tGb X scope tg) (tCb X scope ifs) (tEb X scope el) (own.map (·.2)) σ H Q := by
  intro env o env' e σ F H Q r q
  obtain ⟨items, lk, env1, outs, env2, h1, h2, h3, h4, rfl, rfl⟩ := hf env o env' e
  rw [hown]
  refine hI env items lk env1 h1 σ F H _ r fun J F1 H1 env0 P p0 rl lks S hP keep => fun D hD => ?_
  have r1 : RelE X.K F1 H1 env1 σ := rl.rel p0.rel
  have rw1 : RelE X.K F1 H1 (wipeE env1 vs) (wipe σ vs) := wipe_rel r1 vs
  have nO : ∀ {e : En} {s : Slots}, RelE X.K F1 H1 e s → ¬ OA e s D := fun r z => (r.oa_some z).1 hD
  have nF : ¬ F1 D := fun z => r1.fdm D z hD
  refine lc_loop hT hC hE hts S (F0 := F1) (H0 := H1) (done0 := []) (acc0 := []) (fun j hj s hs => wipeE_in hj hs) h3 (by simpa using h4) ((Nst.new hD).pst rw1) hD ⟨upd_same, nF, nO rw1, IsL.nil⟩ (fun F' H' e p => keep_in keep h2 p) fun F' H' acc p ld => ?_
  have pr : Pst X.K F1 H1 env1 σ F' H' (restE env2 env1 vs) σ := p.rested r1
  have pu := lks _ _ _ _ _ _ _ pr
  refine q (.ref D) F' H' (p0.trans pu) ⟨D, rfl, ld.nF, acc, ld.at_, ld.is⟩ fun d _ a ea => ?_
  cases ea
  refine ⟨none_back p0 hD, rest_out ?_ (nO r1) ld.nO⟩
  have := p.rel.len
  rw [wipe_length, ← r1.len] at this
  exact this
theorem lc2_loop (hT : ∀ c, SG (Bk X scope c) tg t) (hC : ∀ c, SOC (Bk X scope c) ifs fc) (hts : ∀ j ∈ t.slots, j ∈ vs)
    (hI1 : ∀ c, SI (Bk X scope c) tg1 it1 fi1) (hT1 : ∀ c, SG (Bk X scope c) tg1 t1) (hC1 : ∀ c, SOC (Bk X scope c) ifs1 fc1) (hts1 : ∀ j ∈ t1.slots, j ∈ vs1) (hE : ∀ c, SE (Bk X scope c) el fe)
    {inner : En → Option (List VI.D × En)} (hin : ∀ env ys env', inner env = some (ys, env') → ∃ items lk env1 env2, fi1 env = some (items, lk, env1) ∧ (∀ j ∈ lk, j.1 ∉ vs1) ∧ lcLoop fc1 (fEl fe) t1 vs1 items (wipeE env1 vs1) = some (ys, env2) ∧ env' = unlock (restE env2 env1 vs1) lk)
    {J : It} {items : List VI.D} {P : FS → Hp → Prop} (S : Src X.K J items P) {F1 : FS} {H1 : Hp} {we : En} {σ : Slots} {env2 : En} {outs : List VI.D} {acc0 : List V} {D : Addr}
    (hw : ∀ j ∈ vs, ∀ s, we[j]? = some s → s = .un) (hl : lcLoop2 fc inner t vs items we = some (outs, env2)) (hz : outs.length ≤ sizeLine)
    {F0 : FS} {H0 : Hp} (r0 : Pst X.K F0 H0 we (wipe σ vs) F1 H1 we (wipe σ vs)) (hD0 : H0 D = none) (ld0 : LD X.K D F1 H1 we (wipe σ vs) [] acc0)
    (hP : ∀ F' H' e, Pst X.K F0 H0 we (wipe σ vs) F' H' e (wipe σ vs) → P F' H')
    {Qd : Hp → Prop} (hq : ∀ F' H' acc, Pst X.K F0 H0 we (wipe σ vs) F' H' env2 (wipe σ vs) → LD X.K D F' H' env2 (wipe σ vs) outs acc → Qd H') :
    ∃ W : Nat → Nat → Hp → Prop, (∃ m, W 0 m H1) ∧ ∀ i m H, W i m H →
      (J.stop i H ∧ Qd H) ∨ (J.go i H ∧ ∃ Nx : Hp → Prop, (∀ H', Nx H' → ∃ m', m' < m ∧ W (i + 1) m' H') ∧ ∀ x H', J.yld i H x H' → tGb X scope tg x (wipe σ vs) H' fun σ2 H2 => wipe σ2 vs = wipe σ vs ∧ tCb X scope ifs σ2 H2 fun b H3 =>
        if b = true then tIb X scope tg1 it1 σ2 H3 fun J1 H4 => ∃ W1 : Nat → Nat → Hp → Prop, (∃ m, W1 0 m H4) ∧ ∀ j k H, W1 j k H →
          (J1.stop j H ∧ Nx H) ∨ (J1.go j H ∧ ∃ Nx1 : Hp → Prop, (∀ H', Nx1 H' → ∃ k', k' < k ∧ W1 (j + 1) k' H') ∧ ∀ x H', J1.yld j H x H' → tGb X scope tg1 x (wipe σ2 vs1) H' fun σ3 H5 => wipe σ3 vs1 = wipe σ2 vs1 ∧ tCb X scope ifs1 σ3 H5 fun b H6 =>
            if b = true then tEb X scope el σ3 H6 fun y H7 => ∃ acc, H7 D = some (.lst acc) ∧ acc.length < sizeLine ∧ Nx1 (upd H7 D (.lst (acc ++ [y]))) else Nx1 H6)
        else Nx H3) := by
  refine ⟨fun i m H => ∃ F' e done acc rest, i ≤ items.length ∧ m = items.length - i ∧ lcLoop2 fc inner t vs (items.drop i) e = some (rest, env2) ∧ outs = done ++ rest ∧
      Pst X.K F0 H0 we (wipe σ vs) F' H e (wipe σ vs) ∧ LD X.K D F' H e (wipe σ vs) done acc, ⟨items.length, F1, we, [], acc0, outs, Nat.zero_le _, rfl, hl, rfl, r0, ld0⟩, ?_⟩
  rintro i m H ⟨F', e, done, acc, rest, hi, rfl, hloop, hout, p, ld⟩
  have PH := hP F' H e p
  by_cases hlt : i < items.length
  · refine .inr ⟨S.go i F' H PH hlt, _, fun H' h => h, fun x H' hy => ?_⟩
    rw [List.drop_eq_getElem_cons hlt] at hloop
    simp only [lcLoop2, bind, Option.bind_eq_some_iff, Prod.exists] at hloop
    obtain ⟨e1, h1, b, e2, h2, h3⟩ := hloop
    obtain ⟨F2, n2, id2⟩ := S.yld i F' H x H' PH p.rel.fdm hy _ (List.getElem?_eq_getElem hlt)
    have p2 := p.nst n2
    have ld2 := ld.step (n2.pst p.rel)
    intro c
    refine hT c e _ e1 h1 (wipe σ vs) F2 H' x _ p2.rel id2 fun σ2 p3 hs3 => ?_
    have hwp : wipe σ2 vs = wipe σ vs := by
      refine wipe_eq ?_ fun j hj => hs3 j fun z => hj (hts j z)
      have l1 := p3.rel.len
      have l2 := p2.rel.len
      have l3 : e1.length = e.length := put_len h1
      rw [wipe_length] at l2
      omega
    refine ⟨hwp, fun c => ?_⟩
    refine hC c e1 b e2 h2 σ2 F2 H' _ p3.rel fun F4 H4 p4 => ?_
    have p24 := p2.trans (p3.trans p4)
    have ld4 := ld2.step (p3.trans p4)
    have nxt : ∀ {F5 : FS} {H5 : Hp} {e5 : En} {done' : List VI.D} {acc' : List V} {rest' : List VI.D}, Pst X.K F0 H0 we (wipe σ vs) F5 H5 e5 σ2 → LD X.K D F5 H5 e5 σ2 done' acc' → lcLoop2 fc inner t vs (items.drop (i + 1)) (wipeE e5 vs) = some (rest', env2) → outs = done' ++ rest' →
        ∃ m', m' < items.length - i ∧ ∃ F' e done acc rest, i + 1 ≤ items.length ∧ m' = items.length - (i + 1) ∧ lcLoop2 fc inner t vs (items.drop (i + 1)) e = some (rest, env2) ∧ outs = done ++ rest ∧
          Pst X.K F0 H0 we (wipe σ vs) F' H5 e (wipe σ vs) ∧ LD X.K D F' H5 e (wipe σ vs) done acc := fun {F5 H5 e5 done' acc' rest'} p5 ld5 hl5 ho5 => by
      refine ⟨items.length - (i + 1), by omega, F5, wipeE e5 vs, done', acc', rest', hlt, rfl, hl5, ho5, p5.wiped hw hwp, ⟨ld5.at_, ld5.nF, fun ⟨j, s, d, h, hs, q⟩ => ?_, ld5.is⟩⟩
      have hj : j ∉ vs := fun z => by have := wipeE_in z h; subst this; cases hs
      rw [wipeE_out hj] at h
      rw [← hwp, wipe_out' hj] at q
      exact ld5.nO ⟨j, s, d, h, hs, q⟩
    cases b with
    | false =>
      refine iteF ?_
      exact nxt p24 ld4 (by simpa using h3) hout
    | true =>
      simp only [if_true, Option.bind_eq_some_iff, Prod.exists] at h3
      obtain ⟨ys, e4, h4, zs, e5, h5, h6⟩ := h3
      cases h6
      obtain ⟨items1, lk1, e3, e6, g1, g2, g3, rfl⟩ := hin _ _ _ h4
      refine iteT fun c => ?_
      refine hI1 c e2 items1 lk1 e3 g1 σ2 F4 H4 _ p4.rel fun J1 F5 H5 e30 P1 p5 rl5 lks5 S5 hP5 keep5 => ?_
      have ld5 := ld4.step p5
      have r30 : RelE X.K F5 H5 e30 σ2 := p5.rel
      have r3 : RelE X.K F5 H5 e3 σ2 := rl5.rel r30
      have nO3 : ¬ OA e3 σ2 D := fun z => ld5.nO (rl5.oa z)
      have rw3 : RelE X.K F5 H5 (wipeE e3 vs1) (wipe σ2 vs1) := wipe_rel r3 vs1
      have nOw : ¬ OA (wipeE e3 vs1) (wipe σ2 vs1) D := fun ⟨j, s, d, h, hs, q⟩ => by
        have hj : j ∉ vs1 := fun z => by have := wipeE_in z h; subst this; cases hs
        rw [wipeE_out hj] at h
        rw [wipe_out' hj] at q
        exact nO3 ⟨j, s, d, h, hs, q⟩
      refine lc_loop hT1 hC1 hE hts1 S5 (F0 := F5) (H0 := dropA H5 D) (done0 := done) (acc0 := acc) (fun j hj s hs => wipeE_in hj hs) g3 ?_ (pst_undrop rw3 ld5.nF nOw) dropA_same ⟨ld5.at_, ld5.nF, nOw, ld5.is⟩ (fun F' H' e p => ?_) fun F7 H7 acc7 p7 ld7 => ?_
      · have l2 := congrArg List.length hout
        rw [List.length_append, List.length_append] at l2
        omega
      · refine keep5 F' H' p.st.sub (fun a f => (p.st.agr a f).trans (dropA_ne fun z => ld5.nF (by rw [← z]; exact f))) fun i io d a hi he ea => ?_
        obtain ⟨j, hj, rfl⟩ := List.mem_map.mp hi
        have hn := g2 j hj
        obtain ⟨k1, _⟩ := p.lk j.1 io d (by rw [wipeE_out hn]; exact he)
        obtain ⟨b, k2, k3⟩ := p.rel.ow j.1 _ d k1 rfl
        rw [wipe_out' hn, ea] at k2
        cases k2
        exact k3
      · have pr : Pst X.K F5 (dropA H5 D) e3 σ2 F7 H7 (restE e6 e3 vs1) σ2 := p7.rested (r3.drop ld5.nF nO3)
        have pu := lks5 _ _ _ _ _ _ _ pr
        have p05 := (p24.trans p5).drop hD0 ld5.nF ld5.nO
        have p07 := p05.trans pu
        have hl6 : e6.length = e3.length := by
          have := p7.rel.len
          rw [wipe_length, ← r3.len] at this
          exact this
        exact nxt p07 ⟨ld7.at_, ld7.nF, rest_out hl6 nO3 ld7.nO, ld7.is⟩ h5 (by rw [hout, List.append_assoc])
  · have e0 : i = items.length := by omega
    subst e0
    rw [List.drop_length] at hloop
    simp only [lcLoop2, Option.some.injEq, Prod.mk.injEq] at hloop
    obtain ⟨rfl, rfl⟩ := hloop
    rw [List.append_nil] at hout
    exact .inl ⟨S.stop _ F' H PH rfl, hq F' H acc p (by rw [hout]; exact ld)⟩
theorem s_lc2 {Γ : Gm} {cl : CallF} {N : List Str} {sc : Scope} (g : Gd Γ cl N sc X) {own : List (Str × Nat)} (hown : own.map (·.2) = vs)
    (hI : SI X tg it fi) (hT : ∀ c, SG (Bk X scope c) tg t) (hC : ∀ c, SOC (Bk X scope c) ifs fc) (hts : ∀ j ∈ t.slots, j ∈ vs)
    (hI1 : ∀ c, SI (Bk X scope c) tg1 it1 fi1) (hT1 : ∀ c, SG (Bk X scope c) tg1 t1) (hC1 : ∀ c, SOC (Bk X scope c) ifs1 fc1) (hts1 : ∀ j ∈ t1.slots, j ∈ vs1) (hE : ∀ c, SE (Bk X scope c) el fe)
    {inner : En → Option (List VI.D × En)} (hin : ∀ env ys env', inner env = some (ys, env') → ∃ items lk env1 env2, fi1 env = some (items, lk, env1) ∧ (∀ j ∈ lk, j.1 ∉ vs1) ∧ lcLoop fc1 (fEl fe) t1 vs1 items (wipeE env1 vs1) = some (ys, env2) ∧ env' = unlock (restE env2 env1 vs1) lk)
    {f : En → Option (Op × En)}
    (hf : ∀ env o env', f env = some (o, env') → ∃ items lk env1 outs env2, fi env = some (items, lk, env1) ∧ (∀ j ∈ lk, j.1 ∉ vs) ∧ lcLoop2 fc inner t vs items (wipeE env1 vs) = some (outs, env2) ∧ outs.length ≤ sizeLine ∧ o = .nw (.lst outs) ∧ env' = unlock (restE env2 env1 vs) lk) :
    ∀ env o env', f env = some (o, env') → ∀ σ F H Q, RelE X.K F H env σ → QE X.K F H env σ o env' Q →
      tLc2 (WI X tg it) (tGb X scope tg) (tCb X scope ifs) (tIb X scope tg1 it1) (tGb X scope tg1) (tCb X scope ifs1) (tEb X scope el) (own.map (·.2)) vs1 σ H Q := by
  intro env o env' e σ F H Q r q
  obtain ⟨items, lk, env1, outs, env2, h1, h2, h3, h4, rfl, rfl⟩ := hf env o env' e
  rw [hown]
  refine hI env items lk env1 h1 σ F H _ r fun J F1 H1 env0 P p0 rl lks S hP keep => fun D hD => ?_
  have r1 : RelE X.K F1 H1 env1 σ := rl.rel p0.rel
  have rw1 : RelE X.K F1 H1 (wipeE env1 vs) (wipe σ vs) := wipe_rel r1 vs
  have nO : ∀ {e : En} {s : Slots}, RelE X.K F1 H1 e s → ¬ OA e s D := fun r z => (r.oa_some z).1 hD
  have nF : ¬ F1 D := fun z => r1.fdm D z hD
  refine lc2_loop hT hC hts hI1 hT1 hC1 hts1 hE hin S (F0 := F1) (H0 := H1) (acc0 := []) (fun j hj s hs => wipeE_in hj hs) h3 h4 ((Nst.new hD).pst rw1) hD ⟨upd_same, nF, nO rw1, IsL.nil⟩ (fun F' H' e p => keep_in keep h2 p) fun F' H' acc p ld => ?_
  have pr : Pst X.K F1 H1 env1 σ F' H' (restE env2 env1 vs) σ := p.rested r1
  have pu := lks _ _ _ _ _ _ _ pr
  refine q (.ref D) F' H' (p0.trans pu) ⟨D, rfl, ld.nF, acc, ld.at_, ld.is⟩ fun d _ a ea => ?_
  cases ea
  refine ⟨none_back p0 hD, rest_out ?_ (nO r1) ld.nO⟩
  have := p.rel.len
  rw [wipe_length, ← r1.len] at this
  exact this
end
end VI
namespace VI
open PySem PySem.Spec L2
section
variable {X : Cx} {F : FS} {H : Hp} {env env0 env1 env2 : En} {σ : Slots}

theorem rd_lock {o y : Op} : rd (lockS env o).1 y = rd env y := by
  cases o with
  | v d => rfl
  | nw d => rfl
  | p i =>
    simp only [lockS]
    split
    · rename_i io d q
      cases y with
      | v d => rfl
      | nw d => rfl
      | p j =>
        by_cases e : i = j
        · subst e
          simp only [rd, List.getElem?_set_self (lt_of_get q), q]
        · simp only [rd, List.getElem?_set_ne e]
    · rfl
    · rfl
theorem si_seq {tg p : Expr} {fb : En → Option (Op × En)} {f : En → Option (List D × List (Nat × Bool) × En)} (hb : SB X p fb)
    (hf : ∀ env items lk env', f env = some (items, lk, env') → ∃ o env1 d, fb env = some (o, env1) ∧ rd env1 o = some d ∧ itemsOf d = some items ∧ lockS env1 o = (env', lk)) : SI X tg p f := by
  intro env items lk env2 e σ F H R r k
  obtain ⟨o, env1, d, h1, h2, h3, h4⟩ := hf env items lk env2 e
  have e2 : env2 = (lockS env1 o).1 := by rw [h4]
  have e3 : lk = (lockS env1 o).2 := by rw [h4]
  subst e2 e3
  obtain ⟨rl, ls⟩ := lks_of (σ := σ) (env0 := env1) o
  cases d with
  | lst xs =>
    cases h3
    refine WI.of (pi_list (pE X p)) (hb env o env1 h1 σ F H _ r fun v F1 H1 p1 r1 n1 => ?_)
    have hs := rd_has p1.rel r1 h2
    obtain ⟨a, vs, rfl, h5, h6⟩ := hs.lst
    exact ⟨a, rfl, ⟨vs, .of h5⟩, k _ F1 H1 env1 _ p1 rl ls src_list hs (lock_keep p1.rel r1 n1 h2 (fun _ _ _ z => z) fun _ z => z)⟩
  | tup xs =>
    cases h3
    refine WI.of (pi_tup (pE X p)) (hb env o env1 h1 σ F H _ r fun v F1 H1 p1 r1 n1 => ?_)
    have hs := rd_has p1.rel r1 h2
    obtain ⟨a, vs, rfl, h5, h6⟩ := hs.tup
    exact ⟨a, rfl, ⟨vs, h5⟩, k _ F1 H1 env1 _ p1 rl ls src_tup hs (lock_keep p1.rel r1 n1 h2 (fun _ _ _ z => z) fun _ z => z)⟩
  | scr ns =>
    cases h3
    refine WI.of (pi_list (pE X p)) (hb env o env1 h1 σ F H _ r fun v F1 H1 p1 r1 n1 => ?_)
    have hs := rd_has p1.rel r1 h2
    obtain ⟨a, rfl, h5⟩ := hs.scr
    exact ⟨a, rfl, ⟨_, h5⟩, k _ F1 H1 env1 _ p1 rl ls src_scr hs (lock_keep p1.rel r1 n1 h2 (fun _ _ _ z => z) fun _ z => z)⟩
  | _ => cases h3
def HasQ (b : Bool) (K : PySem.W.Frag) (F : FS) (H : Hp) (xs : List D) (v : V) : Prop := Has K F H (if b then .tup xs else .lst xs) v
theorem hasQ_of {b : Bool} {K : PySem.W.Frag} {F : FS} {H : Hp} {xs : List D} {v : V} (h : HasQ b K F H xs v) : ∃ (a : Addr) (vs : List V), v = .ref a ∧ VIZ.Sq b K H a vs ∧ IsL K F H xs vs := by
  cases b with
  | true =>
    obtain ⟨a, vs, e, h1, h2⟩ := Has.tup (show Has K F H (.tup xs) v from h)
    exact ⟨a, vs, e, h1, h2⟩
  | false =>
    obtain ⟨a, vs, e, h1, h2⟩ := Has.lst (show Has K F H (.lst xs) v from h)
    exact ⟨a, vs, e, .of h1, h2⟩
theorem src_enumS {ns : List Int} {a : Addr} {K : PySem.W.Frag} : Src K (VIZ.Ite2 false K a) (enumD 0 (ns.map .int)) (fun F H => Has K F H (.scr ns) (.ref a)) where
  go := fun i F H p h => by
    rw [enum_len] at h
    obtain ⟨b, e, h1⟩ := p.scr
    cases e
    obtain ⟨v, e1, _⟩ := (IsL.of_ints (K := K) (F := F) (H := H) ns).get (List.getElem?_eq_getElem h)
    exact ⟨_, v, h1, e1⟩
  yld := fun i F H x H' p fd y d hd => by
    obtain ⟨b, e, h1⟩ := p.scr
    cases e
    obtain ⟨T, o, w, rfl, po, hT, rfl, y⟩ := y
    obtain ⟨z, k1, rfl⟩ := enum_get hd
    obtain ⟨v, e1, e2⟩ := (IsL.of_ints (K := K) (F := F) (H := H) ns).get k1
    have := y _ h1
    rw [e1] at this; cases this
    exact is_pair po hT fd (by simp [Is]) e2
  stop := fun i F H p h0 => by
    rw [enum_len] at h0
    obtain ⟨b, e, h1⟩ := p.scr
    cases e
    exact ⟨_, h1, by simpa using h0⟩
theorem src_enum2 {K : PySem.W.Frag} {b : Bool} {xs : List D} {a : Addr} : Src K (VIZ.Ite2 b K a) (enumD 0 xs) (fun F H => HasQ b K F H xs (.ref a)) where
  go := fun i F H p h => by
    rw [enum_len] at h
    obtain ⟨b, vs, e, h1, i1⟩ := hasQ_of p
    cases e
    obtain ⟨v, e1, _⟩ := i1.get (List.getElem?_eq_getElem h)
    exact ⟨vs, v, h1, e1⟩
  yld := fun i F H x H' p fd y d hd => by
    obtain ⟨b, vs, e, h1, i1⟩ := hasQ_of p
    cases e
    obtain ⟨T, o, w, rfl, po, hT, rfl, y⟩ := y
    obtain ⟨z, k1, rfl⟩ := enum_get hd
    obtain ⟨v, e1, e2⟩ := i1.get k1
    have := y vs h1
    rw [e1] at this; cases this
    exact is_pair po hT fd (by simp [Is]) e2
  stop := fun i F H p h0 => by
    rw [enum_len] at h0
    obtain ⟨b, vs, e, h1, i1⟩ := hasQ_of p
    cases e
    exact ⟨vs, h1, by rw [← i1.length]; exact h0⟩
theorem si_enum {Γ : Gm} {cl : CallF} {N : List Str} {sc : Scope} (g : Gd Γ cl N sc X) {p : Expr} {x : Str} {elts : List Expr} {kk : Nat} {tpos pp pos : Pos} {fb : En → Option (Op × En)} {f : En → Option (List D × List (Nat × Bool) × En)} (hx : x = "enumerate") (hg : freeB Γ sc x = true) (hh : headOk p = true) (hb : SB X p fb)
    (hf : ∀ env items lk env', f env = some (items, lk, env') → ∃ o env1 d xs, fb env = some (o, env1) ∧ rd env1 o = some d ∧ itemsOf d = some xs ∧ items = enumD 0 xs ∧ lockS env1 o = (env', lk)) : SI X (.Tuple elts kk tpos) (.Call (.Name x pp) [p] [] pos) f := by
  intro env items lk env2 e σ F H R r k
  obtain ⟨o, env1, d, xs, h1, h2, h3, rfl, h4⟩ := hf env items lk env2 e
  subst hx
  obtain ⟨G, _, _, M⟩ := free_of g hg
  have e2 : env2 = (lockS env1 o).1 := by rw [h4]
  have e3 : lk = (lockS env1 o).2 := by rw [h4]
  subst e2 e3
  obtain ⟨rl, ls⟩ := lks_of (σ := σ) (env0 := env1) o
  have pa : ∀ {R : List V → Hp → Prop}, WE X p σ H (fun v H1 => R [v] H1) → WA X [p] σ H R := fun h => WA.of (pa_cons (pE X p) pa_nil (starEach_of hh)) h
  have st : starEach [p] X.env = [(false, eval p X.env)] := starEach_of hh
  cases d with
  | lst xs =>
    cases h3
    refine WI.of (VIZ.pi_enum2 G M (pA X [p]) st) (pa (hb env o env1 h1 σ F H _ r fun v F1 H1 p1 r1 n1 => ?_))
    have hs := rd_has p1.rel r1 h2
    obtain ⟨a, vs, rfl, h5, h6⟩ := hasQ_of (b := false) hs
    exact ⟨false, a, vs, rfl, h5, k _ F1 H1 env1 _ p1 rl ls (src_enum2 (b := false)) hs (lock_keep p1.rel r1 n1 h2 (fun _ _ _ z => z) fun _ z => z)⟩
  | tup xs =>
    cases h3
    refine WI.of (VIZ.pi_enum2 G M (pA X [p]) st) (pa (hb env o env1 h1 σ F H _ r fun v F1 H1 p1 r1 n1 => ?_))
    have hs := rd_has p1.rel r1 h2
    obtain ⟨a, vs, rfl, h5, h6⟩ := hasQ_of (b := true) hs
    exact ⟨true, a, vs, rfl, h5, k _ F1 H1 env1 _ p1 rl ls (src_enum2 (b := true)) hs (lock_keep p1.rel r1 n1 h2 (fun _ _ _ z => z) fun _ z => z)⟩
  | scr ns =>
    cases h3
    refine WI.of (VIZ.pi_enum2 G M (pA X [p]) st) (pa (hb env o env1 h1 σ F H _ r fun v F1 H1 p1 r1 n1 => ?_))
    have hs := rd_has p1.rel r1 h2
    obtain ⟨a, rfl, h5⟩ := hs.scr
    exact ⟨false, a, _, rfl, h5, k _ F1 H1 env1 _ p1 rl ls src_enumS hs (lock_keep p1.rel r1 n1 h2 (fun _ _ _ z => z) fun _ z => z)⟩
  | _ => cases h3
theorem si_rng1 {Γ : Gm} {cl : CallF} {N : List Str} {sc : Scope} (g : Gd Γ cl N sc X) {tg p : Expr} {x : Str} {pp pos : Pos} {fb : En → Option (Op × En)} {f : En → Option (List D × List (Nat × Bool) × En)} (hx : x = "range") (hg : freeB Γ sc x = true) (hh : headOk p = true) (hb : SB X p fb)
    (hf : ∀ env items lk env', f env = some (items, lk, env') → ∃ o j, fb env = some (o, env') ∧ rd env' o = some (.int j) ∧ rngS 0 j = some items ∧ lk = []) : SI X tg (.Call (.Name x pp) [p] [] pos) f := by
  intro env items lk env1 e σ F H R r k
  obtain ⟨o, j, h1, h2, h3, rfl⟩ := hf env items lk env1 e
  subst hx
  obtain ⟨G, _, _, M⟩ := free_of g hg
  have st : starEach [p] X.env = [(false, eval p X.env)] := starEach_of hh
  refine WI.of (pi_range1 G M (pA X [p]) st) (WA.of (pa_cons (pE X p) pa_nil (starEach_of hh)) (hb env o env1 h1 σ F H _ r fun v F1 H1 p1 r1 n1 => ?_))
  have e1 := (rd_has p1.rel r1 h2).int
  subst e1
  unfold rngS at h3
  split at h3
  · rename_i q
    cases h3
    refine ⟨j, rfl, q.2.2.1, q.2.2.2, k _ F1 H1 env1 (fun _ _ => True) p1 .refl (fun K F1 H1 F2 H2 e σ2 p => p) ?_ trivial fun _ _ _ _ _ => trivial⟩
    have : (j - 0).toNat = j.toNat := by rw [Int.sub_zero]
    rw [this]
    exact src_rng
  · cases h3
theorem si_rng2 {Γ : Gm} {cl : CallF} {N : List Str} {sc : Scope} (g : Gd Γ cl N sc X) {tg p p2 : Expr} {x : Str} {pp pos : Pos} {fa fb : En → Option (Op × En)} {f : En → Option (List D × List (Nat × Bool) × En)} (hx : x = "range") (hg : freeB Γ sc x = true) (hh : headOk p = true) (hh2 : headOk p2 = true) (ha : SB X p fa) (hb : SB X p2 fb)
    (hf : ∀ env items lk env', f env = some (items, lk, env') → ∃ o i env1 u j, fa env = some (o, env1) ∧ fb env1 = some (u, env') ∧ rd env' o = some (.int i) ∧ rd env' u = some (.int j) ∧ rngS i j = some items ∧ lk = []) : SI X tg (.Call (.Name x pp) [p, p2] [] pos) f := by
  intro env items lk env2 e σ F H R r k
  obtain ⟨o, i, env1, u, j, h1, h2, h3, h4, h5, rfl⟩ := hf env items lk env2 e
  subst hx
  obtain ⟨G, _, _, M⟩ := free_of g hg
  have st : starEach [p, p2] X.env = [(false, eval p X.env), (false, eval p2 X.env)] := by rw [starEach_of hh, starEach_of hh2]; rfl
  have st2 : starEach [p2] X.env = [(false, eval p2 X.env)] := starEach_of hh2
  refine WI.of (pi_range2 G M (pA X [p, p2]) st st2) (WA.of (pa_cons (pE X p) (pa_cons (pE X p2) pa_nil (starEach_of hh2)) (starEach_of hh)) (two_ops ha hb h1 h2 r fun v w F2 H2 p r1 r2 _ _ => ?_))
  have e1 := (rd_has p.rel r1 h3).int
  subst e1
  have e1 := (rd_has p.rel r2 h4).int
  subst e1
  unfold rngS at h5
  split at h5
  · rename_i q
    cases h5
    exact ⟨i, j, rfl, q, k _ F2 H2 env2 (fun _ _ => True) p .refl (fun K F1 H1 F2 H2 e σ2 p => p) src_rng trivial fun _ _ _ _ _ => trivial⟩
  · cases h5
theorem src_zip2 {K : PySem.W.Frag} {b c : Bool} {xs ys : List D} {a1 a2 : Addr} : Src K (VIZ.It2 b c K a1 a2) (zipD xs ys) (fun F H => HasQ b K F H xs (.ref a1) ∧ HasQ c K F H ys (.ref a2)) where
  go := fun i F H p h => by
    rw [zip_len] at h
    obtain ⟨_, us, e, h1, i1⟩ := hasQ_of p.1
    cases e
    obtain ⟨_, vs, e, h2, i2⟩ := hasQ_of p.2
    cases e
    obtain ⟨u, e1, _⟩ := i1.get (List.getElem?_eq_getElem (show i < xs.length by omega))
    obtain ⟨v, e2, _⟩ := i2.get (List.getElem?_eq_getElem (show i < ys.length by omega))
    exact ⟨us, vs, u, v, h1, h2, e1, e2⟩
  yld := fun i F H x H' p fd y d hd => by
    obtain ⟨_, us, e, h1, i1⟩ := hasQ_of p.1
    cases e
    obtain ⟨_, vs, e, h2, i2⟩ := hasQ_of p.2
    cases e
    obtain ⟨T, o, w, w', rfl, po, hT, rfl, y, y'⟩ := y
    obtain ⟨u, z, k1, k2, rfl⟩ := zip_get hd
    obtain ⟨v1, e1, e2⟩ := i1.get k1
    obtain ⟨v2, e3, e4⟩ := i2.get k2
    have := y us h1
    rw [e1] at this; cases this
    have := y' vs h2
    rw [e3] at this; cases this
    exact is_pair po hT fd e2 e4
  stop := fun i F H p h => by
    rw [zip_len] at h
    obtain ⟨_, us, e, h1, i1⟩ := hasQ_of p.1
    cases e
    obtain ⟨_, vs, e, h2, i2⟩ := hasQ_of p.2
    cases e
    have l1 := i1.length
    have l2 := i2.length
    exact ⟨us, vs, h1, h2, by omega, by omega, by omega⟩
theorem si_zip {Γ : Gm} {cl : CallF} {N : List Str} {sc : Scope} (g : Gd Γ cl N sc X) {p p2 : Expr} {x : Str} {elts : List Expr} {kk : Nat} {tpos pp pos : Pos} {fa fb : En → Option (Op × En)} {f : En → Option (List D × List (Nat × Bool) × En)} (hx : x = "zip") (hg : freeB Γ sc x = true) (hh : headOk p = true) (hh2 : headOk p2 = true) (ha : SB X p fa) (hb : SB X p2 fb)
    (hf : ∀ env items lk env', f env = some (items, lk, env') → ∃ o env1 u env2 d e, fa env = some (o, env1) ∧ fb env1 = some (u, env2) ∧ rd env2 o = some d ∧ rd env2 u = some e ∧ zipS d e = some items ∧ lockS (lockS env2 o).1 u = (env', (lockS (lockS env2 o).1 u).2) ∧ lk = (lockS (lockS env2 o).1 u).2 ++ (lockS env2 o).2) : SI X (.Tuple elts kk tpos) (.Call (.Name x pp) [p, p2] [] pos) f := by
  intro env items lk env3 e σ F H R r k
  obtain ⟨o, env1, u, env2, d, d2, h1, h2, h3, h4, h5, h6, rfl⟩ := hf env items lk env3 e
  subst hx
  obtain ⟨G, _, _, M⟩ := free_of g hg
  have e2 : env3 = (lockS (lockS env2 o).1 u).1 := by rw [h6]
  subst e2
  obtain ⟨rl, ls⟩ := lks_of (σ := σ) (env0 := env2) o
  obtain ⟨rl1, ls1⟩ := lks_of (σ := σ) (env0 := (lockS env2 o).1) u
  have st : starEach [p, p2] X.env = (false, eval p X.env) :: starEach [p2] X.env := starEach_of hh
  have st2 : (backTo pos (starEach [p2] X.env)).any (·.1) = false := by rw [starEach_of hh2]; rfl
  refine WI.of (VIZ.pi_zip2 G M (pA X [p, p2]) st st2) (WA.of (pa_cons (pE X p) (pa_cons (pE X p2) pa_nil (starEach_of hh2)) (starEach_of hh)) (two_ops ha hb h1 h2 r fun v w F2 H2 p r1 r2 n1 n2 => ?_))
  have hs1 := rd_has p.rel r1 h3
  have hs2 := rd_has p.rel r2 h4
  have kp : Keep X.K F2 H2 (lockS (lockS env2 o).1 u).1 σ ((lockS (lockS env2 o).1 u).2 ++ (lockS env2 o).2) (fun F H => Has X.K F H d v ∧ Has X.K F H d2 w) := fun F3 H3 a b c =>
    ⟨lock_keep p.rel r1 n1 h3 (fun i io d z => lock_lk z) (fun z hz => List.mem_append_right _ hz) F3 H3 a b c, lock_keep (rl.rel p.rel) r2 n2 (by rw [rd_lock]; exact h4) (fun _ _ _ z => z) (fun z hz => List.mem_append_left _ hz) F3 H3 a b c⟩
  have go : ∀ (b c : Bool) (xs ys : List D), d = (if b then .tup xs else .lst xs) → d2 = (if c then .tup ys else .lst ys) → items = zipD xs ys → ∃ (b c : Bool) (a1 a2 : Addr) (xs ys : List V), [v, w] = [.ref a1, .ref a2] ∧ VIZ.Sq b X.K H2 a1 xs ∧ VIZ.Sq c X.K H2 a2 ys ∧ R (VIZ.It2 b c X.K a1 a2) H2 := by
    intro b c xs ys e1 e2 e3
    subst e1 e2 e3
    obtain ⟨a1, us, rfl, g1, g2⟩ := hasQ_of (b := b) hs1
    obtain ⟨a2, vs, rfl, g3, g4⟩ := hasQ_of (b := c) hs2
    exact ⟨b, c, a1, a2, us, vs, rfl, g1, g3, k _ F2 H2 env2 _ p (rl.trans rl1) (ls.trans ls1) src_zip2 ⟨hs1, hs2⟩ kp⟩
  unfold zipS at h5
  split at h5
  · cases h5; exact go false false _ _ rfl rfl rfl
  · cases h5; exact go true true _ _ rfl rfl rfl
  · cases h5; exact go true false _ _ rfl rfl rfl
  · cases h5; exact go false true _ _ rfl rfl rfl
  · cases h5

theorem zip3_get : ∀ {xs ys zs : List D} {i : Nat} {d : D}, (zip3D xs ys zs)[i]? = some d → ∃ x y z, xs[i]? = some x ∧ ys[i]? = some y ∧ zs[i]? = some z ∧ d = .tup [x, y, z]
  | [], _, _, _, _, h => by simp [zip3D] at h
  | _ :: _, [], _, _, _, h => by simp [zip3D] at h
  | _ :: _, _ :: _, [], _, _, h => by simp [zip3D] at h
  | x :: xs, y :: ys, z :: zs, 0, d, h => by simp [zip3D] at h; subst h; exact ⟨x, y, z, rfl, rfl, rfl, rfl⟩
  | x :: xs, y :: ys, z :: zs, i + 1, d, h => by
    obtain ⟨u, w, v, h1, h2, h3, h4⟩ := zip3_get (xs := xs) (ys := ys) (zs := zs) (i := i) (d := d) (by simpa [zip3D] using h)
    exact ⟨u, w, v, by simpa using h1, by simpa using h2, by simpa using h3, h4⟩
theorem zip3_len : ∀ (xs ys zs : List D), (zip3D xs ys zs).length = min xs.length (min ys.length zs.length)
  | [], _, _ => by simp [zip3D]
  | _ :: _, [], _ => by simp [zip3D]
  | _ :: _, _ :: _, [] => by simp [zip3D]
  | x :: xs, y :: ys, z :: zs => by simp only [zip3D, List.length_cons, zip3_len xs ys zs]; omega
theorem src_zip3 {K : PySem.W.Frag} {b : Bool} {xs ys zs : List D} {a1 a2 a3 : Addr} : Src K (VIZ.It3 b K a1 a2 a3) (zip3D xs ys zs) (fun F H => HasQ b K F H xs (.ref a1) ∧ HasQ b K F H ys (.ref a2) ∧ HasQ b K F H zs (.ref a3)) where
  go := fun i F H p h => by
    rw [zip3_len] at h
    obtain ⟨_, us, e, h1, i1⟩ := hasQ_of p.1
    cases e
    obtain ⟨_, vs, e, h2, i2⟩ := hasQ_of p.2.1
    cases e
    obtain ⟨_, ws, e, h3, i3⟩ := hasQ_of p.2.2
    cases e
    obtain ⟨u, e1, _⟩ := i1.get (List.getElem?_eq_getElem (show i < xs.length by omega))
    obtain ⟨v, e2, _⟩ := i2.get (List.getElem?_eq_getElem (show i < ys.length by omega))
    obtain ⟨w, e3, _⟩ := i3.get (List.getElem?_eq_getElem (show i < zs.length by omega))
    exact ⟨us, vs, ws, u, v, w, h1, h2, h3, e1, e2, e3⟩
  yld := fun i F H x H' p fd y d hd => by
    obtain ⟨_, us, e, h1, i1⟩ := hasQ_of p.1
    cases e
    obtain ⟨_, vs, e, h2, i2⟩ := hasQ_of p.2.1
    cases e
    obtain ⟨_, ws, e, h3, i3⟩ := hasQ_of p.2.2
    cases e
    obtain ⟨T, o, w, w', w'', rfl, po, hT, rfl, y, y', y''⟩ := y
    obtain ⟨u, z, z', k1, k2, k3, rfl⟩ := zip3_get hd
    obtain ⟨v1, e1, e2⟩ := i1.get k1
    obtain ⟨v2, e3, e4⟩ := i2.get k2
    obtain ⟨v3, e5, e6⟩ := i3.get k3
    have := y us h1
    rw [e1] at this; cases this
    have := y' vs h2
    rw [e3] at this; cases this
    have := y'' ws h3
    rw [e5] at this; cases this
    exact is_trip po hT fd e2 e4 e6
  stop := fun i F H p h => by
    rw [zip3_len] at h
    obtain ⟨_, us, e, h1, i1⟩ := hasQ_of p.1
    cases e
    obtain ⟨_, vs, e, h2, i2⟩ := hasQ_of p.2.1
    cases e
    obtain ⟨_, ws, e, h3, i3⟩ := hasQ_of p.2.2
    cases e
    have l1 := i1.length
    have l2 := i2.length
    have l3 := i3.length
    exact ⟨us, vs, ws, h1, h2, h3, by omega, by omega, by omega, by omega⟩
theorem si_zip3 {Γ : Gm} {cl : CallF} {N : List Str} {sc : Scope} (g : Gd Γ cl N sc X) {p p2 p3 : Expr} {x : Str} {elts : List Expr} {kk : Nat} {tpos pp pos : Pos} {fa fb fc : En → Option (Op × En)} {f : En → Option (List D × List (Nat × Bool) × En)} (hx : x = "zip") (hg : freeB Γ sc x = true) (hh : headOk p = true) (hh2 : headOk p2 = true) (hh3 : headOk p3 = true) (ha : SB X p fa) (hb : SB X p2 fb) (hc : SB X p3 fc)
    (hf : ∀ env items lk env', f env = some (items, lk, env') → ∃ o env1 u env2 o3 env3 d e c, fa env = some (o, env1) ∧ fb env1 = some (u, env2) ∧ fc env2 = some (o3, env3) ∧ rd env3 o = some d ∧ rd env3 u = some e ∧ rd env3 o3 = some c ∧ zip3S d e c = some items ∧ env' = (lockS (lockS (lockS env3 o).1 u).1 o3).1 ∧ lk = (lockS (lockS (lockS env3 o).1 u).1 o3).2 ++ ((lockS (lockS env3 o).1 u).2 ++ (lockS env3 o).2)) : SI X (.Tuple elts kk tpos) (.Call (.Name x pp) [p, p2, p3] [] pos) f := by
  intro env items lk envZ e σ F H R r k
  obtain ⟨o, env1, u, env2, o3, env3, d, d2, d3, h1, h2, h2', h3, h4, h4', h5, rfl, rfl⟩ := hf env items lk envZ e
  subst hx
  obtain ⟨G, _, _, M⟩ := free_of g hg
  obtain ⟨rl, ls⟩ := lks_of (σ := σ) (env0 := env3) o
  obtain ⟨rl1, ls1⟩ := lks_of (σ := σ) (env0 := (lockS env3 o).1) u
  obtain ⟨rl2, ls2⟩ := lks_of (σ := σ) (env0 := (lockS (lockS env3 o).1 u).1) o3
  have st : starEach [p, p2, p3] X.env = (false, eval p X.env) :: starEach [p2, p3] X.env := starEach_of hh
  have st1 : starEach [p2, p3] X.env = (false, eval p2 X.env) :: starEach [p3] X.env := starEach_of hh2
  have st2 : (backTo pos (starEach [p2, p3] X.env)).any (·.1) = false := by rw [st1, starEach_of hh3]; rfl
  refine WI.of (VIZ.pi_zip3 G M (pA X [p, p2, p3]) st st2) (WA.of (pa_cons (pE X p) (pa_cons (pE X p2) (pa_cons (pE X p3) pa_nil (starEach_of hh3)) st1) st) ?_)
  refine ha env o env1 h1 σ F H _ r fun v F1 H1 p1 r1 n1 => hb env1 u env2 h2 σ F1 H1 _ p1.rel fun w F2 H2 p2 r2 n2 => hc env2 o3 env3 h2' σ F2 H2 _ p2.rel fun z F3 H3 p3 r3 n3 => ?_
  have q := (p1.trans p2).trans p3
  have hs1 := rd_has q.rel ((r1.stay n1 p2.st).stay n1 p3.st) h3
  have hs2 := rd_has q.rel (r2.stay n2 p3.st) h4
  have hs3 := rd_has q.rel r3 h4'
  have kp : Keep X.K F3 H3 (lockS (lockS (lockS env3 o).1 u).1 o3).1 σ ((lockS (lockS (lockS env3 o).1 u).1 o3).2 ++ ((lockS (lockS env3 o).1 u).2 ++ (lockS env3 o).2)) (fun F H => Has X.K F H d v ∧ Has X.K F H d2 w ∧ Has X.K F H d3 z) := fun F4 H4 a b c =>
    ⟨lock_keep q.rel ((r1.stay n1 p2.st).stay n1 p3.st) n1 h3 (fun i io d z => lock_lk (lock_lk z)) (fun z hz => List.mem_append_right _ (List.mem_append_right _ hz)) F4 H4 a b c,
      lock_keep (rl.rel q.rel) (r2.stay n2 p3.st) n2 (by rw [rd_lock]; exact h4) (fun i io d z => lock_lk z) (fun z hz => List.mem_append_right _ (List.mem_append_left _ hz)) F4 H4 a b c,
      lock_keep (rl1.rel (rl.rel q.rel)) r3 n3 (by rw [rd_lock, rd_lock]; exact h4') (fun _ _ _ z => z) (fun z hz => List.mem_append_left _ hz) F4 H4 a b c⟩
  have go : ∀ (b : Bool) (xs ys zs : List D), d = (if b then .tup xs else .lst xs) → d2 = (if b then .tup ys else .lst ys) → d3 = (if b then .tup zs else .lst zs) → items = zip3D xs ys zs → ∃ (b : Bool) (a1 a2 a3 : Addr) (xs ys zs : List V), [v, w, z] = [.ref a1, .ref a2, .ref a3] ∧ VIZ.Sq b X.K H3 a1 xs ∧ VIZ.Sq b X.K H3 a2 ys ∧ VIZ.Sq b X.K H3 a3 zs ∧ R (VIZ.It3 b X.K a1 a2 a3) H3 := by
    intro b xs ys zs e1 e2 e3 e4
    subst e1 e2 e3 e4
    obtain ⟨a1, us, rfl, g1, g2⟩ := hasQ_of (b := b) hs1
    obtain ⟨a2, vs, rfl, g3, g4⟩ := hasQ_of (b := b) hs2
    obtain ⟨a3, ws, rfl, g5, g6⟩ := hasQ_of (b := b) hs3
    exact ⟨b, a1, a2, a3, us, vs, ws, rfl, g1, g3, g5, k _ F3 H3 env3 _ q (rl.trans (rl1.trans rl2)) ((ls.trans ls1).trans ls2) src_zip3 ⟨hs1, hs2, hs3⟩ kp⟩
  unfold zip3S at h5
  split at h5
  · cases h5; exact go false _ _ _ rfl rfl rfl rfl
  · cases h5; exact go true _ _ _ rfl rfl rfl rfl
  · cases h5

theorem QE.from {F1 : FS} {H1 : Hp} {o : Op} {Q : VK} (p1 : Pst X.K F H env σ F1 H1 env1 σ) (q : QE X.K F H env σ o env2 Q) : QE X.K F1 H1 env1 σ o env2 Q := fun v F2 H2 p2 r2 n2 => q v F2 H2 (p1.trans p2) r2 fun d ed a ea => by
  obtain ⟨z1, z2⟩ := n2 d ed a ea
  exact ⟨none_back p1 z1, z2⟩
theorem s_one {op : BoolOp} {p : Expr} {pos : Pos} {f : En → Option (Op × En)} (h : SE X p f) : SE X (.BoolOp op [p] pos) f := fun env o env' e σ F H Q r q => WE.of (pe_one (pE X p)) (h env o env' e σ F H Q r q)
theorem s_and {p b : Expr} {rest : List Expr} {pos : Pos} {fb fs f : En → Option (Op × En)} (hb : SB X p fb) (hs : SE X (.BoolOp .And (b :: rest) pos) fs)
    (hf : ∀ env o env', f env = some (o, env') → ∃ x env1 k, fb env = some (x, env1) ∧ rd env1 x = some (.bl k) ∧ ((k = true ∧ fs env1 = some (o, env')) ∨ (k = false ∧ o = .v (.bl false) ∧ env' = env1))) : SE X (.BoolOp .And (p :: b :: rest) pos) f := by
  intro env o env2 e σ F H Q r q
  obtain ⟨x, env1, k, h1, h2, h3⟩ := hf env o env2 e
  refine WE.of (pe_and (pE X p) (pE X (.BoolOp .And (b :: rest) pos))) (hb env x env1 h1 σ F H _ r fun v F1 H1 p1 r1 n1 => ?_)
  have e1 := (rd_has p1.rel r1 h2).bl
  subst e1
  refine ⟨k, rfl, ?_⟩
  rcases h3 with ⟨rfl, h3⟩ | ⟨rfl, rfl, rfl⟩
  · exact iteT (hs env1 o env2 h3 σ F1 H1 Q p1.rel (q.from p1))
  · exact iteF (q _ F1 H1 p1 (by simp [RelOp, Is]) fun d ed => by cases ed)
theorem s_or {p b : Expr} {rest : List Expr} {pos : Pos} {fb fs f : En → Option (Op × En)} (hb : SB X p fb) (hs : SE X (.BoolOp .Or (b :: rest) pos) fs)
    (hf : ∀ env o env', f env = some (o, env') → ∃ x env1 k, fb env = some (x, env1) ∧ rd env1 x = some (.bl k) ∧ ((k = false ∧ fs env1 = some (o, env')) ∨ (k = true ∧ o = .v (.bl true) ∧ env' = env1))) : SE X (.BoolOp .Or (p :: b :: rest) pos) f := by
  intro env o env2 e σ F H Q r q
  obtain ⟨x, env1, k, h1, h2, h3⟩ := hf env o env2 e
  refine WE.of (pe_or (pE X p) (pE X (.BoolOp .Or (b :: rest) pos))) (hb env x env1 h1 σ F H _ r fun v F1 H1 p1 r1 n1 => ?_)
  have e1 := (rd_has p1.rel r1 h2).bl
  subst e1
  refine ⟨k, rfl, ?_⟩
  rcases h3 with ⟨rfl, h3⟩ | ⟨rfl, rfl, rfl⟩
  · exact iteF (hs env1 o env2 h3 σ F1 H1 Q p1.rel (q.from p1))
  · exact iteT (q _ F1 H1 p1 (by simp [RelOp, Is]) fun d ed => by cases ed)
theorem SCw.c {p : Expr} {f : En → Option (Bool × En)} (h : SCw X p f) : SC X p f := fun env b env' e σ F H Q r q => (h env b env' e σ F H Q r q).wt
theorem c_and1 {p : Expr} {pos : Pos} {f : En → Option (Bool × En)} (h : SC X p f) : SCw X (.BoolOp .And [p] pos) f := fun env b env' e σ F H Q r q => WW.of (pw_and1 (pT X p)) (h env b env' e σ F H Q r q)
theorem c_or1 {p : Expr} {pos : Pos} {f : En → Option (Bool × En)} (h : SC X p f) : SCw X (.BoolOp .Or [p] pos) f := fun env b env' e σ F H Q r q => WW.of (pw_or1 (pT X p)) (h env b env' e σ F H Q r q)
theorem c_and {p b : Expr} {rest : List Expr} {pos : Pos} {fb fs f : En → Option (Bool × En)} (hb : SC X p fb) (hs : SCw X (.BoolOp .And (b :: rest) pos) fs)
    (hf : ∀ env o env', f env = some (o, env') → ∃ k env1, fb env = some (k, env1) ∧ ((k = true ∧ fs env1 = some (o, env')) ∨ (k = false ∧ o = false ∧ env' = env1))) : SCw X (.BoolOp .And (p :: b :: rest) pos) f := by
  intro env o env2 e σ F H Q r q
  obtain ⟨k, env1, h1, h3⟩ := hf env o env2 e
  refine WW.of (pw_and (pT X p) (pW X (.BoolOp .And (b :: rest) pos))) (hb env k env1 h1 σ F H _ r fun F1 H1 p1 => ?_)
  rcases h3 with ⟨rfl, h3⟩ | ⟨rfl, rfl, rfl⟩
  · exact iteT (hs env1 o env2 h3 σ F1 H1 Q p1.rel fun F2 H2 p2 => q F2 H2 (p1.trans p2))
  · exact iteF (q F1 H1 p1)
theorem c_or {p b : Expr} {rest : List Expr} {pos : Pos} {fb fs f : En → Option (Bool × En)} (hb : SC X p fb) (hs : SCw X (.BoolOp .Or (b :: rest) pos) fs)
    (hf : ∀ env o env', f env = some (o, env') → ∃ k env1, fb env = some (k, env1) ∧ ((k = false ∧ fs env1 = some (o, env')) ∨ (k = true ∧ o = true ∧ env' = env1))) : SCw X (.BoolOp .Or (p :: b :: rest) pos) f := by
  intro env o env2 e σ F H Q r q
  obtain ⟨k, env1, h1, h3⟩ := hf env o env2 e
  refine WW.of (pw_or (pT X p) (pW X (.BoolOp .Or (b :: rest) pos))) (hb env k env1 h1 σ F H _ r fun F1 H1 p1 => ?_)
  rcases h3 with ⟨rfl, h3⟩ | ⟨rfl, rfl, rfl⟩
  · exact iteF (hs env1 o env2 h3 σ F1 H1 Q p1.rel fun F2 H2 p2 => q F2 H2 (p1.trans p2))
  · exact iteT (q F1 H1 p1)
theorem c_not {p : Expr} {pos : Pos} {fb f : En → Option (Bool × En)} (hb : SC X p fb) (hf : ∀ env o env', f env = some (o, env') → ∃ k, fb env = some (k, env') ∧ o = !k) : SC X (.UnaryOp .Not p pos) f := by
  intro env o env1 e σ F H Q r q
  obtain ⟨k, h1, rfl⟩ := hf env o env1 e
  exact WT.of (pt_not (pT X p)) (hb env k env1 h1 σ F H _ r fun F1 H1 p1 => q F1 H1 p1)
theorem c_val {p : Expr} {fb : En → Option (Op × En)} {f : En → Option (Bool × En)} (hp : plainT p = true) (hb : SB X p fb) (hf : ∀ env o env', f env = some (o, env') → ∃ x, fb env = some (x, env') ∧ rd env' x = some (.bl o)) : SC X p f := by
  intro env o env1 e σ F H Q r q
  obtain ⟨x, h1, h2⟩ := hf env o env1 e
  refine WT.of (pt_val (pE X p) (by cases p <;> first | (intro _; rfl) | cases hp)) (hb env x env1 h1 σ F H _ r fun v F1 H1 p1 r1 n1 => ?_)
  have e1 := (rd_has p1.rel r1 h2).bl
  subst e1
  exact ⟨o, rfl, q F1 H1 p1⟩
theorem pt_ifx {c a b : Expr} {pos : Pos} {tc ta tb : TT} (hc : PT X c tc) (ha : PT X a ta) (hb : PT X b tb) : PT X (.IfExp c a b pos) (fun σ H Q => tc σ H fun k H1 => if k = true then ta σ H1 Q else tb σ H1 Q) := by
  refine ⟨fun pins s σ H Q I hw => ?_⟩
  show wpAny _ _ (isTrue c X.env (eval c X.env) >>= fun k => if k = true then isTrue a X.env (eval a X.env) else isTrue b X.env (eval b X.env)) _ _ s
  refine PySem.wpAny_bind (thn (hc.run pins s σ H _ I hw) fun k s1 ⟨H1, I1, q1⟩ => ?_)
  cases k with
  | true => exact ha.run pins s1 σ H1 Q I1 q1
  | false => exact hb.run pins s1 σ H1 Q I1 q1
/-- a test of the form a if c else b -/
theorem c_ifx {pc pa pb : Expr} {pos : Pos} {fc f : En → Option (Bool × En)} {fa fb : En → Option (Op × En)} (h1 : plainT pa = true) (h2 : plainT pb = true) (hc : SC X pc fc) (ha : SB X pa fa) (hb : SB X pb fb)
    (hf : ∀ env o env', f env = some (o, env') → ∃ k env1, fc env = some (k, env1) ∧ ∃ x, (if k = true then fa env1 else fb env1) = some (x, env') ∧ rd env' x = some (.bl o)) : SC X (.IfExp pc pa pb pos) f := by
  intro env o env' e σ F H Q r q
  obtain ⟨k, env1, e1, x, e2, e3⟩ := hf env o env' e
  refine WT.of (pt_ifx (pT X pc) (pt_val (pE X pa) (by cases pa <;> first | (intro _; rfl) | cases h1)) (pt_val (pE X pb) (by cases pb <;> first | (intro _; rfl) | cases h2))) (hc env k env1 e1 σ F H _ r fun F1 H1 p1 => ?_)
  cases k with
  | true => exact iteT (ha env1 x env' e2 σ F1 H1 _ p1.rel fun v F2 H2 p2 r2 n2 => by
      have e4 := (rd_has p2.rel r2 e3).bl
      subst e4
      exact ⟨o, rfl, q F2 H2 (p1.trans p2)⟩)
  | false => exact iteF (hb env1 x env' e2 σ F1 H1 _ p1.rel fun v F2 H2 p2 r2 n2 => by
      have e4 := (rd_has p2.rel r2 e3).bl
      subst e4
      exact ⟨o, rfl, q F2 H2 (p1.trans p2)⟩)
theorem c_cmp {op : CmpOp} {a b : Expr} {pos : Pos} {fa fb : En → Option (Op × En)} {f : En → Option (Bool × En)} (hu : X.A.units + 65 < cLine) (hm : headOk b = true) (ha : SB X a fa) (hb : SB X b fb)
    (hf : ∀ env o env', f env = some (o, env') → ∃ x env1 y dx dy, fa env = some (x, env1) ∧ fb env1 = some (y, env') ∧ rd env' x = some dx ∧ rd env' y = some dy ∧ cmpS op dx dy = some o) : SC X (.Compare a [op] [b] pos) f := by
  intro env o env2 e σ F H Q r q
  obtain ⟨x, env1, y, dx, dy, h1, h2, h3, h4, h5⟩ := hf env o env2 e
  exact s_cmpT hu hm ha hb h1 h2 h3 h4 h5 r q
theorem e_cmp {op : CmpOp} {a b : Expr} {pos : Pos} {fa fb f : En → Option (Op × En)} (hu : X.A.units + 65 < cLine) (hm : headOk b = true) (ha : SB X a fa) (hb : SB X b fb)
    (hf : ∀ env o env', f env = some (o, env') → ∃ x env1 y dx dy k, fa env = some (x, env1) ∧ fb env1 = some (y, env') ∧ rd env' x = some dx ∧ rd env' y = some dy ∧ cmpS op dx dy = some k ∧ o = .v (.bl k)) : SE X (.Compare a [op] [b] pos) f := by
  intro env o env2 e σ F H Q r q
  obtain ⟨x, env1, y, dx, dy, k, h1, h2, h3, h4, h5, rfl⟩ := hf env o env2 e
  exact s_cmp hu hm ha hb h1 h2 h3 h4 h5 r fun F1 H1 p => q _ F1 H1 p (by simp [RelOp, Is]) fun d ed => by cases ed

theorem lm_of {op op' : CmpOp} {b c : Expr} (h1 : headOk b = true) (h2 : headOk c = true) : lastMarks [op, op'] [b, c] = false := by
  cases c <;> first | cases h2; done | (cases op' <;> rfl)
theorem e_cmp2 {op op' : CmpOp} {a b c : Expr} {pos : Pos} {fa fb fc f : En → Option (Op × En)} (hu : X.A.units + 65 < cLine) (hm : headOk b = true) (hm2 : headOk c = true) (ha : SB X a fa) (hb : SB X b fb) (hc : SB X c fc)
    (hf : ∀ env o env3, f env = some (o, env3) → ∃ x env1 y env2 dx dy k k', fa env = some (x, env1) ∧ fb env1 = some (y, env2) ∧ rd env2 x = some dx ∧ rd env2 y = some dy ∧ cmpS op dx dy = some k ∧
      ((k = true ∧ ∃ z dy' dz, fc env2 = some (z, env3) ∧ rd env3 y = some dy' ∧ rd env3 z = some dz ∧ cmpS op' dy' dz = some k') ∨ (k = false ∧ k' = false ∧ env3 = env2)) ∧ o = .v (.bl k')) : SE X (.Compare a [op, op'] [b, c] pos) f := by
  intro env o env3 e σ F H Q r q
  obtain ⟨x, env1, y, env2, dx, dy, k, k', h1, h2, h3, h4, h5, h6, rfl⟩ := hf env o env3 e
  exact WE.of (pe_chain (opB _) (opB _) (pE X a) (pE X b) (pE X c) (lm_of hm hm2)) (s_chain hu ha hb hc h1 h2 h3 h4 h5 h6 r fun F1 H1 p => q _ F1 H1 p (by simp [RelOp, Is]) fun d ed => by cases ed)
theorem c_cmp2 {op op' : CmpOp} {a b c : Expr} {pos : Pos} {fa fb fc : En → Option (Op × En)} {f : En → Option (Bool × En)} (hu : X.A.units + 65 < cLine) (hm : headOk b = true) (hm2 : headOk c = true) (ha : SB X a fa) (hb : SB X b fb) (hc : SB X c fc)
    (hf : ∀ env o env3, f env = some (o, env3) → ∃ x env1 y env2 dx dy k k', fa env = some (x, env1) ∧ fb env1 = some (y, env2) ∧ rd env2 x = some dx ∧ rd env2 y = some dy ∧ cmpS op dx dy = some k ∧
      ((k = true ∧ ∃ z dy' dz, fc env2 = some (z, env3) ∧ rd env3 y = some dy' ∧ rd env3 z = some dz ∧ cmpS op' dy' dz = some k') ∨ (k = false ∧ k' = false ∧ env3 = env2)) ∧ o = k') : SC X (.Compare a [op, op'] [b, c] pos) f := by
  intro env o env3 e σ F H Q r q
  obtain ⟨x, env1, y, env2, dx, dy, k, k', h1, h2, h3, h4, h5, h6, rfl⟩ := hf env o env3 e
  exact WT.of (pt_chain (opB _) (opB _) (pE X a) (pE X b) (pE X c) (lm_of hm hm2)) (s_chain hu ha hb hc h1 h2 h3 h4 h5 h6 r fun F1 H1 p => ⟨_, rfl, q F1 H1 p⟩)

theorem Has.flat {K : PySem.W.Frag} {d : D} {v : V} (hf : flatD d = true) (h : Has K F H d v) : Is K F H d v := by
  rcases h with h | ⟨a, _, h⟩
  · exact h
  · cases d <;> first | (simp [flatD] at hf; done) | (unfold OwnAt at h; exact h.elim)
theorem s_srtset {Γ : Gm} {cl : CallF} {N : List Str} {sc : Scope} (g : Gd Γ cl N sc X) {pa : Expr} {x y : Str} {pp pp2 pos pos2 : Pos} {fa f : En → Option (Op × En)} (hx : x = "sorted") (gx : freeB Γ sc x = true) (hy : y = "set") (gy : freeB Γ sc y = true)
    (hh : headOk pa = true) (ha : SB X pa fa)
    (hf : ∀ env o env', f env = some (o, env') → ∃ z dx xs ns, fa env = some (z, env') ∧ rd env' z = some dx ∧ seqD dx = some xs ∧ intsD xs = some ns ∧ ns.length < 64 ∧ o = .nw (.lst ((VIS.srtU ns).map .int))) : SE X (.Call (.Name x pp) [.Call (.Name y pp2) [pa] [] pos2] [] pos) f := by
  intro env o env' e σ F H Q r q
  obtain ⟨z, dx, xs, ns, h1, h2, h25, h3, h4, rfl⟩ := hf env o env' e
  subst hx hy
  obtain ⟨G, _, _, M⟩ := free_of g gx
  obtain ⟨G2, _, _, M2⟩ := free_of g gy
  refine WE.of (VIS.pe_srtSet G M G2 M2 (pE X pa) g.calm (starEach_of hh)) (ha env z env' h1 σ F H _ r fun v F1 H1 p1 r1 n1 => ?_)
  unfold seqD at h25
  split at h25
  · cases h25
    obtain ⟨a, vs, rfl, h5, h6⟩ := (rd_has p1.rel r1 h2).lst
    rw [h6.ints h3] at h5
    exact ⟨a, ns, rfl, .inl (.of h5), h4, fun p hp => (fol_q p1 q).newL p1.rel.fdm (IsL.of_ints _) hp⟩
  · cases h25
    obtain ⟨a, vs, rfl, h5, h6⟩ := (rd_has p1.rel r1 h2).tup
    rw [h6.ints h3] at h5
    exact ⟨a, ns, rfl, .inr h5, h4, fun p hp => (fol_q p1 q).newL p1.rel.fdm (IsL.of_ints _) hp⟩
  · cases h25
theorem s_dfl {Γ : Gm} {cl : CallF} {N : List Str} {sc : Scope} (g : Gd Γ cl N sc X) {mx : Bool} {pa pd : Expr} {x k : Str} {pp kp pos : Pos} {fa fd f : En → Option (Op × En)} (hx : x = if mx then ("max" : Str) else ("min" : Str)) (gx : freeB Γ sc x = true) (hk : k = "default")
    (hh : headOk pa = true) (ha : SB X pa fa) (hd : SB X pd fd)
    (hf : ∀ env o env', f env = some (o, env') → ∃ z env1 u xs ns dy dz, fa env = some (z, env1) ∧ fd env1 = some (u, env') ∧ rd env' z = some dz ∧ (dz = .lst xs ∨ (mx = true ∧ dz = .tup xs)) ∧ rd env' u = some dy ∧ flatD dy = true ∧ intsD xs = some ns ∧ o = .v (if ns.length = 0 then dy else .int (if mx = true then maxL ns else minL ns))) :
    SE X (.Call (.Name x pp) [pa] [⟨some k, pd, kp⟩] pos) f := by
  intro env o env' e σ F H Q r q
  obtain ⟨z, env1, u, xs, ns, dy, dz, h1, h2, h3, hz, h4, h5, h6, rfl⟩ := hf env o env' e
  subst hk
  obtain ⟨G, hdb, hn, M⟩ := free_of g gx
  have hv : bootBuiltins x = some (.builtin (if mx = true then "max" else "min")) := by
    subst hx
    cases mx <;> decide +kernel
  have he : backTo pos (starEach [pa] X.env) = (false, eval pa X.env) :: backTo pos (starEach [] X.env) := by rw [starEach_of hh]; rfl
  have hpl : (backTo pos (starEach [pa] X.env)).any (·.1) = false := by rw [starEach_of hh]; rfl
  refine WE.of (pe_callBK (ks := [Str.ofString "default"]) (VIX.cr_dfl2 mx g.calm (by have := g.hu; omega)) G M hv (pA X [pa]) (pk_cons (pE X pd) pk_nil) hn hdb he hpl rfl rfl rfl) ?_
  refine WA.of (pa_cons (pE X pa) pa_nil (starEach_of hh)) (two_ops ha hd h1 h2 r fun v w F2 H2 p r1 r2 n1 n2 => ?_)
  have iy := Has.flat h5 (rd_has p.rel r2 h4)
  rcases hz with rfl | ⟨rfl, rfl⟩
  · obtain ⟨a, vs, rfl, h7, h8⟩ := (rd_has p.rel r1 h3).lst
    rw [h8.ints h6] at h7
    refine .inl ⟨a, ns, w, rfl, rfl, .of h7, fun e => ?_, fun m hm hy => ?_⟩
    · subst e
      exact q w F2 H2 p iy fun d z => by cases z
    · have hpos : 0 < ns.length := List.length_pos_of_mem hm
      have e0 : (if ns.length = 0 then dy else .int (if mx = true then maxL ns else minL ns)) = D.int m := by
        rw [if_neg (by omega)]
        congr 1
        cases mx with
        | true => exact Int.le_antisymm (by simpa using hy _ (maxL_mem hpos)) (maxL_ge hm)
        | false => exact Int.le_antisymm (minL_le hm) (by simpa using hy _ (minL_mem hpos))
      rw [e0] at q
      exact q _ F2 H2 p (by simp [RelOp, Is]) fun d z => by cases z
  · obtain ⟨a, vs, rfl, h7, h8⟩ := (rd_has p.rel r1 h3).tup
    rw [h8.ints h6] at h7
    refine .inr ⟨rfl, a, ns, w, rfl, rfl, h7, fun e => ?_, fun m hm hy => ?_⟩
    · subst e
      exact q w F2 H2 p iy fun d z => by cases z
    · have hpos : 0 < ns.length := List.length_pos_of_mem hm
      have e0 : (if ns.length = 0 then dy else .int (if true = true then maxL ns else minL ns)) = D.int m := by
        rw [if_neg (by omega), if_pos rfl]
        exact congrArg D.int (Int.le_antisymm (hy _ (maxL_mem hpos)) (maxL_ge hm))
      rw [e0] at q
      exact q _ F2 H2 p (by simp [RelOp, Is]) fun d z => by cases z
theorem base_of {o : Expr} {n : Str} {en : Env} {w : Sem Value} (h : baseOk o = true) : attributeBase o n en w = w := by
  unfold attributeBase
  split
  · cases h
  · rfl
theorem s_bits {pa : Expr} {n : Str} {apos cpos : Pos} {fa f : En → Option (Op × En)} (hn : n = "bit_length") (hb : baseOk pa = true) (hl : (apos.endLine == cpos.line) = true) (ha : SB X pa fa)
    (hf : ∀ env o env', f env = some (o, env') → ∃ x i, fa env = some (x, env') ∧ rd env' x = some (.int i) ∧ o = .v (.int (Builtin.Int.intBits i : Nat))) : SE X (.Call (.Attribute pa n apos) [] [] cpos) f := by
  intro env o env' e σ F H Q r q
  obtain ⟨x, i, h1, h2, rfl⟩ := hf env o env' e
  subst hn
  refine WE.of (pe_bits (pE X pa) (base_of hb) hl) (ha env x env' h1 σ F H _ r fun v F1 H1 p1 r1 n1 => ?_)
  have e1 := (rd_has p1.rel r1 h2).int
  subst e1
  exact ⟨i, rfl, q _ F1 H1 p1 (by simp [RelOp, Is]) fun d z => by cases z⟩
theorem s_gcd {Γ : Gm} {cl : CallF} {N : List Str} {sc : Scope} (g : Gd Γ cl N sc X) {pa pb : Expr} {x : Str} {pp pos : Pos} {fa fb f : En → Option (Op × En)} (hx : x = "gcd") (gx : glB sc x = true) (hg : Γ.gc = true) (hh : headOk pa = true) (hh2 : headOk pb = true) (ha : SB X pa fa) (hb : SB X pb fb)
    (hf : ∀ env o env', f env = some (o, env') → ∃ x env1 y i j, fa env = some (x, env1) ∧ fb env1 = some (y, env') ∧ rd env' x = some (.int i) ∧ rd env' y = some (.int j) ∧ o = .v (.int (Nat.gcd i.natAbs j.natAbs : Nat))) : SE X (.Call (.Name x pp) [pa, pb] [] pos) f := by
  intro env o env' e σ F H Q r q
  obtain ⟨y, env1, z, i, j, h1, h2, h3, h4, rfl⟩ := hf env o env' e
  subst hx
  obtain ⟨G, hdb, hn⟩ := gl_of g gx
  refine WE.of (pe_callBfun cr_gcd G (g.gc hg) (pA X [pa, pb]) hdb (starEach_of hh) (by rw [starEach_of hh2]; rfl)) ?_
  refine WA.of (pa_cons (pE X pa) (pa_cons (pE X pb) pa_nil (starEach_of hh2)) (starEach_of hh)) (two_ops ha hb h1 h2 r fun v w F2 H2 p r1 r2 n1 n2 => ?_)
  have e1 := (rd_has p.rel r1 h3).int
  have e2 := (rd_has p.rel r2 h4).int
  subst e1 e2
  exact ⟨i, j, rfl, q _ F2 H2 p (by simp [RelOp, Is]) fun d z => by cases z⟩
theorem toPs_get : ∀ {xs : List D} {j : Nat}, (toPs xs)[j]? = (xs[j]?).map D.toP
  | [], j => by simp [toPs]
  | x :: xs, 0 => by simp [toPs]
  | x :: xs, j + 1 => by simp [toPs, toPs_get (xs := xs) (j := j)]
/-- xs.index(y), a list or a plain tuple -/
def tIx (K : PySem.W.Frag) (to : TE) (t : TA) : TE := fun σ H Q => to σ H fun x H1 =>
  (∃ a xs, x = .ref a ∧ SqL K H1 a xs ∧ t σ H1 fun ys H2 => rIndexD K x ys H2 Q) ∨ ∃ F a xs, x = .ref a ∧ FT K F H1 a xs ∧ t σ H1 fun ys H2 => VIU.rIndexT K x ys H2 Q
theorem pe_ix {o e : Expr} {to : TE} {t : TA} {apos cpos : Pos} (hu : X.A.units + 65 < cLine) (ho : PE X o to) (ha : PA X [e] t) (hbase : attributeBase o "index" X.env (eval o X.env) = eval o X.env)
    (few : ((backTo cpos (starEach [e] X.env)).all (fun x => !x.1) && (backToKw cpos (keywordEach [] X.env)).all (fun x => x.1.isSome) && decide ([e].length + ([] : List Keyword).length + (if ([] : List Keyword).isEmpty then 0 else 1) < 30)) = true)
    (hline : (apos.endLine == cpos.line) = true) (hs : starEach [e] X.env = (false, eval e X.env) :: starEach [] X.env) : PE X (.Call (.Attribute o "index" apos) [e] [] cpos) (tIx X.K to t) := by
  refine ⟨fun pins s σ H Q I h => ?_⟩
  refine wpAny_Call_method_late hbase few hline rfl (thn (ho.run pins s σ H _ I h) fun v s1 ⟨x, H1, I1, r1, q1⟩ => ?_)
  rcases q1 with ⟨a, xs, rfl, hq, q1⟩ | ⟨F, a, xs, rfl, hq, q1⟩
  · obtain ⟨h1, h2⟩ := tyV_is (T := "list") I1 r1 (.inl ⟨rfl, xs, hq⟩)
    refine ⟨"list", "list.index", PySem.F.plainAttrs_list, PySem.F.slot_list_index, PySem.F.type_list_index, h1, h2, ?_⟩
    have hA := ha.run cpos pins s1 σ H1 _ I1 q1
    rw [hs] at hA ⊢
    exact Calls.callWith_builtin (by rfl) (Calls.evalArgs_plain (thn hA fun us s2 ⟨vs, H2, I2, r2, q2⟩ => mt_indexD hu pins s2 σ H2 _ vs v us Q I2 r1 r2 q2))
  · obtain ⟨ob, e1, po⟩ := hq.nod I1
    cases r1
    refine ⟨"tuple", "tuple.index", PySem.F.plainAttrs_tuple, PySem.F.slot_tuple_index, PySem.F.type_tuple_index, ⟨ob, e1, po.1⟩, fun b eb => by cases eb; exact ⟨ob, e1, po.2⟩, ?_⟩
    have hA := ha.run cpos pins s1 σ H1 _ I1 q1
    rw [hs] at hA ⊢
    exact Calls.callWith_builtin (by rfl) (Calls.evalArgs_plain (thn hA fun us s2 ⟨vs, H2, I2, r2, q2⟩ => VIU.mt_indexT hu pins s2 σ H2 (.ref a) vs (.ref a) us Q I2 rfl r2 q2))
theorem ix_at {xs : List D} {dy : D} {j : Nat} (h : (xs.findIdx? fun z => deq z dy) = some j) : ∃ z, (toPs xs)[j]? = some z ∧ PyData.eqv z dy.toP = true ∧ ∀ m w, m < j → (toPs xs)[m]? = some w → PyData.eqv w dy.toP = false := by
  obtain ⟨hjl, hj1, hj2⟩ := List.findIdx?_eq_some_iff_getElem.mp h
  refine ⟨(xs[j]).toP, by rw [toPs_get, List.getElem?_eq_getElem hjl]; rfl, hj1, fun m w hm hw => ?_⟩
  rw [toPs_get] at hw
  obtain ⟨u, hu, rfl⟩ := Option.map_eq_some_iff.mp hw
  have hml : m < xs.length := by omega
  rw [List.getElem?_eq_getElem hml] at hu
  cases hu
  simpa [deq] using hj2 m hm
theorem s_ixof {Γ : Gm} {cl : CallF} {N : List Str} {sc : Scope} (g : Gd Γ cl N sc X) {pa pb : Expr} {n : Str} {apos cpos : Pos} {fa fb f : En → Option (Op × En)} (hn : n = "index") (hb : baseOk pa = true) (hl : (apos.endLine == cpos.line) = true) (hh : headOk pb = true) (ha : SB X pa fa) (hbb : SB X pb fb)
    (hf : ∀ env o env', f env = some (o, env') → ∃ x env1 y d0 dx dy r, fa env = some (x, env1) ∧ rd env1 x = some d0 ∧ fb env1 = some (y, env') ∧ rd env' x = some dx ∧ rd env' y = some dy ∧ ixS d0 dx dy = some r ∧ o = .v (.int r)) : SE X (.Call (.Attribute pa n apos) [pb] [] cpos) f := by
  intro env o env' e σ F H Q r q
  obtain ⟨x, env1, y, d0, dx, dy, k, h1, h0, h2, h3, h4, h5, rfl⟩ := hf env o env' e
  subst hn
  have few : ((backTo cpos (starEach [pb] X.env)).all (fun x => !x.1) && (backToKw cpos (keywordEach [] X.env)).all (fun x => x.1.isSome)
      && decide ([pb].length + ([] : List Keyword).length + (if ([] : List Keyword).isEmpty then 0 else 1) < 30)) = true := by
    rw [starEach_of hh]; rfl
  refine WE.of (pe_ix (by have := g.hu; omega) (pE X pa) (pA X [pb]) (base_of hb) few hl (starEach_of hh)) ?_
  refine ha env x env1 h1 σ F H _ r fun v F1 H1 p1 r1 n1 => ?_
  unfold ixS at h5
  split at h5
  · rename_i xs
    split at h5
    · rename_i ho
      rw [Bool.and_eq_true] at ho
      obtain ⟨j, h6, rfl⟩ := Option.map_eq_some_iff.mp h5
      obtain ⟨a, vs0, rfl, H0, _⟩ := (rd_has p1.rel r1 h0).lst
      refine .inl ⟨a, vs0, rfl, .of H0, ?_⟩
      refine WA.of (pa_cons (pE X pb) pa_nil (starEach_of hh)) (hbb env1 y env' h2 σ F1 H1 _ p1.rel fun w F2 H2 p2 r2 n2 => ?_)
      obtain ⟨z, k1, k2, k3⟩ := ix_at h6
      exact ⟨a, w, _, toPs xs, j, z, rfl, rfl, (rd_has p2.rel (r1.stay n1 p2.st) h3).dp ho.1, (rd_has p2.rel r2 h4).dp ho.2, ho.1, ho.2, k1, k2, k3, q _ F2 H2 (p1.trans p2) (by simp [RelOp, Is]) fun d z => by cases z⟩
    · cases h5
  · rename_i xs
    split at h5
    · rename_i ho
      rw [Bool.and_eq_true] at ho
      obtain ⟨j, h6, rfl⟩ := Option.map_eq_some_iff.mp h5
      obtain ⟨a, vs0, rfl, H0, _⟩ := (rd_has p1.rel r1 h0).tupF
      refine .inr ⟨F1, a, vs0, rfl, H0, ?_⟩
      refine WA.of (pa_cons (pE X pb) pa_nil (starEach_of hh)) (hbb env1 y env' h2 σ F1 H1 _ p1.rel fun w F2 H2 p2 r2 n2 => ?_)
      obtain ⟨z, k1, k2, k3⟩ := ix_at h6
      exact ⟨a, w, _, toPs xs, j, z, rfl, rfl, (rd_has p2.rel (r1.stay n1 p2.st) h3).dp ho.1, (rd_has p2.rel r2 h4).dp ho.2, ho.1, ho.2, k1, k2, k3, q _ F2 H2 (p1.trans p2) (by simp [RelOp, Is]) fun d z => by cases z⟩
    · cases h5
  · cases h5
theorem s_cntof {Γ : Gm} {cl : CallF} {N : List Str} {sc : Scope} (g : Gd Γ cl N sc X) {pa pb : Expr} {n : Str} {apos cpos : Pos} {fa fb f : En → Option (Op × En)} (hn : n = "count") (hb : baseOk pa = true) (hl : (apos.endLine == cpos.line) = true) (hh : headOk pb = true) (ha : SB X pa fa) (hbb : SB X pb fb)
    (hf : ∀ env o env', f env = some (o, env') → ∃ x env1 y d0 dx dy r, fa env = some (x, env1) ∧ rd env1 x = some d0 ∧ fb env1 = some (y, env') ∧ rd env' x = some dx ∧ rd env' y = some dy ∧ cntS d0 dx dy = some r ∧ o = .v (.int r)) : SE X (.Call (.Attribute pa n apos) [pb] [] cpos) f := by
  intro env o env' e σ F H Q r q
  obtain ⟨x, env1, y, d0, dx, dy, k, h1, h0, h2, h3, h4, h5, rfl⟩ := hf env o env' e
  subst hn
  have few : ((backTo cpos (starEach [pb] X.env)).all (fun x => !x.1) && (backToKw cpos (keywordEach [] X.env)).all (fun x => x.1.isSome)
      && decide ([pb].length + ([] : List Keyword).length + (if ([] : List Keyword).isEmpty then 0 else 1) < 30)) = true := by
    rw [starEach_of hh]; rfl
  refine WE.of (pe_bm PySem.F.plainAttrs_list PySem.F.slot_list_count PySem.F.type_list_count mt_lcount (pE X pa) (pA X [pb]) (base_of hb) few hl (starEach_of hh) rfl) ?_
  refine ha env x env1 h1 σ F H _ r fun v F1 H1 p1 r1 n1 => ?_
  unfold cntS at h5
  split at h5
  · rename_i xs i
    obtain ⟨ns, h6, rfl⟩ := Option.map_eq_some_iff.mp h5
    obtain ⟨a, vs0, rfl, H0, _⟩ := (rd_has p1.rel r1 h0).lst
    refine ⟨.inl ⟨rfl, vs0, .of H0⟩, ?_⟩
    refine WA.of (pa_cons (pE X pb) pa_nil (starEach_of hh)) (hbb env1 y env' h2 σ F1 H1 _ p1.rel fun w F2 H2 p2 r2 n2 => ?_)
    obtain ⟨a2, vs, e2, h7, h8⟩ := (rd_has p2.rel (r1.stay n1 p2.st) h3).lst
    cases e2
    rw [h8.ints h6] at h7
    have e1 := (rd_has p2.rel r2 h4).int
    subst e1
    exact ⟨a, ns, i, rfl, rfl, .of h7, q _ F2 H2 (p1.trans p2) (by simp [RelOp, Is]) fun d z => by cases z⟩
  · cases h5
theorem s_inrng {Γ : Gm} {cl : CallF} {N : List Str} {sc : Scope} (g : Gd Γ cl N sc X) {pa pb pc : Expr} {x : Str} {pp pos pos2 : Pos} {fa fb fc f : En → Option (Op × En)} (hx : x = "range") (gx : freeB Γ sc x = true) (hh : headOk pb = true) (hh2 : headOk pc = true) (ha : SB X pa fa) (hb : SB X pb fb) (hc : SB X pc fc)
    (hf : ∀ env o env', f env = some (o, env') → ∃ u env1 v env2 w i lo hi, fa env = some (u, env1) ∧ fb env1 = some (v, env2) ∧ fc env2 = some (w, env') ∧ rd env' u = some (.int i) ∧ rd env' v = some (.int lo) ∧ rd env' w = some (.int hi) ∧ o = .v (.bl (decide (lo ≤ i ∧ i < hi)))) :
    SE X (.Compare pa [.In] [.Call (.Name x pp) [pb, pc] [] pos2] pos) f := by
  intro env o env' e σ F H Q r q
  obtain ⟨u, env1, v, env2, w, i, lo, hi, h1, h2, h3, h4, h5, h6, rfl⟩ := hf env o env' e
  obtain ⟨G, hdb, hn, M⟩ := free_of g gx
  subst hx
  have hv : bootBuiltins "range" = some (.type "range") := by decide +kernel
  have hcall := pe_callTy (pos := pos2) (p := pp) cr_range2 G M hv (pA X [pb, pc]) hn hdb (starEach_of hh) (by rw [starEach_of hh2]; rfl)
  refine WE.of (pe_cmpR (opB _) (pE X pa) hcall rfl) ?_
  refine ha env u env1 h1 σ F H _ r fun x1 F1 H1 p1 r1 n1 => ?_
  refine WA.of (pa_cons (pE X pb) (pa_cons (pE X pc) pa_nil (starEach_of hh2)) (starEach_of hh)) (two_ops hb hc h2 h3 p1.rel fun y1 z1 F2 H2 p2 r2 r3 n2 n3 => ?_)
  have e1 := (rd_has p2.rel (r1.stay n1 p2.st) h4).int
  have e2 := (rd_has p2.rel r2 h5).int
  have e3 := (rd_has p2.rel r3 h6).int
  subst e1 e2 e3
  refine ⟨lo, hi, rfl, fun p hp => ?_⟩
  refine rB.of op_in_rng ⟨i, p, lo, hi, rfl, rfl, upd_same, ?_⟩
  exact (fol_q (p1.trans p2) q) (.bl _) F2 (upd H2 p (.rng lo hi)) (.new hp) (by simp [ResOp, Is])
end
end VI
namespace VIK
open PySem PySem.Spec PyProof.Rows L2 PpSet
/-- the set of ints at a, as a thing of the abstract heap -/
def SetIO (w : World) (a : Addr) (S : Int → Bool) (n : Nat) : HO := .ext fun h => SetR w h a S n
theorem setIO_new {w : World} {P : Program} {H : Hp} {h : Heap} {a : Addr} {S : Int → Bool} {n : Nat} (R : SetR w h a S n) : ObjOk P w H h a (SetIO w a S n) := by
  obtain ⟨o, es, ep, t, ho, r⟩ := id R
  exact ⟨R, ⟨o, ho⟩, fun _ _ p => SetR.at p⟩
section
variable {X : Cx}
theorem setIO_get {pins : List (Addr × Obj)} {σ : L2.St} {H : Hp} {s : Shared} {a : Addr} {S : Int → Bool} {n : Nat} (I : Inv X pins σ H s) (e : H a = some (SetIO X.w a S n)) : SetR X.w s.heap a S n := (I.hok a _ e).1
theorem addI_ok {pins : List (Addr × Obj)} {σ : L2.St} {H : Hp} {s : Shared} {E : Value → Shared → Prop} {a : Addr} {S : Int → Bool} {n : Nat} {y : Int} {t : Tok} {Q : Value → Shared → Prop} (I : Inv X pins σ H s) (e : H a = some (SetIO X.w a S n)) (room : n + 1 < scanBound)
    (h : ∀ s', Inv X pins σ (upd H a (SetIO X.w a (fun j => S j || decide (j = y)) (if S y = true then n else n + 1))) s' → Q .none s') : wpAny (model X.prog X.w) X.A (call (.builtin "set.add") [.ref a, .int y t]) Q E s := by
  refine setR_add (setIO_get I e) room fun h' sb new => h _ (I.write (e := a) (t' := s.toks + 1) (by rw [e]; trivial) (.inl rfl) (fun b u hb hu => (sb.2 b hb).trans hu) ?_ (setIO_new new))
  obtain ⟨o, es, ep, t, ho, _⟩ := new
  exact ⟨o, ho⟩
/-- {elt for target in iter if ..}, elt an int: D the new set -/
def tSi (w : World) (wi : TI) (g : TG) (tt : TT) (te : TE) (vs : List Nat) : TE := fun σ H Q => wi σ H fun J H1 => ∀ D, H1 D = none → ∃ W : Nat → Nat → Hp → Prop, (∃ m, W 0 m (upd H1 D (SetIO w D (fun _ => false) 0))) ∧ ∀ i m H, W i m H →
  (J.stop i H ∧ Q (.ref D) H) ∨ (J.go i H ∧ ∃ Nx : Hp → Prop, (∀ G', Nx G' → ∃ m', m' < m ∧ W (i + 1) m' G') ∧ ∀ x H', J.yld i H x H' → g x (wipe σ vs) H' fun σ2 H2 => wipe σ2 vs = wipe σ vs ∧ tt σ2 H2 fun b H3 =>
    if b = true then te σ2 H3 fun y H4 => ∃ (c : Int) (S : Int → Bool) (n : Nat), y = .int c ∧ H4 D = some (SetIO w D S n) ∧ n + 1 < scanBound ∧ Nx (upd H4 D (SetIO w D (fun j => S j || decide (j = c)) (if S c = true then n else n + 1))) else Nx H3)
theorem si_core {pins : List (Addr × Obj)} {s : Shared} {σ : L2.St} {H : Hp} {Q : VK} {elt tg iter : Expr} {ifs : List Expr} {scope : Scope} {own : List (PySem.Str × Nat)} {pos pos' : Pos} {wi : TI} {g : TG} {tt : TT} {te : TE} {use : Option (Value → Sem Unit)} {Qf : Value → Shared → Prop}
    (hc : X.calm = true) (hN : X.N.Nodup) (J0 : Inv X pins σ H s) (hi : PI X tg iter wi) (ok : BlkOk X.N X.env.scope scope own)
    (hg : ∀ (s : Shared) (H : Hp) (C : Addr) (cl : List (PySem.Str × Addr)) (fq : List Addr), PG (X.blk s H scope (compEnvC scope cl C X.env) fq) tg g) (ht : ∀ (s : Shared) (H : Hp) (C : Addr) (cl : List (PySem.Str × Addr)) (fq : List Addr), PTs (X.blk s H scope (compEnvC scope cl C X.env) fq) ifs tt)
    (he : ∀ (s : Shared) (H : Hp) (C : Addr) (cl : List (PySem.Str × Addr)) (fq : List Addr), PE (X.blk s H scope (compEnvC scope cl C X.env) fq) elt te) (hs : ∀ x, foldedSetIterable iter X.env x = pure x)
    (h : tSi X.w wi g tt te (own.map (·.2)) σ H Q)
    (hRR : ∀ Da C s' m G', Inv X pins σ G' s' → Q (.ref Da) G' → s'.heap.Ns C m → FpOk X pins G' C → compPost (model X.prog X.w) X.A X.xe use Qf (.ref Da) C (.ok .next) s') :
     wpAny (model X.prog X.w) X.A (comprehension (.SetComp elt [⟨tg, iter, ifs, 0⟩] scope pos) scope X.env pos' (newSet (Value.type "set")) false (eval iter X.env) use) Qf X.xe s := by
  have hfr : ∀ y ∈ scope.names, y.2 = .free → ∃ c, X.env.cells.lookup y.1 = some c := fun y hy e => by
    exact (ok.free y hy e).elim (fun k => J0.ok.has _ (.inl k)) fun k => J0.ok.has _ (.inr k)
  refine wpAny_comprehension_free (use := use) rfl hs (closure_ok hfr) ok.kind (fun y hy e => by rw [ok.uniq y hy, e])
    (thn (hi.run pins s σ H _ J0 h) fun xw s1 hxw => thn hxw fun itw sB hh2 => ?_)
  obtain ⟨it, fq, tr, J, G2, e, J2, Tu, u2, k2, q⟩ := hh2
  subst e
  refine newSet_ok <| newEnv_comp ?_
  generalize eD : sB.heap.objs.size = Da
  have hDn : G2 Da = none := J2.hok.fresh (Nat.le_of_eq eD)
  obtain ⟨W, ⟨mz, v0⟩, trn⟩ := q Da hDn
  -- the new list
  generalize es3 : ({ sB with heap := sB.heap.push { cls := .type "set", dict := none, data := .set #[] 0 (.fresh 0 0 (!X.w.params.followText "set-order")) } } : Shared) = sC
  have J3 : Inv X pins σ (upd G2 Da (SetIO X.w Da (fun _ => false) 0)) sC := by
    rw [← es3]
    refine J2.laid (t' := sB.toks) (fun b o e => Heap.get?_push_of_some _ e) (Nat.le_of_eq eD) ?_
    rw [← eD]
    exact setIO_new (setR_fresh X.w)
  have hh3 : sC.heap = sB.heap.push { cls := .type "set", dict := none, data := .set #[] 0 (.fresh 0 0 (!X.w.params.followText "set-order")) } := by rw [← es3]
  have szt : ∀ b ∈ fq, b < sB.heap.objs.size := fun b hb => by
    obtain ⟨o, e, _⟩ := Tu.obj _ _ u2 b hb
    exact Heap.lt_size e
  have k3 : ∀ b ∈ fq, FpOk X pins (upd G2 Da (SetIO X.w Da (fun _ => false) 0)) b ∧ b < sC.heap.objs.size := fun b hb => by
    have hlt := szt b hb
    refine ⟨⟨?_, (k2 b hb).2⟩, by rw [hh3, Heap.size_push]; exact Nat.lt_succ_of_lt hlt⟩
    rw [upd_ne (by rw [← eD]; exact Nat.ne_of_lt hlt)]
    exact (k2 b hb).1
  have u3 : tr 0 sC.heap := Tu.keep _ _ _ u2 fun b _ o e => by rw [hh3]; exact Heap.get?_push_of_some _ e
  have J4 := block_start J3 ok hN k3
  have qg := hg sC (upd G2 Da (SetIO X.w Da (fun _ => false) 0)) sC.heap.objs.size (cellsFrom (sC.heap.objs.size + 1) scope.names (cloFrom X.env.cells scope.names [])) fq
  have qt := ht sC (upd G2 Da (SetIO X.w Da (fun _ => false) 0)) sC.heap.objs.size (cellsFrom (sC.heap.objs.size + 1) scope.names (cloFrom X.env.cells scope.names [])) fq
  have qe := he sC (upd G2 Da (SetIO X.w Da (fun _ => false) 0)) sC.heap.objs.size (cellsFrom (sC.heap.objs.size + 1) scope.names (cloFrom X.env.cells scope.names [])) fq
  show codeAny _ _ (.compStart (.SetComp elt [⟨tg, iter, ifs, 0⟩] scope pos) 0 (.ref it) (.ref Da) (compEnvC scope (cellsFrom (sC.heap.objs.size + 1) scope.names (cloFrom X.env.cells scope.names [])) sC.heap.objs.size X.env)) (compPost (model X.prog X.w) X.A X.xe use Qf (.ref Da) sC.heap.objs.size) { sC with heap := pushCells (sC.heap.push { cls := .type "dict", data := .dict #[] }) scope.names }
  have nfq : ∀ b ∈ fq, (upd G2 Da (SetIO X.w Da (fun _ => false) 0)) b = none := fun b hb => (k3 b hb).1.1
  generalize ecv : compEnvC scope (cellsFrom (sC.heap.objs.size + 1) scope.names (cloFrom X.env.cells scope.names [])) sC.heap.objs.size X.env = cv at J4 qg qt qe ⊢
  have eL : cv.locals = sC.heap.objs.size := by subst ecv; rfl
  generalize eH3 : upd G2 Da (SetIO X.w Da (fun _ => false) 0) = G3 at J3 J4 qg qt qe v0 nfq k3
  generalize es4 : ({ sC with heap := pushCells (sC.heap.push { cls := .type "dict", data := .dict #[] }) scope.names } : Shared) = sD at J4 ⊢
  have u4 : tr 0 sD.heap := Tu.keep _ _ _ u3 fun b _ o e => by rw [← es4]; exact pushCells_keeps _ _ _ _ (Heap.get?_push_of_some _ e)
  have sta : ∀ {σ' : L2.St} {G' : Hp} {s' : Shared}, Inv (X.blk sC G3 scope cv fq) [] σ' G' s' → (∀ b ∈ fq, G' b = none) → ∀ b ∈ fq, FpOk (X.blk sC G3 scope cv fq) [] G' b := fun {σ' G' s'} J' hn b hb =>
    ⟨hn b hb, (J'.ok.exf b hb).1, J'.ok.exfs b hb, .inl hb, fun x c e => (J'.ok.exf b hb).2 x c e, fun p hp => absurd (show p ∈ ([] : List (Addr × Obj)) ++ [] from hp) (by simp)⟩
  have lop : codeAny (model X.prog X.w) X.A (.compLoop (.SetComp elt [⟨tg, iter, ifs, 0⟩] scope pos) 0 (.ref it) (.ref Da) cv) (compPost (model X.prog X.w) X.A X.xe use Qf (.ref Da) sC.heap.objs.size) sD := by
    refine compLoopS_any (fun n s' => ∃ i G', Inv (X.blk sC G3 scope cv fq) [] (wipe σ (own.map (·.2))) G' s' ∧ tr i s'.heap ∧ (∀ b ∈ fq, G' b = none) ∧ W i n G') ?_ mz ⟨0, G3, J4, u4, nfq, v0⟩
    rintro n sE ⟨i, G5, J5, u5, m5, v5⟩
    rcases trn i n G5 v5 with ⟨sto, qz⟩ | ⟨goo, Nq, hNq, stp⟩
    · have te := Tu.done (X.blk sC G3 scope cv fq) rfl rfl rfl hc i [] sE _ G5 (fun _ _ => False) J5 (sta J5 m5) u5 sto
      refine thnF te fun r sF ⟨hr, J6⟩ => ?_
      subst hr
      -- back in the def's context
      have J7 : Inv X pins σ G5 sF := J3.call' (ch := fq) J6.os J6.base J6.hok J6.bare fun b hb => ⟨(k3 b hb).1.2.2.2.1, (k3 b hb).1.2.1, (k3 b hb).1.2.2.2.2.1, (k3 b hb).1.2.2.2.2.2⟩
      have nC : G5 sC.heap.objs.size = none := by
        have z : G5 cv.locals = none := J6.free
        rw [eL] at z
        exact z
      obtain ⟨m, hn, _⟩ := J6.loc
      have hn : sF.heap.Ns cv.locals m := hn
      rw [eL] at hn
      exact hRR Da sC.heap.objs.size sF m G5 J7 qz hn (J3.fpOk (Nat.le_refl _) nC)
    · have ti2 := Tu.item (X.blk sC G3 scope cv fq) rfl rfl rfl hc i [] sE _ G5 (fun _ _ => False) J5 (sta J5 m5) u5 goo
      refine thnF ti2 fun r sF ⟨u, hr, hh6⟩ => ?_
      subst hr
      refine thnF hh6 fun _ sG ⟨x, G7, J7, ru7, yy7, u7, m7⟩ => ?_
      have J7' := J7.pinned (sta J7 m7) (Tu.obj _ _ u7)
      refine thnF (qg.run _ sG _ G7 x u _ J7' ru7 (stp x G7 yy7)) fun _ sH ⟨σq, G8, J8, hwp8, qq8⟩ => ?_
      refine thnF (qt.run _ sH σq G8 _ J8 qq8) fun b sI ⟨G9, J9, qq9⟩ => ?_
      -- the turn's end
      have finI : ∀ {s' : Shared} {G' : Hp}, Inv (X.blk sC G3 scope cv fq) ([] ++ pinsAt fq sG.heap) σq G' s' → Nq G' → ∃ m, m < n ∧ ∃ i G', Inv (X.blk sC G3 scope cv fq) [] (wipe σ (own.map (·.2))) G' s' ∧ tr i s'.heap ∧ (∀ b ∈ fq, G' b = none) ∧ W i m G' := fun {s' G'} J' nq => by
        obtain ⟨m', hm, v'⟩ := hNq G' nq
        have pinq' : ∀ b ∈ fq, ∀ o, sG.heap.get? b = some o → s'.heap.get? b = some o ∧ G' b = none := fun b hb o e =>
          let z := J'.pin (b, o) (List.mem_append_right _ (List.mem_append_right _ (mem_pinsAt hb e)))
          ⟨z.1, z.2.1⟩
        have hle : (wipe σ (own.map (·.2))).length = σq.length := by rw [← hwp8, wipe_length]
        refine ⟨m', hm, i + 1, G', (J'.unpinned (pins := [])).weak hle (fun j v e => ?_), Tu.keep _ _ _ u7 fun b hb o e => (pinq' b hb o e).1, fun b hb => ?_, v'⟩
        · rw [← hwp8] at e
          exact (wipe_some e).1
        · obtain ⟨o, e, _⟩ := Tu.obj _ _ u7 b hb
          exact (pinq' b hb o e).2
      cases b with
      | false =>
        simp only [Bool.false_eq_true, if_false] at qq9 ⊢
        exact finI J9 qq9
      | true =>
        simp only [if_true] at qq9 ⊢
        refine thnF (qe.run _ sI σq G9 _ J9 qq9) fun z sJ ⟨yw, G10, J10, ru10, ck, Sx, nz, eyy, eD10, hro, nq⟩ => ?_
        subst eyy
        obtain ⟨tok, ez⟩ := (show ∃ u, z = Value.int ck u from ru10)
        subst ez
        exact addI_ok (X := X.blk sC G3 scope cv fq) J10 eD10 hro fun sK J11 => finI J11 nq
  exact codeAny_compStart_set lop (Tu.self X.A 0 _ _ _ u4 lop)
/-- as a value -/
theorem pe_si {elt tg iter : Expr} {ifs : List Expr} {scope : Scope} {own : List (PySem.Str × Nat)} {pos : Pos} {wi : TI} {g : TG} {tt : TT} {te : TE} (hc : X.calm = true) (hN : X.N.Nodup) (hi : PI X tg iter wi) (ok : BlkOk X.N X.env.scope scope own)
    (hg : ∀ (s : Shared) (H : Hp) (C : Addr) (cl : List (PySem.Str × Addr)) (fq : List Addr), PG (X.blk s H scope (compEnvC scope cl C X.env) fq) tg g) (ht : ∀ (s : Shared) (H : Hp) (C : Addr) (cl : List (PySem.Str × Addr)) (fq : List Addr), PTs (X.blk s H scope (compEnvC scope cl C X.env) fq) ifs tt)
    (he : ∀ (s : Shared) (H : Hp) (C : Addr) (cl : List (PySem.Str × Addr)) (fq : List Addr), PE (X.blk s H scope (compEnvC scope cl C X.env) fq) elt te) (hs : ∀ x, foldedSetIterable iter X.env x = pure x := by intro _; rfl) :
    PE X (.SetComp elt [⟨tg, iter, ifs, 0⟩] scope pos) (tSi X.w wi g tt te (own.map (·.2))) := by
  refine ⟨fun pins s σ H Q J0 h => ?_⟩
  rw [eval_SetComp]
  refine si_core hc hN J0 hi ok hg ht he hs h fun Da C s' m G' J' q hn f => ⟨m, hn, fun h'' sb => ?_⟩
  obtain ⟨f0, f1, k2, k3, f4, f5⟩ := f
  exact ⟨.ref Da, G', J'.turned (t' := s'.toks) (fun b o hb e => (sb.2 b hb).trans e) f0 f1 k3 f4 f5, rfl, q⟩
/-- how many ints -/
def rLenS (w : World) : List V → Hp → VK → Prop := fun vs H Q => ∃ a S n, vs = [.ref a] ∧ H a = some (SetIO w a S n) ∧ Q (.int (n : Nat)) H
theorem cr_lenS : CallR X (.builtin "len") (rLenS X.w) := by
  intro pins s σ H vs us Q I r h
  obtain ⟨a, S, n, rfl, e, q⟩ := h
  rw [Vals.ref1 r]
  obtain ⟨o, es, ep, t, ho, hex, hd, _, _, _, hb, hf, hn, _⟩ := setIO_get I e
  have hz : (es.size : Int) < 2 ^ 63 := by unfold scanBound at hb; omega
  exact call_len_set ho hex hd hf hz ⟨.int n, H, I.tok _, ⟨_, by rw [hn]⟩, q⟩
/-- set(l), set(t), of ints -/
def rSetOf (X : Cx) : List V → Hp → VK → Prop := fun vs H Q => ∃ (l : Addr) (ns : List Int), vs = [.ref l] ∧ (SqL X.K H l (ns.map V.int) ∨ SqT X.K H l (ns.map V.int)) ∧ ns.length < 64 ∧ ∀ p, H p = none → Q (.ref p) (upd H p (SetIO X.w p (fun j => decide (j ∈ ns)) (VIS.srtU ns).length))
theorem setR_card {w : World} {h : Heap} {a : Addr} {ns : List Int} {c : Nat} (R : SetR w h a (fun j => decide (j ∈ ns)) c) : c = (VIS.srtU ns).length := by
  obtain ⟨o, es, ep, t, _, _, _, _, hnd, hm, _, _, hn, _⟩ := R
  have h1 : (es.toList.map keyOf).Perm (VIS.srtU ns) := by
    refine (List.perm_ext_iff_of_nodup hnd ?_).mpr fun k => ?_
    · exact VIS.srtU_srt.imp fun h => by omega
    · rw [← hm, VIS.mem_srtU]; simp
  have h2 := h1.length_eq
  rw [List.length_map, Array.length_toList] at h2
  omega
theorem cr_setOf (hc : X.calm = true) : CallR X (.type "set") (rSetOf X) := by
  intro pins s σ H vs us Q I r h
  obtain ⟨l, ns, rfl, hq, hl, q⟩ := h
  rw [Vals.ref1 r]
  have fin : ∀ (h' : Heap) (tk c : Nat), SetR X.w h' s.heap.objs.size (fun j => decide (j ∈ ns)) c → (∀ b o, s.heap.get? b = some o → h'.get? b = some o) → EP X pins σ Q (.ref s.heap.objs.size) { s with heap := h', toks := tk } := fun h' tk c hS hk => by
    have hn : H s.heap.objs.size = none := I.hok.fresh (Nat.le_refl _)
    rw [setR_card hS] at hS
    exact ⟨.ref s.heap.objs.size, _, I.laid (t' := tk) hk (Nat.le_refl _) (setIO_new hS), rfl, q _ hn⟩
  rcases hq with hq | hq
  · obtain ⟨its, rv, pl, _⟩ := I.list hq
    exact VIS.call_set_listI ns (I.ok.hd hc) pl.isList (by simpa using RZ.intsAre_vals rv) (by unfold scanBound; omega) fun h' tk c hS _ hk => fin h' tk c hS hk
  · obtain ⟨its, rv, pl, _⟩ := I.tuple hq
    exact call_set_tupI ns (I.ok.hd hc) (show s.heap.IsTuple l its.toArray from pl) (by simpa using RZ.intsAre_vals rv) (by unfold scanBound; omega) fun h' tk c hS _ hk => fin h' tk c hS hk
end
end VIK
namespace VI
open PySem PySem.Spec L2
theorem ded_snoc (ns : List Int) (k : Int) : dedI (ns ++ [k]) = if k ∈ dedI ns then dedI ns else dedI ns ++ [k] := by
  unfold dedI
  rw [List.foldl_append]
  rfl
theorem mem_ded {ns : List Int} : ∀ k, k ∈ dedI ns ↔ k ∈ ns := by
  suffices h : ∀ l : List Int, ∀ k, k ∈ dedI l.reverse ↔ k ∈ l.reverse by
    intro k
    have := h ns.reverse k
    rwa [List.reverse_reverse] at this
  intro l
  induction l with
  | nil => intro k; simp [dedI]
  | cons x l ih =>
    intro k
    rw [List.reverse_cons, ded_snoc]
    split
    · rename_i hx
      rw [ih, List.mem_append]
      exact ⟨.inl, fun h => h.elim id fun h => by rw [List.mem_singleton.mp h]; exact (ih x).mp hx⟩
    · rw [List.mem_append, List.mem_append, ih]
theorem dcnt_snoc (ns : List Int) (k : Int) : dcnt (ns ++ [k]) = if k ∈ ns then dcnt ns else dcnt ns + 1 := by
  unfold dcnt
  rw [ded_snoc]
  by_cases h : k ∈ ns
  · rw [if_pos h, if_pos ((mem_ded k).mpr h)]
  · rw [if_neg h, if_neg fun z => h ((mem_ded k).mp z), List.length_append]
    rfl
theorem dcnt_le (ns : List Int) : dcnt ns ≤ ns.length := by
  suffices h : ∀ l : List Int, dcnt l.reverse ≤ l.reverse.length by
    have := h ns.reverse
    rwa [List.reverse_reverse] at this
  intro l
  induction l with
  | nil => simp [dcnt, dedI]
  | cons x l ih =>
    rw [List.reverse_cons, dcnt_snoc, List.length_append, List.length_singleton]
    split <;> omega
def setH (w : World) (D : Addr) (ns : List Int) : HO := VIK.SetIO w D (fun k => decide (k ∈ ns)) (dcnt ns)
theorem setH_snoc (w : World) (D : Addr) (ns : List Int) (c : Int) : VIK.SetIO w D (fun j => decide (j ∈ ns) || decide (j = c)) (if decide (c ∈ ns) = true then dcnt ns else dcnt ns + 1) = setH w D (ns ++ [c]) := by
  unfold setH
  rw [dcnt_snoc]
  congr 1
  · funext j
    rw [Bool.eq_iff_iff]
    simp
  · by_cases h : c ∈ ns <;> simp [h]
section
variable {K : PySem.W.Frag} {F F1 F2 : FS} {H H1 H2 : Hp} {env env1 : En} {σ σ1 : Slots} {w : World}
/-- the set D that a comprehension makes -/
structure SD_ (w : World) (D : Addr) (F : FS) (H : Hp) (env : En) (σ : Slots) (ns : List Int) : Prop where
  at_ : H D = some (setH w D ns)
  nF : ¬ F D
  nO : ¬ OA env σ D
theorem SD_.step {D : Addr} {ns : List Int} (l : SD_ w D F H env σ ns) (p : Pst K F H env σ F1 H1 env1 σ1) : SD_ w D F1 H1 env1 σ1 ns := by
  have hs : H D ≠ none := by rw [l.at_]; simp
  obtain ⟨e1, e2⟩ := p.st.oth D hs l.nF l.nO
  exact ⟨e1.trans l.at_, e2, fun z => (p.own D z).elim l.nO hs⟩
end
section
variable {X : Cx} {scope : Scope} {tg el : Expr} {ifs : List Expr} {t : T} {vs : List Nat} {fc : En → Option (Bool × En)} {fe : En → Option (Op × En)}
theorem sc_loop (hT : ∀ c, SG (Bk X scope c) tg t) (hC : ∀ c, SOC (Bk X scope c) ifs fc) (hE : ∀ c, SE (Bk X scope c) el fe) (hts : ∀ j ∈ t.slots, j ∈ vs)
    {J : It} {items : List VI.D} {P : FS → Hp → Prop} (S : Src X.K J items P) {F1 : FS} {H1 : Hp} {we : En} {σ : Slots} {env2 : En} {outs : List VI.D} {ms : List Int} {D : Addr}
    (hw : ∀ j ∈ vs, ∀ s, we[j]? = some s → s = .un) (hl : lcLoop fc (fEl fe) t vs items we = some (outs, env2)) (hms : intsD outs = some ms) (hz : ms.length < 4000)
    {F0 : FS} {H0 : Hp} (r0 : Pst X.K F0 H0 we (wipe σ vs) F1 H1 we (wipe σ vs)) (hD0 : H0 D = none) (ld0 : SD_ X.w D F1 H1 we (wipe σ vs) [])
    (hP : ∀ F' H' e, Pst X.K F0 H0 we (wipe σ vs) F' H' e (wipe σ vs) → P F' H')
    {Qd : Hp → Prop} (hq : ∀ F' H', Pst X.K F0 H0 we (wipe σ vs) F' H' env2 (wipe σ vs) → SD_ X.w D F' H' env2 (wipe σ vs) ms → Qd H') :
    ∃ W : Nat → Nat → Hp → Prop, (∃ m, W 0 m H1) ∧ ∀ i m H, W i m H →
      (J.stop i H ∧ Qd H) ∨ (J.go i H ∧ ∃ Nx : Hp → Prop, (∀ H', Nx H' → ∃ m', m' < m ∧ W (i + 1) m' H') ∧ ∀ x H', J.yld i H x H' → tGb X scope tg x (wipe σ vs) H' fun σ2 H2 => wipe σ2 vs = wipe σ vs ∧ tCb X scope ifs σ2 H2 fun b H3 =>
        if b = true then tEb X scope el σ2 H3 fun y H4 => ∃ (c : Int) (S : Int → Bool) (n : Nat), y = .int c ∧ H4 D = some (VIK.SetIO X.w D S n) ∧ n + 1 < scanBound ∧ Nx (upd H4 D (VIK.SetIO X.w D (fun j => S j || decide (j = c)) (if S c = true then n else n + 1))) else Nx H3) := by
  refine ⟨fun i m H => ∃ F' e done rest, i ≤ items.length ∧ m = items.length - i ∧ lcLoop fc (fEl fe) t vs (items.drop i) e = some (rest, env2) ∧ (∃ rs, intsD rest = some rs ∧ ms = done ++ rs) ∧
      Pst X.K F0 H0 we (wipe σ vs) F' H e (wipe σ vs) ∧ SD_ X.w D F' H e (wipe σ vs) done, ⟨items.length, F1, we, [], outs, Nat.zero_le _, rfl, hl, ⟨ms, hms, rfl⟩, r0, ld0⟩, ?_⟩
  rintro i m H ⟨F', e, done, rest, hi, rfl, hloop, ⟨rs, hrs, hout⟩, p, ld⟩
  have PH := hP F' H e p
  by_cases hlt : i < items.length
  · refine .inr ⟨S.go i F' H PH hlt, _, fun H' h => h, fun x H' hy => ?_⟩
    rw [List.drop_eq_getElem_cons hlt] at hloop
    simp only [lcLoop, bind, Option.bind_eq_some_iff, Prod.exists] at hloop
    obtain ⟨e1, h1, b, e2, h2, h3⟩ := hloop
    obtain ⟨F2, n2, id2⟩ := S.yld i F' H x H' PH p.rel.fdm hy _ (List.getElem?_eq_getElem hlt)
    have p2 := p.nst n2
    have ld2 := ld.step (n2.pst p.rel)
    intro c
    refine hT c e _ e1 h1 (wipe σ vs) F2 H' x _ p2.rel id2 fun σ2 p3 hs3 => ?_
    have hwp : wipe σ2 vs = wipe σ vs := by
      refine wipe_eq ?_ fun j hj => hs3 j fun z => hj (hts j z)
      have l1 := p3.rel.len
      have l2 := p2.rel.len
      have l3 : e1.length = e.length := put_len h1
      rw [wipe_length] at l2
      omega
    refine ⟨hwp, fun c => ?_⟩
    refine hC c e1 b e2 h2 σ2 F2 H' _ p3.rel fun F4 H4 p4 => ?_
    have p24 := p2.trans (p3.trans p4)
    have ld4 := ld2.step (p3.trans p4)
    have nxt : ∀ {F5 : FS} {H5 : Hp} {e5 : En} {done' : List Int} {rest' : List VI.D}, Pst X.K F0 H0 we (wipe σ vs) F5 H5 e5 σ2 → SD_ X.w D F5 H5 e5 σ2 done' → lcLoop fc (fEl fe) t vs (items.drop (i + 1)) (wipeE e5 vs) = some (rest', env2) → (∃ rs, intsD rest' = some rs ∧ ms = done' ++ rs) →
        ∃ m', m' < items.length - i ∧ ∃ F' e done rest, i + 1 ≤ items.length ∧ m' = items.length - (i + 1) ∧ lcLoop fc (fEl fe) t vs (items.drop (i + 1)) e = some (rest, env2) ∧ (∃ rs, intsD rest = some rs ∧ ms = done ++ rs) ∧
          Pst X.K F0 H0 we (wipe σ vs) F' H5 e (wipe σ vs) ∧ SD_ X.w D F' H5 e (wipe σ vs) done := fun {F5 H5 e5 done' rest'} p5 ld5 hl5 ho5 => by
      refine ⟨items.length - (i + 1), by omega, F5, wipeE e5 vs, done', rest', hlt, rfl, hl5, ho5, p5.wiped hw hwp, ⟨ld5.at_, ld5.nF, fun ⟨j, s, d, h, hs, q⟩ => ?_⟩⟩
      have hj : j ∉ vs := fun z => by have := wipeE_in z h; subst this; cases hs
      rw [wipeE_out hj] at h
      rw [← hwp, wipe_out' hj] at q
      exact ld5.nO ⟨j, s, d, h, hs, q⟩
    cases b with
    | false =>
      refine iteF ?_
      exact nxt p24 ld4 (by simpa using h3) ⟨rs, hrs, hout⟩
    | true =>
      simp only [if_true, Option.bind_eq_some_iff, Prod.exists] at h3
      obtain ⟨y, e4, h4, ys, e5, h5, h6⟩ := h3
      cases h6
      simp only [fEl, Option.bind_eq_some_iff, Prod.exists] at h4
      obtain ⟨o, e3, h4, h7⟩ := h4
      refine iteT fun c => ?_
      refine hE c e2 o e3 h4 σ2 F4 H4 _ p4.rel fun v F5 H5 p5 r5 n5 => ?_
      obtain ⟨F6, p6, iv, _⟩ := esc_ok p5 r5 n5 h7
      have ld6 := ld4.step p6
      have p06 := p24.trans p6
      cases y with
      | int k =>
        simp only [intsD, Option.map_eq_some_iff] at hrs
        obtain ⟨rs2, hr2, rfl⟩ := hrs
        simp only [Is] at iv
        have hl6 := dcnt_le done
        have hlo := congrArg List.length hout
        rw [List.length_append, List.length_cons] at hlo
        refine ⟨k, _, dcnt done, iv, ld6.at_, by unfold scanBound; omega, ?_⟩
        have es := setH_snoc X.w D done k
        refine nxt (done' := done ++ [k]) (p06.side hD0 ld6.nF ld6.nO) ⟨?_, ld6.nF, ld6.nO⟩ h5 ⟨rs2, hr2, by rw [hout, List.append_assoc]; rfl⟩
        rw [upd_same]
        exact congrArg some es
      | _ => simp [intsD] at hrs
  · have e0 : i = items.length := by omega
    subst e0
    rw [List.drop_length] at hloop
    simp only [lcLoop, Option.some.injEq, Prod.mk.injEq] at hloop
    obtain ⟨rfl, rfl⟩ := hloop
    simp only [intsD, Option.some.injEq] at hrs
    subst hrs
    rw [List.append_nil] at hout
    exact .inl ⟨S.stop _ F' H PH rfl, hq F' H p (by rw [hout]; exact ld)⟩
theorem boot_lenV : bootBuiltins "len" = some (.builtin "len") := by decide +kernel
theorem boot_setV : bootBuiltins "set" = some (.type "set") := by decide +kernel
theorem pe_slen {it : Expr} {pp pos pos2 : Pos} {own : List (Str × Nat)} {wi : TI} {g : TG} {tt : TT} {te : TE} (hc : X.calm = true) (hN : X.N.Nodup) (G : Gl X "len") (M : X.mg "len" = none) (hi : PI X tg it wi) (ok : BlkOk X.N X.env.scope scope own)
    (hg : ∀ (s : Shared) (H : Hp) (C : Addr) (cl : List (Str × Addr)) (fp : List Addr), PG (X.blk s H scope (compEnvC scope cl C X.env) fp) tg g) (ht : ∀ (s : Shared) (H : Hp) (C : Addr) (cl : List (Str × Addr)) (fp : List Addr), PTs (X.blk s H scope (compEnvC scope cl C X.env) fp) ifs tt)
    (he : ∀ (s : Shared) (H : Hp) (C : Addr) (cl : List (Str × Addr)) (fp : List Addr), PE (X.blk s H scope (compEnvC scope cl C X.env) fp) el te) (hs : ∀ x, foldedSetIterable it X.env x = pure x) :
    PE X (.Call (.Name "len" pp) [.SetComp el [⟨tg, it, ifs, 0⟩] scope pos2] [] pos) (fun σ H Q => VIK.tSi X.w wi g tt te (own.map (·.2)) σ H fun v H1 => VIK.rLenS X.w [v] H1 Q) := by
  have h0 : starEach [Expr.SetComp el [⟨tg, it, ifs, 0⟩] scope pos2] X.env = (false, eval (.SetComp el [⟨tg, it, ifs, 0⟩] scope pos2) X.env) :: starEach [] X.env := rfl
  have h1 := pe_callB (pos := pos) (p := pp) VIK.cr_lenS G M boot_lenV (pa_cons (VIK.pe_si (pos := pos2) hc hN hi ok hg ht he hs) pa_nil h0) (by decide) (by decide) h0 rfl
  exact ⟨fun pins s σ H Q I h => h1.run pins s σ H Q I h⟩
theorem s_slen {Γ : Gm} {cl : CallF} {N : List Str} {sc : Scope} (g : Gd Γ cl N sc X) {it : Expr} {fi : En → Option (List VI.D × List (Nat × Bool) × En)} {own : List (Str × Nat)} (hown : own.map (·.2) = vs) (ok : BlkOk X.N X.env.scope scope own)
    (hI : SI X tg it fi) (hT : ∀ c, SG (Bk X scope c) tg t) (hC : ∀ c, SOC (Bk X scope c) ifs fc) (hE : ∀ c, SE (Bk X scope c) el fe) (hts : ∀ j ∈ t.slots, j ∈ vs) {f : En → Option (Op × En)}
    (hf : ∀ env o env', f env = some (o, env') → ∃ items lk env1 outs env2 ns, fi env = some (items, lk, env1) ∧ (∀ j ∈ lk, j.1 ∉ vs) ∧ lcLoop fc (fEl fe) t vs items (wipeE env1 vs) = some (outs, env2) ∧ intsD outs = some ns ∧ ns.length < 4000 ∧ o = .v (.int (dcnt ns : Nat)) ∧ env' = unlock (restE env2 env1 vs) lk) :
    ∀ env o env', f env = some (o, env') → ∀ σ F H Q, RelE X.K F H env σ → QE X.K F H env σ o env' Q → VIK.tSi X.w (WI X tg it) (tGb X scope tg) (tCb X scope ifs) (tEb X scope el) (own.map (·.2)) σ H fun v H1 => VIK.rLenS X.w [v] H1 Q := by
  intro env o env' e σ F H Q r q
  obtain ⟨items, lk, env1, outs, env2, ns, h1, h2, h3, h4, h5, rfl, rfl⟩ := hf env o env' e
  rw [hown]
  refine hI env items lk env1 h1 σ F H _ r fun J F1 H1 env0 P p0 rl lks S hP keep => fun D hD => ?_
  have r1 : RelE X.K F1 H1 env1 σ := rl.rel p0.rel
  have rw1 : RelE X.K F1 H1 (wipeE env1 vs) (wipe σ vs) := wipe_rel r1 vs
  have nO : ∀ {e : En} {s : Slots}, RelE X.K F1 H1 e s → ¬ OA e s D := fun r z => (r.oa_some z).1 hD
  have nF : ¬ F1 D := fun z => r1.fdm D z hD
  have hnew : VIK.SetIO X.w D (fun _ => false) 0 = setH X.w D [] := by
    unfold setH
    congr 1
  rw [hnew]
  refine sc_loop hT hC hE hts S (F0 := F1) (H0 := H1) (fun j hj s hs => wipeE_in hj hs) h3 h4 h5 ((Nst.new hD).pst rw1) hD ⟨upd_same, nF, nO rw1⟩ (fun F' H' e p => keep_in keep h2 p) fun F' H' p ld => ?_
  have pr : Pst X.K F1 H1 env1 σ F' H' (restE env2 env1 vs) σ := p.rested r1
  have pu := lks _ _ _ _ _ _ _ pr
  exact ⟨D, _, _, rfl, ld.at_, q _ F' H' (p0.trans pu) (by simp [RelOp, Is]) fun d z => by cases z⟩
theorem srt_dcnt (ns : List Int) : (VIS.srtU ns).length = dcnt ns := by
  have nd : (dedI ns).Nodup := by
    suffices h : ∀ l : List Int, (dedI l.reverse).Nodup by
      have := h ns.reverse
      rwa [List.reverse_reverse] at this
    intro l
    induction l with
    | nil => simp [dedI]
    | cons x l ih =>
      rw [List.reverse_cons, ded_snoc]
      split
      · exact ih
      · rename_i hx
        exact List.nodup_append.mpr ⟨ih, by simp, fun a ha b hb e => hx (by rw [List.mem_singleton] at hb; rw [← hb, ← e]; exact ha)⟩
  have hp : (VIS.srtU ns).Perm (dedI ns) := by
    refine (List.perm_ext_iff_of_nodup ?_ nd).mpr fun k => ?_
    · exact VIS.srtU_srt.imp fun h => by omega
    · rw [mem_ded, VIS.mem_srtU]
  exact hp.length_eq
theorem s_setlen {Γ : Gm} {cl : CallF} {N : List Str} {sc : Scope} (g : Gd Γ cl N sc X) {pa : Expr} {x y : Str} {pp pp2 pos pos2 : Pos} {fa f : En → Option (Op × En)} (hx : x = "len") (gx : freeB Γ sc x = true) (hy : y = "set") (gy : freeB Γ sc y = true)
    (hh : headOk pa = true) (ha : SB X pa fa)
    (hf : ∀ env o env', f env = some (o, env') → ∃ z dx xs ns, fa env = some (z, env') ∧ rd env' z = some dx ∧ seqD dx = some xs ∧ intsD xs = some ns ∧ ns.length < 64 ∧ o = .v (.int (dcnt ns : Nat))) : SE X (.Call (.Name x pp) [.Call (.Name y pp2) [pa] [] pos2] [] pos) f := by
  intro env o env' e σ F H Q r q
  obtain ⟨z, dx, xs, ns, h1, h2, h25, h3, h4, rfl⟩ := hf env o env' e
  subst hx hy
  obtain ⟨G, _, _, M⟩ := free_of g gx
  obtain ⟨G2, _, _, M2⟩ := free_of g gy
  have h0 : starEach [Expr.Call (.Name "set" pp2) [pa] [] pos2] X.env = (false, eval (.Call (.Name "set" pp2) [pa] [] pos2) X.env) :: starEach [] X.env := rfl
  refine WE.of (pe_callB (pos := pos) (p := pp) VIK.cr_lenS G M boot_lenV (pa_cons (pe_callTy (pos := pos2) (p := pp2) (VIK.cr_setOf g.calm) G2 M2 boot_setV (pA X [pa]) (by decide) (by decide) (starEach_of hh) rfl) pa_nil h0) (by decide) (by decide) h0 rfl) ?_
  refine WA.of (pa_cons (pE X pa) pa_nil (starEach_of hh)) (ha env z env' h1 σ F H _ r fun v F1 H1 p1 r1 n1 => ?_)
  have fin : ∀ (a : Addr) (vs : List V), v = .ref a → (SqL X.K H1 a vs ∨ SqT X.K H1 a vs) → IsL X.K F1 H1 xs vs → VIK.rSetOf X [v] H1 fun y H2 => VIK.rLenS X.w [y] H2 Q := fun a vs ev hs hi => by
    rw [hi.ints h3] at hs
    refine ⟨a, ns, by rw [ev], hs, h4, fun p hp => ?_⟩
    rw [srt_dcnt]
    exact ⟨p, _, _, rfl, upd_same, (fol_q p1 q) _ F1 _ (.new hp) (by simp [ResOp, Is])⟩
  unfold seqD at h25
  split at h25
  · cases h25
    obtain ⟨a, vs, ev, h5, h6⟩ := (rd_has p1.rel r1 h2).lst
    exact fin a vs ev (.inl (.of h5)) h6
  · cases h25
    obtain ⟨a, vs, ev, h5, h6⟩ := (rd_has p1.rel r1 h2).tup
    exact fin a vs ev (.inr h5) h6
  · cases h25
end
end VI
namespace VI
open PySem PySem.Spec L2
def fKV (fk fv : En → Option (Op × En)) (env : En) : Option (VI.D × En) :=
  (fk env).bind fun z => (rd z.2 z.1).bind fun kd => (keyD kd).bind fun k => (fv z.2).bind fun w => (esc w.2 w.1).bind fun u => some (.tup [keyB k, u.1], u.2)
section
variable {K : PySem.W.Frag} {F F1 F2 : FS} {H H1 H2 : Hp} {env env1 : En} {σ σ1 : Slots}
/-- the dict D that a comprehension makes -/
structure DD_ (K : PySem.W.Frag) (D : Addr) (F : FS) (H : Hp) (env : En) (σ : Slots) (z : List Key × List VI.D) : Prop where
  at_ : ∃ ws, H D = some (.dK (z.1.zip ws)) ∧ z.1.length = ws.length ∧ IsL K F H z.2 ws
  nF : ¬ F D
  nO : ¬ OA env σ D
theorem DD_.step {D : Addr} {z} (l : DD_ K D F H env σ z) (p : Pst K F H env σ F1 H1 env1 σ1) : DD_ K D F1 H1 env1 σ1 z := by
  obtain ⟨ws, a1, a2, a3⟩ := l.at_
  have hs : H D ≠ none := by rw [a1]; simp
  obtain ⟨e1, e2⟩ := p.st.oth D hs l.nF l.nO
  exact ⟨⟨ws, e1.trans a1, a2, a3.mono p.st.sub p.st.agr⟩, e2, fun z => (p.own D z).elim l.nO hs⟩
theorem putDk_le (k : Key) (d : VI.D) (ks : List Key) (ds : List VI.D) : (putDk k d ks ds).1.length ≤ ks.length + 1 := by
  unfold putDk
  split
  · simp
  · simp
theorem keyD_back (k : Key) : keyD (keyB k) = some k := by cases k <;> rfl
end
section
variable {X : Cx} {scope : Scope} {tg kx vx : Expr} {ifs : List Expr} {t : T} {vs : List Nat} {fc : En → Option (Bool × En)} {fk fv : En → Option (Op × En)}
theorem dc_loop (hT : ∀ c, SG (Bk X scope c) tg t) (hC : ∀ c, SOC (Bk X scope c) ifs fc) (hK : ∀ c, SB (Bk X scope c) kx fk) (hE : ∀ c, SE (Bk X scope c) vx fv) (hts : ∀ j ∈ t.slots, j ∈ vs)
    {J : It} {items : List VI.D} {P : FS → Hp → Prop} (S : Src X.K J items P) {F1 : FS} {H1 : Hp} {we : En} {σ : Slots} {env2 : En} {outs : List VI.D} {ps : List (Key × VI.D)} {D : Addr}
    (hw : ∀ j ∈ vs, ∀ s, we[j]? = some s → s = .un) (hl : lcLoop fc (fKV fk fv) t vs items we = some (outs, env2)) (hms : prsD outs = some ps) (hz : ps.length < sizeLine)
    {F0 : FS} {H0 : Hp} (r0 : Pst X.K F0 H0 we (wipe σ vs) F1 H1 we (wipe σ vs)) (hD0 : H0 D = none) (ld0 : DD_ X.K D F1 H1 we (wipe σ vs) ([], []))
    (hP : ∀ F' H' e, Pst X.K F0 H0 we (wipe σ vs) F' H' e (wipe σ vs) → P F' H')
    {Qd : Hp → Prop} (hq : ∀ F' H', Pst X.K F0 H0 we (wipe σ vs) F' H' env2 (wipe σ vs) → DD_ X.K D F' H' env2 (wipe σ vs) (dfold ps ([], [])) → Qd H') :
    ∃ W : Nat → Nat → Hp → Prop, (∃ m, W 0 m H1) ∧ ∀ i m H, W i m H →
      (J.stop i H ∧ Qd H) ∨ (J.go i H ∧ ∃ Nx : Hp → Prop, (∀ H', Nx H' → ∃ m', m' < m ∧ W (i + 1) m' H') ∧ ∀ x H', J.yld i H x H' → tGb X scope tg x (wipe σ vs) H' fun σ2 H2 => wipe σ2 vs = wipe σ vs ∧ tCb X scope ifs σ2 H2 fun b H3 =>
        if b = true then tEb X scope kx σ2 H3 fun y H4 => tEb X scope vx σ2 H4 fun z H5 => ∃ kvs k, y = kV k ∧ H5 D = some (.dK kvs) ∧ kvs.length < sizeLine ∧ Nx (upd H5 D (.dK (putK kvs k z))) else Nx H3) := by
  refine ⟨fun i m H => ∃ F' e done rest, i ≤ items.length ∧ m = items.length - i ∧ lcLoop fc (fKV fk fv) t vs (items.drop i) e = some (rest, env2) ∧ (∃ rs, prsD rest = some rs ∧ dfold ps ([], []) = dfold rs done ∧ done.1.length + rs.length ≤ ps.length) ∧
      Pst X.K F0 H0 we (wipe σ vs) F' H e (wipe σ vs) ∧ DD_ X.K D F' H e (wipe σ vs) done, ⟨items.length, F1, we, ([], []), outs, Nat.zero_le _, rfl, hl, ⟨ps, hms, rfl, by simp⟩, r0, ld0⟩, ?_⟩
  rintro i m H ⟨F', e, done, rest, hi, rfl, hloop, ⟨rs, hrs, hout, hle⟩, p, ld⟩
  have PH := hP F' H e p
  by_cases hlt : i < items.length
  · refine .inr ⟨S.go i F' H PH hlt, _, fun H' h => h, fun x H' hy => ?_⟩
    rw [List.drop_eq_getElem_cons hlt] at hloop
    simp only [lcLoop, bind, Option.bind_eq_some_iff, Prod.exists] at hloop
    obtain ⟨e1, h1, b, e2, h2, h3⟩ := hloop
    obtain ⟨F2, n2, id2⟩ := S.yld i F' H x H' PH p.rel.fdm hy _ (List.getElem?_eq_getElem hlt)
    have p2 := p.nst n2
    have ld2 := ld.step (n2.pst p.rel)
    intro c
    refine hT c e _ e1 h1 (wipe σ vs) F2 H' x _ p2.rel id2 fun σ2 p3 hs3 => ?_
    have hwp : wipe σ2 vs = wipe σ vs := by
      refine wipe_eq ?_ fun j hj => hs3 j fun z => hj (hts j z)
      have l1 := p3.rel.len
      have l2 := p2.rel.len
      have l3 : e1.length = e.length := put_len h1
      rw [wipe_length] at l2
      omega
    refine ⟨hwp, fun c => ?_⟩
    refine hC c e1 b e2 h2 σ2 F2 H' _ p3.rel fun F4 H4 p4 => ?_
    have p24 := p2.trans (p3.trans p4)
    have ld4 := ld2.step (p3.trans p4)
    have nxt : ∀ {F5 : FS} {H5 : Hp} {e5 : En} {done' : List Key × List VI.D} {rest' : List VI.D}, Pst X.K F0 H0 we (wipe σ vs) F5 H5 e5 σ2 → DD_ X.K D F5 H5 e5 σ2 done' → lcLoop fc (fKV fk fv) t vs (items.drop (i + 1)) (wipeE e5 vs) = some (rest', env2) → (∃ rs, prsD rest' = some rs ∧ dfold ps ([], []) = dfold rs done' ∧ done'.1.length + rs.length ≤ ps.length) →
        ∃ m', m' < items.length - i ∧ ∃ F' e done rest, i + 1 ≤ items.length ∧ m' = items.length - (i + 1) ∧ lcLoop fc (fKV fk fv) t vs (items.drop (i + 1)) e = some (rest, env2) ∧ (∃ rs, prsD rest = some rs ∧ dfold ps ([], []) = dfold rs done ∧ done.1.length + rs.length ≤ ps.length) ∧
          Pst X.K F0 H0 we (wipe σ vs) F' H5 e (wipe σ vs) ∧ DD_ X.K D F' H5 e (wipe σ vs) done := fun {F5 H5 e5 done' rest'} p5 ld5 hl5 ho5 => by
      refine ⟨items.length - (i + 1), by omega, F5, wipeE e5 vs, done', rest', hlt, rfl, hl5, ho5, p5.wiped hw hwp, ⟨ld5.at_, ld5.nF, fun ⟨j, s, d, h, hs, q⟩ => ?_⟩⟩
      have hj : j ∉ vs := fun z => by have := wipeE_in z h; subst this; cases hs
      rw [wipeE_out hj] at h
      rw [← hwp, wipe_out' hj] at q
      exact ld5.nO ⟨j, s, d, h, hs, q⟩
    cases b with
    | false =>
      refine iteF ?_
      exact nxt p24 ld4 (by simpa using h3) ⟨rs, hrs, hout, hle⟩
    | true =>
      simp only [if_true, Option.bind_eq_some_iff, Prod.exists] at h3
      obtain ⟨y, e4, h4, ys, e5, h5, h6⟩ := h3
      cases h6
      simp only [fKV, Option.bind_eq_some_iff, Prod.exists] at h4
      obtain ⟨ok, ek, g1, kd, g2, k, g3, ov, ev, g4, d, ed, g5, g6⟩ := h4
      cases g6
      refine iteT fun c => ?_
      refine hK c e2 ok ek g1 σ2 F4 H4 _ p4.rel fun v F5 H5 p5 r5 n5 => fun c => ?_
      have kv := keyD_v g3 (rd_has p5.rel r5 g2)
      refine hE c ek ov ev g4 σ2 F5 H5 _ p5.rel fun w F6 H6 p6 r6 n6 => ?_
      obtain ⟨F7, p7, iv, _⟩ := esc_ok p6 r6 n6 g5
      have ld7 := (ld4.step p5).step p7
      have p07 := (p24.trans p5).trans p7
      simp only [prsD, keyD_back, Option.bind_some, Option.map_eq_some_iff] at hrs
      obtain ⟨rs2, hr2, rfl⟩ := hrs
      obtain ⟨ws, a1, a2, a3⟩ := ld7.at_
      obtain ⟨ws2, b1, b2, b3⟩ := putDk_has (k := k) a2 a3 iv
      rw [List.length_cons] at hle
      have hpl := putDk_le k d done.1 done.2
      refine ⟨_, k, kv, a1, ?_, ?_⟩
      · rw [List.length_zip, ← a2, Nat.min_self]; omega
      · rw [b1]
        have agr : ∀ c', F7 c' → upd H6 D (.dK ((putDk k d done.1 done.2).1.zip ws2)) c' = H6 c' := fun c' f => upd_ne fun z => ld7.nF (by rw [← z]; exact f)
        exact nxt (done' := putDk k d done.1 done.2) (p07.side hD0 ld7.nF ld7.nO) ⟨⟨ws2, upd_same, b2, b3.mono (fun _ h => h) agr⟩, ld7.nF, ld7.nO⟩ h5 ⟨rs2, hr2, by rw [hout]; rfl, by omega⟩
  · have e0 : i = items.length := by omega
    subst e0
    rw [List.drop_length] at hloop
    simp only [lcLoop, Option.some.injEq, Prod.mk.injEq] at hloop
    obtain ⟨rfl, rfl⟩ := hloop
    simp only [prsD, Option.some.injEq] at hrs
    subst hrs
    exact .inl ⟨S.stop _ F' H PH rfl, hq F' H p (by rw [hout]; exact ld)⟩
theorem s_dc {Γ : Gm} {cl : CallF} {N : List Str} {sc : Scope} (g : Gd Γ cl N sc X) {it : Expr} {fi : En → Option (List VI.D × List (Nat × Bool) × En)} {own : List (Str × Nat)} (hown : own.map (·.2) = vs)
    (hI : SI X tg it fi) (hT : ∀ c, SG (Bk X scope c) tg t) (hC : ∀ c, SOC (Bk X scope c) ifs fc) (hK : ∀ c, SB (Bk X scope c) kx fk) (hE : ∀ c, SE (Bk X scope c) vx fv) (hts : ∀ j ∈ t.slots, j ∈ vs) {f : En → Option (Op × En)}
    (hf : ∀ env o env', f env = some (o, env') → ∃ items lk env1 outs env2 ps, fi env = some (items, lk, env1) ∧ (∀ j ∈ lk, j.1 ∉ vs) ∧ lcLoop fc (fKV fk fv) t vs items (wipeE env1 vs) = some (outs, env2) ∧ prsD outs = some ps ∧ ps.length < sizeLine ∧ o = .nw (.dk (dfold ps ([], [])).1 (dfold ps ([], [])).2) ∧ env' = unlock (restE env2 env1 vs) lk) :
    ∀ env o env', f env = some (o, env') → ∀ σ F H Q, RelE X.K F H env σ → QE X.K F H env σ o env' Q → tDc (WI X tg it) (tGb X scope tg) (tCb X scope ifs) (tEb X scope kx) (tEb X scope vx) (own.map (·.2)) σ H Q := by
  intro env o env' e σ F H Q r q
  obtain ⟨items, lk, env1, outs, env2, ps, h1, h2, h3, h4, h5, rfl, rfl⟩ := hf env o env' e
  rw [hown]
  refine hI env items lk env1 h1 σ F H _ r fun J F1 H1 env0 P p0 rl lks S hP keep => fun D hD => ?_
  have r1 : RelE X.K F1 H1 env1 σ := rl.rel p0.rel
  have rw1 : RelE X.K F1 H1 (wipeE env1 vs) (wipe σ vs) := wipe_rel r1 vs
  have nO : ∀ {e : En} {s : Slots}, RelE X.K F1 H1 e s → ¬ OA e s D := fun r z => (r.oa_some z).1 hD
  have nF : ¬ F1 D := fun z => r1.fdm D z hD
  refine dc_loop hT hC hK hE hts S (F0 := F1) (H0 := H1) (fun j hj s hs => wipeE_in hj hs) h3 h4 h5 ((Nst.new hD).pst rw1) hD ⟨⟨[], upd_same, rfl, IsL.nil⟩, nF, nO rw1⟩ (fun F' H' e p => keep_in keep h2 p) fun F' H' p ld => ?_
  have pr : Pst X.K F1 H1 env1 σ F' H' (restE env2 env1 vs) σ := p.rested r1
  have pu := lks _ _ _ _ _ _ _ pr
  obtain ⟨ws, a1, a2, a3⟩ := ld.at_
  refine q (.ref D) F' H' (p0.trans pu) ⟨D, rfl, ld.nF, ws, a1, a2, a3⟩ fun d _ a ea => ?_
  cases ea
  refine ⟨none_back p0 hD, rest_out ?_ (nO r1) ld.nO⟩
  have := p.rel.len
  rw [wipe_length, ← r1.len] at this
  exact this
/-- name = {..} on one line, the name a local -/
theorem ps_setDc {i : Nat} {y : Str} {py : Pos} {iter : Expr} {own : List (Str × Nat)} {pos spos : Pos} {wi : TI} {g : TG} {tt : TT} {tk tv : TE} (hc : X.calm = true) (hN : X.N.Nodup) (hy : X.N[i]? = some y) (hyl : X.env.scope.names.lookup y = some .local)
    (hsw : swapsWith (.DictComp kx vx [⟨tg, iter, ifs, 0⟩] scope pos) (some (.Name y py)) spos.line X.env = pure true) (hi : PI X tg iter wi) (ok : BlkOk X.N X.env.scope scope own)
    (hg : ∀ (s : Shared) (H : Hp) (C : Addr) (cl : List (Str × Addr)) (fp : List Addr), PG (X.blk s H scope (compEnvC scope cl C X.env) fp) tg g) (ht : ∀ (s : Shared) (H : Hp) (C : Addr) (cl : List (Str × Addr)) (fp : List Addr), PTs (X.blk s H scope (compEnvC scope cl C X.env) fp) ifs tt)
    (hk : ∀ (s : Shared) (H : Hp) (C : Addr) (cl : List (Str × Addr)) (fp : List Addr), PE (X.blk s H scope (compEnvC scope cl C X.env) fp) kx tk)
    (he : ∀ (s : Shared) (H : Hp) (C : Addr) (cl : List (Str × Addr)) (fp : List Addr), PE (X.blk s H scope (compEnvC scope cl C X.env) fp) vx tv) (hs : ∀ x, foldedSetIterable iter X.env x = pure x) :
    PS X (.Assign [.Name y py] (.DictComp kx vx [⟨tg, iter, ifs, 0⟩] scope pos) spos) (tAsg (tDc wi g tt tk tv (own.map (·.2))) (gName i)) := by
  refine ⟨fun pins s σ H D I h => ?_⟩
  rw [exec_Assign_Name_used _ _ _ _ hsw]
  refine wpAny_bind (wpAny_standAt (wpAny_bind ?_))
  show wpAny _ X.A (do let _ ← comprehension (.DictComp kx vx [⟨tg, iter, ifs, 0⟩] scope pos) scope X.env (firstIterPos [⟨tg, iter, ifs, 0⟩] pos) newDict false (eval iter X.env) (some (assign (.Name y py) X.env))) _ _ s
  have h : tDc wi g tt tk tv (own.map (·.2)) σ H (fun x H1 => gName i x σ H1 D.nx) := h
  refine wpAny_bind (thn (dc_core (Qf := fun _ s' => SP X pins D .next s') hc hN I hi ok hg ht hk he hs h fun L C s' m H' I' q hn f => ?_) fun _ s' hq => wpAny_pure (wpAny_pure hq))
  show wpAny _ _ (assign (.Name y py) X.env (.ref L)) _ _ _
  refine wpAny_assign_Name (store_ok2 (v := V.ref L) I' hN hy (.inl hyl) rfl (fun s2 I2 ⟨a, sb, ha⟩ => ?_) (.inr hyl))
  obtain ⟨f0, f1, f2, f3, f4, f5⟩ := f
  have haC : C ≠ a := by
    rcases ha with z | z
    · rw [z]; exact f1
    · exact fun e => f4 y a z e.symm
  refine ⟨m, hn.sameBut sb haC, fun h3 sb3 => ?_⟩
  exact ⟨_, H', I2.turned (t' := s2.toks) (fun b o hb e => (sb3.2 b hb).trans e) f0 f1 f3 f4 f5, q⟩
theorem s_dnew {f : En → Option (Op × En)} {pos : Pos} (hf : ∀ env o env', f env = some (o, env') → env' = env ∧ o = .nw (.dk [] [])) : SE X (.Dict [] [] pos) f := by
  intro env o env' e σ F H Q r q
  obtain ⟨rfl, rfl⟩ := hf env o env' e
  refine WE.of pe_dnewK fun p hp => ?_
  refine fol_q (.refl r) q (.ref p) F _ (.new hp) ⟨p, rfl, ⟨fun f => r.fdm p f hp, [], upd_same, rfl, IsL.nil⟩, hp⟩
theorem s_dget {pa pb pc : Expr} {n : Str} {apos cpos : Pos} {fa fb fc f : En → Option (Op × En)} (hu : X.A.units + 1 < cLine) (hn : n = "get") (hb : baseOk pa = true) (hl : (apos.endLine == cpos.line) = true) (hh : headOk pb = true) (hh2 : headOk pc = true) (ha : SB X pa fa) (hbb : SB X pb fb) (hcc : SB X pc fc)
    (hf : ∀ env o env', f env = some (o, env') → ∃ x env1 y env2 z ks0 ds0 ks ds dy j, fa env = some (x, env1) ∧ rd env1 x = some (.dk ks0 ds0) ∧ fb env1 = some (y, env2) ∧ fc env2 = some (z, env') ∧ rd env' x = some (.dk ks ds) ∧ rd env' y = some dy ∧ keyD dy = some j ∧ o = (match valD ks ds j with | some r => .v r | none => z)) : SE X (.Call (.Attribute pa n apos) [pb, pc] [] cpos) f := by
  intro env o env' e σ F H Q r q
  obtain ⟨x, env1, y, env2, z, ks0, ds0, ks, ds, dy, j, h1, h0, h2, h3, h4, h5, h6, rfl⟩ := hf env o env' e
  subst hn
  have tr : backTo cpos (starEach [pb, pc] X.env) = [(false, eval pb X.env), (false, eval pc X.env)] := by
    rw [starEach_of hh, starEach_of hh2]; rfl
  have m : M2 X pa "get" apos pb pc cpos := ⟨base_of hb, by rw [tr]; rfl, hl, tr⟩
  refine WE.of (pe_dget2 hu (pE X pa) (pE X pb) (pE X pc) m) ?_
  refine ha env x env1 h1 σ F H _ r fun v F1 H1 p1 r1 n1 => ?_
  obtain ⟨a, ws0, rfl, g1, _, _⟩ := (rd_has p1.rel r1 h0).dk
  refine ⟨a, rfl, .inl ⟨_, .inl g1⟩, ?_⟩
  refine hbb env1 y env2 h2 σ F1 H1 _ p1.rel fun w F2 H2 p2 r2 n2 => ?_
  refine hcc env2 z env' h3 σ F2 H2 _ p2.rel fun u F3 H3 p3 r3 n3 => ?_
  have p23 := p2.trans p3
  obtain ⟨a2, ws, e2, g2, _, g3⟩ := (rd_has p3.rel (r1.stay n1 p23.st) h4).dk
  cases e2
  have ek := keyD_v h6 (rd_has p3.rel (r2.stay n2 p3.st) h5)
  subst ek
  have g4 := valD_has (j := j) (ks := ks) g3
  refine ⟨_, DGet.k g2, ?_⟩
  revert q
  cases hv : valD ks ds j with
  | none =>
    intro q
    rw [hv] at g4
    simp only at g4
    rw [g4]
    exact q u F3 H3 (p1.trans p23) r3 fun d ed => absurd ed (n3 d)
  | some d =>
    intro q
    rw [hv] at g4
    obtain ⟨w', g5, g6⟩ := g4
    rw [g5]
    exact q w' F3 H3 (p1.trans p23) g6 fun d ed => by cases ed
theorem cr_range1 : CallR X (.type "range") (fun vs H Q => ∃ j, vs = [V.int j] ∧ ∀ p, H p = none → Q (.ref p) (upd H p (.rng 0 j))) := by
  intro pins s σ H vs us Q I r h
  obtain ⟨j, rfl, q⟩ := h
  obtain ⟨u1, rfl, rj⟩ := vals1 r
  obtain ⟨u, rfl⟩ := rj
  refine call_range_1 ⟨.ref s.heap.objs.size, upd H s.heap.objs.size (.rng 0 j), I.laid (t' := s.toks + 1 + 1) (fun b o e => Heap.get?_push_of_some _ e) (Nat.le_refl _) ?_, rfl, q _ (I.hok.fresh (Nat.le_refl _))⟩
  exact ⟨s.toks, u, s.toks + 1, Heap.get?_push_size _ rfl⟩
/-- a walk over a range object -/
theorem pi_rgv {tg e : Expr} {te : TE} (he : PE X e te) : PI X tg e (fun σ H R => te σ H fun x H1 => ∃ a lo hi, x = .ref a ∧ H1 a = some (.rng lo hi) ∧ -(2 ^ 62) ≤ lo ∧ lo < 2 ^ 62 ∧ -(2 ^ 62) ≤ hi ∧ hi < 2 ^ 62 ∧ R (Itr lo (hi - lo).toNat) H1) := by
  refine ⟨fun pins s σ H R I h => ?_⟩
  refine thn (he.run pins s σ H _ I h) fun v s1 ⟨x, H1, I1, r1, q1⟩ => ?_
  obtain ⟨a, lo, hi, e, ha, h1, h2, h3, h4, q⟩ := q1
  subst e
  cases r1
  obtain ⟨t, u, w, ho⟩ := I1.hok a _ ha
  refine wpAny_pyIter_range ho (small_one h1 h2 h3 h4) ?_
  refine ⟨s1.heap.objs.size, [s1.heap.objs.size], _, _, H1, rfl,
    I1.kept (t' := s1.toks) fun b o e => Heap.get?_push_of_some _ e, turn_range _ lo (hi - lo).toNat, ?_, fun b hb => ?_, q⟩
  · have e1 : lo + ((0 : Nat) : Int) * 1 = lo := by simp
    have e2 : (((hi - lo).toNat : Nat) : Int) - ((0 : Nat) : Int) = Builtin.Range.rangeSize lo hi 1 := by rw [rangeSize_one]; split <;> omega
    show IsRangeIter _ _ (lo + ((0 : Nat) : Int) * 1) ((((hi - lo).toNat : Nat) : Int) - ((0 : Nat) : Int)) 1
    rw [e1, e2]
    exact Heap.get?_push_size _ rfl
  · have e : b = s1.heap.objs.size := by simpa using hb
    subst e
    exact I1.fpOk (Nat.le_refl _) (I1.hok.fresh (Nat.le_refl _))
theorem si_rgv {Γ : Gm} {cl : CallF} {N : List Str} {sc : Scope} (g : Gd Γ cl N sc X) {tg : Expr} {i : Nat} {x : Str} {pos : Pos} (h : nmB N sc i x = true) {f : En → Option (List VI.D × List (Nat × Bool) × En)}
    (hf : ∀ env items lk env', f env = some (items, lk, env') → ∃ lo hi, env[i]? = some (.rg lo hi) ∧ rngS lo hi = some items ∧ lk = [] ∧ env' = env) : SI X tg (.Name x pos) f := by
  intro env items lk env1 e σ F H R r k
  obtain ⟨lo, hi, h1, h2, rfl, rfl⟩ := hf env items lk env1 e
  obtain ⟨a, k1, k2, k3⟩ := r.rg i lo hi h1
  refine WI.of (pi_rgv (pe_nm g h)) ⟨.ref a, k1, ?_⟩
  unfold rngS at h2
  split at h2
  · rename_i q
    cases h2
    exact ⟨a, lo, hi, rfl, k3, q.1, q.2.1, q.2.2.1, q.2.2.2, k _ F H env1 (fun _ _ => True) (.refl r) .refl (fun K F1 H1 F2 H2 e σ2 p => p) src_rng trivial fun _ _ _ _ _ => trivial⟩
  · cases h2
/-- a range object is stored -/
theorem store_rg {K : PySem.W.Frag} {F : FS} {H : Hp} {env env2 : En} {σ : Slots} (r : RelE K F H env σ) {i : Nat} {lo hi : Int} {a : Addr} (e : putS env i (.rg lo hi) = some env2) (fa : F a) (ha : H a = some (.rng lo hi)) : Pst K F H env σ F H env2 (σ.set i (some (.ref a))) := by
  obtain ⟨rfl, hi'⟩ := putS_eq e
  have hl : i < σ.length := by rw [← r.len]; exact putS_lt e
  have nio : ∀ {j : Nat} {d'}, env[j]? = some (.ow true d') → i ≠ j := fun {j d'} h z => by
    subst z
    rcases hi' with q | ⟨_, q⟩ | ⟨_, q⟩ <;> rw [q] at h <;> cases h
  have nlk : ∀ {j : Nat} {io d'}, env[j]? = some (.lk io d') → i ≠ j := fun {j io d'} h z => by
    subst z
    rcases hi' with q | ⟨_, q⟩ | ⟨_, q⟩ <;> rw [q] at h <;> cases h
  refine ⟨.refl, ⟨by rw [List.length_set, List.length_set]; exact r.len, fun j d' h => ?_, fun j s d' h hs => ?_, fun j k s t d' e' a h hs h' ht q q' => ?_, r.fdm, fun j lo' hi' h => ?_⟩, fun a ⟨j, s, d', h, hs, q⟩ => ?_, fun j d' h => ?_, fun j io d' h => ?_⟩
  · rcases getset h with ⟨rfl, h, _⟩ | ⟨hn, h⟩
    · cases h
    · rw [List.getElem?_set_ne hn]; exact r.fz j d' h
  · rcases getset h with ⟨rfl, h, _⟩ | ⟨hn, h⟩
    · cases h; cases hs
    · rw [List.getElem?_set_ne hn]; exact r.ow j s d' h hs
  · rcases getset h with ⟨rfl, h, _⟩ | ⟨hn, h⟩
    · cases h; cases hs
    · rcases getset h' with ⟨rfl, h', _⟩ | ⟨hn', h'⟩
      · cases h'; cases ht
      · rw [List.getElem?_set_ne hn] at q
        rw [List.getElem?_set_ne hn'] at q'
        exact r.ne j k s t d' e' a h hs h' ht q q'
  · rcases getset h with ⟨rfl, h, _⟩ | ⟨hn, h⟩
    · cases h; exact ⟨_, List.getElem?_set_self hl, fa, ha⟩
    · rw [List.getElem?_set_ne hn]; exact r.rg j lo' hi' h
  · rcases getset h with ⟨rfl, h, _⟩ | ⟨hn, h⟩
    · cases h; cases hs
    · rw [List.getElem?_set_ne hn] at q
      exact .inl ⟨j, s, d', h, hs, q⟩
  · exact ⟨⟨d', by rw [List.getElem?_set_ne (nio h)]; exact h⟩, List.getElem?_set_ne (nio h)⟩
  · exact ⟨by rw [List.getElem?_set_ne (nlk h)]; exact h, List.getElem?_set_ne (nlk h)⟩
end
end VI
namespace VI
open PySem PySem.Spec L2
theorem fld_get {K : PySem.W.Frag} {F : FS} {H : Hp} {f : Str} : ∀ {ns : List Str} {ds : List D} {vs : List V} {d : D}, IsL K F H ds vs → (ns.zip ds).lookup f = some d → ∃ v, (ns.zip vs).lookup f = some v ∧ Is K F H d v
  | [], _, _, _, _, e => by simp at e
  | _ :: _, [], _, _, _, e => by simp at e
  | n :: ns, x :: xs, _, d, h, e => by
    simp only [IsL] at h
    obtain ⟨w, ws, rfl, h1, h2⟩ := h
    simp only [List.zip_cons_cons, List.lookup_cons] at e ⊢
    split at e
    · cases e; exact ⟨w, rfl, h1⟩
    · exact fld_get h2 e
theorem putFD_is {K : PySem.W.Frag} {F : FS} {H : Hp} {f : Str} {d : D} {v : V} (hv : Is K F H d v) : ∀ {ns : List Str} {ds : List D} {vs : List V}, IsL K F H ds vs → ns.length = vs.length →
    ∃ ws, putF f v (ns.zip vs) = (putFD f d ns ds).1.zip ws ∧ (putFD f d ns ds).1.length = ws.length ∧ IsL K F H (putFD f d ns ds).2 ws
  | [], ds, vs, h, e => by
    cases vs with
    | cons => cases e
    | nil => exact ⟨[v], by simp [putFD, putF], by simp [putFD], by simp [putFD]; exact .cons hv .nil⟩
  | n :: ns, [], vs, h, e => by simp only [IsL] at h; subst h; cases e
  | n :: ns, x :: xs, vs, h, e => by
    simp only [IsL] at h
    obtain ⟨w, ws, rfl, h1, h2⟩ := h
    simp only [putFD, List.zip_cons_cons, putF]
    split
    · rename_i z
      subst z
      exact ⟨v :: ws, by simp, by simpa using e, .cons hv h2⟩
    · obtain ⟨us, e1, e2, e3⟩ := putFD_is hv h2 (by simpa using e)
      exact ⟨w :: us, by simp [e1], by simp [e2], .cons h1 e3⟩
theorem lk_none {ns : List Str} {vs : List V} {m : Str} (h : ns.contains m = false) : (ns.zip vs).lookup m = none := by
  induction ns generalizing vs with
  | nil => rfl
  | cons n ns ih =>
    cases vs with
    | nil => rfl
    | cons v vs =>
      simp only [List.contains_cons, Bool.or_eq_false_iff] at h
      simp only [List.zip_cons_cons, List.lookup_cons, h.1]
      exact ih h.2
section
variable {X : Cx} {F : FS} {H : Hp} {env env1 env2 : En} {σ : Slots}
theorem s_glo {Γ : Gm} {cl : CallF} {N : List Str} {sc : Scope} (g : Gd Γ cl N sc X) {x : Str} {d : D} {pos : Pos} {f : En → Option (Op × En)} (hg : glB sc x = true) (hc : Γ.cons.lookup x = some d) (hf : ∀ env, f env = some (.v d, env)) : SE X (.Name x pos) f := by
  intro env o env' e σ F H Q r q
  rw [hf] at e
  cases e
  obtain ⟨G, hdb, _⟩ := gl_of g hg
  obtain ⟨u, v, h1, h2, h3⟩ := g.cn x d hc
  exact WE.of (pe_glob G h1 h2 hdb) (q v F H (.refl r) (h3 F H) fun d z => by cases z)
theorem s_attr {pa : Expr} {f n : Str} {pos : Pos} {fa g : En → Option (Op × En)} (hn : n = f) (hb : baseOk pa = true) (ha : SB X pa fa)
    (hf : ∀ env o env', g env = some (o, env') → ∃ x dx d, fa env = some (x, env') ∧ rd env' x = some dx ∧ attrS f dx = some d ∧ o = .v d) : SE X (.Attribute pa n pos) g := by
  intro env o env' e σ F H Q r q
  obtain ⟨x, dx, d, h1, h2, h3, rfl⟩ := hf env o env' e
  subst hn
  refine WE.of (pe_fld (pE X pa) (base_of hb)) (ha env x env' h1 σ F H _ r fun v F1 H1 p1 r1 n1 => ?_)
  unfold attrS at h3
  split at h3
  · rename_i c ns ds
    split at h3
    · rename_i hc
      obtain ⟨a, C, dx', vs, rfl, e1, e2, e3, e4⟩ := (rd_has p1.rel r1 h2).ins
      obtain ⟨w, e5, e6⟩ := fld_get e4 h3
      exact ⟨a, C, dx', _, w, rfl, e1, e2.cl, e2.na _ (by simpa using hc), e5, q w F1 H1 p1 e6 fun d z => by cases z⟩
    · cases h3
  · cases h3
theorem ht_of {o : Expr} {m : Str} {apos pos : Pos} {es : List Expr} {en : Env} (hb : baseOk o = true) (hl : (apos.endLine == pos.line) = true) (hk : es.length < 20) (ha : (backTo pos (starEach es en)).any (·.1) = false) :
    eval (.Call (.Attribute o m apos) es [] pos) en = (do
      let ov ← eval o en
      standAt apos.atName
      let (f, first) ← holding [ov] (getMethod ov m (do return (← importBound o en).getD true))
      callWith pos f first (backTo pos (starEach es en)) (backToKw pos (keywordEach [] en))) := by
  have hform : methodCallForm (es.length + ([] : List Keyword).length) (backTo pos (starEach es en)) (backToKw pos (keywordEach [] en)) = true := by
    unfold methodCallForm
    have z1 : (backTo pos (starEach es en)).all (fun x => !x.1) = true := by
      rw [List.all_eq_not_any_not]
      simp only [Bool.not_not]
      rw [ha]; rfl
    have z2 : (backToKw pos (keywordEach [] en)).all (fun x => x.1.isSome) = true := rfl
    have z3 : (backToKw pos (keywordEach [] en)).isEmpty = true := rfl
    rw [z1, z2, z3]
    simp only [List.length_nil, if_true, Bool.and_true, Bool.true_and]
    exact decide_eq_true (by omega)
  have hpos : methodCallPos true o en apos pos = pure pos := by unfold methodCallPos; simp [hl]
  rw [arm_eval_Call, base_of hb]
  unfold methodCall calleeOf
  rw [hform]
  simp only [if_true, hpos]
  rfl
theorem Nst.trans' {F0 F1 F2 : FS} {H0 H1 H2 : Hp} (a : Nst F0 H0 F1 H1) (b : Nst F1 H1 F2 H2) : Nst F0 H0 F2 H2 :=
  ⟨fun c h => b.sub c (a.sub c h), fun c h => by
    have e := a.old c h
    have e2 := b.old c (by rw [e.1]; exact h)
    exact ⟨e2.1.trans e.1, fun f => e.2 (e2.2 f)⟩, fun hd => b.fdm (a.fdm hd)⟩
/-- one fresh object ahead of the arguments -/
theorem rel_cons {K : PySem.W.Frag} {args : List Sl} {vs : List V} {d : D} {a : Addr} (r : RelE K F H args (vs.map some)) (ho : OwnAt K F H d a) (hn : ∀ (j : Nat) (t : Sl) (e : D), args[j]? = some t → t.own = some e → vs[j]? ≠ some (.ref a)) :
    RelE K F H (.ow true d :: args) ((V.ref a :: vs).map some) where
  len := by simpa using r.len
  fz := fun i e h => by
    cases i with
    | zero => cases h
    | succ i => exact r.fz i e (by simpa using h)
  ow := fun i s e h hs => by
    cases i with
    | zero => cases h; cases hs; exact ⟨a, rfl, ho⟩
    | succ i => exact r.ow i s e (by simpa using h) hs
  ne := fun i j s t e e' c h hs h' ht q q' => by
    cases i with
    | zero =>
      cases j with
      | zero => rfl
      | succ j =>
        simp only [List.map_cons, List.getElem?_cons_zero, Option.some.injEq, V.ref.injEq] at q
        subst q
        exact absurd (map_some.mp (by simpa using q')) (hn j t e' (by simpa using h') ht)
    | succ i =>
      cases j with
      | zero =>
        simp only [List.map_cons, List.getElem?_cons_zero, Option.some.injEq, V.ref.injEq] at q'
        subst q'
        exact absurd (map_some.mp (by simpa using q)) (hn i s e (by simpa using h) hs)
      | succ j => rw [r.ne i j s t e e' c (by simpa using h) hs (by simpa using h') ht (by simpa using q) (by simpa using q')]
  fdm := r.fdm
  rg := fun i lo hi h => by
    cases i with
    | zero => cases h
    | succ i => exact r.rg i lo hi (by simpa using h)
/-- behind a call with a fresh object ahead of the arguments: the arguments alone -/
theorem pst_tail {K : PySem.W.Frag} {F1 F2 : FS} {H1 H1' H2 : Hp} {args fin : List Sl} {vs : List V} {d d' : D} {x : Addr} {io : Bool} (n : Nst F1 H1 F1 H1') (hx : H1 x = none) (r : RelE K F1 H1 args (vs.map some))
    (q : Pst K F1 H1' (.ow true d :: args) ((V.ref x :: vs).map some) F2 H2 (.ow io d' :: fin) ((V.ref x :: vs).map some)) : Pst K F1 H1 args (vs.map some) F2 H2 fin (vs.map some) where
  st := ⟨q.st.sub, fun a f => (q.st.agr a f).trans (n.old a (r.fdm a f)).1, fun a h => q.st.dom a (by rw [(n.old a h).1]; exact h), fun a h1 h2 h3 => by
    have e1 := n.old a h1
    obtain ⟨z1, z2⟩ := q.st.oth a (by rw [e1.1]; exact h1) h2 fun z => by
      obtain ⟨i, t, e, k1, k2, k3⟩ := z
      cases i with
      | zero =>
        simp only [List.map_cons, List.getElem?_cons_zero, Option.some.injEq, V.ref.injEq] at k3
        subst k3
        exact h1 hx
      | succ i => exact h3 ⟨i, t, e, by simpa using k1, k2, by simpa using k3⟩
    exact ⟨z1.trans e1.1, z2⟩⟩
  rel := {
    len := by simpa using q.rel.len
    fz := fun i e h => by
      obtain ⟨v, k1, k2⟩ := q.rel.fz (i + 1) e (by simpa using h)
      exact ⟨v, by simpa using k1, k2⟩
    ow := fun i s e h hs => by
      obtain ⟨v, k1, k2⟩ := q.rel.ow (i + 1) s e (by simpa using h) hs
      exact ⟨v, by simpa using k1, k2⟩
    ne := fun i j s t e e' c h hs h' ht z z' => by
      have := q.rel.ne (i + 1) (j + 1) s t e e' c (by simpa using h) hs (by simpa using h') ht (by simpa using z) (by simpa using z')
      omega
    fdm := q.rel.fdm
    rg := fun i lo hi h => by
      obtain ⟨v, k1, k2⟩ := q.rel.rg (i + 1) lo hi (by simpa using h)
      exact ⟨v, by simpa using k1, k2⟩ }
  own := fun a ⟨i, t, e, k1, k2, k3⟩ => by
    rcases q.own a ⟨i + 1, t, e, by simpa using k1, k2, by simpa using k3⟩ with ⟨j, t', e', m1, m2, m3⟩ | z
    · cases j with
      | zero =>
        simp only [List.map_cons, List.getElem?_cons_zero, Option.some.injEq, V.ref.injEq] at m3
        subst m3
        exact .inr hx
      | succ j => exact .inl ⟨j, t', e', by simpa using m1, m2, by simpa using m3⟩
    · refine .inr ?_
      cases y : H1 a with
      | none => rfl
      | some o => rw [(n.old a (by rw [y]; simp)).1, y] at z; cases z
  io := fun i e h => by
    obtain ⟨k1, k2⟩ := q.io (i + 1) e (by simpa using h)
    exact ⟨by simpa using k1, rfl⟩
  lk := fun i io e h => by
    obtain ⟨k1, k2⟩ := q.lk (i + 1) io e (by simpa using h)
    exact ⟨by simpa using k1, rfl⟩
theorem made_cases {z : Op × List Sl} {d : D} {fin : List Sl} (h : madeS z = some (d, fin)) : ∃ io, z = (.v .non, .ow io d :: fin) := by
  unfold madeS at h
  split at h
  · cases h; exact ⟨_, rfl⟩
  · cases h
theorem make_body {Γ : Gm} {cl : CallF} {N : List Str} {sc : Scope} {fi n : Nat} {c : Cn} {C : Addr} (ca : CA X.K c C) (hlen : ∀ args r fin, cl fi args = some (r, fin) → args.length = n)
    {os : List Op} {args fin : List Sl} {z : Op × List Sl} {d : D} {vs : List V} {F1 : FS} {H1 : Hp} {Q : VK} (p1 : Pst X.K F H env σ F1 H1 env1 σ) (h2 : toArgs env1 os = some args) (h3 : (lent env1 os).Nodup) (h4 : cl fi (.ow true (.ins c [] []) :: args) = some z) (h5 : madeS z = some (d, fin))
    (r1 : RelOps X.K F1 H1 σ os vs) (q : QE X.K F H env σ (.nw d) (backArgs env1 os fin) Q) (x dx : Addr) (hx : H1 x = none) (hdx : H1 dx = none) (ne : dx ≠ x) :
    spOf X.K cl fi n (.ref x :: (vs ++ [])) (upd (upd H1 dx (.own x)) x (.ins C dx [])) (fun v H2 => v = .non ∧ Q (.ref x) H2) E0 := by
  obtain ⟨io, rfl⟩ := made_cases h5
  rw [List.append_nil]
  have n1 : Nst F1 H1 F1 (upd H1 dx (.own x)) := .new hdx
  have n2 : Nst F1 (upd H1 dx (.own x)) F1 (upd (upd H1 dx (.own x)) x (.ins C dx [])) := .new (by rw [upd_ne (fun z => ne z.symm)]; exact hx)
  have nn : Nst F1 H1 F1 (upd (upd H1 dx (.own x)) x (.ins C dx [])) := n1.trans' n2
  have r0 := args_rel p1.rel h2 r1 h3
  have hF : ¬ F1 x := fun f => p1.rel.fdm x f hx
  have ho : OwnAt X.K F1 (upd (upd H1 dx (.own x)) x (.ins C dx [])) (.ins c [] []) x := ⟨hF, C, dx, [], upd_same, ca, rfl, IsL.nil⟩
  have r2 : RelE X.K F1 (upd (upd H1 dx (.own x)) x (.ins C dx [])) args (vs.map some) := (nn.pst r0).rel
  have rc := rel_cons r2 ho fun j t e k1 k2 k3 => by
    obtain ⟨b, k4, k5⟩ := r0.ow j t e k1 k2
    rw [map_some.mp k4] at k3
    cases k3
    exact k5.some hx
  refine ⟨?_, F1, _, _, _, h4, rc, fun v F2 H2 p2 r2 n2 => ?_⟩
  · have := hlen _ _ _ h4
    rw [← this, List.length_cons, List.length_cons, args_len h2 r1]
  · refine ⟨by simpa [RelOp, Is] using r2, ?_⟩
    have p3 := pst_tail nn hx r0 p2
    have pb := call_back p1 h2 r1 h3 p3
    refine q _ F2 H2 pb ?_ fun e ed a ea => ?_
    · obtain ⟨a, k1, k2⟩ := p2.rel.ow 0 _ d rfl rfl
      simp only [List.map_cons, List.getElem?_cons_zero, Option.some.injEq] at k1
      cases k1
      exact ⟨x, rfl, k2⟩
    · cases ea
      refine ⟨none_back p1 hx, fun ⟨i, s, d', w1, w2, w3⟩ => ?_⟩
      obtain ⟨s', d2, w4, w5⟩ := (back_kin os fin env1).own w1 w2
      exact (p1.rel.oa_some ⟨i, s', d2, w4, w5, w3⟩).1 hx
theorem s_make {Γ : Gm} {cl : CallF} {N : List Str} {sc : Scope} (g : Gd Γ cl N sc X) {fi : Nat} {c : Cn} {ps : List Expr} {x : Str} {pp pos : Pos} {fs : En → Option (List Op × En)} {f : En → Option (Op × En)} (hxn : x = c.nm) (hg : glB sc x = true)
    (hx : Γ.mks.contains (c, fi) = true) (hs : SA X ps fs) (h0 : ps = [] → ∀ env os env1, fs env = some (os, env1) → os = [] ∧ env1 = env)
    (he : ∀ p r, ps = p :: r → starEach (p :: r) X.env = (false, eval p X.env) :: starEach r X.env) (hpl : ∀ p r, ps = p :: r → (backTo pos (starEach r X.env)).any (·.1) = false)
    (hf : ∀ env o env', f env = some (o, env') → ∃ os env1 args z d fin, fs env = some (os, env1) ∧ toArgs env1 os = some args ∧ (lent env1 os).Nodup ∧ cl fi (.ow true (.ins c [] []) :: args) = some z ∧ madeS z = some (d, fin) ∧ o = .nw d ∧ env' = backArgs env1 os fin) : SE X (.Call (.Name x pp) ps [] pos) f := by
  intro env o env' e σ F H Q r q
  obtain ⟨os, env1, args, z, d, fin, h1, h2, h3, h4, h5, rfl, rfl⟩ := hf env o env' e
  obtain ⟨k, C, a, fd, pn, hF, hR, hM, hC, hK, hB, hlen⟩ := (g.mak c fi hx).ex
  subst hxn
  obtain ⟨G, hdb, _⟩ := gl_of g hg
  cases ps with
  | nil =>
    obtain ⟨rfl, rfl⟩ := h0 rfl _ _ _ h1
    refine WE.of (pe_make0 hK hF hR G hM hB .nil pass0 hdb) fun y dy hy hdy hne => ?_
    exact make_body (Γ := Γ) (N := N) (sc := sc) hC hlen (.refl r) h2 h3 h4 h5 (vs := []) rfl q y dy hy hdy hne
  | cons p ps =>
    refine WE.of (pe_make hK hF hR G hM hB .nil pass0 (pA X (p :: ps)) hdb (he p ps rfl) (hpl p ps rfl)) ?_
    refine hs env os env1 h1 σ F H _ r fun vs F1 H1 p1 r1 y dy hy hdy hne => ?_
    exact make_body (Γ := Γ) (N := N) (sc := sc) hC hlen p1 h2 h3 h4 h5 r1 q y dy hy hdy hne
theorem s_meth {Γ : Gm} {cl : CallF} {N : List Str} {sc : Scope} (g : Gd Γ cl N sc X) {fi : Nat} {c : Cn} {m n : Str} {pa : Expr} {ps : List Expr} {apos pos : Pos} {fa : En → Option (Op × En)} {fs : En → Option (List Op × En)} {f : En → Option (Op × En)} (hn : n = m) (hb : baseOk pa = true) (hl : (apos.endLine == pos.line) = true) (hk : ps.length < 20)
    (hx : Γ.mes.contains ((c, m), fi) = true) (ha : SB X pa fa) (hs : SA X ps fs) (h0 : ps = [] → ∀ env os env1, fs env = some (os, env1) → os = [] ∧ env1 = env)
    (he : ∀ p r, ps = p :: r → starEach (p :: r) X.env = (false, eval p X.env) :: starEach r X.env) (hpl : ∀ p r, ps = p :: r → (backTo pos (starEach r X.env)).any (·.1) = false)
    (hf : ∀ env o env', f env = some (o, env') → ∃ x env1 d0 os env2 args fin, fa env = some (x, env1) ∧ rd env1 x = some d0 ∧ hasM c m d0 = true ∧ fs env1 = some (os, env2) ∧ toArgs env2 (x :: os) = some args ∧ (lent env2 (x :: os)).Nodup ∧ cl fi args = some (o, fin) ∧ env' = backArgs env2 (x :: os) fin) :
    SE X (.Call (.Attribute pa n apos) ps [] pos) f := by
  intro env o env' e σ F H Q r q
  obtain ⟨x, env1, d0, os, env2, args, fin, h1, h2, h3, h4, h5, h6, h7, rfl⟩ := hf env o env' e
  obtain ⟨⟨k, C, a, fd, pn, hF, hR, hC, hK, hB, hlen⟩, np⟩ := g.me c m fi hx
  subst hn
  have hany : (backTo pos (starEach ps X.env)).any (·.1) = false := by
    cases ps with
    | nil => rfl
    | cons p ps =>
      rw [he p ps rfl]
      have := hpl p ps rfl
      show (false || (backTo pos (starEach ps X.env)).any (·.1)) = false
      rw [this] <;> rfl
  have ht := ht_of (m := n) hb hl hk hany
  have obj : ∀ {v : V} {F1 : FS} {H1 : Hp}, Has X.K F1 H1 d0 v → ∃ a dx fs, v = .ref a ∧ H1 a = some (.ins C dx fs) ∧ fs.lookup n = none := fun {v F1 H1} hv => by
    cases d0 with
    | ins c' ns ds =>
      obtain ⟨hc1, hc2⟩ := ba (show (decide (c' = c) && !ns.contains n) = true from h3)
      have hc1 := of_decide_eq_true hc1
      subst hc1
      obtain ⟨a, C', dx, vs, rfl, e1, e2, e3, e4⟩ := hv.ins
      have : C' = C := by
        have z := e2.at_.symm.trans hC.at_
        simpa using z
      subst this
      exact ⟨a, dx, _, rfl, e1, lk_none (by simpa using hc2)⟩
    | _ => cases h3
  cases ps with
  | nil =>
    obtain ⟨rfl, rfl⟩ := h0 rfl _ _ _ h4
    refine WE.of (pe_meth0 (pE X pa) hC.cl hK hF hR hB .nil pass0 ht) ?_
    refine ha env x env2 h1 σ F H _ r fun v F1 H1 p1 r1 n1 => ?_
    obtain ⟨a, dx, fs', rfl, e1, e2⟩ := obj (rd_has p1.rel r1 h2)
    refine ⟨a, dx, fs', rfl, e1, e2, ?_⟩
    exact call_body (Γ := Γ) (N := N) (sc := sc) (x := n) np hlen p1 h5 h6 h7 (vs := [V.ref a]) ⟨_, _, rfl, r1, n1, rfl⟩ q
  | cons p ps =>
    refine WE.of (pe_meth (pE X pa) hC.cl hK hF hR hB .nil pass0 (pA X (p :: ps)) (he p ps rfl) (hpl p ps rfl) ht) ?_
    refine ha env x env1 h1 σ F H _ r fun v F1 H1 p1 r1 n1 => ?_
    obtain ⟨a, dx, fs', rfl, e1, e2⟩ := obj (rd_has p1.rel r1 h2)
    refine ⟨a, dx, fs', rfl, e1, e2, ?_⟩
    refine hs env1 os env2 h4 σ F1 H1 _ p1.rel fun vs F2 H2 p2 r2 => ?_
    rw [List.append_nil]
    exact call_body (Γ := Γ) (N := N) (sc := sc) (x := n) np hlen (p1.trans p2) h5 h6 h7 ⟨_, _, rfl, r1.stay n1 p2.st, n1, r2⟩ q
end
end VI
namespace VI
open PySem PySem.Spec L2
section
variable {X : Cx} {F : FS} {H : Hp} {env env1 env2 : En} {σ : Slots}
theorem src_rngC {K : PySem.W.Frag} {lo c : Int} {n : Nat} : Src K (Itc lo c n) ((List.range n).map fun k => .int (lo + (k : Nat) * c)) (fun _ _ => True) where
  go := fun i F H _ h => by show i < n; simpa using h
  yld := fun i F H x H' _ _ y d hd => by
    obtain ⟨rfl, rfl⟩ := y
    rw [List.getElem?_map] at hd
    obtain ⟨k, hk, rfl⟩ := Option.map_eq_some_iff.mp hd
    have : i = k := by
      by_cases hi : i < n
      · rw [List.getElem?_range hi] at hk; cases hk; rfl
      · rw [List.getElem?_eq_none (by simpa using hi)] at hk; cases hk
    subst this
    exact ⟨F, .refl, by simp [Is]⟩
  stop := fun i F H _ h0 => have h := Nat.le_of_eq h0; by show n ≤ i; simpa using h
/-- range(i, j, -1) -/
theorem si_rng3 {Γ : Gm} {cl : CallF} {N : List Str} {sc : Scope} (g : Gd Γ cl N sc X) {tg p p2 p3 : Expr} {x : Str} {pp pos : Pos} {fa fb fc : En → Option (Op × En)} {f : En → Option (List D × List (Nat × Bool) × En)} (hx : x = "range") (hg : freeB Γ sc x = true) (hh : headOk p = true) (hh2 : headOk p2 = true) (hh3 : headOk p3 = true) (ha : SB X p fa) (hb : SB X p2 fb) (hc : SB X p3 fc)
    (hf : ∀ env items lk env', f env = some (items, lk, env') → ∃ o i env1 u j env2 z, fa env = some (o, env1) ∧ fb env1 = some (u, env2) ∧ fc env2 = some (z, env') ∧ rd env' o = some (.int i) ∧ rd env' u = some (.int j) ∧ rd env' z = some (.int (-1)) ∧ rngD i j = some items ∧ lk = []) : SI X tg (.Call (.Name x pp) [p, p2, p3] [] pos) f := by
  intro env items lk env3 e σ F H R r k
  obtain ⟨o, i, env1, u, j, env2, z, h1, h2, h3, h4, h5, h6, h7, rfl⟩ := hf env items lk env3 e
  subst hx
  obtain ⟨G, _, _, M⟩ := free_of g hg
  have hpl : (backTo pos (starEach [p2, p3] X.env)).any (·.1) = false := by rw [starEach_of hh2, starEach_of hh3]; rfl
  refine WI.of (pi_range3 G M (pA X [p, p2, p3]) (starEach_of hh) hpl) (WA.of (pa_cons (pE X p) (pa_cons (pE X p2) (pa_cons (pE X p3) pa_nil (starEach_of hh3)) (starEach_of hh2)) (starEach_of hh)) ?_)
  refine two_ops ha hb h1 h2 r fun v w F2 H2 p r1 r2 n1 n2 => ?_
  refine hc env2 z env3 h3 σ F2 H2 _ p.rel fun y F3 H3 p3 r3 n3 => ?_
  have e1 := (rd_has p3.rel (r1.stay n1 p3.st) h4).int
  subst e1
  have e1 := (rd_has p3.rel (r2.stay n2 p3.st) h5).int
  subst e1
  have e1 := (rd_has p3.rel r3 h6).int
  subst e1
  unfold rngD at h7
  split at h7
  · rename_i q
    cases h7
    have hs := src_rngC (K := X.K) (lo := i) (c := -1) (n := (i - j).toNat)
    exact ⟨i, j, -1, _, rfl, RgC.neg q.1 q.2.1 q.2.2.1 q.2.2.2, k _ F3 H3 env3 (fun _ _ => True) (p.trans p3) .refl (fun K F1 H1 F2 H2 e σ2 p => p) hs trivial fun _ _ _ _ _ => trivial⟩
  · cases h7
/-- reversed(range(j)) -/
theorem si_revr {Γ : Gm} {cl : CallF} {N : List Str} {sc : Scope} (g : Gd Γ cl N sc X) {tg p : Expr} {x y : Str} {pp pp2 pos pos2 : Pos} {fa : En → Option (Op × En)} {f : En → Option (List D × List (Nat × Bool) × En)} (hx : x = "reversed") (hg : freeB Γ sc x = true) (hy : y = "range") (hg2 : freeB Γ sc y = true) (hh : headOk p = true) (ha : SB X p fa)
    (hf : ∀ env items lk env', f env = some (items, lk, env') → ∃ o j, fa env = some (o, env') ∧ rd env' o = some (.int j) ∧ rngD (j - 1) (-1) = some items ∧ (0 ≤ j ∧ j < 2 ^ 62) ∧ lk = []) : SI X tg (.Call (.Name x pp) [.Call (.Name y pp2) [p] [] pos2] [] pos) f := by
  intro env items lk env2 e σ F H R r k
  obtain ⟨o, j, h1, h2, h3, h4, rfl⟩ := hf env items lk env2 e
  subst hx hy
  obtain ⟨G, _, _, M⟩ := free_of g hg
  obtain ⟨G2, _, _, M2⟩ := free_of g hg2
  refine WI.of (pi_revR G M (prg_1 G2 M2 (pE X p) (starEach_of hh))) (ha env o env2 h1 σ F H _ r fun v F1 H1 p1 r1 n1 => ?_)
  have e1 := (rd_has p1.rel r1 h2).int
  subst e1
  unfold rngD at h3
  split at h3
  · rename_i q
    cases h3
    have b1 : -(2 ^ 62) ≤ (0 : Int) := by decide
    have b2 : (0 : Int) < 2 ^ 62 := by decide
    have b3 : -(2 ^ 62) ≤ j := Int.le_trans b1 h4.1
    refine ⟨j, rfl, b1, b2, b3, h4.2, ?_⟩
    have hs := src_rngC (K := X.K) (lo := j - 1) (c := -1) (n := j.toNat)
    rw [show (0 : Int) + (((j - 0).toNat : Nat) : Int) - 1 = j - 1 by omega, show (j - 0).toNat = j.toNat by omega]
    have e2 : (j - 1 - -1).toNat = j.toNat := by omega
    rw [e2] at k
    exact k _ F1 H1 env2 (fun _ _ => True) p1 .refl (fun K F1 H1 F2 H2 e σ2 p => p) hs trivial fun _ _ _ _ _ => trivial
  · cases h3
end
end VI
namespace VI
open PySem PySem.Spec L2
section
variable {Γ : Gm} {cl : CallF} {N : List Str}
theorem gd_blk {sc : Scope} {X : Cx} (g : Gd Γ cl N sc X) (scope : Scope) (c : Bc) : Gd Γ cl N (relS scope sc) (Bk X scope c) where
  hN := g.hN
  hsc := by rw [← g.hsc]; rfl
  nd := g.nd
  calm := g.calm
  xe := rfl
  hu := g.hu
  fr := g.fr
  fn := fun x f h => ⟨(g.fn x f h).ex, (g.fn x f h).np⟩
  gc := g.gc
  cn := g.cn
  mak := fun c f h => ⟨(g.mak c f h).ex⟩
  me := fun c m f h => ⟨(g.me c m f h).ex, (g.me c m f h).np⟩
theorem evB_eq (e : E) (env : En) : evB cl e env = (evE cl e env).bind fun z => some (z.1.frz, z.2) := by
  unfold evB; rfl
theorem all_in {t : List Nat} {vs : List Nat} (h : t.all (vs.contains ·) = true) : ∀ j ∈ t, j ∈ vs := by
  intro j hj
  have := List.all_eq_true.mp h j hj
  simpa using this
theorem tup_of {N : List Str} {sc : Scope} {st : Str → Bool} {t : T} {tg : Expr} (h : mT N sc st t tg = true) : t.isTup = true → ∃ elts kk tpos, tg = .Tuple elts kk tpos := by
  intro e
  cases t with
  | nm i => cases e
  | tup is =>
    cases tg <;> first | exact ⟨_, _, _, rfl⟩ | (unfold mT at h; cases h)
theorem lk_out {lk : List (Nat × Bool)} {vs : List Nat} (h : (lk.all fun j => !vs.contains j.1) = true) : ∀ j ∈ lk, j.1 ∉ vs := by
  intro j hj
  have := List.all_eq_true.mp h j hj
  simpa using this
theorem lk_out' {lk : List (Nat × Bool)} {vs : List Nat} (h : ¬ (!(lk.all fun j => !vs.contains j.1)) = true) : ∀ j ∈ lk, j.1 ∉ vs := lk_out (by
  cases e : (lk.all fun j => !vs.contains j.1) with
  | true => rfl
  | false => rw [e] at h; exact absurd rfl h)
theorem own_map (vs : List Nat) : (vs.map fun i => (N.getD i "", i)).map (·.2) = vs := by
  induction vs with
  | nil => rfl
  | cons v vs ih => simp only [List.map_cons]; rw [ih]
theorem he_of {es : Es} {sc : Scope} {ps : List Expr} {env : Env} (h : mEs Γ N es sc ps = true) : ∀ p r, ps = p :: r → starEach (p :: r) env = (false, eval p env) :: starEach r env := by
  intro p r e
  subst e
  cases es with
  | nil => unfold mEs at h; cases h
  | cons e es =>
    unfold mEs at h
    exact starEach_of (mE_head (ba h).1)
theorem hpl_of {es : Es} {sc : Scope} {ps : List Expr} {env : Env} {pos : Pos} (h : mEs Γ N es sc ps = true) : ∀ p r, ps = p :: r → (backTo pos (starEach r env)).any (·.1) = false := by
  intro p r e
  subst e
  cases es with
  | nil => unfold mEs at h; cases h
  | cons e es =>
    unfold mEs at h
    exact mEs_star (ba h).2 pos env
theorem mEs_nil {es : Es} {sc : Scope} (h : mEs Γ N es sc [] = true) : es = .nil := by
  cases es with
  | nil => rfl
  | cons e es => unfold mEs at h; cases h

theorem sndFold (i : I) {tp : Bool} {sc : Scope} {p : Expr} {env : Env} (h : mI Γ N i tp sc p = true) : ∀ x, foldedSetIterable p env x = pure x := by
  cases i with
  | seq e => unfold mI at h; exact fold_of (mE_head h)
  | rgv i => unfold mI at h; split at h <;> first | (intro x; rfl) | cases h
  | rng1 a => unfold mI at h; split at h <;> first | (intro x; rfl) | cases h
  | rng2 a b => unfold mI at h; split at h <;> first | (intro x; rfl) | cases h
  | rng3 a b c => unfold mI at h; split at h <;> first | (intro x; rfl) | cases h
  | revr a => unfold mI at h; split at h <;> first | (intro x; rfl) | cases h
  | enum e => unfold mI at h; split at h <;> first | (intro x; rfl) | cases h
  | zip a b => unfold mI at h; split at h <;> first | (intro x; rfl) | cases h
  | zip3 a b c => unfold mI at h; split at h <;> first | (intro x; rfl) | cases h
  | rev e => unfold mI at h; cases h

mutual
theorem sndE : ∀ (e : E) {sc : Scope} {X : Cx} {p : Expr}, Gd Γ cl N sc X → mE Γ N e sc p = true → SE X p (evE cl e)
  | .nm i, sc, X, p, g, h => by
    unfold mE at h
    split at h
    · refine s_nm g h fun env o env' e => ?_
      unfold evE at e
      split at e
      · rename_i d q; cases e; exact ⟨rfl, .inl ⟨d, q, rfl⟩⟩
      · rename_i io d q; cases e; exact ⟨rfl, .inr ⟨rfl, _, d, q, rfl⟩⟩
      · rename_i io d q; cases e; exact ⟨rfl, .inr ⟨rfl, _, d, q, rfl⟩⟩
      · cases e
    · cases h
  | .lit d, sc, X, p, g, h => by
    unfold mE at h
    split at h
    · exact s_lit h fun env => by unfold evE; rfl
    · cases h
  | .bin op a b, sc, X, p, g, h => by
    unfold mE at h
    split at h
    · obtain ⟨h, h3⟩ := ba h
      obtain ⟨h1, h2⟩ := ba h
      have := of_decide_eq_true h1
      subst this
      refine s_bin ((sndE a g h2).b (evB_eq a)) ((sndE b g h3).b (evB_eq b)) fun env o env' e => ?_
      unfold evE at e
      simp only [bind, Option.bind_eq_some_iff, Prod.exists] at e
      obtain ⟨x, env1, e1, y, env2, e2, dx, e3, dy, e4, r, e5, e6⟩ := e
      cases e6
      exact ⟨x, env1, y, e1, e2, dx, dy, e3, e4, e5⟩
    · cases h
  | .un op a, sc, X, p, g, h => by
    unfold mE at h
    split at h
    · obtain ⟨h1, h3⟩ := ba h
      have := of_decide_eq_true h1
      subst this
      by_cases hn : op = .Not
      · subst hn
        refine s_notv ((sndE a g h3).b (evB_eq a)) fun env o env' e => ?_
        unfold evE at e
        simp only [bind, Option.bind_eq_some_iff, Prod.exists] at e
        obtain ⟨x, env1, e1, dx, e3, r, e5, e6⟩ := e
        cases e6
        exact ⟨x, e1, dx, r, e3, e5, rfl⟩
      · refine s_un hn ((sndE a g h3).b (evB_eq a)) fun env o env' e => ?_
        unfold evE at e
        simp only [bind, Option.bind_eq_some_iff, Prod.exists] at e
        obtain ⟨x, env1, e1, dx, e3, r, e5, e6⟩ := e
        cases e6
        exact ⟨x, e1, dx, r, e3, e5, rfl⟩
    · cases h
  | .cmp op a b, sc, X, p, g, h => by
    unfold mE at h
    split at h
    · obtain ⟨h, h3⟩ := ba h
      obtain ⟨h1, h2⟩ := ba h
      have := of_decide_eq_true h1
      subst this
      refine e_cmp (by have := g.hu; omega) (mE_head h3) ((sndE a g h2).b (evB_eq a)) ((sndE b g h3).b (evB_eq b)) fun env o env' e => ?_
      unfold evE at e
      simp only [bind, Option.bind_eq_some_iff, Prod.exists] at e
      obtain ⟨x, env1, e1, y, env2, e2, dx, e3, dy, e4, r, e5, e6⟩ := e
      cases e6
      exact ⟨x, env1, y, dx, dy, r, e1, e2, e3, e4, e5, rfl⟩
    · cases h
  | .cmp2 op op' a b c, sc, X, p, g, h => by
    unfold mE at h
    split at h
    · obtain ⟨h, h5⟩ := ba h
      obtain ⟨h, h4⟩ := ba h
      obtain ⟨h, h3⟩ := ba h
      obtain ⟨h1, h2⟩ := ba h
      have := of_decide_eq_true h1
      subst this
      have := of_decide_eq_true h2
      subst this
      refine e_cmp2 (by have := g.hu; omega) (mE_head h4) (mE_head h5) ((sndE a g h3).b (evB_eq a)) ((sndE b g h4).b (evB_eq b)) ((sndE c g h5).b (evB_eq c)) fun env o env3 e => ?_
      unfold evE at e
      simp only [bind, Option.bind_eq_some_iff, Prod.exists] at e
      obtain ⟨x, env1, e1, y, env2, e2, dx, e3, dy, e4, r, e5, e6⟩ := e
      cases r with
      | true =>
        simp only [if_true, Option.bind_eq_some_iff, Prod.exists] at e6
        obtain ⟨z, env4, e7, dy', e8, dz, e9, k', e10, e11⟩ := e6
        cases e11
        exact ⟨x, env1, y, env2, dx, dy, _, k', e1, e2, e3, e4, e5, .inl ⟨rfl, z, dy', dz, e7, e8, e9, e10⟩, rfl⟩
      | false =>
        cases e6
        exact ⟨x, env1, y, _, dx, dy, _, false, e1, e2, e3, e4, e5, .inr ⟨rfl, rfl, rfl⟩, rfl⟩
    · cases h
  | .and es, sc, X, p, g, h => by
    unfold mE at h
    split at h
    · exact cast (by congr 1; funext env; conv => rhs; unfold evE) (sndAnd es g h)
    · cases h
  | .or es, sc, X, p, g, h => by
    unfold mE at h
    split at h
    · exact cast (by congr 1; funext env; conv => rhs; unfold evE) (sndOr es g h)
    · cases h
  | .ifx c a b, sc, X, p, g, h => by
    unfold mE at h
    split at h
    · obtain ⟨h, h3⟩ := ba h
      obtain ⟨h1, h2⟩ := ba h
      refine s_ifx (sndC c g h1) (sndE a g h2) (sndE b g h3) fun env o env' e => ?_
      unfold evE at e
      simp only [bind, Option.bind_eq_some_iff, Prod.exists] at e
      exact e
    · cases h
  | .tup es, sc, X, p, g, h => by
    unfold mE at h
    split at h
    · refine s_tup (sndDs es g h) fun env o env' e => ?_
      unfold evE at e
      simp only [bind, Option.bind_eq_some_iff, Prod.exists] at e
      obtain ⟨ds, env1, e1, e2⟩ := e
      split at e2
      · rename_i q; cases e2; exact ⟨ds, e1, q, rfl⟩
      · cases e2
    · cases h
  | .lst es, sc, X, p, g, h => by
    unfold mE at h
    split at h
    · refine s_lst (sndDs es g h) fun env o env' e => ?_
      unfold evE at e
      simp only [bind, Option.bind_eq_some_iff, Prod.exists] at e
      obtain ⟨ds, env1, e1, e2⟩ := e
      split at e2
      · rename_i q; cases e2; exact ⟨ds, e1, q, rfl⟩
      · cases e2
    · cases h
  | .idx a b, sc, X, p, g, h => by
    unfold mE at h
    split at h
    · obtain ⟨h2, h3⟩ := ba h
      refine s_idx (by have := g.hu; omega) (mE_head h3) ((sndE a g h2).b (evB_eq a)) ((sndE b g h3).b (evB_eq b)) fun env o env' e => ?_
      unfold evE at e
      simp only [bind, Option.bind_eq_some_iff, Prod.exists] at e
      obtain ⟨x, env1, e1, y, env2, e2, dx, e3, dy, e4, r, e5, e6⟩ := e
      cases e6
      exact ⟨x, env1, y, e1, e2, dx, dy, r, e3, e4, e5, rfl⟩
    · cases h
  | .sli a lo hi, sc, X, p, g, h => by
    unfold mE at h
    split at h
    · obtain ⟨h, h3⟩ := ba h
      obtain ⟨h1, h2⟩ := ba h
      refine s_sli ((sndE a g h1).b (evB_eq a)) (sndO lo g h2) (sndO hi g h3) fun env o env' e => ?_
      unfold evE at e
      simp only [bind, Option.bind_eq_some_iff, Prod.exists] at e
      obtain ⟨x, env1, e1, l, env2, e2, u, env3, e3, dx, e4, r, e5, e6⟩ := e
      cases e6
      exact ⟨x, env1, l, env2, u, e1, e2, e3, dx, e4, e5⟩
    · cases h
  | .call f es, sc, X, p, g, h => by
    unfold mE at h
    split at h
    · obtain ⟨h, h3⟩ := ba h
      obtain ⟨h1, h2⟩ := ba h
      refine s_call g h1 h2 (sndBs es g h3) (fun e env os env1 e1 => ?_) (he_of h3) (hpl_of h3) fun env o env' e => ?_
      · subst e
        have := mEs_nil h3
        subst this
        unfold evBs at e1
        cases e1
        exact ⟨rfl, rfl⟩
      · unfold evE at e
        simp only [bind, Option.bind_eq_some_iff, Prod.exists] at e
        obtain ⟨os, env1, e1, args, e2, e3⟩ := e
        split at e3
        · rename_i q
          simp only [Option.bind_eq_some_iff, Prod.exists] at e3
          obtain ⟨r, fin, e4, e5⟩ := e3
          cases e5
          exact ⟨os, env1, args, fin, e1, e2, q, e4, rfl⟩
        · cases e3
    · cases h
  | .blt b es, sc, X, p, g, h => by
    unfold mE at h
    split at h
    · rename_i x pp ps pos
      obtain ⟨h, h4⟩ := ba h
      obtain ⟨h, h3⟩ := ba h
      obtain ⟨h1, h2⟩ := ba h
      cases ps with
      | nil => cases h3
      | cons q ps =>
        refine s_blt g (by simpa using h1) h2 (sndBs es g h4) (he_of h4 _ _ rfl) (hpl_of h4 _ _ rfl) fun env o env' e => ?_
        unfold evE at e
        simp only [bind, Option.bind_eq_some_iff, Prod.exists] at e
        obtain ⟨os, env1, e1, ds, e2, r, e3, e4⟩ := e
        cases e4
        exact ⟨os, ds, e1, e2, e3⟩
    · cases h
  | .rng tp a b, sc, X, p, g, h => by
    unfold mE at h
    split at h
    · rename_i x pp y pp2 ps pos2 pos
      obtain ⟨h, h5⟩ := ba h
      obtain ⟨h, h4⟩ := ba h
      obtain ⟨h, h3⟩ := ba h
      obtain ⟨h1, h2⟩ := ba h
      split at h5
      · obtain ⟨k1, k2⟩ := ba h5
        cases b with
        | so b => unfold mO at k2; cases k2
        | no =>
          refine s_rng1 (tp := tp) g (by cases tp <;> simpa using h1) h2 (by simpa using h3) h4 (mE_head k1) ((sndE a g k1).b (evB_eq a)) fun env o env' e => ?_
          unfold evE at e
          simp only [bind, Option.bind_eq_some_iff, Prod.exists] at e
          obtain ⟨x, env1, e1, l, env2, e2, dx, e3, i, e4, e5⟩ := e
          unfold evO at e2
          cases e2
          simp only [Option.bind_eq_some_iff] at e5
          obtain ⟨ds, e5, e6⟩ := e5
          cases e6
          have : dx = .int i := by unfold intD at e4; split at e4 <;> cases e4; rfl
          subst this
          exact ⟨x, i, ds, e1, e3, e5, rfl⟩
      · obtain ⟨k1, k2⟩ := ba h5
        cases b with
        | no => unfold mO at k2; cases k2
        | so b =>
          unfold mO at k2
          refine s_rng2 (tp := tp) g (by cases tp <;> simpa using h1) h2 (by simpa using h3) h4 (mE_head k1) (mE_head k2) ((sndE a g k1).b (evB_eq a)) ((sndE b g k2).b (evB_eq b)) fun env o env' e => ?_
          unfold evE at e
          simp only [bind, Option.bind_eq_some_iff, Prod.exists] at e
          obtain ⟨x, env1, e1, l, env2, e2, dx, e3, i, e4, e5⟩ := e
          unfold evO at e2
          simp only [bind, Option.bind_eq_some_iff, Prod.exists] at e2
          obtain ⟨y, env3, e7, dy, e8, j, e9, e10⟩ := e2
          cases e10
          simp only [Option.bind_eq_some_iff] at e5
          obtain ⟨ds, e5, e6⟩ := e5
          cases e6
          have : dx = .int i := by unfold intD at e4; split at e4 <;> cases e4; rfl
          subst this
          have : dy = .int j := by unfold intD at e9; split at e9 <;> cases e9; rfl
          subst this
          exact ⟨x, i, env1, y, j, ds, e1, e7, e3, e8, e5, rfl⟩
      · cases h5
    · cases h
  | .isi a ts, sc, X, p, g, h => by
    unfold mE at h
    split at h
    · rename_i x pp pa pt pos
      obtain ⟨h, h5⟩ := ba h
      obtain ⟨h, h4⟩ := ba h
      obtain ⟨h, h3⟩ := ba h
      obtain ⟨h1, h2⟩ := ba h
      refine s_isi g (by simpa using h1) h2 (mE_head h4) (of_decide_eq_true h3) ((sndE a g h4).b (evB_eq a)) ?_ fun env o env' e => ?_
      · split at h5
        · exact .inr ⟨_, _, _, rfl, h5⟩
        · exact .inl ⟨_, _, rfl, h5⟩
        · cases h5
      · unfold evE at e
        simp only [bind, Option.bind_eq_some_iff, Prod.exists] at e
        obtain ⟨x, env1, e1, dx, e3, e6⟩ := e
        cases e6
        exact ⟨x, dx, e1, e3, rfl⟩
    · cases h
  | .mth m i es, sc, X, p, g, h => by
    unfold mE at h
    split at h
    · obtain ⟨h, h5⟩ := ba h
      obtain ⟨h, h4⟩ := ba h
      obtain ⟨h, h3⟩ := ba h
      obtain ⟨h1, h2⟩ := ba h
      refine s_mth g h1 (by simpa using h2) h3 (sndDs es g h5) (fun e env os env1 e1 => ?_) (he_of h5) (hpl_of h5) (of_decide_eq_true h4) fun env o env' e => ?_
      · subst e
        have := mEs_nil h5
        subst this
        unfold evDs at e1
        cases e1
        exact ⟨rfl, rfl⟩
      · unfold evE at e
        simp only [bind] at e
        split at e
        · cases e
        · rename_i hq
          have hq : isOwL env i = true := by simpa using hq
          simp only [Option.bind_eq_some_iff, Prod.exists] at e
          obtain ⟨ds, env1, e1, e2⟩ := e
          refine ⟨?_, ?_⟩
          · unfold isOwL at hq
            split at hq
            · rename_i io xs q; exact ⟨io, xs, q⟩
            · cases hq
          · split at e2
            · rename_i io xs q
              simp only [Option.bind_eq_some_iff, Prod.exists] at e2
              obtain ⟨d, ys, e3, e4⟩ := e2
              cases e4
              exact ⟨ds, env1, io, xs, d, ys, e1, q, e3, rfl, rfl⟩
            · cases e2
    · cases h
  | .mt m a es, sc, X, p, g, h => by
    unfold mE at h
    cases h
  | .lc vs el t it c, sc, X, p, g, h => by
    unfold mE at h
    split at h
    · rename_i pel ptg pit pifs scope pos
      obtain ⟨h, h6⟩ := ba h
      obtain ⟨h, h5⟩ := ba h
      obtain ⟨h, h4⟩ := ba h
      obtain ⟨h, h3⟩ := ba h
      obtain ⟨h1, h2⟩ := ba h
      have ok : BlkOk X.N X.env.scope scope (vs.map fun i => (N.getD i "", i)) := by rw [g.hN, g.hsc]; exact blkOk_by h1
      have hI := sndI it g (tup_of h3) h2
      have hT : ∀ c, SG (Bk X scope c) ptg t := fun c => sg_of (gd_blk g scope c).hN (gd_blk g scope c).hsc (gd_blk g scope c).nd g.calm (fun x hx => hx) h3
      have hC := fun k => sndOC c (gd_blk g scope k) h5
      have hE := fun k => sndE el (gd_blk g scope k) h6
      intro env o env' e σ F H Q r q
      refine WE.of (pe_lc g.calm g.nd (pI X ptg pit) ok pgb ptb peb (sndFold it h2)) ?_
      refine s_lc (cl := cl) (Γ := Γ) g (pos := pos) (own_map vs) ok (sndFold it h2) hI hT hC hE (all_in h4) (f := evE cl (.lc vs el t it c)) (fun env o env' e => ?_) env o env' e σ F H Q r q
      unfold evE at e
      simp only [bind, Option.bind_eq_some_iff, Prod.exists] at e
      obtain ⟨items, lk, env1, e1, e2⟩ := e
      split at e2
      · cases e2
      · rename_i hq
        simp only [Option.bind_eq_some_iff, Prod.exists] at e2
        obtain ⟨outs, env2, e3, e4⟩ := e2
        split at e4
        · rename_i hz
          cases e4
          exact ⟨items, lk, env1, outs, env2, e1, lk_out' hq, e3, hz, rfl, rfl⟩
        · cases e4
    · cases h
  | .lc2 vs vs1 el t it c t1 it1 c1, sc, X, p, g, h => by
    unfold mE at h
    split at h
    · rename_i pel ptg pit pifs ptg1 pit1 pifs1 scope pos
      obtain ⟨h, h11⟩ := ba h
      obtain ⟨h, h10⟩ := ba h
      obtain ⟨h, h9⟩ := ba h
      obtain ⟨h, h8⟩ := ba h
      obtain ⟨h, h7⟩ := ba h
      obtain ⟨h, h6⟩ := ba h
      obtain ⟨h, h5⟩ := ba h
      obtain ⟨h, h4⟩ := ba h
      obtain ⟨h, h3⟩ := ba h
      obtain ⟨h1, h2⟩ := ba h
      have ok : BlkOk X.N X.env.scope scope (vs.map fun i => (N.getD i "", i)) := by rw [g.hN, g.hsc]; exact blkOk_by h1
      have hI := sndI it g (tup_of h4) h3
      have hT : ∀ c, SG (Bk X scope c) ptg t := fun c => sg_of (gd_blk g scope c).hN (gd_blk g scope c).hsc (gd_blk g scope c).nd g.calm (fun x hx => hx) h4
      have hC := fun k => sndOC c (gd_blk g scope k) h6
      have hI1 := fun k => sndI it1 (gd_blk g scope k) (tup_of h8) h7
      have hT1 : ∀ c, SG (Bk X scope c) ptg1 t1 := fun c => sg_of (gd_blk g scope c).hN (gd_blk g scope c).hsc (gd_blk g scope c).nd g.calm (fun x hx => hx) h8
      have hC1 := fun k => sndOC c1 (gd_blk g scope k) h10
      have hE := fun k => sndE el (gd_blk g scope k) h11
      intro env o env' e σ F H Q r q
      refine WE.of (pe_lc2 g.calm g.nd (pI X ptg pit) ok (by rw [own_map]; exact all_in h2) pgb ptb pib pgb ptb peb (sndFold it h3) (fun env => sndFold it1 h7)) ?_
      let inner : En → Option (List D × En) := fun env => do
        let (items1, lk1, env1) ← evI cl it1 env
        if !(lk1.all fun j => !vs1.contains j.1) then none
        let (ys, env2) ← lcLoop (fun env => evOC cl c1 env) (fun env => do let (o, env) ← evE cl el env; esc env o) t1 vs1 items1 (wipeE env1 vs1)
        return (ys, unlock (restE env2 env1 vs1) lk1)
      refine s_lc2 (cl := cl) (Γ := Γ) (inner := inner) g (own_map vs) hI hT hC (all_in h5) hI1 hT1 hC1 (all_in h9) hE ?_ (f := evE cl (.lc2 vs vs1 el t it c t1 it1 c1)) (fun env o env' e => ?_) env o env' e σ F H Q r q
      rotate_left
      · unfold evE at e
        simp only [bind, Option.bind_eq_some_iff, Prod.exists] at e
        obtain ⟨items, lk, env1, e1, e2⟩ := e
        split at e2
        · cases e2
        · rename_i hq
          simp only [Option.bind_eq_some_iff, Prod.exists] at e2
          obtain ⟨outs, env2, e3, e4⟩ := e2
          split at e4
          · rename_i hz
            cases e4
            exact ⟨items, lk, env1, outs, env2, e1, lk_out' hq, e3, hz, rfl, rfl⟩
          · cases e4
      · intro env ys env' e
        simp only [inner, bind, Option.bind_eq_some_iff, Prod.exists] at e
        obtain ⟨items, lk, env1, e1, e2⟩ := e
        split at e2
        · cases e2
        · rename_i hq
          simp only [Option.bind_eq_some_iff, Prod.exists] at e2
          obtain ⟨outs, env2, e3, e4⟩ := e2
          cases e4
          exact ⟨items, lk, env1, env2, e1, lk_out' hq, e3, rfl⟩
    · cases h
  | .never, sc, X, p, g, h => by
    intro env o env' e
    unfold evE at e
    cases e
  | .frz a, sc, X, p, g, h => by
    unfold mE at h
    have q := (sndE a g (ba (ba h).2).2).b (g := evE cl (.frz a)) (fun env => by rw [evE]; rfl)
    intro env o env' e σ F H Q r k
    exact q env o env' e σ F H Q r fun v F' H' p' r' hn => k v F' H' p' r' fun d hd => absurd hd (hn d)
  | .glo x d, sc, X, p, g, h => by
    unfold mE at h
    split at h
    · obtain ⟨h, h3⟩ := ba h
      obtain ⟨h1, h2⟩ := ba h
      split at h3
      · rename_i d' hc
        have ed := sameD_eq h3
        subst ed
        have e0 := eq_of_beq h1
        subst e0
        exact s_glo g h2 hc fun env => by unfold evE; rfl
      · cases h3
    · cases h
  | .attr a f, sc, X, p, g, h => by
    unfold mE at h
    split at h
    · obtain ⟨h, h3⟩ := ba h
      obtain ⟨h1, h2⟩ := ba h
      refine s_attr (by simpa using h1) h2 ((sndE a g h3).b (evB_eq a)) fun env o env' e => ?_
      unfold evE at e
      simp only [bind, Option.bind_eq_some_iff, Prod.exists] at e
      obtain ⟨x, env1, e1, dx, e2, d, e3, e4⟩ := e
      cases e4
      exact ⟨x, dx, d, e1, e2, e3, rfl⟩
    · cases h
  | .make c fi es, sc, X, p, g, h => by
    unfold mE at h
    split at h
    · obtain ⟨h, h4⟩ := ba h
      obtain ⟨h, h3⟩ := ba h
      obtain ⟨h1, h2⟩ := ba h
      refine s_make g (by simpa using h1) h2 h3 (sndBs es g h4) (fun e env os env1 e1 => ?_) (he_of h4) (hpl_of h4) fun env o env' e => ?_
      · subst e
        have := mEs_nil h4
        subst this
        unfold evBs at e1
        cases e1
        exact ⟨rfl, rfl⟩
      · unfold evE at e
        simp only [bind, Option.bind_eq_some_iff, Prod.exists] at e
        obtain ⟨os, env1, e1, args, e2, e3⟩ := e
        split at e3
        · rename_i q
          simp only [Option.bind_eq_some_iff, Prod.exists] at e3
          obtain ⟨z1, z2, e4, d, fin, e5, e6⟩ := e3
          cases e6
          exact ⟨os, env1, args, (z1, z2), d, fin, e1, e2, q, e4, e5, rfl, rfl⟩
        · cases e3
    · cases h
  | .meth c m fi a es, sc, X, p, g, h => by
    unfold mE at h
    split at h
    · obtain ⟨h, h7⟩ := ba h
      obtain ⟨h, h6⟩ := ba h
      obtain ⟨h, h5⟩ := ba h
      obtain ⟨h, h4⟩ := ba h
      obtain ⟨h, h3⟩ := ba h
      obtain ⟨h1, h2⟩ := ba h
      refine s_meth g (by simpa using h1) h2 h3 (of_decide_eq_true h4) h5 ((sndE a g h6).b (evB_eq a)) (sndBs es g h7) (fun e env os env1 e1 => ?_) (he_of h7) (hpl_of h7) fun env o env' e => ?_
      · subst e
        have := mEs_nil h7
        subst this
        unfold evBs at e1
        cases e1
        exact ⟨rfl, rfl⟩
      · unfold evE at e
        simp only [bind, Option.bind_eq_some_iff, Prod.exists] at e
        obtain ⟨x, env1, e1, d0, e2, e3⟩ := e
        split at e3
        · rename_i q0
          simp only [Option.bind_eq_some_iff, Prod.exists] at e3
          obtain ⟨os, env2, e4, args, e5, e6⟩ := e3
          split at e6
          · rename_i q
            simp only [Option.bind_eq_some_iff, Prod.exists] at e6
            obtain ⟨r, fin, e7, e8⟩ := e6
            cases e8
            exact ⟨x, env1, d0, os, env2, args, fin, e1, e2, q0, e4, e5, q, e7, rfl⟩
          · cases e6
        · cases e3
    · cases h
  | .bits a, sc, X, p, g, h => by
    unfold mE at h
    split at h
    · obtain ⟨h, h4⟩ := ba h
      obtain ⟨h, h3⟩ := ba h
      obtain ⟨h1, h2⟩ := ba h
      refine s_bits (by simpa using h1) h2 h3 ((sndE a g h4).b (evB_eq a)) fun env o env' e => ?_
      unfold evE at e
      simp only [bind, Option.bind_eq_some_iff, Prod.exists] at e
      obtain ⟨x, env1, e1, dx, e2, i, e3, e4⟩ := e
      cases e4
      have : dx = .int i := by cases dx <;> first | (cases e3; rfl) | cases e3
      subst this
      exact ⟨x, i, e1, e2, rfl⟩
    · cases h
  | .gcd a b, sc, X, p, g, h => by
    unfold mE at h
    split at h
    · obtain ⟨h, h5⟩ := ba h
      obtain ⟨h, h4⟩ := ba h
      obtain ⟨h, h3⟩ := ba h
      obtain ⟨h1, h2⟩ := ba h
      refine s_gcd g (by simpa using h1) h2 h3 (mE_head h4) (mE_head h5) ((sndE a g h4).b (evB_eq a)) ((sndE b g h5).b (evB_eq b)) fun env o env' e => ?_
      unfold evE at e
      simp only [bind, Option.bind_eq_some_iff, Prod.exists] at e
      obtain ⟨x, env1, e1, y, env2, e2, dx, e3, dy, e4, i, e5, j, e6, e7⟩ := e
      cases e7
      have t1 : dx = .int i := by cases dx <;> first | (cases e5; rfl) | cases e5
      have t2 : dy = .int j := by cases dy <;> first | (cases e6; rfl) | cases e6
      subst t1 t2
      exact ⟨x, env1, y, i, j, e1, e2, e3, e4, rfl⟩
    · cases h
  | .ixof a b, sc, X, p, g, h => by
    unfold mE at h
    split at h
    · obtain ⟨h, h5⟩ := ba h
      obtain ⟨h, h4⟩ := ba h
      obtain ⟨h, h3⟩ := ba h
      obtain ⟨h1, h2⟩ := ba h
      refine s_ixof g (by simpa using h1) h2 h3 (mE_head h5) ((sndE a g h4).b (evB_eq a)) ((sndE b g h5).b (evB_eq b)) fun env o env' e => ?_
      unfold evE at e
      simp only [bind, Option.bind_eq_some_iff, Prod.exists] at e
      obtain ⟨x, env1, e1, d0, e0, y, env2, e2, dx, e3, dy, e4, r, e5, e6⟩ := e
      cases e6
      exact ⟨x, env1, y, d0, dx, dy, r, e1, e0, e2, e3, e4, e5, rfl⟩
    · cases h
  | .inrng a b c, sc, X, p, g, h => by
    unfold mE at h
    split at h
    · obtain ⟨h, h5⟩ := ba h
      obtain ⟨h, h4⟩ := ba h
      obtain ⟨h, h3⟩ := ba h
      obtain ⟨h1, h2⟩ := ba h
      refine s_inrng g (by simpa using h1) h2 (mE_head h4) (mE_head h5) ((sndE a g h3).b (evB_eq a)) ((sndE b g h4).b (evB_eq b)) ((sndE c g h5).b (evB_eq c)) fun env o env' e => ?_
      unfold evE at e
      simp only [bind, Option.bind_eq_some_iff, Prod.exists] at e
      obtain ⟨x, env1, e1, y, env2, e2, z, env3, e3, dx, e4, dy, e5, dz, e6, i, e7, j, e8, k, e9, e10⟩ := e
      cases e10
      have t1 : dx = .int i := by cases dx <;> first | (cases e7; rfl) | cases e7
      have t2 : dy = .int j := by cases dy <;> first | (cases e8; rfl) | cases e8
      have t3 : dz = .int k := by cases dz <;> first | (cases e9; rfl) | cases e9
      subst t1 t2 t3
      exact ⟨x, env1, y, env2, z, i, j, k, e1, e2, e3, e4, e5, e6, rfl⟩
    · cases h
  | .cntof a b, sc, X, p, g, h => by
    unfold mE at h
    split at h
    · obtain ⟨h, h5⟩ := ba h
      obtain ⟨h, h4⟩ := ba h
      obtain ⟨h, h3⟩ := ba h
      obtain ⟨h1, h2⟩ := ba h
      refine s_cntof g (by simpa using h1) h2 h3 (mE_head h5) ((sndE a g h4).b (evB_eq a)) ((sndE b g h5).b (evB_eq b)) fun env o env' e => ?_
      unfold evE at e
      simp only [bind, Option.bind_eq_some_iff, Prod.exists] at e
      obtain ⟨x, env1, e1, d0, e0, y, env2, e2, dx, e3, dy, e4, r, e5, e6⟩ := e
      cases e6
      exact ⟨x, env1, y, d0, dx, dy, r, e1, e0, e2, e3, e4, e5, rfl⟩
    · cases h
  | .slen vs el t it c, sc, X, p, g, h => by
    unfold mE at h
    split at h
    · rename_i x pp pel ptg pit pifs scope pos2 pos
      obtain ⟨hh, h⟩ := ba h
      obtain ⟨hx, gx⟩ := ba hh
      obtain ⟨h, h6⟩ := ba h
      obtain ⟨h, h5⟩ := ba h
      obtain ⟨h, h4⟩ := ba h
      obtain ⟨h, h3⟩ := ba h
      obtain ⟨h1, h2⟩ := ba h
      have ok : BlkOk X.N X.env.scope scope (vs.map fun i => (N.getD i "", i)) := by rw [g.hN, g.hsc]; exact blkOk_by h1
      have hI := sndI it g (tup_of h3) h2
      have hT : ∀ c, SG (Bk X scope c) ptg t := fun c => sg_of (gd_blk g scope c).hN (gd_blk g scope c).hsc (gd_blk g scope c).nd g.calm (fun x hx => hx) h3
      have hC := fun k => sndOC c (gd_blk g scope k) h5
      have hE := fun k => sndE el (gd_blk g scope k) h6
      have hx : x = "len" := by simpa using hx
      subst hx
      obtain ⟨G, _, _, M⟩ := free_of g gx
      intro env o env' e σ F H Q r q
      refine WE.of (pe_slen g.calm g.nd G M (pI X ptg pit) ok pgb ptb peb (sndFold it h2)) ?_
      refine s_slen (cl := cl) (Γ := Γ) g (own_map vs) ok hI hT hC hE (all_in h4) (f := evE cl (.slen vs el t it c)) (fun env o env' e => ?_) env o env' e σ F H Q r q
      unfold evE at e
      simp only [bind, Option.bind_eq_some_iff, Prod.exists] at e
      obtain ⟨items, lk, env1, e1, e2⟩ := e
      split at e2
      · cases e2
      · rename_i hq
        simp only [Option.bind_eq_some_iff, Prod.exists] at e2
        obtain ⟨outs, env2, e3, ns, e4, e5⟩ := e2
        split at e5
        · rename_i hz
          cases e5
          exact ⟨items, lk, env1, outs, env2, ns, e1, lk_out' hq, e3, e4, hz, rfl, rfl⟩
        · cases e5
    · cases h
  | .dc vs ke ve t it c, sc, X, p, g, h => by
    unfold mE at h
    split at h
    · rename_i pk pv ptg pit pifs scope pos
      obtain ⟨h, h7⟩ := ba h
      obtain ⟨h, h6⟩ := ba h
      obtain ⟨h, h5⟩ := ba h
      obtain ⟨h, h4⟩ := ba h
      obtain ⟨h, h3⟩ := ba h
      obtain ⟨h1, h2⟩ := ba h
      have ok : BlkOk X.N X.env.scope scope (vs.map fun i => (N.getD i "", i)) := by rw [g.hN, g.hsc]; exact blkOk_by h1
      have hI := sndI it g (tup_of h3) h2
      have hT : ∀ c, SG (Bk X scope c) ptg t := fun c => sg_of (gd_blk g scope c).hN (gd_blk g scope c).hsc (gd_blk g scope c).nd g.calm (fun x hx => hx) h3
      have hC := fun k => sndOC c (gd_blk g scope k) h5
      have hK : ∀ k, SB (Bk X scope k) pk (evB cl ke) := fun k => (sndE ke (gd_blk g scope k) h6).b (evB_eq ke)
      have hE := fun k => sndE ve (gd_blk g scope k) h7
      intro env o env' e σ F H Q r q
      refine WE.of (pe_dc g.calm g.nd (pI X ptg pit) ok pgb ptb peb peb (sndFold it h2)) ?_
      refine s_dc (cl := cl) (Γ := Γ) g (own_map vs) hI hT hC hK hE (all_in h4) (f := evE cl (.dc vs ke ve t it c)) (fun env o env' e => ?_) env o env' e σ F H Q r q
      unfold evE at e
      simp only [bind, Option.bind_eq_some_iff, Prod.exists] at e
      obtain ⟨items, lk, env1, e1, e2⟩ := e
      split at e2
      · cases e2
      · rename_i hq
        simp only [Option.bind_eq_some_iff, Prod.exists] at e2
        obtain ⟨outs, env2, e3, ps, e4, e5⟩ := e2
        split at e5
        · rename_i hz
          cases e5
          exact ⟨items, lk, env1, outs, env2, ps, e1, lk_out' hq, e3, e4, hz, rfl, rfl⟩
        · cases e5
    · cases h
  | .dnew, sc, X, p, g, h => by
    unfold mE at h
    split at h
    · refine s_dnew fun env o env' e => ?_
      unfold evE at e
      cases e
      exact ⟨rfl, rfl⟩
    · cases h
  | .dget a k d, sc, X, p, g, h => by
    unfold mE at h
    split at h
    · obtain ⟨h, h6⟩ := ba h
      obtain ⟨h, h5⟩ := ba h
      obtain ⟨h, h4⟩ := ba h
      obtain ⟨h, h3⟩ := ba h
      obtain ⟨h1, h2⟩ := ba h
      refine s_dget (by have := g.hu; omega) (by simpa using h1) h2 h3 (mE_head h5) (mE_head h6) ((sndE a g h4).b (evB_eq a)) ((sndE k g h5).b (evB_eq k)) ((sndE d g h6).b (evB_eq d)) fun env o env' e => ?_
      unfold evE at e
      simp only [bind, Option.bind_eq_some_iff, Prod.exists] at e
      obtain ⟨x, env1, e1, d0, e2, y, env2, e3, z, env3, e4, dx, e5, dy, e6, j, e7, e8⟩ := e
      split at e8
      · rename_i ks0 ds0 ks ds
        split at e8
        · rename_i r hv
          cases e8
          exact ⟨x, env1, y, env2, z, ks0, ds0, ks, ds, dy, j, e1, e2, e3, e4, e5, e6, e7, by rw [hv]⟩
        · rename_i hv
          cases e8
          exact ⟨x, env1, y, env2, _, ks0, ds0, ks, ds, dy, j, e1, e2, e3, e4, e5, e6, e7, by rw [hv]⟩
      · cases e8
    · cases h
  | .setlen a, sc, X, p, g, h => by
    unfold mE at h
    split at h
    · obtain ⟨h, h5⟩ := ba h
      obtain ⟨h, h4⟩ := ba h
      obtain ⟨h, h3⟩ := ba h
      obtain ⟨h1, h2⟩ := ba h
      refine s_setlen g (by simpa using h1) h2 (by simpa using h3) h4 (mE_head h5) ((sndE a g h5).b (evB_eq a)) fun env o env' e => ?_
      unfold evE at e
      simp only [bind, Option.bind_eq_some_iff, Prod.exists] at e
      obtain ⟨x, env1, e1, dx, e2, xs, e25, ns, e3, e4⟩ := e
      split at e4
      · rename_i hz
        cases e4
        exact ⟨x, dx, xs, ns, e1, e2, e25, e3, hz, rfl⟩
      · cases e4
    · cases h
  | .srtset a, sc, X, p, g, h => by
    unfold mE at h
    split at h
    · obtain ⟨h, h5⟩ := ba h
      obtain ⟨h, h4⟩ := ba h
      obtain ⟨h, h3⟩ := ba h
      obtain ⟨h1, h2⟩ := ba h
      refine s_srtset g (by simpa using h1) h2 (by simpa using h3) h4 (mE_head h5) ((sndE a g h5).b (evB_eq a)) fun env o env' e => ?_
      unfold evE at e
      simp only [bind, Option.bind_eq_some_iff, Prod.exists] at e
      obtain ⟨x, env1, e1, dx, e2, xs, e25, ns, e4, e5⟩ := e
      split at e5
      · rename_i hz
        cases e5
        exact ⟨x, dx, xs, ns, e1, e2, e25, e4, hz, rfl⟩
      · cases e5
    · cases h
  | .dfl mx a d, sc, X, p, g, h => by
    unfold mE at h
    split at h
    · obtain ⟨h, h5⟩ := ba h
      obtain ⟨h, h4⟩ := ba h
      obtain ⟨h, h3⟩ := ba h
      obtain ⟨h1, h2⟩ := ba h
      refine s_dfl (mx := mx) g (by cases mx <;> simpa using h1) h2 (by simpa using h3) (mE_head h4) ((sndE a g h4).b (evB_eq a)) ((sndE d g h5).b (evB_eq d)) fun env o env' e => ?_
      unfold evE at e
      simp only [bind, Option.bind_eq_some_iff, Prod.exists] at e
      obtain ⟨x, env1, e1, y, env2, e2, dx, e3, dy, e4, e5⟩ := e
      split at e5
      · cases e5
      · rename_i hfl
        split at e5
        · simp only [Option.bind_eq_some_iff] at e5
          obtain ⟨ns, e6, e7⟩ := e5
          cases e7
          exact ⟨x, env1, y, _, ns, dy, _, e1, e2, e3, .inl rfl, e4, by simpa using hfl, e6, rfl⟩
        · split at e5
          · rename_i hmx
            simp only [Option.bind_eq_some_iff] at e5
            obtain ⟨ns, e6, e7⟩ := e5
            cases e7
            exact ⟨x, env1, y, _, ns, dy, _, e1, e2, e3, .inr ⟨hmx, rfl⟩, e4, by simpa using hfl, e6, by simp only [hmx, if_true]⟩
          · cases e5
        · cases e5
    · cases h
theorem sndBs : ∀ (es : Es) {sc : Scope} {X : Cx} {ps : List Expr}, Gd Γ cl N sc X → mEs Γ N es sc ps = true → SA X ps (evBs cl es)
  | .nil, sc, X, ps, g, h => by
    unfold mEs at h
    cases ps with
    | nil => exact sa_nil fun env => by unfold evBs; rfl
    | cons => cases h
  | .cons e es, sc, X, ps, g, h => by
    unfold mEs at h
    cases ps with
    | nil => cases h
    | cons p ps =>
      obtain ⟨h1, h2⟩ := ba h
      refine sa_cons (mE_head h1) ((sndE e g h1).b (evB_eq e)) (sndBs es g h2) fun env os env' e => ?_
      unfold evBs at e
      simp only [bind, Option.bind_eq_some_iff, Prod.exists] at e
      obtain ⟨o, env1, e1, os', env2, e2, e3⟩ := e
      cases e3
      exact ⟨o, env1, os', e1, e2, rfl⟩
theorem sndDs : ∀ (es : Es) {sc : Scope} {X : Cx} {ps : List Expr}, Gd Γ cl N sc X → mEs Γ N es sc ps = true → SD X ps (evDs cl es)
  | .nil, sc, X, ps, g, h => by
    unfold mEs at h
    cases ps with
    | nil => exact sd_nil fun env => by unfold evDs; rfl
    | cons => cases h
  | .cons e es, sc, X, ps, g, h => by
    unfold mEs at h
    cases ps with
    | nil => cases h
    | cons p ps =>
      obtain ⟨h1, h2⟩ := ba h
      refine sd_cons (mE_head h1) (sndE e g h1) (sndDs es g h2) fun env os env' e => ?_
      unfold evDs at e
      simp only [bind, Option.bind_eq_some_iff, Prod.exists] at e
      obtain ⟨o, env1, e1, d, env2, e2, ds, env3, e3, e4⟩ := e
      cases e4
      exact ⟨o, env1, d, env2, ds, e1, e2, e3, rfl⟩
theorem sndAnd : ∀ (es : Es) {sc : Scope} {X : Cx} {ps : List Expr} {pos : Pos}, Gd Γ cl N sc X → mEs Γ N es sc ps = true → SE X (.BoolOp .And ps pos) (evAnd cl es)
  | .nil, sc, X, ps, pos, g, h => by
    intro env o env' e
    unfold evAnd at e
    cases e
  | .cons e .nil, sc, X, ps, pos, g, h => by
    unfold mEs at h
    cases ps with
    | nil => cases h
    | cons p ps =>
      obtain ⟨h1, h2⟩ := ba h
      unfold mEs at h2
      cases ps with
      | nil => exact cast (by congr 1; funext env; conv => rhs; unfold evAnd) (s_one (op := .And) (pos := pos) (sndE e g h1))
      | cons => cases h2
  | .cons e (.cons e2 es), sc, X, ps, pos, g, h => by
    unfold mEs at h
    cases ps with
    | nil => cases h
    | cons p ps =>
      obtain ⟨h1, h2⟩ := ba h
      cases ps with
      | nil => unfold mEs at h2; cases h2
      | cons p2 ps =>
        refine s_and ((sndE e g h1).b (evB_eq e)) (sndAnd (.cons e2 es) g h2) fun env o env' e => ?_
        unfold evAnd at e
        simp only [bind, Option.bind_eq_some_iff, Prod.exists] at e
        obtain ⟨x, env1, e1, dx, e2, k, e3, e4⟩ := e
        have : dx = .bl k := by unfold blD at e3; split at e3 <;> cases e3; rfl
        subst this
        refine ⟨x, env1, k, e1, e2, ?_⟩
        cases k with
        | true => exact .inl ⟨rfl, by simpa using e4⟩
        | false => cases e4; exact .inr ⟨rfl, rfl, rfl⟩
theorem sndOr : ∀ (es : Es) {sc : Scope} {X : Cx} {ps : List Expr} {pos : Pos}, Gd Γ cl N sc X → mEs Γ N es sc ps = true → SE X (.BoolOp .Or ps pos) (evOr cl es)
  | .nil, sc, X, ps, pos, g, h => by
    intro env o env' e
    unfold evOr at e
    cases e
  | .cons e .nil, sc, X, ps, pos, g, h => by
    unfold mEs at h
    cases ps with
    | nil => cases h
    | cons p ps =>
      obtain ⟨h1, h2⟩ := ba h
      unfold mEs at h2
      cases ps with
      | nil => exact cast (by congr 1; funext env; conv => rhs; unfold evOr) (s_one (op := .Or) (pos := pos) (sndE e g h1))
      | cons => cases h2
  | .cons e (.cons e2 es), sc, X, ps, pos, g, h => by
    unfold mEs at h
    cases ps with
    | nil => cases h
    | cons p ps =>
      obtain ⟨h1, h2⟩ := ba h
      cases ps with
      | nil => unfold mEs at h2; cases h2
      | cons p2 ps =>
        refine s_or ((sndE e g h1).b (evB_eq e)) (sndOr (.cons e2 es) g h2) fun env o env' e => ?_
        unfold evOr at e
        simp only [bind, Option.bind_eq_some_iff, Prod.exists] at e
        obtain ⟨x, env1, e1, dx, e2, k, e3, e4⟩ := e
        have : dx = .bl k := by unfold blD at e3; split at e3 <;> cases e3; rfl
        subst this
        refine ⟨x, env1, k, e1, e2, ?_⟩
        cases k with
        | false => exact .inl ⟨rfl, by simpa using e4⟩
        | true => cases e4; exact .inr ⟨rfl, rfl, rfl⟩
theorem sndO : ∀ (o : OE) {sc : Scope} {X : Cx} {p : Option Expr}, Gd Γ cl N sc X → mO Γ N o sc p = true → SO X p (evO cl o)
  | .no, sc, X, p, g, h => by
    unfold mO at h
    cases p with
    | none => exact so_none fun env => by unfold evO; rfl
    | some => cases h
  | .so e, sc, X, p, g, h => by
    unfold mO at h
    cases p with
    | none => cases h
    | some p =>
      refine so_some ((sndE e g h).b (evB_eq e)) fun env o env' e => ?_
      unfold evO at e
      simp only [bind, Option.bind_eq_some_iff, Prod.exists] at e
      obtain ⟨x, env1, e1, d, e2, i, e3, e4⟩ := e
      cases e4
      have : d = .int i := by unfold intD at e3; split at e3 <;> cases e3; rfl
      subst this
      exact ⟨x, i, e1, e2, rfl⟩
theorem sndC : ∀ (c : C) {sc : Scope} {X : Cx} {p : Expr}, Gd Γ cl N sc X → mC Γ N c sc p = true → SC X p (evC cl c)
  | .ifc c a b, sc, X, p, g, h => by
    unfold mC at h
    split at h
    · obtain ⟨h, h5⟩ := ba h
      obtain ⟨h, h4⟩ := ba h
      obtain ⟨h, h3⟩ := ba h
      obtain ⟨h1, h2⟩ := ba h
      refine c_ifx h1 h2 (sndC c g h3) ((sndE a g h4).b (evB_eq a)) ((sndE b g h5).b (evB_eq b)) fun env o env' e => ?_
      unfold evC at e
      simp only [bind, Option.bind_eq_some_iff, Prod.exists] at e
      obtain ⟨r, env1, e1, e2⟩ := e
      cases r with
      | true =>
        simp only [if_true, Option.bind_eq_some_iff, Prod.exists] at e2
        obtain ⟨x, env2, e2, d, e3, k, e4, e5⟩ := e2
        cases e5
        have : d = .bl o := by unfold blD at e4; split at e4 <;> cases e4; rfl
        subst this
        exact ⟨true, env1, e1, x, by rw [if_pos rfl]; exact e2, e3⟩
      | false =>
        simp only [Bool.false_eq_true, if_false, Option.bind_eq_some_iff, Prod.exists] at e2
        obtain ⟨x, env2, e2, d, e3, k, e4, e5⟩ := e2
        cases e5
        have : d = .bl o := by unfold blD at e4; split at e4 <;> cases e4; rfl
        subst this
        exact ⟨false, env1, e1, x, by rw [if_neg (by decide)]; exact e2, e3⟩
    · cases h
  | .val e, sc, X, p, g, h => by
    unfold mC at h
    obtain ⟨h1, h2⟩ := ba h
    refine c_val h1 ((sndE e g h2).b (evB_eq e)) fun env o env' e => ?_
    unfold evC at e
    simp only [bind, Option.bind_eq_some_iff, Prod.exists] at e
    obtain ⟨x, env1, e1, d, e2, k, e3, e4⟩ := e
    cases e4
    have : d = .bl o := by unfold blD at e3; split at e3 <;> cases e3; rfl
    subst this
    exact ⟨x, e1, e2⟩
  | .and cs, sc, X, p, g, h => by
    unfold mC at h
    split at h
    · exact cast (by congr 1; funext env; conv => rhs; unfold evC) (sndCand cs g h).c
    · cases h
  | .or cs, sc, X, p, g, h => by
    unfold mC at h
    split at h
    · exact cast (by congr 1; funext env; conv => rhs; unfold evC) (sndCor cs g h).c
    · cases h
  | .not c, sc, X, p, g, h => by
    unfold mC at h
    split at h
    · refine c_not (sndC c g h) fun env o env' e => ?_
      unfold evC at e
      simp only [bind, Option.bind_eq_some_iff, Prod.exists] at e
      obtain ⟨k, env1, e1, e4⟩ := e
      cases e4
      exact ⟨k, e1, rfl⟩
    · cases h
  | .cmp op a b, sc, X, p, g, h => by
    unfold mC at h
    split at h
    · obtain ⟨h, h3⟩ := ba h
      obtain ⟨h1, h2⟩ := ba h
      have := of_decide_eq_true h1
      subst this
      refine c_cmp (by have := g.hu; omega) (mE_head h3) ((sndE a g h2).b (evB_eq a)) ((sndE b g h3).b (evB_eq b)) fun env o env' e => ?_
      unfold evC at e
      simp only [bind, Option.bind_eq_some_iff, Prod.exists] at e
      obtain ⟨x, env1, e1, y, env2, e2, dx, e3, dy, e4, r, e5, e6⟩ := e
      cases e6
      exact ⟨x, env1, y, dx, dy, e1, e2, e3, e4, e5⟩
    · cases h
  | .cmp2 op op' a b c, sc, X, p, g, h => by
    unfold mC at h
    split at h
    · obtain ⟨h, h5⟩ := ba h
      obtain ⟨h, h4⟩ := ba h
      obtain ⟨h, h3⟩ := ba h
      obtain ⟨h1, h2⟩ := ba h
      have := of_decide_eq_true h1
      subst this
      have := of_decide_eq_true h2
      subst this
      refine c_cmp2 (by have := g.hu; omega) (mE_head h4) (mE_head h5) ((sndE a g h3).b (evB_eq a)) ((sndE b g h4).b (evB_eq b)) ((sndE c g h5).b (evB_eq c)) fun env o env3 e => ?_
      unfold evC at e
      simp only [bind, Option.bind_eq_some_iff, Prod.exists] at e
      obtain ⟨x, env1, e1, y, env2, e2, dx, e3, dy, e4, r, e5, e6⟩ := e
      cases r with
      | true =>
        simp only [if_true, Option.bind_eq_some_iff, Prod.exists] at e6
        obtain ⟨z, env4, e7, dy', e8, dz, e9, k', e10, e11⟩ := e6
        cases e11
        exact ⟨x, env1, y, env2, dx, dy, _, _, e1, e2, e3, e4, e5, .inl ⟨rfl, z, dy', dz, e7, e8, e9, e10⟩, rfl⟩
      | false =>
        cases e6
        exact ⟨x, env1, y, _, dx, dy, _, false, e1, e2, e3, e4, e5, .inr ⟨rfl, rfl, rfl⟩, rfl⟩
    · cases h
theorem sndCand : ∀ (cs : Cs) {sc : Scope} {X : Cx} {ps : List Expr} {pos : Pos}, Gd Γ cl N sc X → mCs Γ N cs sc ps = true → SCw X (.BoolOp .And ps pos) (evCand cl cs)
  | .nil, sc, X, ps, pos, g, h => by
    intro env o env' e
    unfold evCand at e
    cases e
  | .cons e .nil, sc, X, ps, pos, g, h => by
    unfold mCs at h
    cases ps with
    | nil => cases h
    | cons p ps =>
      obtain ⟨h1, h2⟩ := ba h
      unfold mCs at h2
      cases ps with
      | nil => exact cast (by congr 1; funext env; conv => rhs; unfold evCand) (c_and1 (pos := pos) (sndC e g h1))
      | cons => cases h2
  | .cons e (.cons e2 es), sc, X, ps, pos, g, h => by
    unfold mCs at h
    cases ps with
    | nil => cases h
    | cons p ps =>
      obtain ⟨h1, h2⟩ := ba h
      cases ps with
      | nil => unfold mCs at h2; cases h2
      | cons p2 ps =>
        refine c_and (sndC e g h1) (sndCand (.cons e2 es) g h2) fun env o env' e => ?_
        unfold evCand at e
        simp only [bind, Option.bind_eq_some_iff, Prod.exists] at e
        obtain ⟨k, env1, e1, e4⟩ := e
        refine ⟨k, env1, e1, ?_⟩
        cases k with
        | true => exact .inl ⟨rfl, by simpa using e4⟩
        | false => cases e4; exact .inr ⟨rfl, rfl, rfl⟩
theorem sndCor : ∀ (cs : Cs) {sc : Scope} {X : Cx} {ps : List Expr} {pos : Pos}, Gd Γ cl N sc X → mCs Γ N cs sc ps = true → SCw X (.BoolOp .Or ps pos) (evCor cl cs)
  | .nil, sc, X, ps, pos, g, h => by
    intro env o env' e
    unfold evCor at e
    cases e
  | .cons e .nil, sc, X, ps, pos, g, h => by
    unfold mCs at h
    cases ps with
    | nil => cases h
    | cons p ps =>
      obtain ⟨h1, h2⟩ := ba h
      unfold mCs at h2
      cases ps with
      | nil => exact cast (by congr 1; funext env; conv => rhs; unfold evCor) (c_or1 (pos := pos) (sndC e g h1))
      | cons => cases h2
  | .cons e (.cons e2 es), sc, X, ps, pos, g, h => by
    unfold mCs at h
    cases ps with
    | nil => cases h
    | cons p ps =>
      obtain ⟨h1, h2⟩ := ba h
      cases ps with
      | nil => unfold mCs at h2; cases h2
      | cons p2 ps =>
        refine c_or (sndC e g h1) (sndCor (.cons e2 es) g h2) fun env o env' e => ?_
        unfold evCor at e
        simp only [bind, Option.bind_eq_some_iff, Prod.exists] at e
        obtain ⟨k, env1, e1, e4⟩ := e
        refine ⟨k, env1, e1, ?_⟩
        cases k with
        | false => exact .inl ⟨rfl, by simpa using e4⟩
        | true => cases e4; exact .inr ⟨rfl, rfl, rfl⟩
theorem sndOC : ∀ (c : OC) {sc : Scope} {X : Cx} {ps : List Expr}, Gd Γ cl N sc X → mOC Γ N c sc ps = true → SOC X ps (evOC cl c)
  | .no, sc, X, ps, g, h => by
    unfold mOC at h
    cases ps with
    | nil => exact soc_no fun env => by unfold evOC; rfl
    | cons => cases h
  | .so c, sc, X, ps, g, h => by
    unfold mOC at h
    split at h
    · exact cast (by congr 1; funext env; conv => rhs; unfold evOC) (soc_so (sndC c g h))
    · cases h
theorem sndI : ∀ (i : I) {tp : Bool} {sc : Scope} {X : Cx} {tg p : Expr}, Gd Γ cl N sc X → (tp = true → ∃ elts kk tpos, tg = .Tuple elts kk tpos) → mI Γ N i tp sc p = true → SI X tg p (evI cl i)
  | .seq e, tp, sc, X, tg, p, g, ht, h => by
    unfold mI at h
    refine si_seq ((sndE e g h).b (evB_eq e)) fun env items lk env' e => ?_
    unfold evI at e
    simp only [bind, Option.bind_eq_some_iff, Prod.exists] at e
    obtain ⟨o, env1, e1, d, e2, ds, e3, e4⟩ := e
    cases e4
    exact ⟨o, env1, d, e1, e2, e3, rfl⟩
  | .rgv i, tp, sc, X, tg, p, g, ht, h => by
    unfold mI at h
    split at h
    · refine si_rgv g h fun env items lk env' e => ?_
      unfold evI at e
      split at e
      · rename_i lo hi q
        simp only [bind, Option.bind_eq_some_iff] at e
        obtain ⟨ds, e1, e2⟩ := e
        cases e2
        exact ⟨lo, hi, q, e1, rfl, rfl⟩
      · cases e
    · cases h
  | .rng1 a, tp, sc, X, tg, p, g, ht, h => by
    unfold mI at h
    split at h
    · obtain ⟨h, h3⟩ := ba h
      obtain ⟨h1, h2⟩ := ba h
      refine si_rng1 g (by simpa using h1) h2 (mE_head h3) ((sndE a g h3).b (evB_eq a)) fun env items lk env' e => ?_
      unfold evI at e
      simp only [bind, Option.bind_eq_some_iff, Prod.exists] at e
      obtain ⟨o, env1, e1, d, e2, i, e3, ds, e4, e5⟩ := e
      cases e5
      have : d = .int i := by unfold intD at e3; split at e3 <;> cases e3; rfl
      subst this
      exact ⟨o, i, e1, e2, e4, rfl⟩
    · cases h
  | .rng2 a b, tp, sc, X, tg, p, g, ht, h => by
    unfold mI at h
    split at h
    · obtain ⟨h, h4⟩ := ba h
      obtain ⟨h, h3⟩ := ba h
      obtain ⟨h1, h2⟩ := ba h
      refine si_rng2 g (by simpa using h1) h2 (mE_head h3) (mE_head h4) ((sndE a g h3).b (evB_eq a)) ((sndE b g h4).b (evB_eq b)) fun env items lk env' e => ?_
      unfold evI at e
      simp only [bind, Option.bind_eq_some_iff, Prod.exists] at e
      obtain ⟨o, env1, e1, u, env2, e2, d, e3, d2, e4, i, e5, j, e6, ds, e7, e8⟩ := e
      cases e8
      have : d = .int i := by unfold intD at e5; split at e5 <;> cases e5; rfl
      subst this
      have : d2 = .int j := by unfold intD at e6; split at e6 <;> cases e6; rfl
      subst this
      exact ⟨o, i, env1, u, j, e1, e2, e3, e4, e7, rfl⟩
    · cases h
  | .rng3 a b c, tp, sc, X, tg, p, g, ht, h => by
    unfold mI at h
    split at h
    · obtain ⟨h, h5⟩ := ba h
      obtain ⟨h, h4⟩ := ba h
      obtain ⟨h, h3⟩ := ba h
      obtain ⟨h1, h2⟩ := ba h
      refine si_rng3 g (by simpa using h1) h2 (mE_head h3) (mE_head h4) (mE_head h5) ((sndE a g h3).b (evB_eq a)) ((sndE b g h4).b (evB_eq b)) ((sndE c g h5).b (evB_eq c)) fun env items lk env' e => ?_
      unfold evI at e
      simp only [bind, Option.bind_eq_some_iff, Prod.exists] at e
      obtain ⟨o, env1, e1, u, env2, e2, z, env3, e3, d, e4, d2, e5, d3, e6, i, e7, j, e8, k, e9, e10⟩ := e
      split at e10
      · rename_i hk
        simp only [Option.bind_eq_some_iff] at e10
        obtain ⟨ds, e11, e12⟩ := e10
        cases e12
        have : d = .int i := by unfold intD at e7; split at e7 <;> cases e7; rfl
        subst this
        have : d2 = .int j := by unfold intD at e8; split at e8 <;> cases e8; rfl
        subst this
        have : d3 = .int k := by unfold intD at e9; split at e9 <;> cases e9; rfl
        subst this hk
        exact ⟨o, i, env1, u, j, env2, z, e1, e2, e3, e4, e5, e6, e11, rfl⟩
      · cases e10
    · cases h
  | .revr a, tp, sc, X, tg, p, g, ht, h => by
    unfold mI at h
    split at h
    · obtain ⟨h, h5⟩ := ba h
      obtain ⟨h, h4⟩ := ba h
      obtain ⟨h, h3⟩ := ba h
      obtain ⟨h1, h2⟩ := ba h
      refine si_revr g (by simpa using h1) h2 (by simpa using h3) h4 (mE_head h5) ((sndE a g h5).b (evB_eq a)) fun env items lk env' e => ?_
      unfold evI at e
      simp only [bind, Option.bind_eq_some_iff, Prod.exists] at e
      obtain ⟨o, env1, e1, d, e2, j, e3, e4⟩ := e
      split at e4
      · rename_i hj
        simp only [Option.bind_eq_some_iff] at e4
        obtain ⟨ds, e5, e6⟩ := e4
        cases e6
        have : d = .int j := by unfold intD at e3; split at e3 <;> cases e3; rfl
        subst this
        exact ⟨o, j, e1, e2, e5, hj, rfl⟩
      · cases e4
    · cases h
  | .enum e, tp, sc, X, tg, p, g, ht, h => by
    unfold mI at h
    split at h
    · obtain ⟨h, h4⟩ := ba h
      obtain ⟨h, h3⟩ := ba h
      obtain ⟨h1, h2⟩ := ba h
      obtain ⟨elts, kk, tpos, rfl⟩ := ht h1
      refine si_enum g (by simpa using h2) h3 (mE_head h4) ((sndE e g h4).b (evB_eq e)) fun env items lk env' e => ?_
      unfold evI at e
      simp only [bind, Option.bind_eq_some_iff, Prod.exists] at e
      obtain ⟨o, env1, e1, d, e2, ds, e3, e4⟩ := e
      cases e4
      exact ⟨o, env1, d, ds, e1, e2, e3, rfl, rfl⟩
    · cases h
  | .zip a b, tp, sc, X, tg, p, g, ht, h => by
    unfold mI at h
    split at h
    · obtain ⟨h, h5⟩ := ba h
      obtain ⟨h, h4⟩ := ba h
      obtain ⟨h, h3⟩ := ba h
      obtain ⟨h1, h2⟩ := ba h
      obtain ⟨elts, kk, tpos, rfl⟩ := ht h1
      refine si_zip g (by simpa using h2) h3 (mE_head h4) (mE_head h5) ((sndE a g h4).b (evB_eq a)) ((sndE b g h5).b (evB_eq b)) fun env items lk env' e => ?_
      unfold evI at e
      simp only [bind, Option.bind_eq_some_iff, Prod.exists] at e
      obtain ⟨o, env1, e1, u, env2, e2, d, e3, d2, e4, ds, e5, e6⟩ := e
      cases e6
      exact ⟨o, env1, u, env2, d, d2, e1, e2, e3, e4, e5, rfl, rfl⟩
    · cases h
  | .zip3 a b c, tp, sc, X, tg, p, g, ht, h => by
    unfold mI at h
    split at h
    · obtain ⟨h, h6⟩ := ba h
      obtain ⟨h, h5⟩ := ba h
      obtain ⟨h, h4⟩ := ba h
      obtain ⟨h, h3⟩ := ba h
      obtain ⟨h1, h2⟩ := ba h
      obtain ⟨elts, kk, tpos, rfl⟩ := ht h1
      refine si_zip3 g (by simpa using h2) h3 (mE_head h4) (mE_head h5) (mE_head h6) ((sndE a g h4).b (evB_eq a)) ((sndE b g h5).b (evB_eq b)) ((sndE c g h6).b (evB_eq c)) fun env items lk env' e => ?_
      unfold evI at e
      simp only [bind, Option.bind_eq_some_iff, Prod.exists] at e
      obtain ⟨o, env1, e1, u, env2, e2, o3, env3, e3, d, e4, d2, e5, d3, e6, ds, e7, e8⟩ := e
      cases e8
      exact ⟨o, env1, u, env2, o3, env3, d, d2, d3, e1, e2, e3, e4, e5, e6, e7, rfl, rfl⟩
    · cases h
  | .rev e, tp, sc, X, tg, p, g, ht, h => by
    unfold mI at h
    cases h
end
end
end VI
namespace VI
open PySem PySem.Spec L2

mutual
inductive S where
  | set (i : Nat) (e : E) | unp (t : T) (e : E) | par (i j : Nat) (a b : E) | put (i : Nat) (k e : E) | dput (i : Nat) (k e : E) | setrg (i : Nat) (a : E) | seta (i : Nat) (f : Str) (e : E) | inc (i : Nat) (e : E)
  | expr (e : E) | ret (e : E) | retn | ifs (c : C) (a b : Ss) | fo (t : T) (it : I) (b : Ss) | whi (c : C) (b : Ss) | brk | cont | pass | doc | never
inductive Ss where | nil | cons (s : S) (ss : Ss)
end
/-- how a statement ends -/
inductive Fl where | nx (env : En) | bk (env : En) | ct (env : En) | rt (o : Op) (env : En)

def stO (env : En) (i : Nat) : Op → Option En
  | .v d => putS env i (.fz d)
  | .nw d => putS env i (.ow false d)
  | .p j => (esc env (.p j)).bind fun z => putS z.2 i (.fz z.1)
def retO (env : En) : Op → Option (Op × En)
  | .v d => some (.v d, env)
  | .nw d => some (.nw d, env)
  | .p i => match env[i]? with
    | some (.fz d) => some (.v d, env)
    | some (.ow false d) => some (.nw d, env.set i .un)
    | _ => none
def foLoop (body : En → Option Fl) (t : T) : List D → En → Option Fl
  | [], env => some (.nx env)
  | d :: ds, env => (t.put env d).bind fun env => (body env).bind fun fl => match fl with
    | .nx env => foLoop body t ds env
    | .ct env => foLoop body t ds env
    | .bk env => some (.nx env)
    | .rt o env => some (.rt o env)
def whLoop (c : En → Option (Bool × En)) (body : En → Option Fl) : Nat → En → Option Fl
  | 0, _ => none
  | n + 1, env => (c env).bind fun z => if z.1 = true then (body z.2).bind fun fl => match fl with
    | .nx env => whLoop c body n env
    | .ct env => whLoop c body n env
    | .bk env => some (.nx env)
    | .rt o env => some (.rt o env) else some (.nx z.2)
open Classical in
noncomputable def whE (c : En → Option (Bool × En)) (body : En → Option Fl) (env : En) : Option Fl :=
  if h : ∃ n fl, whLoop c body n env = some fl then some h.choose_spec.choose else none
theorem whE_ex {c : En → Option (Bool × En)} {body : En → Option Fl} {env : En} {fl : Fl} (h : whE c body env = some fl) : ∃ n, whLoop c body n env = some fl := by
  unfold whE at h
  split at h
  · rename_i q
    cases h
    exact ⟨_, q.choose_spec.choose_spec⟩
  · cases h
theorem whLoop_more {c : En → Option (Bool × En)} {body : En → Option Fl} : ∀ {n m : Nat} {env : En} {fl : Fl}, whLoop c body n env = some fl → n ≤ m → whLoop c body m env = some fl
  | 0, _, _, _, h, _ => by cases h
  | n + 1, 0, _, _, _, h => by omega
  | n + 1, m + 1, env, fl, h, hm => by
    simp only [whLoop, Option.bind_eq_some_iff] at h ⊢
    obtain ⟨z, h1, h2⟩ := h
    refine ⟨z, h1, ?_⟩
    cases hz : z.1 with
    | false => rw [hz] at h2; exact h2
    | true =>
      rw [hz] at h2
      simp only [if_true, Option.bind_eq_some_iff] at h2 ⊢
      obtain ⟨f, h3, h4⟩ := h2
      refine ⟨f, h3, ?_⟩
      cases f with
      | nx e => exact whLoop_more h4 (by omega)
      | ct e => exact whLoop_more h4 (by omega)
      | bk e => exact h4
      | rt o e => exact h4
theorem whE_of {c : En → Option (Bool × En)} {body : En → Option Fl} {n : Nat} {env : En} {fl : Fl} (h : whLoop c body n env = some fl) : whE c body env = some fl := by
  have q : ∃ n fl, whLoop c body n env = some fl := ⟨n, fl, h⟩
  have e : whE c body env = some q.choose_spec.choose := by unfold whE; rw [dif_pos q]
  rw [e]
  have h2 := q.choose_spec.choose_spec
  have a := whLoop_more h (Nat.le_max_left n q.choose)
  have b := whLoop_more h2 (Nat.le_max_right n q.choose)
  rw [a] at b
  exact b.symm
def Fl.free (lk : List (Nat × Bool)) : Fl → Fl
  | .nx e => .nx (unlock e lk)
  | .bk e => .bk (unlock e lk)
  | .ct e => .ct (unlock e lk)
  | .rt o e => .rt o (unlock e lk)
section
variable (cl : CallF)
mutual
noncomputable def evS : S → En → Option Fl
  | .set i e, env => do
    let (o, env) ← evE cl e env
    let env ← stO env i o
    return .nx env
  | .unp t e, env => do
    let (o, env) ← evE cl e env
    let (d, env) ← esc env o
    let env ← t.put env d
    return .nx env
  | .par i j a b, env => do
    let (ds, env) ← evDs cl (.cons a (.cons b .nil)) env
    match ds with
    | [x, y] => do
      let env ← putS env i (.fz x)
      let env ← putS env j (.fz y)
      return .nx env
    | _ => none
  | .put i k e, env => do
    let (o, env) ← evE cl e env
    let (d, env) ← esc env o
    if !isOwL env i then none
    let (o2, env) ← evB cl k env
    let dk ← rd env o2
    let n ← intD dk
    match env[i]? with
    | some (.ow io (.lst xs)) => do
      let j ← ixN xs.length n
      return .nx (env.set i (.ow io (.lst (xs.set j d))))
    | _ => none
  | .dput i k e, env => do
    let (o, env) ← evE cl e env
    let (d, env) ← esc env o
    if !isOwK env i then none
    let (o2, env) ← evB cl k env
    let dk ← rd env o2
    let j ← keyD dk
    match env[i]? with
    | some (.ow io (.dk ks ds)) => if ks.length < sizeLine then some (.nx (env.set i (.ow io (.dk (putDk j d ks ds).1 (putDk j d ks ds).2)))) else none
    | _ => none
  | .setrg i a, env => do
    let (x, env) ← evB cl a env
    let dx ← rd env x
    let n ← intD dx
    let env ← putS env i (.rg 0 n)
    return .nx env
  | .seta i f e, env => do
    let (o, env) ← evE cl e env
    let (d, env) ← esc env o
    match env[i]? with
    | some (.ow io d0) => do
      let d1 ← setaS f d d0
      return .nx (env.set i (.ow io d1))
    | _ => none
  | .inc i e, env => do
    match env[i]? with
    | some (.fz (.int a)) => do
      let (o, env) ← evB cl e env
      let d ← rd env o
      let b ← intD d
      let env ← putS env i (.fz (.int (a + b)))
      return .nx env
    | _ => none
  | .expr e, env => do
    let (_, env) ← evE cl e env
    return .nx env
  | .ret e, env => do
    let (o, env) ← evE cl e env
    let (o, env) ← retO env o
    return .rt o env
  | .retn, env => some (.rt (.v .non) env)
  | .ifs c a b, env => do
    let (k, env) ← evC cl c env
    if k then evSs a env else evSs b env
  | .fo t it b, env => do
    let (items, lk, env) ← evI cl it env
    let fl ← foLoop (fun env => evSs b env) t items env
    return fl.free lk
  | .whi c b, env => whE (fun env => evC cl c env) (fun env => evSs b env) env
  | .brk, env => some (.bk env)
  | .cont, env => some (.ct env)
  | .pass, env => some (.nx env)
  | .doc, env => some (.nx env)
  | .never, _ => none
noncomputable def evSs : Ss → En → Option Fl
  | .nil, env => some (.nx env)
  | .cons s ss, env => do
    let fl ← evS s env
    match fl with
    | .nx env => evSs ss env
    | fl => some fl
end
end

def swB (sc : Scope) (y : Str) (py : Pos) (p : Expr) : Bool := match p with
  | .ListComp _ _ scope pos => sc.names.lookup y == some .local && py.line == pos.line && !(scope.names.any fun (n, k) => n == y && (k == .local || k == .cell))
  | .DictComp _ _ _ scope pos => sc.names.lookup y == some .local && py.line == pos.line && !(scope.names.any fun (n, k) => n == y && (k == .local || k == .cell))
  | _ => false
def isLc : Expr → Bool
  | .ListComp _ _ _ _ => true
  | .DictComp _ _ _ _ _ => true
  | _ => false
def parB (sc : Scope) (x y : Str) (px py : Pos) (pa pb : Expr) : Bool :=
  sc.names.lookup x == some .local && sc.names.lookup y == some .local && py.line == px.line && !(x == y) && !(foldedForSure 8 pa && foldedForSure 8 pb) && !(constantsAlone 8 pa && constantsAlone 8 pb)
section
variable (Γ : Gm) (N : List Str) (sc : Scope)
mutual
def mS : S → Stmt → Bool
  | .set i e, st => match st with
    | .Assign [.Name x py] p pos => tnB N sc (fun _ => true) i x && mE Γ N e sc p
    | _ => false
  | .unp t e, st => match st with
    | .Assign [.Tuple es k tp] p pos => mT N sc (fun _ => true) t (.Tuple es k tp) && mE Γ N e sc p && (match p with | .Tuple _ _ _ => false | _ => true)
    | _ => false
  | .par i j a b, st => match st with
    | .Assign [.Tuple [.Name x px, .Name y py] kt pt] (.Tuple [pa, pb] k2 pt2) pos => N[i]? == some x && N[j]? == some y && !(i == j) && parB sc x y px py pa pb && mE Γ N a sc pa && mE Γ N b sc pb
    | _ => false
  | .put i k e, st => match st with
    | .Assign [.Subscript (.Name x px) pk p2] p pos => nmB N sc i x && mE Γ N k sc pk && mE Γ N e sc p
    | _ => false
  | .dput i k e, st => match st with
    | .Assign [.Subscript (.Name x px) pk p2] p pos => nmB N sc i x && mE Γ N k sc pk && mE Γ N e sc p
    | _ => false
  | .setrg i a, st => match st with
    | .Assign [.Name x py] (.Call (.Name y pp) [pa] [] pos2) pos => tnB N sc (fun _ => true) i x && y == ("range" : Str) && freeB Γ sc y && mE Γ N a sc pa
    | _ => false
  | .seta i f e, st => match st with
    | .Assign [.Attribute (.Name x px) n apos] p pos => n == f && nmB N sc i x && mE Γ N e sc p
    | _ => false
  | .inc i e, st => match st with
    | .AugAssign (.Name x px) .Add p pos => tnB N sc (fun _ => true) i x && mE Γ N e sc p
    | _ => false
  | .expr e, st => match st with
    | .Expr p pos => !isLc p && mE Γ N e sc p
    | _ => false
  | .ret e, st => match st with
    | .Return (some p) pos => mE Γ N e sc p
    | _ => false
  | .retn, st => match st with
    | .Return none pos => true
    | _ => false
  | .ifs c a b, st => match st with
    | .If pc pa pb pos => mC Γ N c sc pc && mSs a pa && mSs b pb
    | _ => false
  | .fo t it b, st => match st with
    | .For tg pit body [] pos => mI Γ N it t.isTup sc pit && mT N sc (fun _ => true) t tg && mSs b body
    | _ => false
  | .whi c b, st => match st with
    | .While pc body [] pos => mC Γ N c sc pc && mSs b body
    | _ => false
  | .brk, st => match st with
    | .Break _ => true
    | _ => false
  | .cont, st => match st with
    | .Continue _ => true
    | _ => false
  | .pass, st => match st with
    | .Pass _ => true
    | _ => false
  | .doc, st => match st with
    | .Expr (.Constant (.str _) _ _) _ => true
    | _ => false
  | .never, _ => true
def mSs : Ss → List Stmt → Bool
  | .nil, ps => ps.isEmpty
  | .cons s ss, ps => match ps with
    | p :: ps => mS s p && mSs ss ps
    | [] => false
end
end

/-- nothing but a slot of this def holds it, or it is new -/
def Sl.mine : Sl → Option VI.D
  | .ow false d => some d
  | .lk false d => some d
  | _ => none
def Fr (env : En) (σ : Slots) (H : Hp) (a : Addr) : Prop := H a = none ∨ ∃ (i : Nat) (s : Sl) (d : VI.D), env[i]? = some s ∧ s.mine = some d ∧ σ[i]? = some (some (.ref a))
theorem mine_own {s : Sl} {d : VI.D} (h : s.mine = some d) : s.own = some d := by
  unfold Sl.mine at h
  split at h
  · exact h
  · exact h
  · cases h
def EOk (K : PySem.W.Frag) (F : FS) (H : Hp) (env : En) (σ : Slots) (D : Ends) : Fl → Prop
  | .nx e => ∀ σ' F' H', Pst K F H env σ F' H' e σ' → D.nx σ' H'
  | .bk e => ∀ σ' F' H', Pst K F H env σ F' H' e σ' → D.bk σ' H'
  | .ct e => ∀ σ' F' H', Pst K F H env σ F' H' e σ' → D.ct σ' H'
  | .rt o e => ∀ v σ' F' H', Pst K F H env σ F' H' e σ' → RelOp K F' H' σ' o v → (∀ i, o ≠ .p i) → (∀ d, o = .nw d → ∀ a, v = .ref a → Fr env σ H a ∧ ¬ OA e σ' a) → D.rt v H'
section
variable {K : PySem.W.Frag} {F F1 F2 : FS} {H H1 H2 : Hp} {env env0 env1 env2 : En} {σ σ1 σ2 : Slots} {D : Ends}
theorem Fr.from {a : Addr} (p : Pst K F H env σ F1 H1 env1 σ1) (h : Fr env1 σ1 H1 a) : Fr env σ H a := by
  have nb : H1 a = none → H a = none := fun z => by
    by_cases q : H a = none
    · exact q
    · exact absurd z (p.st.dom a q)
  rcases h with h | ⟨i, s1, d, h1, hm, h2⟩
  · exact .inl (nb h)
  · rcases p.own a ⟨i, s1, d, h1, mine_own hm, h2⟩ with ⟨j, s, d2, h3, h4, h5⟩ | z
    · cases s with
      | un => cases h4
      | fz => cases h4
      | rg => cases h4
      | ow io d3 =>
        cases io with
        | false => exact .inr ⟨j, _, d3, h3, rfl, h5⟩
        | true =>
          obtain ⟨⟨d4, h6⟩, h7⟩ := p.io j d3 h3
          have := p.rel.ne i j _ _ _ _ _ h1 (mine_own hm) h6 rfl h2 (by rw [h7]; exact h5)
          subst this
          rw [h1] at h6; cases h6; cases hm
      | lk io d3 =>
        cases io with
        | false => exact .inr ⟨j, _, d3, h3, rfl, h5⟩
        | true =>
          obtain ⟨h6, h7⟩ := p.lk j true d3 h3
          have := p.rel.ne i j _ _ _ _ _ h1 (mine_own hm) h6 rfl h2 (by rw [h7]; exact h5)
          subst this
          rw [h1] at h6; cases h6; cases hm
    · exact .inl z
theorem EOk.from {fl : Fl} (p : Pst K F H env σ F1 H1 env1 σ1) (q : EOk K F H env σ D fl) : EOk K F1 H1 env1 σ1 D fl := by
  cases fl with
  | nx e => exact fun σ' F' H' p' => q σ' F' H' (p.trans p')
  | bk e => exact fun σ' F' H' p' => q σ' F' H' (p.trans p')
  | ct e => exact fun σ' F' H' p' => q σ' F' H' (p.trans p')
  | rt o e => exact fun v σ' F' H' p' r np n => q v σ' F' H' (p.trans p') r np fun d ed a ea => ⟨(n d ed a ea).1.from p, (n d ed a ea).2⟩
theorem st_ok {o : Op} {v : V} {i : Nat} (p : Pst K F H env σ F1 H1 env1 σ) (r : RelOp K F1 H1 σ o v) (hn : ∀ d, o = .nw d → ∀ a, v = .ref a → H a = none ∧ ¬ OA env1 σ a) (e : stO env1 i o = some env2) : ∃ F2, Pst K F H env σ F2 H1 env2 (σ.set i (some v)) := by
  cases o with
  | v d => exact ⟨F1, p.trans (store_pst p.rel e r)⟩
  | nw d =>
    obtain ⟨a, rfl, ho⟩ := r
    obtain ⟨h1, h2⟩ := hn d rfl a rfl
    exact ⟨F1, store_own p e ho h1 h2⟩
  | p j =>
    simp only [stO, Option.bind_eq_some_iff, Prod.exists] at e
    obtain ⟨d, env3, e1, e2⟩ := e
    obtain ⟨F2, p2, iv, _⟩ := esc_ok p r hn e1
    exact ⟨F2, p2.trans (store_pst p2.rel e2 iv)⟩
/-- the slot's list is given away -/
theorem Pst.give (p : Pst K F H env σ F1 H1 env1 σ1) {i : Nat} {d : VI.D} (e : env1[i]? = some (.ow false d)) : Pst K F H env σ F1 H1 (env1.set i .un) σ1 where
  st := p.st
  rel := {
    len := by rw [List.length_set]; exact p.rel.len
    fz := fun j d' h => by
      rcases getset h with ⟨rfl, h, _⟩ | ⟨_, h⟩
      · cases h
      · exact p.rel.fz j d' h
    ow := fun j s d' h hs => by
      rcases getset h with ⟨rfl, h, _⟩ | ⟨hn, h⟩
      · cases h; cases hs
      · exact p.rel.ow j s d' h hs
    ne := fun j k s t d' e' c h hs h' ht q q' => by
      rcases getset h with ⟨rfl, h, _⟩ | ⟨hn, h⟩
      · cases h; cases hs
      · rcases getset h' with ⟨rfl, h', _⟩ | ⟨hn', h'⟩
        · cases h'; cases ht
        · exact p.rel.ne j k s t d' e' c h hs h' ht q q'
    fdm := p.rel.fdm
    rg := fun j lo hi h => by
      rcases getset h with ⟨rfl, h, _⟩ | ⟨_, h⟩
      · cases h
      · exact p.rel.rg j lo hi h }
  own := fun c ⟨j, s, d', h, hs, q⟩ => by
    rcases getset h with ⟨rfl, h, _⟩ | ⟨hn, h⟩
    · cases h; cases hs
    · exact p.own c ⟨j, s, d', h, hs, q⟩
  io := fun j d' h => by
    obtain ⟨⟨d2, h1⟩, h2⟩ := p.io j d' h
    have hn : i ≠ j := fun z => by subst z; rw [e] at h1; cases h1
    exact ⟨⟨d2, by rw [List.getElem?_set_ne hn]; exact h1⟩, h2⟩
  lk := fun j io d' h => by
    obtain ⟨h1, h2⟩ := p.lk j io d' h
    have hn : i ≠ j := fun z => by subst z; rw [e] at h1; cases h1
    exact ⟨by rw [List.getElem?_set_ne hn]; exact h1, h2⟩
end
section
variable {X : Cx}
def SS (X : Cx) (st : Stmt) (f : En → Option Fl) : Prop := ∀ env fl, f env = some fl → ∀ σ F H D, RelE X.K F H env σ → EOk X.K F H env σ D fl → WS X st D σ H
def SSs (X : Cx) (st : List Stmt) (f : En → Option Fl) : Prop := ∀ env fl, f env = some fl → ∀ σ F H D, RelE X.K F H env σ → EOk X.K F H env σ D fl → WSs X st D σ H
theorem ss_nil {f : En → Option Fl} (hf : ∀ env, f env = some (.nx env)) : SSs X [] f := by
  intro env fl e σ F H D r q
  rw [hf] at e
  cases e
  exact WSs.of pss_nil (q σ F H (.refl r))
theorem ss_cons {st : Stmt} {rest : List Stmt} {fs fss f : En → Option Fl} (hs : SS X st fs) (hss : SSs X rest fss)
    (hf : ∀ env fl, f env = some fl → ∃ fl1, fs env = some fl1 ∧ ((∃ e, fl1 = .nx e ∧ fss e = some fl) ∨ ((∀ e, fl1 ≠ .nx e) ∧ fl = fl1))) : SSs X (st :: rest) f := by
  intro env fl e σ F H D r q
  obtain ⟨fl1, h1, h2⟩ := hf env fl e
  refine WSs.of (pss_cons (pS X st) (pSs X rest)) (hs env fl1 h1 σ F H _ r ?_)
  rcases h2 with ⟨e1, rfl, h2⟩ | ⟨h2, rfl⟩
  · exact fun σ' F' H' p => hss e1 fl h2 σ' F' H' D p.rel (q.from p)
  · cases fl with
    | nx e1 => exact absurd rfl (h2 e1)
    | bk e1 => exact q
    | ct e1 => exact q
    | rt o e1 => exact q
theorem ss_ret {p : Expr} {pos : Pos} {fe : En → Option (Op × En)} {f : En → Option Fl} (he : SE X p fe) (hf : ∀ env fl, f env = some fl → ∃ o env1 o2 env2, fe env = some (o, env1) ∧ retO env1 o = some (o2, env2) ∧ fl = .rt o2 env2) : SS X (.Return (some p) pos) f := by
  intro env fl e σ F H D r q
  obtain ⟨o, env1, o2, env2, h1, h2, rfl⟩ := hf env fl e
  refine WS.of (ps_ret (pE X p)) (he env o env1 h1 σ F H _ r fun v F' H' p' r' n' => ?_)
  cases o with
  | v d =>
    cases h2
    exact q v σ F' H' p' r' (fun i z => by cases z) fun d z => by cases z
  | nw d =>
    cases h2
    exact q v σ F' H' p' r' (fun i z => by cases z) fun d ed a ea => ⟨.inl (n' d ed a ea).1, (n' d ed a ea).2⟩
  | p i =>
    have r' : σ[i]? = some (some v) := r'
    simp only [retO] at h2
    split at h2
    · rename_i d g
      cases h2
      obtain ⟨w, e1, e2⟩ := p'.rel.fz i d g
      rw [r'] at e1; cases e1
      exact q v σ F' H' p' e2 (fun i z => by cases z) fun d z => by cases z
    · rename_i d g
      cases h2
      obtain ⟨a, e1, e2⟩ := p'.rel.ow i _ d g rfl
      rw [r'] at e1; cases e1
      refine q _ σ F' H' (p'.give g) ⟨a, rfl, e2⟩ (fun i z => by cases z) fun d _ b eb => ?_
      cases eb
      refine ⟨(Fr.from p' (.inr ⟨i, _, _, g, rfl, r'⟩)), fun ⟨j, s, d2, h3, h4, h5⟩ => ?_⟩
      rcases getset h3 with ⟨rfl, h3, _⟩ | ⟨hn, h3⟩
      · cases h3; cases h4
      · exact hn (p'.rel.ne i j _ _ _ _ _ g rfl h3 h4 r' h5)
    · cases h2
theorem ss_retn {pos : Pos} {f : En → Option Fl} (hf : ∀ env, f env = some (.rt (.v .non) env)) : SS X (.Return none pos) f := by
  intro env fl e σ F H D r q
  rw [hf] at e
  cases e
  exact WS.of ps_retN (q .non σ F H (.refl r) (by simp [RelOp, Is]) (fun i z => by cases z) fun d z => by cases z)
theorem ss_if {pc : Expr} {pa pb : List Stmt} {pos : Pos} {fc : En → Option (Bool × En)} {fa fb f : En → Option Fl} (hc : SC X pc fc) (ha : SSs X pa fa) (hb : SSs X pb fb)
    (hf : ∀ env fl, f env = some fl → ∃ k env1, fc env = some (k, env1) ∧ (if k = true then fa env1 else fb env1) = some fl) : SS X (.If pc pa pb pos) f := by
  intro env fl e σ F H D r q
  obtain ⟨k, env1, h1, h2⟩ := hf env fl e
  refine WS.of (ps_if (pT X pc) (pSs X pa) (pSs X pb)) (hc env k env1 h1 σ F H _ r fun F' H' p => ?_)
  cases k with
  | true => exact iteT (ha env1 fl h2 σ F' H' D p.rel (q.from p))
  | false => exact iteF (hb env1 fl h2 σ F' H' D p.rel (q.from p))
theorem ss_expr {p : Expr} {pos : Pos} {fe : En → Option (Op × En)} {f : En → Option Fl} (hl : headOk p = true) (hs : swapsWith p none pos.line X.env = pure false) (he : SE X p fe) (hf : ∀ env fl, f env = some fl → ∃ o env1, fe env = some (o, env1) ∧ fl = .nx env1) : SS X (.Expr p pos) f := by
  intro env fl e σ F H D r q
  obtain ⟨o, env1, h1, rfl⟩ := hf env fl e
  exact WS.of (ps_expr (pE X p) hs) (he env o env1 h1 σ F H _ r fun v F' H' p' _ _ => q σ F' H' p')
theorem ss_inc {Γ : Gm} {cl : CallF} {N : List Str} {sc : Scope} (g : Gd Γ cl N sc X) {x : Str} {i : Nat} {p : Expr} {px pos : Pos} {fb : En → Option (Op × En)} {f : En → Option Fl} (hfn : ∀ x, X.fn x = true) (ht : tnB N sc (fun _ => true) i x = true) (hb : SB X p fb)
    (hf : ∀ env fl, f env = some fl → ∃ a o env1 b env2, env[i]? = some (.fz (.int a)) ∧ fb env = some (o, env1) ∧ rd env1 o = some (.int b) ∧ putS env1 i (.fz (.int (a + b))) = some env2 ∧ fl = .nx env2) : SS X (.AugAssign (.Name x px) .Add p pos) f := by
  intro env fl e σ F H D r q
  obtain ⟨a, o, env1, b, env2, h0, h1, h2, h3, rfl⟩ := hf env fl e
  obtain ⟨h4, h5⟩ := ba ht
  obtain ⟨h4, h6⟩ := ba h4
  have hN : X.N[i]? = some x := by rw [g.hN]; simpa using h4
  have hl : Loc X.env.scope x := by
    rw [g.hsc]
    unfold locB at h6
    split at h6
    · rename_i z; exact .inl z
    · rename_i z; exact .inr z
    · cases h6
  obtain ⟨v, e1, e2⟩ := r.fz i _ h0
  simp only [Is] at e2
  subst e2
  refine WS.of (ps_aug g.nd hN hl (pE X p) ip_add (.inl (hfn x))) ⟨_, e1, hb env o env1 h1 σ F H _ r fun v F' H' p' r' n' => ?_⟩
  have e3 := (rd_has p'.rel r' h2).int
  subst e3
  exact ⟨a, b, rfl, rfl, q _ F' H' (p'.trans (store_pst p'.rel h3 (by simp [Is])))⟩
theorem ss_unp {tg p : Expr} {t : T} {pos : Pos} {fe : En → Option (Op × En)} {f : En → Option Fl} (hs : swapsWithSole [tg] p pos.line X.env = pure false) (hw : swappedStores [tg] p X.env = pure none) (h1 : (assignEach [tg] X.env).map (·.2) = [assign tg X.env])
    (he : SE X p fe) (hT : SG X tg t) (hf : ∀ env fl, f env = some fl → ∃ o env1 d env2 env3, fe env = some (o, env1) ∧ esc env1 o = some (d, env2) ∧ t.put env2 d = some env3 ∧ fl = .nx env3) : SS X (.Assign [tg] p pos) f := by
  intro env fl e σ F H D r q
  obtain ⟨o, env1, d, env2, env3, k1, k2, k3, rfl⟩ := hf env fl e
  refine WS.of (ps_asg (pE X p) (pG X tg) hs hw h1) (he env o env1 k1 σ F H _ r fun v F' H' p' r' n' => ?_)
  obtain ⟨F2, p2, iv, _⟩ := esc_ok p' r' n' k2
  exact hT env2 d env3 k3 σ F2 H' v _ p2.rel iv fun σ2 p3 _ => q σ2 F2 H' (p2.trans p3)
theorem ss_put {Γ : Gm} {cl : CallF} {N : List Str} {sc : Scope} (g : Gd Γ cl N sc X) {x : Str} {i : Nat} {pk p : Expr} {px p2 pos : Pos} {fe fk : En → Option (Op × En)} {f : En → Option Fl} (hx : nmB N sc i x = true) (hh : headOk pk = true)
    (hw : swappedStores [.Subscript (.Name x px) pk p2] p X.env = pure none) (hs : swapsWithSole [.Subscript (.Name x px) pk p2] p pos.line X.env = pure false) (he : SE X p fe) (hk : SB X pk fk)
    (hf : ∀ env fl, f env = some fl → ∃ o env1 d env2 o2 env3 io xs n j, fe env = some (o, env1) ∧ esc env1 o = some (d, env2) ∧ (∃ io xs, env2[i]? = some (.ow io (.lst xs))) ∧ fk env2 = some (o2, env3) ∧ rd env3 o2 = some (.int n) ∧ env3[i]? = some (.ow io (.lst xs)) ∧ ixN xs.length n = some j ∧ fl = .nx (env3.set i (.ow io (.lst (xs.set j d))))) : SS X (.Assign [.Subscript (.Name x px) pk p2] p pos) f := by
  intro env fl e σ F H D r q
  obtain ⟨o, env1, d, env2, o2, env3, io, xs, n, j, k1, k2, ⟨io0, xs0, k3⟩, k4, k5, k6, k7, rfl⟩ := hf env fl e
  have ha : ∀ v, assign (.Subscript (.Name x px) pk p2) X.env v = (do
      let ov ← holding [v] (eval (.Name x px) X.env)
      let iv ← holding [v, ov] (eval pk X.env)
      standAt p2
      holding [v, ov, iv] (setItem ov iv v)
      release [v, ov, iv] []) := by
    intro v
    cases pk <;> first | rfl | cases hh
  refine WS.of (ps_asg (pE X p) (pg_sub (pe_nm g hx) (pE X pk) set_list ha) hs hw rfl) (he env o env1 k1 σ F H _ r fun v F' H' p' r' n' => ?_)
  obtain ⟨F2, pp, iv, _⟩ := esc_ok p' r' n' k2
  obtain ⟨a, ea, ho⟩ := pp.rel.ow i _ _ k3 rfl
  refine ⟨_, ea, hk env2 o2 env3 k4 σ F2 H' _ pp.rel fun w F3 H3 p3 r3 n3 => ?_⟩
  have e3 := (rd_has p3.rel r3 k5).int
  subst e3
  obtain ⟨b, eb, hb⟩ := p3.rel.ow i _ _ k6 rfl
  rw [ea] at eb
  cases eb
  obtain ⟨nF, vs, hb2, hb3⟩ := hb
  have p4 := pp.trans p3
  refine ⟨a, vs, n, j, rfl, rfl, hb2, by rw [← hb3.length]; exact k7, ?_⟩
  have iv3 : Is X.K F3 H3 d v := iv.mono p3.st.sub p3.st.agr
  have agr : ∀ c, F3 c → upd H3 a (.lst (vs.set j v)) c = H3 c := fun c f => upd_ne fun z => nF (by rw [← z]; exact f)
  exact q σ F3 _ (p4.mut k6 ea ⟨nF, vs, hb2, hb3⟩ ⟨nF, _, upd_same, (IsL.set j hb3 iv3).mono (fun _ h => h) agr⟩)
theorem sw_subs {p o k : Expr} {p2 : Pos} {l : Nat} {env : Env} : swapsWith p (some (.Subscript o k p2)) l env = pure false := by cases p <;> rfl
theorem ss_dput {Γ : Gm} {cl : CallF} {N : List Str} {sc : Scope} (g : Gd Γ cl N sc X) {x : Str} {i : Nat} {pk p : Expr} {px p2 pos : Pos} {fe fk : En → Option (Op × En)} {f : En → Option Fl} (hx : nmB N sc i x = true) (he : SE X p fe) (hk : SB X pk fk)
    (hf : ∀ env fl, f env = some fl → ∃ o env1 d env2 o2 env3 io ks ds dk j, fe env = some (o, env1) ∧ esc env1 o = some (d, env2) ∧ (∃ io ks ds, env2[i]? = some (.ow io (.dk ks ds))) ∧ fk env2 = some (o2, env3) ∧ rd env3 o2 = some dk ∧ keyD dk = some j ∧ env3[i]? = some (.ow io (.dk ks ds)) ∧ ks.length < sizeLine ∧ fl = .nx (env3.set i (.ow io (.dk (putDk j d ks ds).1 (putDk j d ks ds).2)))) : SS X (.Assign [.Subscript (.Name x px) pk p2] p pos) f := by
  intro env fl e σ F H D r q
  obtain ⟨o, env1, d, env2, o2, env3, io, ks, ds, dk, j, k1, k2, ⟨io0, ks0, ds0, k3⟩, k4, k5, k6, k7, k8, rfl⟩ := hf env fl e
  refine WS.of (ps_dput (by have := g.hu; omega) (pe_nm g hx) (pE X pk) (pE X p) sw_subs) (he env o env1 k1 σ F H _ r fun v F' H' p' r' n' => ?_)
  obtain ⟨F2, pp, iv, _⟩ := esc_ok p' r' n' k2
  obtain ⟨a, ea, ho⟩ := pp.rel.ow i _ _ k3 rfl
  refine ⟨_, ea, hk env2 o2 env3 k4 σ F2 H' _ pp.rel fun w F3 H3 p3 r3 n3 => ?_⟩
  have e3 := keyD_v k6 (rd_has p3.rel r3 k5)
  subst e3
  obtain ⟨b, eb, hb⟩ := p3.rel.ow i _ _ k7 rfl
  rw [ea] at eb
  cases eb
  obtain ⟨nF, vs, hb2, hl, hb3⟩ := hb
  have p4 := pp.trans p3
  have iv3 : Is X.K F3 H3 d v := iv.mono p3.st.sub p3.st.agr
  obtain ⟨ws, w1, w2, w3⟩ := putDk_has (k := j) hl hb3 iv3
  refine ⟨a, _, rfl, DPut.k hb2 (by rw [List.length_zip, ← hl, Nat.min_self]; exact k8), ?_⟩
  rw [w1]
  have agr : ∀ c, F3 c → upd H3 a (.dK ((putDk j d ks ds).1.zip ws)) c = H3 c := fun c f => upd_ne fun z => nF (by rw [← z]; exact f)
  exact q σ F3 _ (p4.mut k7 ea ⟨nF, vs, hb2, hl, hb3⟩ ⟨nF, ws, upd_same, w2, w3.mono (fun _ h => h) agr⟩)
theorem ss_setrg {Γ : Gm} {cl : CallF} {N : List Str} {sc : Scope} (g : Gd Γ cl N sc X) {x y : Str} {i : Nat} {pa : Expr} {py pp pos pos2 : Pos} {fa : En → Option (Op × En)} {f : En → Option Fl} (hfn : ∀ x, X.fn x = true) (ht : tnB N sc (fun _ => true) i x = true) (hy : y = "range") (gy : freeB Γ sc y = true) (hh : headOk pa = true) (ha : SB X pa fa)
    (hf : ∀ env fl, f env = some fl → ∃ o env1 n env2, fa env = some (o, env1) ∧ rd env1 o = some (.int n) ∧ putS env1 i (.rg 0 n) = some env2 ∧ fl = .nx env2) : SS X (.Assign [.Name x py] (.Call (.Name y pp) [pa] [] pos2) pos) f := by
  intro env fl e σ F H D r q
  obtain ⟨o, env1, n, env2, h1, h2, h3, rfl⟩ := hf env fl e
  obtain ⟨h4, h5⟩ := ba ht
  obtain ⟨h4, h6⟩ := ba h4
  have hN : X.N[i]? = some x := by rw [g.hN]; simpa using h4
  have hl : Loc X.env.scope x := by
    rw [g.hsc]
    unfold locB at h6
    split at h6
    · rename_i z; exact .inl z
    · rename_i z; exact .inr z
    · cases h6
  subst hy
  obtain ⟨G, _, _, M⟩ := free_of g gy
  refine WS.of (ps_set g.nd hN hl (pe_callTy (pos := pos2) (p := pp) cr_range1 G M PyProof.Rows.boot_range (pA X [pa]) (by decide) (by decide) (starEach_of hh) rfl) rfl (.inl (hfn x))) ?_
  refine WA.of (pa_cons (pE X pa) pa_nil (starEach_of hh)) (ha env o env1 h1 σ F H _ r fun v F1 H1 p1 r1 n1 => ?_)
  have ev := (rd_has p1.rel r1 h2).int
  subst ev
  refine ⟨n, rfl, fun p hp => ?_⟩
  have pn := p1.nst (Nst.newF (p := p) (o := .rng 0 n) hp)
  exact q _ _ _ (pn.trans (store_rg pn.rel h3 (.inr rfl) upd_same))
theorem sw_attr {p o : Expr} {n : Str} {apos : Pos} {l : Nat} {env : Env} : swapsWith p (some (.Attribute o n apos)) l env = pure false := by
  cases p <;> rfl
theorem ss_seta {Γ : Gm} {cl : CallF} {N : List Str} {sc : Scope} (g : Gd Γ cl N sc X) {x n fn : Str} {i : Nat} {p : Expr} {px apos pos : Pos} {fe : En → Option (Op × En)} {f : En → Option Fl} (hn : n = fn) (hx : nmB N sc i x = true) (he : SE X p fe)
    (hf : ∀ env fl, f env = some fl → ∃ o env1 d env2 io d0 d1, fe env = some (o, env1) ∧ esc env1 o = some (d, env2) ∧ env2[i]? = some (.ow io d0) ∧ setaS fn d d0 = some d1 ∧ fl = .nx (env2.set i (.ow io d1))) : SS X (.Assign [.Attribute (.Name x px) n apos] p pos) f := by
  intro env fl e σ F H D r q
  obtain ⟨o, env1, d, env2, io, d0, d1, k1, k2, k3, k4, rfl⟩ := hf env fl e
  subst hn
  refine WS.of (ps_fld (pe_nm g hx) (pE X p) sw_attr) (he env o env1 k1 σ F H _ r fun v F' H' p' r' n' => ?_)
  obtain ⟨F2, pp, iv, _⟩ := esc_ok p' r' n' k2
  obtain ⟨a, ea, ho⟩ := pp.rel.ow i _ _ k3 rfl
  refine ⟨_, ea, ?_⟩
  unfold setaS at k4
  split at k4
  · rename_i c ns ds
    split at k4
    · rename_i hc
      cases k4
      obtain ⟨nF, C, dx, vs, e1, e2, e3, e4⟩ := id ho
      obtain ⟨ws, g1, g2, g3⟩ := putFD_is (f := n) iv e4 e3
      refine ⟨a, C, dx, _, rfl, e1, e2.cl, e2.na _ (by simpa using hc.1), ?_, ?_⟩
      · rw [List.length_zip]; omega
      · have agr : ∀ c', F2 c' → upd H' a (.ins C dx (putF n v (ns.zip vs))) c' = H' c' := fun c' f => upd_ne fun z => nF (by rw [← z]; exact f)
        exact q σ F2 _ (pp.mut k3 ea ho ⟨nF, C, dx, ws, by rw [← g1]; exact upd_same, e2, g2, g3.mono (fun _ h => h) agr⟩)
    · cases k4
  · cases k4
theorem ss_set {Γ : Gm} {cl : CallF} {N : List Str} {sc : Scope} (g : Gd Γ cl N sc X) {x : Str} {i : Nat} {p : Expr} {py pos : Pos} {fe : En → Option (Op × En)} {f : En → Option Fl} (hfn : ∀ x, X.fn x = true) (ht : tnB N sc (fun _ => true) i x = true)
    (hs : swapsWith p (some (.Name x py)) pos.line X.env = pure false) (he : SE X p fe) (hf : ∀ env fl, f env = some fl → ∃ o env1 env2, fe env = some (o, env1) ∧ stO env1 i o = some env2 ∧ fl = .nx env2) : SS X (.Assign [.Name x py] p pos) f := by
  intro env fl e σ F H D r q
  obtain ⟨o, env1, env2, h1, h2, rfl⟩ := hf env fl e
  obtain ⟨h4, h5⟩ := ba ht
  obtain ⟨h4, h6⟩ := ba h4
  have hN : X.N[i]? = some x := by rw [g.hN]; simpa using h4
  have hl : Loc X.env.scope x := by
    rw [g.hsc]
    unfold locB at h6
    split at h6
    · rename_i z; exact .inl z
    · rename_i z; exact .inr z
    · cases h6
  refine WS.of (ps_set g.nd hN hl (pE X p) hs (.inl (hfn x))) (he env o env1 h1 σ F H _ r fun v F' H' p' r' n' => ?_)
  obtain ⟨F2, p2⟩ := st_ok p' r' n' h2
  exact q _ F2 H' p2
theorem ss_while {pc : Expr} {body : List Stmt} {pos : Pos} {fc : En → Option (Bool × En)} {fb f : En → Option Fl} (hxe : X.xe = fun _ _ => False) (hc : SC X pc fc) (hb : SSs X body fb) (hf : ∀ env fl, f env = some fl → ∃ n, whLoop fc fb n env = some fl) : SS X (.While pc body [] pos) f := by
  intro env fl e σ F H D r q
  obtain ⟨n, h⟩ := hf env fl e
  refine WS.of (ps_while (by rw [hxe]; exact PassesOwn.never) (pT X pc) (pSs X body)) ⟨fun m σ' H' => ∃ F' e', whLoop fc fb m e' = some fl ∧ Pst X.K F H env σ F' H' e' σ', ⟨n, F, env, h, .refl r⟩, ?_⟩
  rintro m σ1 H1 ⟨F1, e1, hl, p1⟩
  cases m with
  | zero => cases hl
  | succ m =>
    simp only [whLoop, Option.bind_eq_some_iff, Prod.exists] at hl
    obtain ⟨b, e2, h1, h2⟩ := hl
    refine hc e1 b e2 h1 σ1 F1 H1 _ p1.rel fun F2 H2 p2 => ?_
    have p12 := p1.trans p2
    cases b with
    | false =>
      refine iteF ?_
      simp only [Bool.false_eq_true, if_false, Option.some.injEq] at h2
      subst h2
      exact q σ1 F2 H2 p12
    | true =>
      refine iteT ⟨fun σ' H' => ∃ F' e', whLoop fc fb m e' = some fl ∧ Pst X.K F H env σ F' H' e' σ', fun σ' H' z => ⟨m, Nat.lt_succ_self _, z⟩, ?_⟩
      simp only [if_true, Option.bind_eq_some_iff] at h2
      obtain ⟨fl1, h3, h4⟩ := h2
      refine hb e2 fl1 h3 σ1 F2 H2 _ p2.rel ?_
      cases fl1 with
      | nx e3 => exact fun σ' F' H' p3 => ⟨F', e3, h4, p12.trans p3⟩
      | ct e3 => exact fun σ' F' H' p3 => ⟨F', e3, h4, p12.trans p3⟩
      | bk e3 =>
        simp only [Option.some.injEq] at h4
        subst h4
        exact fun σ' F' H' p3 => q σ' F' H' (p12.trans p3)
      | rt o e3 =>
        simp only [Option.some.injEq] at h4
        subst h4
        exact q.from p12
theorem ss_for {tg pit : Expr} {t : T} {body : List Stmt} {pos : Pos} {fi : En → Option (List D × List (Nat × Bool) × En)} {fb f : En → Option Fl} (hxe : X.xe = fun _ _ => False) (hcalm : X.calm = true) (hh : ∀ x, foldedSetIterable pit X.env x = pure x) (hI : SI X tg pit fi) (hT : SG X tg t) (hb : SSs X body fb)
    (hf : ∀ env fl, f env = some fl → ∃ items lk env1 fl1, fi env = some (items, lk, env1) ∧ foLoop fb t items env1 = some fl1 ∧ fl = fl1.free lk) : SS X (.For tg pit body [] pos) f := by
  intro env fl e σ F H D r q
  obtain ⟨items, lk, env1, fl1, h1, h2, rfl⟩ := hf env fl e
  refine WS.of (ps_for (by rw [hxe]; exact PassesOwn.never) hcalm (pI X tg pit) (pG X tg) (pSs X body) hh) (hI env items lk env1 h1 σ F H _ r fun J F1 H1 env0 P p0 rl lks S hP keep => ?_)
  have r1 : RelE X.K F1 H1 env1 σ := rl.rel p0.rel
  have hPk : ∀ {F' H' e σ'}, Pst X.K F1 H1 env1 σ F' H' e σ' → P F' H' := fun {F' H' e σ'} p => keep F' H' p.st.sub p.st.agr fun i io d a hi he ea => by
    obtain ⟨k1, k2⟩ := p.lk i io d he
    obtain ⟨b, k3, k4⟩ := p.rel.ow i _ d k1 rfl
    rw [k2, ea] at k3
    cases k3
    exact k4
  -- the loop's own ends, seen from outside
  have fin : ∀ {σ' F' H' e}, fl1 = .nx e → Pst X.K F1 H1 env1 σ F' H' e σ' → D.nx σ' H' := fun {σ' F' H' e} z p => by
    subst z
    exact q σ' F' H' (p0.trans (lks _ _ _ _ _ _ _ p))
  refine ⟨fun i m σ' H' => ∃ F' e', i ≤ items.length ∧ m = items.length - i ∧ foLoop fb t (items.drop i) e' = some fl1 ∧ Pst X.K F1 H1 env1 σ F' H' e' σ', ⟨items.length, F1, env1, Nat.zero_le _, rfl, h2, .refl r1⟩, ?_⟩
  rintro i m σ1 H2 ⟨F2, e2, hi, rfl, hl, p2⟩
  by_cases hlt : i < items.length
  · refine .inr ⟨S.go i F2 H2 (hPk p2) hlt, fun σ' H' => ∃ F' e', foLoop fb t (items.drop (i + 1)) e' = some fl1 ∧ Pst X.K F1 H1 env1 σ F' H' e' σ', fun σ' H' ⟨F', e', k1, k2⟩ => ⟨items.length - (i + 1), by omega, F', e', hlt, rfl, k1, k2⟩, fun x H' hy => ?_⟩
    rw [List.drop_eq_getElem_cons hlt] at hl
    simp only [foLoop, Option.bind_eq_some_iff] at hl
    obtain ⟨e3, k1, fl2, k2, k3⟩ := hl
    obtain ⟨F3, n3, id3⟩ := S.yld i F2 H2 x H' (hPk p2) p2.rel.fdm hy _ (List.getElem?_eq_getElem hlt)
    have p3 := p2.trans (n3.pst p2.rel)
    refine hT e2 _ e3 k1 σ1 F3 H' x _ p3.rel id3 fun σ2 p4 _ => ?_
    have p34 := p3.trans p4
    refine hb e3 fl2 k2 σ2 F3 H' _ p4.rel ?_
    cases fl2 with
    | nx e4 => exact fun σ' F' H' p5 => ⟨F', e4, k3, p34.trans p5⟩
    | ct e4 => exact fun σ' F' H' p5 => ⟨F', e4, k3, p34.trans p5⟩
    | bk e4 =>
      simp only [Option.some.injEq] at k3
      exact fun σ' F' H' p5 => fin k3.symm (p34.trans p5)
    | rt o e4 =>
      simp only [Option.some.injEq] at k3
      subst k3
      intro v σ' F' H'' p5 rv np nv
      have p15 := p34.trans p5
      refine q v σ' F' H'' (p0.trans (lks _ _ _ _ _ _ _ p15)) ?_ np fun d ed a ea => ?_
      · cases o with
        | v d => exact rv
        | nw d => exact rv
        | p i => exact absurd rfl (np i)
      · obtain ⟨z1, z2⟩ := nv d ed a ea
        refine ⟨?_, fun z => z2 ((unlock_relab lk _).oa z)⟩
        have z3 : Fr env1 σ H1 a := z1.from p34
        refine Fr.from p0 ?_
        rcases z3 with z3 | ⟨j, s, d2, z3, zm, z4⟩
        · exact .inl z3
        · rcases rl.2 j with h | ⟨io, d3, h5, h6⟩ | ⟨io, d3, h5, h6⟩
          · exact .inr ⟨j, s, d2, by rw [← h]; exact z3, zm, z4⟩
          · rw [z3] at h6
            cases h6
            cases io with
            | false => exact .inr ⟨j, _, d3, h5, rfl, z4⟩
            | true => cases zm
          · rw [z3] at h6
            cases h6
            cases io with
            | false => exact .inr ⟨j, _, d3, h5, rfl, z4⟩
            | true => cases zm
  · have e0 : i = items.length := by omega
    subst e0
    rw [List.drop_length] at hl
    simp only [foLoop, Option.some.injEq] at hl
    exact .inl ⟨S.stop _ F2 H2 (hPk p2) rfl, fin hl.symm p2⟩
end
end VI
namespace VI
open PySem PySem.Spec L2
section
variable {Γ : Gm} {cl : CallF} {N : List Str} {sc : Scope} {X : Cx}
theorem sndLc {vs : List Nat} {el : E} {t : T} {it : I} {c : OC} {pel ptg pit : Expr} {pifs : List Expr} {scope : Scope} {pos : Pos} (g : Gd Γ cl N sc X) (h : mE Γ N (.lc vs el t it c) sc (.ListComp pel [⟨ptg, pit, pifs, 0⟩] scope pos) = true) :
    BlkOk X.N X.env.scope scope (vs.map fun i => (N.getD i "", i)) ∧ (∀ x, foldedSetIterable pit X.env x = pure x) ∧
      ∀ env o env', evE cl (.lc vs el t it c) env = some (o, env') → ∀ σ F H Q, RelE X.K F H env σ → QE X.K F H env σ o env' Q → tLc (WI X ptg pit) (tGb X scope ptg) (tCb X scope pifs) (tEb X scope pel) ((vs.map fun i => (N.getD i "", i)).map (·.2)) σ H Q := by
  unfold mE at h
  obtain ⟨h, h6⟩ := ba h
  obtain ⟨h, h5⟩ := ba h
  obtain ⟨h, h4⟩ := ba h
  obtain ⟨h, h3⟩ := ba h
  obtain ⟨h1, h2⟩ := ba h
  have ok : BlkOk X.N X.env.scope scope (vs.map fun i => (N.getD i "", i)) := by rw [g.hN, g.hsc]; exact blkOk_by h1
  have hI := sndI it g (tup_of h3) h2
  have hT : ∀ c, SG (Bk X scope c) ptg t := fun c => sg_of (gd_blk g scope c).hN (gd_blk g scope c).hsc (gd_blk g scope c).nd g.calm (fun x hx => hx) h3
  have hC := fun k => sndOC c (gd_blk g scope k) h5
  have hE := fun k => sndE el (gd_blk g scope k) h6
  refine ⟨ok, sndFold it h2, fun env o env' e σ F H Q r q => ?_⟩
  refine s_lc (cl := cl) (Γ := Γ) g (pos := pos) (own_map vs) ok (sndFold it h2) hI hT hC hE (all_in h4) (f := evE cl (.lc vs el t it c)) (fun env o env' e => ?_) env o env' e σ F H Q r q
  unfold evE at e
  simp only [bind, Option.bind_eq_some_iff, Prod.exists] at e
  obtain ⟨items, lk, env1, e1, e2⟩ := e
  split at e2
  · cases e2
  · rename_i hq
    simp only [Option.bind_eq_some_iff, Prod.exists] at e2
    obtain ⟨outs, env2, e3, e4⟩ := e2
    split at e4
    · rename_i hz
      cases e4
      exact ⟨items, lk, env1, outs, env2, e1, lk_out' hq, e3, hz, rfl, rfl⟩
    · cases e4
theorem sndLc2 {vs vs1 : List Nat} {el : E} {t t1 : T} {it it1 : I} {c c1 : OC} {pel ptg pit ptg1 pit1 : Expr} {pifs pifs1 : List Expr} {scope : Scope} {pos : Pos} (g : Gd Γ cl N sc X) (h : mE Γ N (.lc2 vs vs1 el t it c t1 it1 c1) sc (.ListComp pel [⟨ptg, pit, pifs, 0⟩, ⟨ptg1, pit1, pifs1, 0⟩] scope pos) = true) :
    BlkOk X.N X.env.scope scope (vs.map fun i => (N.getD i "", i)) ∧ (∀ x, foldedSetIterable pit X.env x = pure x) ∧ (∀ env x, foldedSetIterable pit1 env x = pure x) ∧ (∀ i ∈ vs1, i ∈ (vs.map fun i => (N.getD i "", i)).map (·.2)) ∧
      ∀ env o env', evE cl (.lc2 vs vs1 el t it c t1 it1 c1) env = some (o, env') → ∀ σ F H Q, RelE X.K F H env σ → QE X.K F H env σ o env' Q →
        tLc2 (WI X ptg pit) (tGb X scope ptg) (tCb X scope pifs) (tIb X scope ptg1 pit1) (tGb X scope ptg1) (tCb X scope pifs1) (tEb X scope pel) ((vs.map fun i => (N.getD i "", i)).map (·.2)) vs1 σ H Q := by
  unfold mE at h
  obtain ⟨h, h11⟩ := ba h
  obtain ⟨h, h10⟩ := ba h
  obtain ⟨h, h9⟩ := ba h
  obtain ⟨h, h8⟩ := ba h
  obtain ⟨h, h7⟩ := ba h
  obtain ⟨h, h6⟩ := ba h
  obtain ⟨h, h5⟩ := ba h
  obtain ⟨h, h4⟩ := ba h
  obtain ⟨h, h3⟩ := ba h
  obtain ⟨h1, h2⟩ := ba h
  have ok : BlkOk X.N X.env.scope scope (vs.map fun i => (N.getD i "", i)) := by rw [g.hN, g.hsc]; exact blkOk_by h1
  have hI := sndI it g (tup_of h4) h3
  have hT : ∀ c, SG (Bk X scope c) ptg t := fun c => sg_of (gd_blk g scope c).hN (gd_blk g scope c).hsc (gd_blk g scope c).nd g.calm (fun x hx => hx) h4
  have hC := fun k => sndOC c (gd_blk g scope k) h6
  have hI1 := fun k => sndI it1 (gd_blk g scope k) (tup_of h8) h7
  have hT1 : ∀ c, SG (Bk X scope c) ptg1 t1 := fun c => sg_of (gd_blk g scope c).hN (gd_blk g scope c).hsc (gd_blk g scope c).nd g.calm (fun x hx => hx) h8
  have hC1 := fun k => sndOC c1 (gd_blk g scope k) h10
  have hE := fun k => sndE el (gd_blk g scope k) h11
  refine ⟨ok, sndFold it h3, fun env => sndFold it1 h7, by rw [own_map]; exact all_in h2, fun env o env' e σ F H Q r q => ?_⟩
  let inner : En → Option (List D × En) := fun env => do
    let (items1, lk1, env1) ← evI cl it1 env
    if !(lk1.all fun j => !vs1.contains j.1) then none
    let (ys, env2) ← lcLoop (fun env => evOC cl c1 env) (fun env => do let (o, env) ← evE cl el env; esc env o) t1 vs1 items1 (wipeE env1 vs1)
    return (ys, unlock (restE env2 env1 vs1) lk1)
  refine s_lc2 (cl := cl) (Γ := Γ) (inner := inner) g (own_map vs) hI hT hC (all_in h5) hI1 hT1 hC1 (all_in h9) hE ?_ (f := evE cl (.lc2 vs vs1 el t it c t1 it1 c1)) (fun env o env' e => ?_) env o env' e σ F H Q r q
  rotate_left
  · unfold evE at e
    simp only [bind, Option.bind_eq_some_iff, Prod.exists] at e
    obtain ⟨items, lk, env1, e1, e2⟩ := e
    split at e2
    · cases e2
    · rename_i hq
      simp only [Option.bind_eq_some_iff, Prod.exists] at e2
      obtain ⟨outs, env2, e3, e4⟩ := e2
      split at e4
      · rename_i hz
        cases e4
        exact ⟨items, lk, env1, outs, env2, e1, lk_out' hq, e3, hz, rfl, rfl⟩
      · cases e4
  · intro env ys env' e
    simp only [inner, bind, Option.bind_eq_some_iff, Prod.exists] at e
    obtain ⟨items, lk, env1, e1, e2⟩ := e
    split at e2
    · cases e2
    · rename_i hq
      simp only [Option.bind_eq_some_iff, Prod.exists] at e2
      obtain ⟨outs, env2, e3, e4⟩ := e2
      cases e4
      exact ⟨items, lk, env1, env2, e1, lk_out' hq, e3, rfl⟩
theorem sw_cases {p : Expr} {y : Str} {py : Pos} {l : Nat} {env : Env} {e : E} {sc' : Scope} (hk : env.scope.kind = .function) (hsc : env.scope = sc) (hm : mE Γ N e sc' p = true) :
    swapsWith p (some (.Name y py)) l env = pure (swB sc y py p) := by
  have hb : env.blockKind = .function := by unfold Env.blockKind; rw [hk]; rfl
  subst hsc
  have ky : env.kindOf y = env.scope.names.lookup y := rfl
  cases p with
  | ListComp elt gs scope pos =>
    unfold swapsWith
    simp only [hb, ky, Expr.pos, swB]
    rfl
  | SetComp a b c d => cases e <;> (unfold mE at hm; first | cases hm | (unfold neverOk at hm; cases hm))
  | DictComp a b gs scope pos =>
    unfold swapsWith
    simp only [hb, ky, Expr.pos, swB]
    rfl
  | _ => rfl
theorem sndDc {vs : List Nat} {ke ve : E} {t : T} {it : I} {c : OC} {pk pv ptg pit : Expr} {pifs : List Expr} {scope : Scope} {pos : Pos} (g : Gd Γ cl N sc X) (h : mE Γ N (.dc vs ke ve t it c) sc (.DictComp pk pv [⟨ptg, pit, pifs, 0⟩] scope pos) = true) :
    BlkOk X.N X.env.scope scope (vs.map fun i => (N.getD i "", i)) ∧ (∀ x, foldedSetIterable pit X.env x = pure x) ∧
      ∀ env o env', evE cl (.dc vs ke ve t it c) env = some (o, env') → ∀ σ F H Q, RelE X.K F H env σ → QE X.K F H env σ o env' Q → tDc (WI X ptg pit) (tGb X scope ptg) (tCb X scope pifs) (tEb X scope pk) (tEb X scope pv) ((vs.map fun i => (N.getD i "", i)).map (·.2)) σ H Q := by
  unfold mE at h
  obtain ⟨h, h7⟩ := ba h
  obtain ⟨h, h6⟩ := ba h
  obtain ⟨h, h5⟩ := ba h
  obtain ⟨h, h4⟩ := ba h
  obtain ⟨h, h3⟩ := ba h
  obtain ⟨h1, h2⟩ := ba h
  have ok : BlkOk X.N X.env.scope scope (vs.map fun i => (N.getD i "", i)) := by rw [g.hN, g.hsc]; exact blkOk_by h1
  have hI := sndI it g (tup_of h3) h2
  have hT : ∀ c, SG (Bk X scope c) ptg t := fun c => sg_of (gd_blk g scope c).hN (gd_blk g scope c).hsc (gd_blk g scope c).nd g.calm (fun x hx => hx) h3
  have hC := fun k => sndOC c (gd_blk g scope k) h5
  have hK : ∀ k, SB (Bk X scope k) pk (evB cl ke) := fun k => (sndE ke (gd_blk g scope k) h6).b (evB_eq ke)
  have hE := fun k => sndE ve (gd_blk g scope k) h7
  refine ⟨ok, sndFold it h2, fun env o env' e σ F H Q r q => ?_⟩
  refine s_dc (cl := cl) (Γ := Γ) g (own_map vs) hI hT hC hK hE (all_in h4) (f := evE cl (.dc vs ke ve t it c)) (fun env o env' e => ?_) env o env' e σ F H Q r q
  unfold evE at e
  simp only [bind, Option.bind_eq_some_iff, Prod.exists] at e
  obtain ⟨items, lk, env1, e1, e2⟩ := e
  split at e2
  · cases e2
  · rename_i hq
    simp only [Option.bind_eq_some_iff, Prod.exists] at e2
    obtain ⟨outs, env2, e3, ps, e4, e5⟩ := e2
    split at e5
    · rename_i hz
      cases e5
      exact ⟨items, lk, env1, outs, env2, ps, e1, lk_out' hq, e3, e4, hz, rfl, rfl⟩
    · cases e5
theorem ss_setE {e : E} {x : Str} {i : Nat} {p : Expr} {py pos : Pos} {f : En → Option Fl} (g : Gd Γ cl N sc X) (hk : sc.kind = .function) (hfn : ∀ x, X.fn x = true) (ht : tnB N sc (fun _ => true) i x = true) (hm : mE Γ N e sc p = true)
    (hf : ∀ env fl, f env = some fl → ∃ o env1 env2, evE cl e env = some (o, env1) ∧ stO env1 i o = some env2 ∧ fl = .nx env2) : SS X (.Assign [.Name x py] p pos) f := by
  have hsw := sw_cases (Γ := Γ) (N := N) (sc := sc) (p := p) (y := x) (py := py) (l := pos.line) (env := X.env) (by rw [g.hsc]; exact hk) g.hsc hm
  cases hb : swB sc x py p with
  | false =>
    rw [hb] at hsw
    exact ss_set g hfn ht hsw (sndE e g hm) hf
  | true =>
    rw [hb] at hsw
    cases p with
    | ListComp pel gs scope lpos =>
      have hb' := hb
      simp only [swB] at hb'
      obtain ⟨hb1, hb2⟩ := ba hb'
      obtain ⟨hb1, hb3⟩ := ba hb1
      have hN : X.N[i]? = some x := by
        obtain ⟨h4, h5⟩ := ba ht
        obtain ⟨h4, h6⟩ := ba h4
        rw [g.hN]; simpa using h4
      have hyl : X.env.scope.names.lookup x = some .local := by rw [g.hsc]; simpa using hb1
      intro env fl ev σ F H D r q
      obtain ⟨o, env1, env2, h1, h2, rfl⟩ := hf env fl ev
      have fin : QE X.K F H env σ o env1 (fun v H1 => gName i v σ H1 D.nx) := fun v F' H' p' r' n' => by
        obtain ⟨F2, p2⟩ := st_ok p' r' n' h2
        exact q _ F2 H' p2
      cases e with
      | lc vs el t it c =>
        have hm' := hm
        unfold mE at hm'
        split at hm'
        · rename_i heq
          cases heq
          obtain ⟨ok, fo, go⟩ := sndLc (pos := lpos) g hm
          exact WS.of (ps_setLc g.calm g.nd hN hyl hsw (pI X _ _) ok pgb ptb peb fo) (go env o env1 h1 σ F H _ r fin)
        · cases hm'
      | lc2 vs vs1 el t it c t1 it1 c1 =>
        have hm' := hm
        unfold mE at hm'
        split at hm'
        · rename_i heq
          cases heq
          obtain ⟨ok, fo, fo1, hv, go⟩ := sndLc2 (pos := lpos) g hm
          exact WS.of (ps_setLc2 g.calm g.nd hN hyl hsw (pI X _ _) ok hv pgb ptb pib pgb ptb peb fo fo1) (go env o env1 h1 σ F H _ r fin)
        · cases hm'
      | never => unfold evE at h1; cases h1
      | _ => unfold mE at hm; cases hm
    | DictComp pk pv gs scope lpos =>
      have hb' := hb
      simp only [swB] at hb'
      obtain ⟨hb1, hb2⟩ := ba hb'
      obtain ⟨hb1, hb3⟩ := ba hb1
      have hN : X.N[i]? = some x := by
        obtain ⟨h4, h5⟩ := ba ht
        obtain ⟨h4, h6⟩ := ba h4
        rw [g.hN]; simpa using h4
      have hyl : X.env.scope.names.lookup x = some .local := by rw [g.hsc]; simpa using hb1
      intro env fl ev σ F H D r q
      obtain ⟨o, env1, env2, h1, h2, rfl⟩ := hf env fl ev
      have fin : QE X.K F H env σ o env1 (fun v H1 => gName i v σ H1 D.nx) := fun v F' H' p' r' n' => by
        obtain ⟨F2, p2⟩ := st_ok p' r' n' h2
        exact q _ F2 H' p2
      cases e with
      | dc vs ke ve t it c =>
        have hm' := hm
        unfold mE at hm'
        split at hm'
        · rename_i heq
          cases heq
          obtain ⟨ok, fo, go⟩ := sndDc (pos := lpos) g hm
          exact WS.of (ps_setDc g.calm g.nd hN hyl hsw (pI X _ _) ok pgb ptb peb peb fo) (go env o env1 h1 σ F H _ r fin)
        · cases hm'
      | never => unfold evE at h1; cases h1
      | _ => unfold mE at hm; cases hm
    | _ => cases hb

def isStar : Expr → Bool
  | .Starred _ _ => true
  | _ => false
theorem star_of {p : Expr} (h : headOk p = true) : isStar p = false := by cases p <;> first | rfl | cases h
theorem swapped_two {env : Env} {x y : Str} {px py pt pt2 : Pos} {kt k2 : Nat} {pa pb : Expr} (hk : env.scope.kind = .function) (h : parB env.scope x y px py pa pb = true) (ha : headOk pa = true) (hb : headOk pb = true) :
    swappedStores [.Tuple [.Name x px, .Name y py] kt pt] (.Tuple [pa, pb] k2 pt2) env = pure (some [x, y]) := by
  have hbk : env.blockKind = .function := by unfold Env.blockKind; rw [hk]; rfl
  unfold parB at h
  simp only [Bool.and_eq_true] at h
  obtain ⟨⟨⟨⟨⟨h1, h2⟩, h3⟩, h4⟩, h5⟩, h6⟩ := h
  have kx : (env.kindOf x == some .local) = true := h1
  have ky : (env.kindOf y == some .local) = true := h2
  have hne : y ≠ x := by
    intro e
    subst e
    simp at h4
  have hd : [x, y].eraseDups = [x, y] := by
    simp [List.eraseDups_cons, hne]
  have e5 : [pa, pb].all (foldedForSure 8) = false := by
    simp only [List.all_cons, List.all_nil, Bool.and_true]
    cases hh : (foldedForSure 8 pa && foldedForSure 8 pb) with
    | true => rw [hh] at h5; cases h5
    | false => rfl
  have e6 : [pa, pb].all (constantsAlone 8) = false := by
    simp only [List.all_cons, List.all_nil, Bool.and_true]
    cases hh : (constantsAlone 8 pa && constantsAlone 8 pb) with
    | true => rw [hh] at h6; cases h6
    | false => rfl
  have sa := star_of ha
  have sb := star_of hb
  unfold swappedStores
  simp only [List.length_cons, List.length_nil, List.any_cons, List.any_nil, hbk, List.filterMap_cons, List.filterMap_nil, kx, ky, h3, List.head?_cons, Option.map_some, Option.getD_some, Expr.pos, beq_self_eq_true, Bool.and_self, if_true, hd, e5, e6]
  refine (if_neg (by decide)).trans ?_
  refine (if_neg fun z => ?_).trans ?_
  · have z : (isStar pa || (isStar pb || false)) = true := z
    rw [sa, sb] at z
    cases z
  · rfl
theorem ss_par {x y : Str} {i j : Nat} {pa pb : Expr} {px py pt pt2 pos : Pos} {kt k2 : Nat} {fd : En → Option (List D × En)} {f : En → Option Fl} (g : Gd Γ cl N sc X) (hk : sc.kind = .function) (hi : N[i]? = some x) (hj : N[j]? = some y) (hij : i ≠ j) (h : parB sc x y px py pa pb = true) (ha : headOk pa = true) (hb : headOk pb = true)
    (hd : SD X [pa, pb] fd) (hf : ∀ env fl, f env = some fl → ∃ d e env1 env2 env3, fd env = some ([d, e], env1) ∧ putS env1 i (.fz d) = some env2 ∧ putS env2 j (.fz e) = some env3 ∧ fl = .nx env3) :
    SS X (.Assign [.Tuple [.Name x px, .Name y py] kt pt] (.Tuple [pa, pb] k2 pt2) pos) f := by
  intro env fl e σ F H D r q
  obtain ⟨d, d2, env1, env2, env3, h1, h2, h3, rfl⟩ := hf env fl e
  have h' := h
  unfold parB at h'
  simp only [Bool.and_eq_true] at h'
  obtain ⟨⟨⟨⟨⟨k1, k2⟩, _⟩, _⟩, _⟩, _⟩ := h'
  refine WS.of (ps_par g.calm g.nd (by rw [g.hN]; exact hi) (by rw [g.hN]; exact hj) hij (by rw [g.hsc]; simpa using k1) (by rw [g.hsc]; simpa using k2) (pA X [pa, pb]) (swapped_two (by rw [g.hsc]; exact hk) (by rw [g.hsc]; exact h) ha hb)) ?_
  refine hd env [d, d2] env1 h1 σ F H _ r fun vs F1 H1 p1 i1 => ?_
  simp only [IsL] at i1
  obtain ⟨v, ws, rfl, iv, w, ws2, rfl, iw, rfl⟩ := i1
  refine ⟨v, w, rfl, ?_⟩
  have p2 := store_pst p1.rel h2 iv
  have p3 := store_pst p2.rel h3 iw
  exact q _ F1 H1 (p1.trans (p2.trans p3))
theorem sw_none_sub {o k : Expr} {p2 : Pos} {p : Expr} {env : Env} : swappedStores [.Subscript o k p2] p env = pure none := by cases p <;> rfl
theorem sw_sole_sub {o k : Expr} {p2 : Pos} {p : Expr} {l : Nat} {env : Env} : swapsWithSole [.Subscript o k p2] p l env = pure false := by cases p <;> rfl
theorem sw_sole_tup {es : List Expr} {k : Nat} {p2 : Pos} {p : Expr} {l : Nat} {env : Env} : swapsWithSole [.Tuple es k p2] p l env = pure false := by cases p <;> rfl
theorem sw_none_tup {es : List Expr} {k : Nat} {p2 : Pos} {p : Expr} {env : Env} (h : (match p with | .Tuple _ _ _ => false | _ => true) = true) : swappedStores [.Tuple es k p2] p env = pure none := by
  cases p <;> first | rfl | cases h
theorem sw_expr {p : Expr} {l : Nat} {env : Env} {e : E} {sc' : Scope} (h : isLc p = false) (hm : mE Γ N e sc' p = true) : swapsWith p none l env = pure false := by
  cases p with
  | ListComp a b c d => cases h
  | SetComp a b c d => cases e <;> (unfold mE at hm; first | cases hm | (unfold neverOk at hm; cases hm))
  | DictComp a b c d f => cases h
  | _ => rfl
theorem intD_eq {d : VI.D} {i : Int} (h : intD d = some i) : d = .int i := by unfold intD at h; split at h <;> cases h; rfl
mutual
theorem sndS : ∀ (s : S) {st : Stmt}, Gd Γ cl N sc X → sc.kind = .function → (∀ x, X.fn x = true) → mS Γ N sc s st = true → SS X st (evS cl s)
  | .set i e, st, g, hk, hfn, h => by
    unfold mS at h
    split at h
    · obtain ⟨h1, h2⟩ := ba h
      refine ss_setE g hk hfn h1 h2 fun env fl ev => ?_
      unfold evS at ev
      simp only [bind, Option.bind_eq_some_iff, Prod.exists] at ev
      obtain ⟨o, env1, e1, env2, e2, e3⟩ := ev
      cases e3
      exact ⟨o, env1, env2, e1, e2, rfl⟩
    · cases h
  | .unp t e, st, g, hk, hfn, h => by
    unfold mS at h
    split at h
    · obtain ⟨h, h3⟩ := ba h
      obtain ⟨h1, h2⟩ := ba h
      refine ss_unp sw_sole_tup (sw_none_tup h3) rfl (sndE e g h2) (sg_of g.hN g.hsc g.nd g.calm (fun x _ => hfn x) h1) fun env fl ev => ?_
      unfold evS at ev
      simp only [bind, Option.bind_eq_some_iff, Prod.exists] at ev
      obtain ⟨o, env1, e1, d, env2, e2, env3, e3, e4⟩ := ev
      cases e4
      exact ⟨o, env1, d, env2, env3, e1, e2, e3, rfl⟩
    · cases h
  | .par i j a b, st, g, hk, hfn, h => by
    unfold mS at h
    split at h
    · obtain ⟨h, h6⟩ := ba h
      obtain ⟨h, h5⟩ := ba h
      obtain ⟨h, h4⟩ := ba h
      obtain ⟨h, h3⟩ := ba h
      obtain ⟨h1, h2⟩ := ba h
      refine ss_par (fd := evDs cl (.cons a (.cons b .nil))) g hk (by simpa using h1) (by simpa using h2) (by simpa using h3) h4 (mE_head h5) (mE_head h6) (sndDs (.cons a (.cons b .nil)) g ?_) fun env fl ev => ?_
      · unfold mEs; unfold mEs; unfold mEs
        simp [h5, h6]
      · unfold evS at ev
        simp only [bind, Option.bind_eq_some_iff, Prod.exists] at ev
        obtain ⟨ds, env1, e1, e2⟩ := ev
        split at e2
        · simp only [Option.bind_eq_some_iff] at e2
          obtain ⟨env2, e3, env3, e4, e5⟩ := e2
          cases e5
          exact ⟨_, _, env1, env2, env3, e1, e3, e4, rfl⟩
        · cases e2
    · cases h
  | .seta i fn e, st, g, hk, hfn, h => by
    unfold mS at h
    split at h
    · obtain ⟨h, h3⟩ := ba h
      obtain ⟨h1, h2⟩ := ba h
      refine ss_seta g (by simpa using h1) h2 (sndE e g h3) fun env fl ev => ?_
      unfold evS at ev
      simp only [bind, Option.bind_eq_some_iff, Prod.exists] at ev
      obtain ⟨o, env1, e1, d, env2, e2, e3⟩ := ev
      split at e3
      · rename_i io d0 hx
        simp only [Option.bind_eq_some_iff] at e3
        obtain ⟨d1, e4, e5⟩ := e3
        cases e5
        exact ⟨o, env1, d, env2, io, d0, d1, e1, e2, hx, e4, rfl⟩
      · cases e3
    · cases h
  | .put i k e, st, g, hk, hfn, h => by
    unfold mS at h
    split at h
    · obtain ⟨h, h3⟩ := ba h
      obtain ⟨h1, h2⟩ := ba h
      refine ss_put g h1 (mE_head h2) sw_none_sub sw_sole_sub (sndE e g h3) ((sndE k g h2).b (evB_eq k)) fun env fl ev => ?_
      unfold evS at ev
      simp only [bind, Option.bind_eq_some_iff, Prod.exists] at ev
      obtain ⟨o, env1, e1, d, env2, e2, e3⟩ := ev
      split at e3
      · cases e3
      · rename_i hq
        have hq : isOwL env2 i = true := by simpa using hq
        simp only [Option.bind_eq_some_iff, Prod.exists] at e3
        obtain ⟨o2, env3, e4, dk, e5, n, e6, e7⟩ := e3
        have := intD_eq e6
        subst this
        split at e7
        · rename_i io xs hx
          simp only [Option.bind_eq_some_iff] at e7
          obtain ⟨j, e8, e9⟩ := e7
          cases e9
          refine ⟨o, env1, d, env2, o2, env3, io, xs, n, j, e1, e2, ?_, e4, e5, hx, e8, rfl⟩
          unfold isOwL at hq
          split at hq
          · rename_i io xs q; exact ⟨io, xs, q⟩
          · cases hq
        · cases e7
    · cases h
  | .dput i k e, st, g, hk, hfn, h => by
    unfold mS at h
    split at h
    · obtain ⟨h, h3⟩ := ba h
      obtain ⟨h1, h2⟩ := ba h
      refine ss_dput g h1 (sndE e g h3) ((sndE k g h2).b (evB_eq k)) fun env fl ev => ?_
      unfold evS at ev
      simp only [bind, Option.bind_eq_some_iff, Prod.exists] at ev
      obtain ⟨o, env1, e1, d, env2, e2, e3⟩ := ev
      split at e3
      · cases e3
      · rename_i hq
        have hq : isOwK env2 i = true := by simpa using hq
        simp only [Option.bind_eq_some_iff, Prod.exists] at e3
        obtain ⟨o2, env3, e4, dk, e5, j, e6, e7⟩ := e3
        split at e7
        · rename_i io ks ds hx
          split at e7
          · rename_i hz
            cases e7
            refine ⟨o, env1, d, env2, o2, env3, io, ks, ds, dk, j, e1, e2, ?_, e4, e5, e6, hx, hz, rfl⟩
            unfold isOwK at hq
            split at hq
            · rename_i io ks ds q; exact ⟨io, ks, ds, q⟩
            · cases hq
          · cases e7
        · cases e7
    · cases h
  | .setrg i a, st, g, hk, hfn, h => by
    unfold mS at h
    split at h
    · obtain ⟨h, h4⟩ := ba h
      obtain ⟨h, h3⟩ := ba h
      obtain ⟨h1, h2⟩ := ba h
      refine ss_setrg g hfn h1 (by simpa using h2) h3 (mE_head h4) ((sndE a g h4).b (evB_eq a)) fun env fl ev => ?_
      unfold evS at ev
      simp only [bind, Option.bind_eq_some_iff, Prod.exists] at ev
      obtain ⟨o, env1, e1, dx, e2, n, e3, env2, e4, e5⟩ := ev
      cases e5
      have := intD_eq e3
      subst this
      exact ⟨o, env1, n, env2, e1, e2, e4, rfl⟩
    · cases h
  | .inc i e, st, g, hk, hfn, h => by
    unfold mS at h
    split at h
    · obtain ⟨h1, h2⟩ := ba h
      refine ss_inc g hfn h1 ((sndE e g h2).b (evB_eq e)) fun env fl ev => ?_
      unfold evS at ev
      simp only [bind] at ev
      split at ev
      · rename_i a ha
        simp only [Option.bind_eq_some_iff, Prod.exists] at ev
        obtain ⟨o, env1, e1, d, e2, b, e3, env2, e4, e5⟩ := ev
        cases e5
        have := intD_eq e3
        subst this
        exact ⟨a, o, env1, b, env2, ha, e1, e2, e4, rfl⟩
      · cases ev
    · cases h
  | .expr e, st, g, hk, hfn, h => by
    unfold mS at h
    split at h
    · obtain ⟨h1, h2⟩ := ba h
      refine ss_expr (mE_head h2) (sw_expr (by simpa using h1) h2) (sndE e g h2) fun env fl ev => ?_
      unfold evS at ev
      simp only [bind, Option.bind_eq_some_iff, Prod.exists] at ev
      obtain ⟨o, env1, e1, e2⟩ := ev
      cases e2
      exact ⟨o, env1, e1, rfl⟩
    · cases h
  | .ret e, st, g, hk, hfn, h => by
    unfold mS at h
    split at h
    · refine ss_ret (sndE e g h) fun env fl ev => ?_
      unfold evS at ev
      simp only [bind, Option.bind_eq_some_iff, Prod.exists] at ev
      obtain ⟨o, env1, e1, o2, env2, e2, e3⟩ := ev
      cases e3
      exact ⟨o, env1, o2, env2, e1, e2, rfl⟩
    · cases h
  | .retn, st, g, hk, hfn, h => by
    unfold mS at h
    split at h
    · exact ss_retn fun env => by unfold evS; rfl
    · cases h
  | .ifs c a b, st, g, hk, hfn, h => by
    unfold mS at h
    split at h
    · obtain ⟨h, h3⟩ := ba h
      obtain ⟨h1, h2⟩ := ba h
      refine ss_if (sndC c g h1) (sndSs a g hk hfn h2) (sndSs b g hk hfn h3) fun env fl ev => ?_
      unfold evS at ev
      simp only [bind, Option.bind_eq_some_iff, Prod.exists] at ev
      exact ev
    · cases h
  | .fo t it b, st, g, hk, hfn, h => by
    unfold mS at h
    split at h
    · obtain ⟨h, h3⟩ := ba h
      obtain ⟨h1, h2⟩ := ba h
      refine ss_for g.xe g.calm (sndFold it h1) (sndI it g (tup_of h2) h1) (sg_of g.hN g.hsc g.nd g.calm (fun x _ => hfn x) h2) (sndSs b g hk hfn h3) fun env fl ev => ?_
      unfold evS at ev
      simp only [bind, Option.bind_eq_some_iff, Prod.exists] at ev
      obtain ⟨items, lk, env1, e1, fl1, e2, e3⟩ := ev
      cases e3
      exact ⟨items, lk, env1, fl1, e1, e2, rfl⟩
    · cases h
  | .whi c b, st, g, hk, hfn, h => by
    unfold mS at h
    split at h
    · obtain ⟨h1, h2⟩ := ba h
      refine ss_while g.xe (sndC c g h1) (sndSs b g hk hfn h2) fun env fl ev => ?_
      unfold evS at ev
      exact whE_ex ev
    · cases h
  | .brk, st, g, hk, hfn, h => by
    unfold mS at h
    split at h
    · intro env fl ev σ F H D r q
      unfold evS at ev
      cases ev
      exact WS.of ps_break (q σ F H (.refl r))
    · cases h
  | .cont, st, g, hk, hfn, h => by
    unfold mS at h
    split at h
    · intro env fl ev σ F H D r q
      unfold evS at ev
      cases ev
      exact WS.of ps_continue (q σ F H (.refl r))
    · cases h
  | .pass, st, g, hk, hfn, h => by
    unfold mS at h
    split at h
    · intro env fl ev σ F H D r q
      unfold evS at ev
      cases ev
      exact WS.of ps_pass (q σ F H (.refl r))
    · cases h
  | .doc, st, g, hk, hfn, h => by
    unfold mS at h
    split at h
    · intro env fl ev σ F H D r q
      unfold evS at ev
      cases ev
      exact WS.of ps_doc (q σ F H (.refl r))
    · cases h
  | .never, st, g, hk, hfn, h => by
    intro env fl ev
    unfold evS at ev
    cases ev
termination_by structural s => s
theorem sndSs : ∀ (ss : Ss) {sts : List Stmt}, Gd Γ cl N sc X → sc.kind = .function → (∀ x, X.fn x = true) → mSs Γ N sc ss sts = true → SSs X sts (evSs cl ss)
  | .nil, sts, g, hk, hfn, h => by
    unfold mSs at h
    cases sts with
    | nil => exact ss_nil fun env => by unfold evSs; rfl
    | cons => cases h
  | .cons s ss, sts, g, hk, hfn, h => by
    unfold mSs at h
    cases sts with
    | nil => cases h
    | cons st sts =>
      obtain ⟨h1, h2⟩ := ba h
      refine ss_cons (sndS s g hk hfn h1) (sndSs ss g hk hfn h2) fun env fl ev => ?_
      unfold evSs at ev
      simp only [bind, Option.bind_eq_some_iff] at ev
      obtain ⟨fl1, e1, e2⟩ := ev
      refine ⟨fl1, e1, ?_⟩
      cases fl1 with
      | nx e => exact .inl ⟨e, rfl, e2⟩
      | bk e => cases e2; exact .inr ⟨(fun e z => by cases z), rfl⟩
      | ct e => cases e2; exact .inr ⟨(fun e z => by cases z), rfl⟩
      | rt o e => cases e2; exact .inr ⟨(fun e z => by cases z), rfl⟩
end
end
end VI
namespace VI
open PySem PySem.Spec L2
structure FD where
  ps : List Str
  N : List Str
  body : Ss
/-- the defs, by their numbers -/
abbrev Tb := Nat → Option FD
def argOk : Sl → Bool
  | .fz _ => true
  | .ow io _ => io
  | .lk io _ => io
  | .un => false
  | .rg _ _ => false
/-- the lists that were lent, as the def leaves them -/
def finA (args : List Sl) (env : En) : List Sl := args.mapIdx fun i a => match a with
  | .ow _ _ => (env[i]?).getD a
  | a => a
def endF (args : List Sl) : Fl → Option (Op × List Sl)
  | .nx env => some (.v .non, finA args env)
  | .rt (.v d) env => some (.v d, finA args env)
  | .rt (.nw d) env => some (.nw d, finA args env)
  | _ => none
noncomputable def runDef (cl : CallF) (d : FD) (args : List Sl) : Option (Op × List Sl) :=
  if args.length = d.ps.length ∧ args.all argOk = true then (evSs cl d.body (args ++ List.replicate (d.N.length - args.length) .un)).bind (endF args) else none
noncomputable def callN (Δ : Tb) : Nat → CallF
  | 0 => fun _ _ => none
  | k + 1 => fun f args => (Δ f).bind fun d => runDef (callN Δ k) d args

section
variable {K : PySem.W.Frag} {F F' : FS} {H H' : Hp} {args : List Sl} {vs : List V} {n m : Nat} {env : En} {σ' : Slots}
theorem app_get {i : Nat} {s : Sl} (h : (args ++ List.replicate n Sl.un)[i]? = some s) (hs : s ≠ .un) : args[i]? = some s := by
  by_cases hi : i < args.length
  · rwa [List.getElem?_append_left hi] at h
  · rw [List.getElem?_append_right (by omega), List.getElem?_replicate] at h
    split at h
    · cases h; exact absurd rfl hs
    · cases h
theorem app_some {i : Nat} {x : Option V} (h : (vs.map some)[i]? = some x) : (vs.map some ++ List.replicate m none)[i]? = some x := by
  have hi : i < (vs.map some).length := (List.getElem?_eq_some_iff.mp h).1
  rw [List.getElem?_append_left hi]
  exact h
theorem app_own {i : Nat} {s : Sl} {d : D} (h : (args ++ List.replicate n Sl.un)[i]? = some s) (hs : s.own = some d) : args[i]? = some s := app_get h fun z => by subst z; cases hs
theorem app_back {i : Nat} {s : Sl} {x : Option V} (hl : args.length = (vs.map some).length) (ha : args[i]? = some s) (h : (vs.map some ++ List.replicate m none)[i]? = some x) : (vs.map some)[i]? = some x := by
  have hi : i < args.length := (List.getElem?_eq_some_iff.mp ha).1
  rwa [List.getElem?_append_left (by omega)] at h
theorem rel_app (r : RelE K F H args (vs.map some)) (hm : args.length + n = vs.length + m) : RelE K F H (args ++ List.replicate n .un) (vs.map some ++ List.replicate m none) where
  len := by simp; omega
  fz := fun i d h => by
    obtain ⟨v, e1, e2⟩ := r.fz i d (app_get h fun z => by cases z)
    exact ⟨v, app_some e1, e2⟩
  ow := fun i s d h hs => by
    obtain ⟨a, e1, e2⟩ := r.ow i s d (app_own h hs) hs
    exact ⟨a, app_some e1, e2⟩
  ne := fun i j s t d e a h hs h' ht q q' => r.ne i j s t d e a (app_own h hs) hs (app_own h' ht) ht (app_back r.len (app_own h hs) q) (app_back r.len (app_own h' ht) q')
  fdm := r.fdm
  rg := fun i lo hi h => by
    obtain ⟨v, e1, e2⟩ := r.rg i lo hi (app_get h fun z => by cases z)
    exact ⟨v, app_some e1, e2⟩
theorem finA_get {i : Nat} {s : Sl} (h : (finA args env)[i]? = some s) : ∃ a, args[i]? = some a ∧ s = (match a with
  | .ow _ _ => (env[i]?).getD a
  | a => a) := by
  unfold finA at h
  rw [List.getElem?_mapIdx] at h
  cases e : args[i]? with
  | none => rw [e] at h; cases h
  | some a =>
    rw [e] at h
    cases h
    exact ⟨a, rfl, rfl⟩
/-- behind the def: the caller's view -/
theorem fin_pst (r : RelE K F H args (vs.map some)) (ok : args.all argOk = true) (p : Pst K F H (args ++ List.replicate n .un) (vs.map some ++ List.replicate m none) F' H' env σ') :
    Pst K F H args (vs.map some) F' H' (finA args env) (vs.map some) ∧ ∀ a, OA (finA args env) (vs.map some) a → OA env σ' a ∧ OA args (vs.map some) a := by
  have oka : ∀ {i : Nat} {a : Sl}, args[i]? = some a → argOk a = true := fun {i a} h => List.all_eq_true.mp ok a (List.mem_of_getElem? h)
  have lft : ∀ {i : Nat} {a : Sl}, args[i]? = some a → (args ++ List.replicate n Sl.un)[i]? = some a := fun {i a} h => by
    rw [List.getElem?_append_left (List.getElem?_eq_some_iff.mp h).1]; exact h
  have sg : ∀ {i : Nat} {a : Sl}, args[i]? = some a → (vs.map some ++ List.replicate m none)[i]? = (vs.map some)[i]? := fun {i a} h => by
    have hi : i < args.length := (List.getElem?_eq_some_iff.mp h).1
    have := r.len
    rw [List.getElem?_append_left (by omega)]
  -- an own slot at the end
  have own : ∀ {i : Nat} {s : Sl} {d : D}, (finA args env)[i]? = some s → s.own = some d → env[i]? = some s ∧ σ'[i]? = (vs.map some)[i]? ∧ ∃ a d0, args[i]? = some a ∧ a.own = some d0 := fun {i s d} h hs => by
    obtain ⟨a, h1, h2⟩ := finA_get h
    cases a with
    | un => have := oka h1; cases this
    | rg => have := oka h1; cases this
    | fz d0 => subst h2; cases hs
    | ow io d0 =>
      have hio : io = true := oka h1
      subst hio
      obtain ⟨⟨d2, h3⟩, h4⟩ := p.io i d0 (lft h1)
      simp only [h3, Option.getD_some] at h2
      subst h2
      exact ⟨h3, by rw [h4, sg h1], _, d0, h1, rfl⟩
    | lk io d0 =>
      obtain ⟨h3, h4⟩ := p.lk i io d0 (lft h1)
      subst h2
      exact ⟨h3, by rw [h4, sg h1], _, d0, h1, rfl⟩
  have oaf : ∀ a, OA (finA args env) (vs.map some) a → OA env σ' a ∧ OA args (vs.map some) a := fun a ⟨i, s, d, h, hs, q⟩ => by
    obtain ⟨h1, h2, b, d0, h3, h4⟩ := own h hs
    exact ⟨⟨i, s, d, h1, hs, by rw [h2]; exact q⟩, ⟨i, b, d0, h3, h4, q⟩⟩
  refine ⟨⟨p.st.less fun a ⟨i, s, d, h, hs, q⟩ => ⟨i, s, d, app_own h hs, hs, app_back r.len (app_own h hs) q⟩, ⟨?_, ?_, ?_, ?_, p.rel.fdm, fun i lo hi h => ?_⟩, fun a h => .inl (oaf a h).2, fun j d h => ?_, fun j io d h => ?_⟩, oaf⟩
  · rw [← r.len]; unfold finA; simp
  · intro i d h
    obtain ⟨a, h1, h2⟩ := finA_get h
    cases a with
    | un => cases h2
    | rg => cases h2
    | fz d0 =>
      cases h2
      obtain ⟨v, e1, e2⟩ := r.fz i d h1
      exact ⟨v, e1, e2.mono p.st.sub p.st.agr⟩
    | ow io d0 =>
      have hio : io = true := oka h1
      subst hio
      obtain ⟨⟨d2, h3⟩, h4⟩ := p.io i d0 (lft h1)
      simp only [h3, Option.getD_some] at h2
      cases h2
    | lk io d0 => cases h2
  · intro i s d h hs
    obtain ⟨h1, h2, _⟩ := own h hs
    obtain ⟨a, e1, e2⟩ := p.rel.ow i s d h1 hs
    exact ⟨a, by rw [← h2]; exact e1, e2⟩
  · intro i j s t d e a h hs h' ht q q'
    obtain ⟨h1, h2, _⟩ := own h hs
    obtain ⟨h3, h4, _⟩ := own h' ht
    exact p.rel.ne i j s t d e a h1 hs h3 ht (by rw [h2]; exact q) (by rw [h4]; exact q')
  · obtain ⟨a, h1, h2⟩ := finA_get h
    cases a with
    | un => cases h2
    | rg => have := oka h1; cases this
    | fz d0 => cases h2
    | ow io d0 =>
      have hio : io = true := oka h1
      subst hio
      obtain ⟨⟨d2, h3⟩, h4⟩ := p.io i d0 (lft h1)
      simp only [h3, Option.getD_some] at h2
      cases h2
    | lk io d0 => cases h2
  · obtain ⟨⟨d2, h3⟩, _⟩ := p.io j d (lft h)
    refine ⟨⟨d2, ?_⟩, rfl⟩
    unfold finA
    rw [List.getElem?_mapIdx, h]
    simp [h3]
  · refine ⟨?_, rfl⟩
    unfold finA
    rw [List.getElem?_mapIdx, h]
    rfl
end
theorem callN_len {Δ : Tb} {k f : Nat} {d : FD} {args : List Sl} {r : Op} {fin : List Sl} (hd : Δ f = some d) (h : callN Δ k f args = some (r, fin)) : args.length = d.ps.length := by
  cases k with
  | zero => cases h
  | succ k =>
    simp only [callN, hd, Option.bind_some, runDef] at h
    split at h
    · rename_i q; exact q.1
    · cases h
theorem callN_np {Δ : Tb} {k f : Nat} {args : List Sl} {r : Op} {fin : List Sl} (h : callN Δ k f args = some (r, fin)) : ∀ i, r ≠ .p i := by
  intro i
  cases k with
  | zero => cases h
  | succ k =>
    simp only [callN, Option.bind_eq_some_iff, runDef] at h
    obtain ⟨d, _, h⟩ := h
    split at h
    · simp only [Option.bind_eq_some_iff] at h
      obtain ⟨fl, _, h⟩ := h
      unfold endF at h
      split at h <;> (cases h; try (intro z; cases z))
    · cases h
/-- a number of a def, a method -/
def Gm.hasI (Γ : Gm) (i : Nat) : Prop := (∃ x, Γ.fns.contains (x, i) = true) ∨ (∃ c, Γ.mks.contains (c, i) = true) ∨ ∃ c m, Γ.mes.contains ((c, m), i) = true
/-- what stands behind the names of a program -/
structure Tab (K : PySem.W.Frag) (mg : Str → Option Value) (Δ : Tb) (tp : Nat → Stmt) (Γ : Gm) : Prop where
  fr : ∀ x, Γ.frees.contains x = true → mg x = none
  gc : Γ.gc = true → mg "gcd" = some (.builtin "math.gcd")
  cn : ∀ x d, Γ.cons.lookup x = some d → ∃ u v, mg x = some u ∧ RelV v u ∧ ∀ F H, Is K F H d v
  mak : ∀ c i, Γ.mks.contains (c, i) = true → ∃ d q C a fd, Δ i = some d ∧ FunD K "__init__" q (defArgs (tp i)) (defBody (tp i)) (defScope (tp i)) [] [] a fd ∧ mg c.nm = some (.ref C) ∧ CA K c C ∧ Mk K C a ∧ Binds K fd d.ps []
  me : ∀ c m i, Γ.mes.contains ((c, m), i) = true → ∃ d q C a fd, Δ i = some d ∧ FunD K m q (defArgs (tp i)) (defBody (tp i)) (defScope (tp i)) [] [] a fd ∧ CA K c C ∧ Meth K C m a ∧ Binds K fd d.ps []
  fn : ∀ x i, Γ.fns.contains (x, i) = true → ∃ d a fd, Δ i = some d ∧ FunD K x x (defArgs (tp i)) (defBody (tp i)) (defScope (tp i)) [] [] a fd ∧ mg x = some (.ref a) ∧ Binds K fd d.ps []
  ok : ∀ i, Γ.hasI i → ∀ d, Δ i = some d → FnScope d.N d.ps (defScope (tp i)) ∧ mSs Γ d.N (defScope (tp i)) d.body (defBody (tp i)) = true
theorem tab_fn {P : Program} {w : World} {K : PySem.W.Frag} {mg : Str → Option Value} {base : Heap} {Δ : Tb} {tp : Nat → Stmt} {Γ : Gm} (T : Tab K mg Δ tp Γ) : ∀ (k i : Nat) (y x : Str) (d : FD) (a : Addr) (fd : FuncData), Γ.hasI i → Δ i = some d → FunD K y x (defArgs (tp i)) (defBody (tp i)) (defScope (tp i)) [] [] a fd →
    FnOk P w K mg base CX0 (2 * k) a fd d.ps (spOf K (callN Δ k) i d.ps.length)
  | 0, i, y, x, d, a, fd, hx, hd, F => ⟨fun vs H Q E h => h.1, fun A outer s H args us vs Q E hr e0 hb hv h => by
      obtain ⟨_, F, args, r, fin, h1, _⟩ := h
      cases h1⟩
  | k + 1, i, y, x, d, a, fd, hx, hd, F => by
    obtain ⟨S, M⟩ := T.ok i hx d hd
    show FnOk P w K mg base CX0 (2 * k + 1 + 1) a fd d.ps (spOf K (callN Δ (k + 1)) i d.ps.length)
    refine F.ok S (fun vs H Q E h => h.1) fun cdv A outer s H vs Q E hr h => ?_
    refine ⟨WSs (cxOf CX0 P w K mg base d.N x (defScope (tp i)) a cdv A outer s H E).nox (defBody (tp i)), (pSs _ _).nox, ?_⟩
    obtain ⟨hl, F0, args, r, fin, hc, rel, hQ⟩ := h
    simp only [callN, hd, Option.bind_some, runDef] at hc
    split at hc
    · rename_i ok
      simp only [Option.bind_eq_some_iff] at hc
      obtain ⟨fl, hev, hend⟩ := hc
      have g : Gd Γ (callN Δ k) d.N (defScope (tp i)) (cxOf CX0 P w K mg base d.N x (defScope (tp i)) a cdv A outer s H E).nox :=
        ⟨rfl, rfl, S.nd, rfl, rfl, (by have := hr.un; show (A.deeper _).units + 100 < cLine; omega), T.fr, fun y f hy => by
          obtain ⟨d', a', fd', h1, h2, h3, h4⟩ := T.fn y f hy
          exact ⟨⟨2 * k, a', fd', d'.ps, tab_fn T k f y y d' a' fd' (.inl ⟨y, hy⟩) h1 h2, hr.mono (Nat.le_succ _), h3, h2.kp, h4, fun args r fin e => callN_len h1 e⟩, fun args r fin e => callN_np e⟩, T.gc, T.cn, fun c f hy => by
          obtain ⟨d', q, C, a', fd', h1, h2, h3, h4, h5, h6⟩ := T.mak c f hy
          exact ⟨2 * k, C, a', fd', d'.ps, tab_fn T k f _ q d' a' fd' (.inr (.inl ⟨c, hy⟩)) h1 h2, hr, h3, h4, h5, h6, fun args r fin e => callN_len h1 e⟩, fun c m f hy => by
          obtain ⟨d', q, C, a', fd', h1, h2, h3, h4, h5⟩ := T.me c m f hy
          exact ⟨⟨2 * k, C, a', fd', d'.ps, tab_fn T k f m q d' a' fd' (.inr (.inr ⟨c, m, hy⟩)) h1 h2, hr.mono (Nat.le_succ _), h3, h4, h5, fun args r fin e => callN_len h1 e⟩, fun args r fin e => callN_np e⟩⟩
      have hle : d.ps.length ≤ d.N.length := by have := congrArg List.length S.pre; rw [List.length_take] at this; omega
      have r0 := rel_app (n := d.N.length - args.length) (m := d.N.length - vs.length) rel (by omega)
      refine sndSs d.body g S.kind (fun _ => rfl) M _ fl hev (start d.N vs) F0 H _ r0 ?_
      cases fl with
      | nx e =>
        simp only [endF, Option.some.injEq, Prod.mk.injEq] at hend
        obtain ⟨rfl, rfl⟩ := hend
        exact fun σ' F' H' p => hQ .non F' H' (fin_pst rel ok.2 p).1 (by simp [RelOp, Is]) fun d z => by cases z
      | bk e => cases hend
      | ct e => cases hend
      | rt o e =>
        intro v σ' F' H' p ro np nw
        obtain ⟨p1, p2⟩ := fin_pst rel ok.2 p
        cases o with
        | v d0 =>
          simp only [endF, Option.some.injEq, Prod.mk.injEq] at hend
          obtain ⟨rfl, rfl⟩ := hend
          exact hQ v F' H' p1 ro fun d z => by cases z
        | nw d0 =>
          simp only [endF, Option.some.injEq, Prod.mk.injEq] at hend
          obtain ⟨rfl, rfl⟩ := hend
          refine hQ v F' H' p1 ro fun d _ b eb => ?_
          obtain ⟨z1, z2⟩ := nw d0 rfl b eb
          refine ⟨?_, fun z => z2 (p2 b z).1⟩
          rcases z1 with z1 | ⟨j, s1, d2, h1, h2, _⟩
          · exact z1
          · have h3 := app_own h1 (mine_own h2)
            have h4 := List.all_eq_true.mp ok.2 s1 (List.mem_of_getElem? h3)
            cases s1 with
            | un => cases h2
            | rg => cases h2
            | fz => cases h2
            | ow io d3 => have : io = true := h4; subst this; cases h2
            | lk io d3 => have : io = true := h4; subst this; cases h2
        | p j => cases hend
    · cases hc
end VI
namespace VI
open PySem PySem.Spec L2
/-- a class of the text: its methods' numbers -/
structure CD where
  c : Cn
  ms : List (Str × Nat)
def mkD (tp : Nat → Stmt) (p : Str × Nat) : He.DefD := ⟨(p.1, none), p.1, p.1, defArgs (tp p.2), defBody (tp p.2), defScope (tp p.2), [], []⟩
def mkM (tp : Nat → Stmt) (c : Str) (p : Str × Nat) : He.DefD := ⟨(c, some p.1), p.1, c ++ "." ++ p.1, defArgs (tp p.2), defBody (tp p.2), defScope (tp p.2), [], []⟩
def fnL (names : List (Str × Nat)) (cls : List CD) (tp : Nat → Stmt) : List He.DefD := names.map (mkD tp) ++ cls.flatMap fun d => d.ms.map (mkM tp d.c.nm)
def faC (d : CD) : List He.Fa := .glo d.c.nm :: .cls d.c.nm :: ((if (d.ms.lookup ("__init__" : Str)).isSome then [.mkr d.c.nm] else []) ++ d.c.fl.map (.noat d.c.nm) ++ d.ms.map fun p => .meth d.c.nm p.1)
def faL (names : List (Str × Nat)) (frees : List Str) (cls : List CD) : List He.Fa := names.map (fun p => .glo p.1) ++ frees.map .free ++ cls.flatMap faC
def mksL (cls : List CD) : List (Cn × Nat) := cls.filterMap fun d => (d.ms.lookup ("__init__" : Str)).map fun i => (d.c, i)
def mesL (cls : List CD) : List ((Cn × Str) × Nat) := cls.flatMap fun d => d.ms.map fun p => ((d.c, p.1), p.2)
def gmL (names : List (Str × Nat)) (frees : List Str) (gc : Bool := false) (cls : List CD := []) (cons : List (Str × D) := []) : Gm := ⟨names, frees, gc, mksL cls, mesL cls, cons⟩
def BindsOk (st : Stmt) (ps : List Str) : Prop := ∀ (x q : Str) (kV doc pm : Value) (an : Option Addr) (cdv ct : Value) (us : List Value), us.length = ps.length → bindArgs (PySem.W.fnOf x q (defArgs st) (defBody st) (defScope st) .none kV doc pm an cdv ct) ⟨us, []⟩ = pure (ps.zip us)
def okFD (Γ : Gm) (st : Stmt) (d : FD) : Bool := C8.scC d.N d.ps (defScope st) && mSs Γ d.N (defScope st) d.body (defBody st)
/-- def p of the text is def p.2 of the table -/
def OkAt (Δ : Tb) (tp : Nat → Stmt) (Γ : Gm) (p : Str × Nat) : Prop := ∃ d, Δ p.2 = some d ∧ BindsOk (tp p.2) d.ps ∧ okFD Γ (tp p.2) d = true
mutual
def cnB (K : PySem.W.Frag) : D → Value → Bool
  | .non, .none => true
  | .bl b, .bool c => b == c
  | .int i, .int j _ => decide (i = j)
  | .str s, .str z _ => decide (s = z)
  | .tup xs, .ref a => match K.lookup a with
    | some ⟨.type c, none, .seq its _, _⟩ => decide (c = "tuple") && decide (its.size ≤ sizeLine) && cnBs K xs its.toList
    | _ => false
  | _, _ => false
def cnBs (K : PySem.W.Frag) : List D → List Value → Bool
  | [], [] => true
  | x :: xs, u :: us => cnB K x u && cnBs K xs us
  | _, _ => false
end
mutual
theorem cn_ok {K : PySem.W.Frag} : ∀ {d : D} {u : Value}, cnB K d u = true → ∃ v, RelV v u ∧ ∀ F H, Is K F H d v
  | .non, u, h => by
    cases u with
    | none => exact ⟨.non, rfl, fun F H => by simp [Is]⟩
    | _ => simp [cnB] at h
  | .bl b, u, h => by
    cases u with
    | bool c =>
      have e : b = c := by simpa [cnB] using h
      subst e
      exact ⟨.bl b, rfl, fun F H => by simp [Is]⟩
    | _ => simp [cnB] at h
  | .int i, u, h => by
    cases u with
    | int j t =>
      have e : i = j := by simpa [cnB] using h
      subst e
      exact ⟨.int i, ⟨t, rfl⟩, fun F H => by simp [Is]⟩
    | _ => simp [cnB] at h
  | .str i, u, h => by
    cases u with
    | str j t =>
      have e : i = j := by simpa [cnB] using h
      subst e
      exact ⟨.str i, ⟨t, rfl⟩, fun F H => by simp [Is]⟩
    | _ => simp [cnB] at h
  | .tup xs, u, h => by
    cases u with
    | ref a =>
      simp only [cnB] at h
      split at h
      · rename_i c its n y e
        simp only [Bool.and_eq_true, decide_eq_true_eq] at h
        obtain ⟨⟨h1, h2⟩, h3⟩ := h
        obtain ⟨vs, k1, k2⟩ := cns_ok h3
        refine ⟨.ref a, rfl, fun F H => ?_⟩
        simp only [Is]
        exact ⟨a, vs, rfl, .inr ⟨_, its, n, e, ⟨by rw [h1], rfl⟩, rfl, h2, k1⟩, k2 F H⟩
      · cases h
    | _ => simp [cnB] at h
  | .lst _, u, h => by simp [cnB] at h
  | .scr _, u, h => by simp [cnB] at h
  | .ins _ _ _, u, h => by simp [cnB] at h
  | .dk _ _, u, h => by simp [cnB] at h
theorem cns_ok {K : PySem.W.Frag} : ∀ {ds : List D} {us : List Value}, cnBs K ds us = true → ∃ vs, Vals vs us ∧ ∀ F H, IsL K F H ds vs
  | [], us, h => by
    cases us with
    | nil => exact ⟨[], .nil, fun F H => .nil⟩
    | cons => simp [cnBs] at h
  | d :: ds, us, h => by
    cases us with
    | nil => simp [cnBs] at h
    | cons u us =>
      simp only [cnBs, Bool.and_eq_true] at h
      obtain ⟨v, h1, h2⟩ := cn_ok h.1
      obtain ⟨vs, h3, h4⟩ := cns_ok h.2
      exact ⟨v :: vs, .cons h1 h3, fun F H => .cons (h2 F H) (h4 F H)⟩
end
def exC (K : PySem.W.Frag) (c : Str) : Bool :=
  He.eqO (PySem.W.findIn K (.ref (He.ga K c)) "__class__") (some (some (.builtin "object.__class__"))) &&
  (He.eqO (PySem.W.specialIn K (.builtin "object.__class__") "__get__") (some (some (.builtin "getset_descriptor.__get__"))) &&
  (decide (PySem.W.takesIn K (.builtin "object.__class__") = some true) &&
  (decide (PySem.W.mroIn K (He.ga K c) (.type "object") = some true) &&
  ["int", "bool", "str", "tuple", "list", "NoneType"].all fun t => decide (PySem.W.kitOne K (.ref (He.ga K c)) (.type t) = some false))))
/-- more of the text's objects: gcd, the classes, the constants -/
def exL (gc : Bool) (cls : List CD) (cons : List (Str × D)) (K : PySem.W.Frag) : Bool :=
  (!gc || He.eqO (PySem.W.nsIn K mainGlobals "gcd") (some (some (.builtin "math.gcd")))) &&
  (cls.all (fun d => exC K d.c.nm) && cons.all fun p => match PySem.W.nsIn K mainGlobals p.1 with
    | some (some u) => cnB K p.2 u
    | _ => false)
abbrev AlV : Type := He.AlD × Bool
def obsV (n : Nat) (fa : List He.Fa) (fn : List He.DefD) (ex : PySem.W.Frag → Bool) (g : Addr → Option Obj) : AlV := (He.obsD fa fn (He.frT g (He.asD g n)), ex (He.frT g (He.asD g n)))
def SaysV (fa : List He.Fa) (fn : List He.DefD) (ex : PySem.W.Frag → Bool) (K : PySem.W.Frag) : Prop := He.SaysD fa fn K ∧ ex K = true
def hookV (n : Nat) (fa : List He.Fa) (fn : List He.DefD) (ex : PySem.W.Frag → Bool) : PySem.W.Hook where
  α := AlV
  obs := fun s => obsV n fa fn ex s.heap.get?
  val := fun _ => (He.valD fn, true)
  says := fun _ h => ∃ K : PySem.W.Frag, K.In h ∧ SaysV fa fn ex K
  of := fun _ _ e => ⟨_, He.frT_in, congrArg (fun z : AlV => z.1) e, congrArg (fun z : AlV => z.2) e⟩
  keeps := fun _ _ _ ⟨K, hK, c⟩ k => ⟨K, PySem.W.Frag.In.keeps hK k, c⟩
theorem obsV_eq {n : Nat} {fa : List He.Fa} {fn : List He.DefD} {ex : PySem.W.Frag → Bool} {g : Addr → Option Obj} {s : Shared} (h : ∀ a, g a = s.heap.get? a) : obsV n fa fn ex g = (hookV n fa fn ex).obs s := by
  have e : g = s.heap.get? := funext h
  rw [e] <;> rfl
theorem exC_ok {K : PySem.W.Frag} {d : CD} {fa : List He.Fa} {fn : List He.DefD} (c : He.SaysD fa fn K) (h : ∀ f ∈ faC d, f ∈ fa) (e : exC K d.c.nm = true) : CA K d.c (He.ga K d.c.nm) := by
  simp only [exC, Bool.and_eq_true, decide_eq_true_eq, List.all_eq_true] at e
  obtain ⟨e1, e2, e3, e4, e5⟩ := e
  exact ⟨He.eqO_ok (c.facts (h (.glo d.c.nm) (by simp [faC]))), fun f hf => He.noat_ok (c.facts (h (.noat d.c.nm f) (by simp [faC, hf]))), He.cls_ok (c.facts (h (.cls d.c.nm) (by simp [faC]))), He.eqO_ok e1, He.eqO_ok e2, e3, e4, e5⟩
theorem lk_mem {l : List (Str × Nat)} {x : Str} {i : Nat} (h : l.lookup x = some i) : (x, i) ∈ l := by
  induction l with
  | nil => cases h
  | cons p l ih =>
    obtain ⟨y, j⟩ := p
    simp only [List.lookup_cons] at h
    split at h
    · rename_i q
      cases h
      rw [eq_of_beq q]
      exact List.mem_cons_self
    · exact List.mem_cons_of_mem _ (ih h)
theorem lk_memD {l : List (Str × D)} {x : Str} {i : D} (h : l.lookup x = some i) : (x, i) ∈ l := by
  induction l with
  | nil => cases h
  | cons p l ih =>
    obtain ⟨y, j⟩ := p
    simp only [List.lookup_cons] at h
    split at h
    · rename_i q
      cases h
      rw [eq_of_beq q]
      exact List.mem_cons_self
    · exact List.mem_cons_of_mem _ (ih h)
section
variable {K : PySem.W.Frag} {h : Heap} {mg : Str → Option Value} {names : List (Str × Nat)} {frees : List Str} {cls : List CD} {cons : List (Str × D)} {Δ : Tb} {tp : Nat → Stmt}
theorem tab_of {gc : Bool} (X : K.In h) (G : h.Ns mainGlobals mg) (c : SaysV (faL names frees cls) (fnL names cls tp) (exL gc cls cons) K) (hok : ∀ p ∈ names, OkAt Δ tp (gmL names frees gc cls cons) p) (hoc : ∀ d ∈ cls, ∀ p ∈ d.ms, OkAt Δ tp (gmL names frees gc cls cons) p) : Tab K mg Δ tp (gmL names frees gc cls cons) := by
  obtain ⟨c, ex⟩ := c
  simp only [exL, Bool.and_eq_true, List.all_eq_true] at ex
  obtain ⟨ex1, ex2, ex3⟩ := ex
  have fac : ∀ d ∈ cls, ∀ f ∈ faC d, f ∈ faL names frees cls := fun d hd f hf => by
    unfold faL
    exact List.mem_append_right _ (List.mem_flatMap.mpr ⟨d, hd, hf⟩)
  have fnc : ∀ d ∈ cls, ∀ p ∈ d.ms, mkM tp d.c.nm p ∈ fnL names cls tp := fun d hd p hp => by
    unfold fnL
    exact List.mem_append_right _ (List.mem_flatMap.mpr ⟨d, hd, List.mem_map_of_mem hp⟩)
  have hasP : ∀ i, (gmL names frees gc cls cons).hasI i → ∃ x, OkAt Δ tp (gmL names frees gc cls cons) (x, i) := by
    rintro i (⟨x, hx⟩ | ⟨c', hx⟩ | ⟨c', m, hx⟩)
    · exact ⟨x, hok _ (by simpa [gmL] using hx)⟩
    · have hx : (c', i) ∈ mksL cls := by simpa [gmL] using hx
      obtain ⟨d, hd, e⟩ := List.mem_filterMap.mp hx
      obtain ⟨j, e1, e2⟩ := Option.map_eq_some_iff.mp e
      cases e2
      exact ⟨"__init__", hoc d hd _ (lk_mem e1)⟩
    · have hx : ((c', m), i) ∈ mesL cls := by simpa [gmL] using hx
      obtain ⟨d, hd, e⟩ := List.mem_flatMap.mp hx
      obtain ⟨p, e1, e2⟩ := List.mem_map.mp e
      cases e2
      exact ⟨p.1, hoc d hd _ e1⟩
  refine ⟨fun x hx => ?_, fun hg => ?_, fun x d hx => ?_, fun c' i hx => ?_, fun c' m i hx => ?_, fun x i hx => ?_, fun i hx d hd => ?_⟩
  · have hx : x ∈ frees := by simpa [gmL] using hx
    exact He.free_ok X G (c.facts (f := .free x) (by unfold faL; simp [hx]))
  · rw [show gc = true from hg] at ex1
    exact PySem.W.mg_of X G (He.eqO_ok (by simpa using ex1))
  · have := ex3 (x, d) (lk_memD hx)
    simp only at this
    split at this
    · rename_i u hu
      obtain ⟨v, h1, h2⟩ := cn_ok this
      exact ⟨u, v, PySem.W.mg_of X G hu, h1, h2⟩
    · cases this
  · have hx : (c', i) ∈ mksL cls := by simpa [gmL] using hx
    obtain ⟨d, hd, e⟩ := List.mem_filterMap.mp hx
    obtain ⟨j, e1, e2⟩ := Option.map_eq_some_iff.mp e
    cases e2
    have hp := lk_mem e1
    obtain ⟨fd0, k1, k2, k3⟩ := hoc d hd _ hp
    obtain ⟨fd, F⟩ := c.defs (fnc d hd _ hp)
    have hmk := c.facts (fac d hd (.mkr d.c.nm) (by simp [faC, e1]))
    exact ⟨fd0, _, _, _, fd, k1, F, He.glo_ok X G (c.facts (fac d hd (.glo d.c.nm) (by simp [faC]))), exC_ok c (fac d hd) (ex2 d hd), He.mkr_ok hmk, FunD.bindsN F (k2 _ _)⟩
  · have hx : ((c', m), i) ∈ mesL cls := by simpa [gmL] using hx
    obtain ⟨d, hd, e⟩ := List.mem_flatMap.mp hx
    obtain ⟨p, e1, e2⟩ := List.mem_map.mp e
    cases e2
    obtain ⟨fd0, k1, k2, k3⟩ := hoc d hd _ e1
    obtain ⟨fd, F⟩ := c.defs (fnc d hd _ e1)
    have hme := c.facts (fac d hd (.meth d.c.nm p.1) (by
      simp only [faC, List.mem_cons, List.mem_append, List.mem_map]
      exact .inr (.inr (.inr ⟨p, e1, rfl⟩))))
    exact ⟨fd0, _, _, _, fd, k1, F, exC_ok c (fac d hd) (ex2 d hd), He.meth_ok hme, FunD.bindsN F (k2 _ _)⟩
  · have hx : (x, i) ∈ names := by simpa [gmL] using hx
    obtain ⟨d, h1, h2, h3⟩ := hok _ hx
    obtain ⟨fd, F⟩ := c.defs (d := mkD tp (x, i)) (by unfold fnL; exact List.mem_append_left _ (List.mem_map_of_mem hx))
    have gl := He.glo_ok X G (c.facts (f := .glo x) (by
      unfold faL
      exact List.mem_append_left _ (List.mem_append_left _ (List.mem_map.mpr ⟨_, hx, rfl⟩))))
    exact ⟨d, _, fd, h1, F, gl, FunD.bindsN F (h2 x x)⟩
  · obtain ⟨x, d', h1, h2, h3⟩ := hasP i hx
    have h1 : Δ i = some d' := h1
    rw [hd] at h1
    cases h1
    obtain ⟨h1, h2⟩ := ba h3
    exact ⟨C8.fnScope_by h1, h2⟩
theorem law_F {gc : Bool} {P : Program} {w : World} {n k i : Nat} {fa : Addr} (X : K.In h) (G : h.Ns mainGlobals mg) (c : SaysV (faL names frees cls) (fnL names cls tp) (exL gc cls cons) K) (hmg : mg ("law" : Str) = some (.ref fa)) (hok : ∀ p ∈ names, OkAt Δ tp (gmL names frees gc cls cons) p) (hoc : ∀ d ∈ cls, ∀ p ∈ d.ms, OkAt Δ tp (gmL names frees gc cls cons) p)
    (hn : (("law" : Str), i) ∈ names) (hps : ∀ d, Δ i = some d → d.ps = [("script" : Str)]) (hlaw : ∀ ns : List Int, ns.length ≤ n → ∃ fin, callN Δ k i [.fz (.scr ns)] = some (.v (.bl true), fin)) :
    ∃ (fd : FuncData) (sp : Sp), (∀ (s : Shared) (u : Value), BindsTo s fd ⟨[u], []⟩ [("script", u)]) ∧
      (∀ (H : Hp) (a : Addr) (ns : List Int), ns.length ≤ n → SqL K H a (ns.map V.int) → sp [.ref a] H (fun v _ => v = .bl true) fun _ _ _ => False) ∧
      ∀ base : Heap, K.In base → base.Ns mainGlobals mg → FnOk P w K mg base CX0 (2 * k) fa fd ["script"] sp := by
  obtain ⟨j, hj⟩ := List.getElem?_of_mem hn
  obtain ⟨d, hd, hb, hok1⟩ := hok _ hn
  have hd : Δ i = some d := hd
  have hps := hps d hd
  obtain ⟨fd, F⟩ := c.1.defs (d := mkD tp ("law", i)) (by unfold fnL; exact List.mem_append_left _ (List.mem_map_of_mem hn))
  have gl := He.glo_ok X G (c.1.facts (f := .glo "law") (by
    unfold faL
    exact List.mem_append_left _ (List.mem_append_left _ (List.mem_map.mpr ⟨_, hn, rfl⟩))))
  have e := hmg.symm.trans gl
  cases e
  have b := FunD.bindsA F (hb "law" "law")
  refine ⟨fd, spOf K (callN Δ k) i d.ps.length, fun s u => ?_, fun H a ns hns hS => ?_, fun base KB GB => ?_⟩
  · have := b s [u] (by rw [hps]; rfl)
    rw [hps] at this
    exact this
  · obtain ⟨fin, hf⟩ := hlaw ns hns
    have hfin : fin = [.fz (.scr ns)] := by
      cases k with
      | zero => cases hf
      | succ k =>
        simp only [callN, hd, Option.bind_some, runDef] at hf
        split at hf
        · simp only [Option.bind_eq_some_iff] at hf
          obtain ⟨fl, _, hf⟩ := hf
          unfold endF at hf
          split at hf <;> first | (cases hf; rfl) | cases hf
        · cases hf
    refine ⟨by rw [hps]; rfl, fun b => b = a ∧ Rd H a (.lst (ns.map .int)), [.fz (.scr ns)], _, fin, hf, ⟨rfl, ?_, ?_, ?_, ?_, fun j lo hi hj => by (match j, hj with | 0, hj => cases hj | j + 1, hj => cases hj)⟩, ?_⟩
    · intro j d' hj
      match j, hj with
      | 0, hj =>
        cases hj
        refine ⟨.ref a, rfl, ?_⟩
        simp only [Is]
        refine ⟨a, rfl, ?_⟩
        rcases hS with hS | hS
        · exact .inl ⟨⟨rfl, hS⟩, hS⟩
        · exact .inr hS
      | j + 1, hj => cases hj
    · intro j s d' hj hs
      match j, hj with
      | 0, hj => cases hj; cases hs
      | j + 1, hj => cases hj
    · intro j j' s t d' e' c hj hs
      match j, hj with
      | 0, hj => cases hj; cases hs
      | j + 1, hj => cases hj
    · rintro b ⟨rfl, hr⟩
      rcases hr with hr | ⟨o, hr⟩ <;> (rw [hr]; simp)
    · intro v F' H' p r _
      have r : Is K F' H' (.bl true) v := r
      simpa only [Is] using r
  · have T := tab_of KB GB c hok hoc
    have := tab_fn (P := P) (w := w) (base := base) T k i "law" "law" d _ fd (.inl ⟨"law", by simpa [gmL] using hn⟩) hd F
    rw [← hps]
    exact this
end
end VI
namespace VI
open PySem
theorem deq_int {a b : Int} : deq (.int a) (.int b) = (a == b) := by unfold deq; simp [D.toP, PyData.eqv]
theorem deq_bl {a b : Bool} : deq (.bl a) (.bl b) = (a == b) := by unfold deq; simp [D.toP, PyData.eqv]
theorem deq_non : deq .non .non = true := by unfold deq; simp [D.toP, PyData.eqv]
theorem okD_int {a : Int} : okD (.int a) = true := by unfold okD; simp [D.toP, SeqAt.shaped, PyData.canLay0, PyData.depth]
theorem okD_bl {a : Bool} : okD (.bl a) = true := by unfold okD; simp [D.toP, SeqAt.shaped, PyData.canLay0, PyData.depth]
theorem okD_non : okD .non = true := by unfold okD; simp [D.toP, SeqAt.shaped, PyData.canLay0, PyData.depth]
mutual
def lay : D → Bool
  | .non => true | .bl _ => true | .int _ => true | .str _ => false | .tup xs => lays xs | .lst xs => lays xs | .scr _ => false | .ins _ _ _ => false | .dk _ _ => false
def lays : List D → Bool
  | [] => true | x :: xs => lay x && lays xs
end
mutual
def dep : D → Nat
  | .tup xs => deps xs + 1 | .lst xs => deps xs + 1 | _ => 0
def deps : List D → Nat
  | [] => 0 | x :: xs => max (dep x) (deps xs)
end
mutual
theorem lay_ok : ∀ {d : D}, lay d = true → d.toP.canLay0 = true
  | .non, _ => rfl
  | .bl _, _ => rfl
  | .int _, _ => rfl
  | .str _, h => by simp [lay] at h
  | .tup xs, h => by simp only [lay] at h; simp only [D.toP, PyData.canLay0]; exact lays_ok h
  | .lst xs, h => by simp only [lay] at h; simp only [D.toP, PyData.canLay0]; exact lays_ok h
  | .scr _, h => by simp [lay] at h
  | .ins _ _ _, h => by simp [lay] at h
  | .dk _ _, h => by simp [lay] at h
theorem lays_ok : ∀ {ds : List D}, lays ds = true → PyData.canLayAll0 (toPs ds) = true
  | [], _ => rfl
  | d :: ds, h => by
    simp only [lays, Bool.and_eq_true] at h
    simp only [toPs, PyData.canLayAll0, Bool.and_eq_true]
    exact ⟨lay_ok h.1, lays_ok h.2⟩
end
mutual
theorem dep_ok : ∀ {d : D}, lay d = true → d.toP.depth ≤ dep d
  | .non, _ => by simp [D.toP, PyData.depth]
  | .bl _, _ => by simp [D.toP, PyData.depth]
  | .int _, _ => by simp [D.toP, PyData.depth]
  | .str _, h => by simp [lay] at h
  | .tup xs, h => by simp only [lay] at h; simp only [D.toP, PyData.depth, dep]; have := deps_ok h; omega
  | .lst xs, h => by simp only [lay] at h; simp only [D.toP, PyData.depth, dep]; have := deps_ok h; omega
  | .scr _, h => by simp [lay] at h
  | .ins _ _ _, h => by simp [lay] at h
  | .dk _ _, h => by simp [lay] at h
theorem deps_ok : ∀ {ds : List D}, lays ds = true → PyData.depthAll (toPs ds) ≤ deps ds
  | [], _ => by simp [toPs, PyData.depthAll]
  | d :: ds, h => by
    simp only [lays, Bool.and_eq_true] at h
    simp only [toPs, PyData.depthAll, deps]
    have := dep_ok h.1
    have := deps_ok h.2
    omega
end
theorem okD_of {d : D} (h1 : lay d = true) (h2 : dep d ≤ 64) : okD d = true := by
  unfold okD SeqAt.shaped
  rw [lay_ok h1]
  have := dep_ok h1
  simp; omega
theorem lays_map {α : Type} {f : α → D} (h : ∀ x, lay (f x) = true) : ∀ l : List α, lays (l.map f) = true
  | [] => rfl
  | x :: l => by simp only [List.map_cons, lays, h, lays_map h l, Bool.and_self]
theorem deps_map {α : Type} {f : α → D} {n : Nat} (h : ∀ x, dep (f x) ≤ n) : ∀ l : List α, deps (l.map f) ≤ n
  | [] => Nat.zero_le _
  | x :: l => by simp only [List.map_cons, deps]; have := h x; have := deps_map h l; omega
theorem okD_ints {l : List Int} : okD (.lst (l.map .int)) = true := okD_of (by simp only [lay]; exact lays_map (fun _ => rfl) l) (by simp only [dep]; have := deps_map (f := D.int) (n := 0) (fun _ => Nat.le_refl _) l; omega)
theorem eq_int {a b : Int} : cmpS .Eq (.int a) (.int b) = some (a == b) := by simp [cmpS, okD_int, deq_int]
theorem ne_int {a b : Int} : cmpS .NotEq (.int a) (.int b) = some (!(a == b)) := by simp [cmpS, okD_int, deq_int]
theorem eq_bl {a b : Bool} : cmpS .Eq (.bl a) (.bl b) = some (a == b) := by simp [cmpS, okD_bl, deq_bl]
theorem ne_bl {a b : Bool} : cmpS .NotEq (.bl a) (.bl b) = some (!(a == b)) := by simp [cmpS, okD_bl, deq_bl]
theorem lt_int {a b : Int} : cmpS .Lt (.int a) (.int b) = some (decide (a < b)) := rfl
theorem le_int {a b : Int} : cmpS .LtE (.int a) (.int b) = some (decide (a ≤ b)) := rfl
theorem gt_int {a b : Int} : cmpS .Gt (.int a) (.int b) = some (decide (b < a)) := rfl
theorem ge_int {a b : Int} : cmpS .GtE (.int a) (.int b) = some (decide (b ≤ a)) := rfl
theorem is_non {a : D} : cmpS .Is a .non = some (isNon a) := by cases a <;> rfl
theorem isnot_non {a : D} : cmpS .IsNot a .non = some (!isNon a) := by cases a <;> rfl
theorem in_ints {a : Int} {l : List Int} : cmpS .In (.int a) (.lst (l.map .int)) = some (decide (a ∈ l)) := by
  simp only [cmpS, inS, okD_int, okD_ints, Bool.and_self, if_true, Option.some.injEq]
  rw [List.any_map, Bool.eq_iff_iff]
  simp [deq_int]
theorem notin_ints {a : Int} {l : List Int} : cmpS .NotIn (.int a) (.lst (l.map .int)) = some (!decide (a ∈ l)) := by
  have := in_ints (a := a) (l := l)
  simp only [cmpS] at this ⊢
  rw [this]; rfl
theorem in_tupI {a : Int} {l : List Int} : cmpS .In (.int a) (.tup (l.map .int)) = some (decide (a ∈ l)) := by
  have h : (l.map D.int).all flatD = true := by simp [flatD]
  simp only [cmpS, inS, flatD, h, Bool.and_self, if_true, Option.some.injEq]
  rw [List.any_map, Bool.eq_iff_iff]
  simp [deq_int]
theorem intsD_map : ∀ l : List Int, intsD (l.map .int) = some l
  | [] => rfl
  | x :: l => by simp [intsD, intsD_map l]
theorem blsD_map : ∀ l : List Bool, blsD (l.map .bl) = some l
  | [] => rfl
  | x :: l => by simp [blsD, blsD_map l]
theorem pairsD_map : ∀ l : List (Int × Int), pairsD (l.map fun p => .tup [.int p.1, .int p.2]) = some l
  | [] => rfl
  | x :: l => by simp [pairsD, pairsD_map l]
def Ev {α : Type} (o : Option α) (Q : α → Prop) : Prop := ∃ a, o = some a ∧ Q a
theorem ev_mono {α : Type} {o : Option α} {Q Q' : α → Prop} (h : Ev o Q) (i : ∀ a, Q a → Q' a) : Ev o Q' := let ⟨a, e, q⟩ := h; ⟨a, e, i a q⟩
/-- a def is entered -/
theorem enter {cl : CallF} {d : FD} {args : List Sl} {Q : Op × List Sl → Prop} (hl : args.length = d.ps.length ∧ args.all argOk = true) (h : Ev (evSs cl d.body (args ++ List.replicate (d.N.length - args.length) .un)) fun fl => Ev (endF args fl) Q) : Ev (runDef cl d args) Q := by
  obtain ⟨fl, h1, r, h2, q⟩ := h
  refine ⟨r, ?_, q⟩
  unfold runDef
  rw [if_pos hl, h1]
  exact h2
theorem c_nx {cl : CallF} {s : S} {ss : Ss} {env env1 : En} {Q : Fl → Prop} (h1 : evS cl s env = some (.nx env1)) (h2 : Ev (evSs cl ss env1) Q) : Ev (evSs cl (.cons s ss) env) Q := by
  obtain ⟨fl, e, q⟩ := h2
  refine ⟨fl, ?_, q⟩
  unfold evSs
  simp only [bind, Option.bind_eq_some_iff]
  exact ⟨_, h1, e⟩
theorem c_rt {cl : CallF} {s : S} {ss : Ss} {env env1 : En} {o : Op} {Q : Fl → Prop} (h1 : evS cl s env = some (.rt o env1)) (h2 : Q (.rt o env1)) : Ev (evSs cl (.cons s ss) env) Q := by
  refine ⟨_, ?_, h2⟩
  unfold evSs
  simp only [bind, Option.bind_eq_some_iff]
  exact ⟨_, h1, rfl⟩
theorem c_nil {cl : CallF} {env : En} {Q : Fl → Prop} (h : Q (.nx env)) : Ev (evSs cl .nil env) Q := ⟨_, by unfold evSs; rfl, h⟩
/-- one statement whose end is told by a property -/
theorem c_ev {cl : CallF} {s : S} {ss : Ss} {env : En} {Q : Fl → Prop} (h1 : Ev (evS cl s env) fun fl => match fl with
    | .nx e => Ev (evSs cl ss e) Q
    | fl => Q fl) : Ev (evSs cl (.cons s ss) env) Q := by
  obtain ⟨fl, e, q⟩ := h1
  cases fl with
  | nx e1 => exact c_nx e q
  | bk e1 =>
    refine ⟨_, ?_, q⟩
    unfold evSs
    simp only [bind, Option.bind_eq_some_iff]
    exact ⟨_, e, rfl⟩
  | ct e1 =>
    refine ⟨_, ?_, q⟩
    unfold evSs
    simp only [bind, Option.bind_eq_some_iff]
    exact ⟨_, e, rfl⟩
  | rt o e1 => exact c_rt e q
abbrev LI (ds : List Int) : D := .lst (ds.map .int)
theorem ev_bind {α β : Type} {o : Option α} {f : α → Option β} {Q : β → Prop} : Ev (o.bind f) Q ↔ Ev o fun a => Ev (f a) Q := by
  constructor
  · rintro ⟨b, h, q⟩
    obtain ⟨a, h1, h2⟩ := Option.bind_eq_some_iff.mp h
    exact ⟨a, h1, b, h2, q⟩
  · rintro ⟨a, h1, b, h2, q⟩
    exact ⟨b, by rw [h1]; exact h2, q⟩
theorem ev_some {α : Type} {a : α} {Q : α → Prop} : Ev (some a) Q ↔ Q a := ⟨fun ⟨b, h, q⟩ => by cases h; exact q, fun q => ⟨a, rfl, q⟩⟩
theorem ev_of {α : Type} {o : Option α} {a : α} {Q : α → Prop} (h : o = some a) (q : Q a) : Ev o Q := ⟨a, h, q⟩
/-- a for loop, by place -/
theorem fo_ind {body : En → Option Fl} {t : T} {items : List D} {Q : Fl → Prop} (P : Nat → En → Prop)
    (hs : ∀ i (hi : i < items.length) e, P i e → Ev (t.put e items[i]) fun e1 => Ev (body e1) fun fl => match fl with
      | .nx e2 => P (i + 1) e2
      | .ct e2 => P (i + 1) e2
      | .bk e2 => Q (.nx e2)
      | .rt o e2 => Q (.rt o e2)) (hd : ∀ e, P items.length e → Q (.nx e)) {env : En} (h0 : P 0 env) : Ev (foLoop body t items env) Q := by
  suffices h : ∀ (k i : Nat) (e : En), k = items.length - i → i ≤ items.length → P i e → Ev (foLoop body t (items.drop i) e) Q by
    simpa using h items.length 0 env (by omega) (by omega) h0
  intro k
  induction k with
  | zero =>
    intro i e hk hi hp
    have : i = items.length := by omega
    subst this
    rw [List.drop_length]
    exact ⟨_, rfl, hd e hp⟩
  | succ k ih =>
    intro i e hk hi hp
    have hlt : i < items.length := by omega
    rw [List.drop_eq_getElem_cons hlt]
    obtain ⟨e1, h1, fl, h2, h3⟩ := hs i hlt e hp
    simp only [foLoop, h1, h2, Option.bind_some]
    cases fl with
    | nx e2 => exact ih (i + 1) e2 (by omega) hlt h3
    | ct e2 => exact ih (i + 1) e2 (by omega) hlt h3
    | bk e2 => exact ⟨_, rfl, h3⟩
    | rt o e2 => exact ⟨_, rfl, h3⟩
/-- a comprehension, by place -/
theorem lc_ind {c : En → Option (Bool × En)} {el : En → Option (D × En)} {t : T} {vs : List Nat} {items : List D} {Q : List D × En → Prop} (P : Nat → List D → En → Prop)
    (hs : ∀ i (hi : i < items.length) acc e, P i acc e → Ev (t.put e items[i]) fun e1 => Ev (c e1) fun z => if z.1 = true then Ev (el z.2) fun y => P (i + 1) (acc ++ [y.1]) (wipeE y.2 vs) else P (i + 1) acc (wipeE z.2 vs))
    (hd : ∀ acc e, P items.length acc e → Q (acc, e)) {env : En} (h0 : P 0 [] env) : Ev (lcLoop c el t vs items env) Q := by
  suffices h : ∀ (k i : Nat) (acc : List D) (e : En) (Q' : List D × En → Prop), k = items.length - i → i ≤ items.length → P i acc e → (∀ out e, P items.length (acc ++ out) e → Q' (out, e)) → Ev (lcLoop c el t vs (items.drop i) e) Q' by
    simpa using h items.length 0 [] env Q (by omega) (by omega) h0 (fun out e hp => hd _ e (by simpa using hp))
  intro k
  induction k with
  | zero =>
    intro i acc e Q' hk hi hp hq
    have : i = items.length := by omega
    subst this
    rw [List.drop_length]
    exact ⟨_, rfl, hq [] e (by simpa using hp)⟩
  | succ k ih =>
    intro i acc e Q' hk hi hp hq
    have hlt : i < items.length := by omega
    rw [List.drop_eq_getElem_cons hlt]
    obtain ⟨e1, h1, ⟨b, e2⟩, h2, h3⟩ := hs i hlt acc e hp
    cases b with
    | false =>
      simp only [Bool.false_eq_true, if_false] at h3
      obtain ⟨a, h4, h5⟩ := ih (i + 1) acc _ Q' (by omega) hlt h3 hq
      refine ⟨a, ?_, h5⟩
      simp only [lcLoop, h1, h2, bind, Option.bind_some, Bool.false_eq_true, if_false]
      exact h4
    | true =>
      simp only [if_true] at h3
      obtain ⟨⟨y, e3⟩, h4, h5⟩ := h3
      obtain ⟨⟨out, e4⟩, h6, h7⟩ := ih (i + 1) (acc ++ [y]) _ (fun z => Q' (y :: z.1, z.2)) (by omega) hlt h5 (fun out e hp => hq _ e (by simpa using hp))
      refine ⟨(y :: out, e4), ?_, h7⟩
      simp only [lcLoop, h1, h2, h4, h6, bind, Option.bind_some, if_true]
      rfl
/-- .. that leaves the slots as they are and keeps all -/
theorem lc_map {α : Type} {c : En → Option (Bool × En)} {el : En → Option (D × En)} {t : T} {vs : List Nat} {xs : List α} {f g : α → D} {env : En}
    (h : ∀ x ∈ xs, ∃ e1 e2 e3, t.put env (f x) = some e1 ∧ c e1 = some (true, e2) ∧ el e2 = some (g x, e3) ∧ wipeE e3 vs = env) : lcLoop c el t vs (xs.map f) env = some (xs.map g, env) := by
  induction xs with
  | nil => rfl
  | cons x xs ih =>
    obtain ⟨e1, e2, e3, h1, h2, h3, h4⟩ := h x (List.mem_cons_self ..)
    simp only [List.map_cons, lcLoop, h1, h2, h3, h4, bind, Option.bind_some, if_true, ih fun y hy => h y (List.mem_cons_of_mem _ hy)]
    rfl
/-- .. with a test -/
theorem lc_filter {α : Type} {c : En → Option (Bool × En)} {el : En → Option (D × En)} {t : T} {vs : List Nat} {xs : List α} {f g : α → D} {p : α → Bool} {env : En}
    (h : ∀ x ∈ xs, ∃ e1 e2, t.put env (f x) = some e1 ∧ c e1 = some (p x, e2) ∧ (p x = true → ∃ e3, el e2 = some (g x, e3) ∧ wipeE e3 vs = env) ∧ (p x = false → wipeE e2 vs = env)) : lcLoop c el t vs (xs.map f) env = some ((xs.filter p).map g, env) := by
  induction xs with
  | nil => rfl
  | cons x xs ih =>
    obtain ⟨e1, e2, h1, h2, h3, h4⟩ := h x (List.mem_cons_self ..)
    have ih := ih fun y hy => h y (List.mem_cons_of_mem _ hy)
    cases hp : p x with
    | true =>
      obtain ⟨e3, h5, h6⟩ := h3 hp
      rw [hp] at h2
      simp only [List.map_cons, lcLoop, h1, h2, h5, h6, bind, Option.bind_some, if_true, ih, List.filter_cons, hp]
      rfl
    | false =>
      have h6 := h4 hp
      rw [hp] at h2
      simp only [List.map_cons, lcLoop, h1, h2, h6, bind, Option.bind_some, Bool.false_eq_true, if_false, ih, List.filter_cons, hp]
theorem c_ex {α : Type} {cl : CallF} {s : S} {ss : Ss} {env : En} {Q : Fl → Prop} (e : α → En) (p : α → Prop) (h : ∃ a, p a ∧ evS cl s env = some (.nx (e a))) (h2 : ∀ a, p a → Ev (evSs cl ss (e a)) Q) : Ev (evSs cl (.cons s ss) env) Q :=
  let ⟨a, h1, h3⟩ := h
  c_nx h3 (h2 a h1)
theorem getD_get {l : List Int} {i : Nat} (h : i < l.length) : l[i]? = some (l.getD i 0) := by
  rw [List.getD_eq_getElem?_getD, List.getElem?_eq_getElem h]; rfl
theorem ixN_nat {n i : Nat} (h : i < n) : L2.ixN n (i : Int) = some i := by
  unfold L2.ixN
  rw [if_pos (by omega), if_pos (by omega)]
  simp
theorem ixN_int {n : Nat} {i : Int} (h0 : 0 ≤ i) (h : i < n) : L2.ixN n i = some i.toNat := by
  unfold L2.ixN
  rw [if_pos h0, if_pos h]
theorem atI_map {α : Type} {f : α → D} {l : List α} {i : Nat} {x : α} (h : l[i]? = some x) : L2.atI (l.map f) (i : Int) = some (f x) := by
  unfold L2.atI
  have hl : i < l.length := (List.getElem?_eq_some_iff.mp h).1
  rw [ixN_nat (by simpa using hl)]
  simp [h]
/-- a slot that may be stored to -/
def fr : Sl → Bool
  | .un => true
  | .fz _ => true
  | .ow false _ => true
  | _ => false
theorem putS_at {env : En} {i : Nat} {x : Sl} (h : (env[i]?).any fr = true) : putS env i x = some (env.set i x) := by
  unfold putS
  cases e : env[i]? with
  | none => rw [e] at h; cases h
  | some s =>
    rw [e] at h
    have h : fr s = true := h
    unfold fr at h
    split at h
    · rfl
    · rfl
    · rfl
    · cases h
theorem idx_ints {l : List Int} {p : Int} (h0 : 0 ≤ p) (h : p < l.length) : idxS (.lst (l.map .int)) (.int p) = some (.int (l.getD p.toNat 0)) := by
  have : p = (p.toNat : Nat) := by omega
  rw [this]
  exact atI_map (getD_get (by omega))
theorem mul_r {a b : Int} (h : -(2 ^ 64) < b ∧ b < 2 ^ 64) : binS .Mult (.int a) (.int b) = some (.v (.int (a * b))) := by
  show (if mulOk a b = true then some (Op.v (.int (a * b))) else none) = _
  rw [if_pos]
  unfold mulOk
  rw [decide_eq_true (show L2.CMul a b from .inr h)]
  rfl
theorem mul_l {a b : Int} (h : -(2 ^ 64) < a ∧ a < 2 ^ 64) : binS .Mult (.int a) (.int b) = some (.v (.int (a * b))) := by
  show (if mulOk a b = true then some (Op.v (.int (a * b))) else none) = _
  rw [if_pos]
  unfold mulOk
  rw [decide_eq_true (show L2.CMul a b from .inl h)]
  rfl
theorem div_c {a b : Int} (h : 0 < b ∧ b < 1073741824) : binS .FloorDiv (.int a) (.int b) = some (.v (.int (a / b))) := by
  show (if divOk a b = true then some (Op.v (.int (a / b))) else if b < 0 ∧ b.natAbs.log2 < 9000 then some (Op.v (.int (a.fdiv b))) else none) = _
  rw [if_pos]
  unfold divOk
  rw [decide_eq_true (show L2.CDiv a b from h)]
  rfl
theorem mod_p {a b : Int} (h : 0 < b) : binS .Mod (.int a) (.int b) = some (.v (.int (a % b))) := by
  show (if 0 < b then some (Op.v (.int (a % b))) else none) = _
  rw [if_pos h]
theorem pow_c {a b : Int} (h : L2.CPow a b) : binS .Pow (.int a) (.int b) = some (.v (.int (a ^ b.toNat))) := by
  show (if L2.CPow a b then some (Op.v (.int (a ^ b.toNat))) else none) = _
  rw [if_pos h]
theorem add_i {a b : Int} : binS .Add (.int a) (.int b) = some (.v (.int (a + b))) := rfl
theorem sub_i {a b : Int} : binS .Sub (.int a) (.int b) = some (.v (.int (a - b))) := rfl
/-- a for statement -/
theorem s_fo {cl : CallF} {t : T} {it : I} {b : Ss} {env env1 : En} {items : List D} {lk : List (Nat × Bool)} {Q : Fl → Prop} (h1 : evI cl it env = some (items, lk, env1)) (h2 : Ev (foLoop (fun env => evSs cl b env) t items env1) fun fl => Q (fl.free lk)) : Ev (evS cl (.fo t it b) env) Q := by
  obtain ⟨fl, e, q⟩ := h2
  refine ⟨_, ?_, q⟩
  unfold evS
  simp only [bind, Option.bind_eq_some_iff, Prod.exists]
  exact ⟨items, lk, env1, h1, fl, e, rfl⟩
theorem rngS_ok {n : Int} (h : 0 ≤ n ∧ n < 2 ^ 62) : rngS 0 n = some ((List.range n.toNat).map fun k => .int (k : Nat)) := by
  unfold rngS
  rw [if_pos (by omega)]
  simp
theorem s_ifs {cl : CallF} {c : C} {a b : Ss} {env env1 : En} {k : Bool} {Q : Fl → Prop} (h1 : evC cl c env = some (k, env1)) (h2 : k = true → Ev (evSs cl a env1) Q) (h3 : k = false → Ev (evSs cl b env1) Q) : Ev (evS cl (.ifs c a b) env) Q := by
  have e : evS cl (.ifs c a b) env = if k = true then evSs cl a env1 else evSs cl b env1 := by
    conv => lhs; unfold evS
    simp only [h1, bind, Option.bind_some]
  rw [e]
  cases k with
  | true => exact h2 rfl
  | false => exact h3 rfl
theorem c_one {cl : CallF} {s : S} {env : En} {Q : Fl → Prop} (h : Ev (evS cl s env) Q) : Ev (evSs cl (.cons s .nil) env) Q := by
  refine c_ev (ev_mono h fun fl q => ?_)
  cases fl with
  | nx e => exact c_nil q
  | bk e => exact q
  | ct e => exact q
  | rt o e => exact q
theorem pow_10 : binS .Pow (.int 10) (.int 18) = some (.v (.int 1000000000000000000)) := by
  rw [pow_c (show L2.CPow 10 18 by unfold L2.CPow; decide)]
  rfl
theorem bl_int {i : Int} : bltS .int [.int i] = some (.v (.int i)) := rfl
theorem bl_intb {b : Bool} : bltS .int [.bl b] = some (.v (.int (if b then 1 else 0))) := rfl
theorem bl_len_l {xs : List D} : bltS .len [.lst xs] = some (.v (.int xs.length)) := rfl
theorem bl_len_t {xs : List D} : bltS .len [.tup xs] = some (.v (.int xs.length)) := rfl
theorem bl_tup_l {xs : List D} : bltS .tuple [.lst xs] = some (.v (.tup xs)) := rfl
theorem bl_tup_t {xs : List D} : bltS .tuple [.tup xs] = some (.v (.tup xs)) := rfl
theorem bl_lst_l {xs : List D} : bltS .list [.lst xs] = some (.nw (.lst xs)) := rfl
theorem bl_lst_t {xs : List D} : bltS .list [.tup xs] = some (.nw (.lst xs)) := rfl
theorem frz_v {d : D} : (Op.v d).frz = .v d := rfl
theorem frz_nw {d : D} : (Op.nw d).frz = .v d := rfl
theorem frz_p {i : Nat} : (Op.p i).frz = .p i := rfl
theorem app_1 {xs : List D} {d : D} (h : xs.length < sizeLine) : mthS .append xs [d] = some (.non, xs ++ [d]) := by
  show (if xs.length < sizeLine then some (D.non, xs ++ [d]) else none) = _
  rw [if_pos h]
theorem mod_ex (a b : Int) (h : 0 < b) : ∃ r, binS .Mod (.int a) (.int b) = some (.v (.int r)) ∧ 0 ≤ r ∧ r < b := ⟨a % b, mod_p h, Int.emod_nonneg _ (by omega), Int.emod_lt_of_pos _ h⟩
theorem rgS_ok' {n : Int} (h : 0 ≤ n ∧ n ≤ 2 ^ 24) : rgS 0 n = some ((List.range n.toNat).map fun k => .int (k : Nat)) := by
  unfold rgS
  rw [if_pos (by omega)]
  simp
end VI
namespace VI
open PySem
theorem ev_none {α : Type} {Q : α → Prop} : Ev (none : Option α) Q ↔ False := by
  constructor
  · rintro ⟨_, h, _⟩
    cases h
  · intro h
    exact h.elim
theorem ev_map {α β : Type} {o : Option α} {f : α → β} {Q : β → Prop} : Ev (o.map f) Q ↔ Ev o fun a => Q (f a) := by
  constructor
  · rintro ⟨b, h, q⟩
    obtain ⟨a, h1, rfl⟩ := Option.map_eq_some_iff.mp h
    exact ⟨a, h1, q⟩
  · rintro ⟨a, h1, q⟩
    exact ⟨f a, by rw [h1]; rfl, q⟩
theorem ev_ifn {α : Type} {c : Prop} [Decidable c] {a : Option α} {Q : α → Prop} : Ev (if c then a else none) Q ↔ c ∧ Ev a Q := by
  by_cases h : c <;> simp [h, ev_none]
theorem some_bind {α β : Type} (a : α) (f : α → Option β) : (some a).bind f = f a := rfl
/-- a branch of the walk -/
def iteQ {α : Type} (b : Bool) (x y : α) : α := if b = true then x else y
theorem iteQ_t {α : Type} {x y : α} : iteQ true x y = x := rfl
theorem iteQ_f {α : Type} {x y : α} : iteQ false x y = y := rfl
theorem iteQ_and {α : Type} {p q : Bool} {e : α} : iteQ p (some (q, e)) (some (false, e)) = some (p && q, e) := by cases p <;> rfl
theorem iteQ_or {α : Type} {p q : Bool} {e : α} : iteQ p (some (true, e)) (some (q, e)) = some (p || q, e) := by cases p <;> rfl
theorem iteQ_andE {α : Type} {p q : Bool} {e : α} : iteQ p (some (Op.v (.bl q), e)) (some (Op.v (.bl false), e)) = some (Op.v (.bl (p && q)), e) := by cases p <;> rfl
theorem iteQ_orE {α : Type} {p q : Bool} {e : α} : iteQ p (some (Op.v (.bl true), e)) (some (Op.v (.bl q), e)) = some (Op.v (.bl (p || q)), e) := by cases p <;> rfl
theorem ev_iteQ {α : Type} {b : Bool} {x y : Option α} {Q : α → Prop} : Ev (iteQ b x y) Q ↔ (b = true → Ev x Q) ∧ (b = false → Ev y Q) := by cases b <;> simp [iteQ]
section
variable (cl : CallF) (env : En)
def LcE (vs : List Nat) (el : E) (t : T) (c : OC) (items : List D) (env : En) (Q : List D → En → Prop) : Prop :=
  Ev (lcLoop (fun env => evOC cl c env) (fun env => (evE cl el env).bind fun z => esc z.2 z.1) t vs items env) fun z => Q z.1 z.2
/-- the inner walk of two -/
def inQ (vs1 : List Nat) (el : E) (t1 : T) (it1 : I) (c1 : OC) (env : En) : Option (List D × En) := do
  let (items1, lk1, env1) ← evI cl it1 env
  if !(lk1.all fun j => !vs1.contains j.1) then none
  let (ys, env2) ← lcLoop (fun env => evOC cl c1 env) (fun env => do let (o, env) ← evE cl el env; esc env o) t1 vs1 items1 (wipeE env1 vs1)
  return (ys, unlock (restE env2 env1 vs1) lk1)
def Lc2E (vs vs1 : List Nat) (el : E) (t : T) (c : OC) (t1 : T) (it1 : I) (c1 : OC) (items : List D) (env : En) (Q : List D → En → Prop) : Prop :=
  Ev (lcLoop2 (fun env => evOC cl c env) (inQ cl vs1 el t1 it1 c1) t vs items env) fun z => Q z.1 z.2
def FoE (t : T) (b : Ss) (items : List D) (env : En) (Q : Fl → Prop) : Prop := Ev (foLoop (fun env => evSs cl b env) t items env) Q
/-- what stands behind a statement -/
def Kt (ss : Ss) (Q : Fl → Prop) : Fl → Prop
  | .nx e => Ev (evSs cl ss e) Q
  | fl => Q fl
theorem kt_nx (ss : Ss) (Q : Fl → Prop) (e : En) : Kt cl ss Q (.nx e) = Ev (evSs cl ss e) Q := rfl
theorem kt_bk (ss : Ss) (Q : Fl → Prop) (e : En) : Kt cl ss Q (.bk e) = Q (.bk e) := rfl
theorem kt_ct (ss : Ss) (Q : Fl → Prop) (e : En) : Kt cl ss Q (.ct e) = Q (.ct e) := rfl
theorem kt_rt (ss : Ss) (Q : Fl → Prop) (o : Op) (e : En) : Kt cl ss Q (.rt o e) = Q (.rt o e) := rfl
theorem kt {cl : CallF} {s : S} {ss : Ss} {env : En} {Q : Fl → Prop} (h : Ev (evS cl s env) (Kt cl ss Q)) : Ev (evSs cl (.cons s ss) env) Q := by
  refine c_ev (ev_mono h fun fl q => ?_)
  cases fl <;> exact q
theorem w_nm (i : Nat) : evE cl (.nm i) env = (match env[i]? with
    | some (.fz d) => some (.v d, env)
    | some (.ow _ _) => some (.p i, env)
    | some (.lk _ _) => some (.p i, env)
    | _ => none) := by first | (rw [evE]; done) | (rw [evE]; rfl)
theorem w_lit (d : D) : evE cl (.lit d) env = some (.v d, env) := by rw [evE]
theorem w_bin (op : Operator) (a b : E) : evE cl (.bin op a b) env = (evB cl a env).bind fun x => (evB cl b x.2).bind fun y => (rd y.2 x.1).bind fun dx => (rd y.2 y.1).bind fun dy => (binS op dx dy).bind fun r => some (r, y.2) := by rw [evE]; rfl
theorem w_un (op : UnaryOp) (a : E) : evE cl (.un op a) env = (evB cl a env).bind fun x => (rd x.2 x.1).bind fun dx => (unS op dx).bind fun r => some (.v r, x.2) := by rw [evE]; rfl
theorem w_cmp (op : CmpOp) (a b : E) : evE cl (.cmp op a b) env = (evB cl a env).bind fun x => (evB cl b x.2).bind fun y => (rd y.2 x.1).bind fun dx => (rd y.2 y.1).bind fun dy => (cmpS op dx dy).bind fun r => some (.v (.bl r), y.2) := by rw [evE]; rfl
theorem w_cmp2 (op op' : CmpOp) (a b c : E) : evE cl (.cmp2 op op' a b c) env = (evB cl a env).bind fun x => (evB cl b x.2).bind fun y => (rd y.2 x.1).bind fun dx => (rd y.2 y.1).bind fun dy => (cmpS op dx dy).bind fun r =>
    iteQ r ((evB cl c y.2).bind fun z => (rd z.2 y.1).bind fun dy => (rd z.2 z.1).bind fun dz => (cmpS op' dy dz).bind fun r => some (.v (.bl r), z.2)) (some (.v (.bl false), y.2)) := by rw [evE]; rfl
theorem w_and (es : Es) : evE cl (.and es) env = evAnd cl es env := by rw [evE]
theorem w_or (es : Es) : evE cl (.or es) env = evOr cl es env := by rw [evE]
theorem w_ifx (c : C) (a b : E) : evE cl (.ifx c a b) env = (evC cl c env).bind fun z => iteQ z.1 (evE cl a z.2) (evE cl b z.2) := by rw [evE]; rfl
theorem w_tup (es : Es) : evE cl (.tup es) env = (evDs cl es env).bind fun z => if z.1.length ≤ 16777216 then some (.v (.tup z.1), z.2) else none := by rw [evE]; rfl
theorem w_lst (es : Es) : evE cl (.lst es) env = (evDs cl es env).bind fun z => if z.1.length ≤ 16777216 then some (.nw (.lst z.1), z.2) else none := by rw [evE]; rfl
theorem w_idx (a b : E) : evE cl (.idx a b) env = (evB cl a env).bind fun x => (evB cl b x.2).bind fun y => (rd y.2 x.1).bind fun dx => (rd y.2 y.1).bind fun dy => (idxS dx dy).bind fun r => some (.v r, y.2) := by rw [evE]; rfl
theorem w_sli (a : E) (lo hi : OE) : evE cl (.sli a lo hi) env = (evB cl a env).bind fun x => (evO cl lo x.2).bind fun l => (evO cl hi l.2).bind fun h => (rd h.2 x.1).bind fun dx => (slS dx l.1 h.1).bind fun r => some (r, h.2) := by rw [evE]; rfl
theorem w_call (f : Nat) (es : Es) : evE cl (.call f es) env = (evBs cl es env).bind fun z => (toArgs z.2 z.1).bind fun args => if (lent z.2 z.1).Nodup then (cl f args).bind fun r => some (r.1, backArgs z.2 z.1 r.2) else none := by rw [evE]; rfl
theorem w_blt (b : Bf) (es : Es) : evE cl (.blt b es) env = (evBs cl es env).bind fun z => (rds z.2 z.1).bind fun ds => (bltS b ds).bind fun r => some (r, z.2) := by rw [evE]; rfl
def rngQ (h : Option Int) (i : Int) : Option (List D) := match h with
  | none => rgS 0 i
  | some j => rgS i j
theorem w_rng (tp : Bool) (a : E) (b : OE) : evE cl (.rng tp a b) env = (evB cl a env).bind fun x => (evO cl b x.2).bind fun h => (rd h.2 x.1).bind fun dx => (intD dx).bind fun i => (rngQ h.1 i).bind fun ds => some (if tp = true then .v (.tup ds) else .nw (.lst ds), h.2) := by
  rw [evE]
  cases h1 : evB cl a env with
  | none => rfl
  | some x =>
    obtain ⟨x, e1⟩ := x
    simp only [bind, Option.bind_some]
    cases h2 : evO cl b e1 with
    | none => rfl
    | some y =>
      obtain ⟨y, e2⟩ := y
      simp only [bind, Option.bind_some]
      cases h3 : rd e2 x with
      | none => rfl
      | some dx =>
        simp only [Option.bind_some]
        cases intD dx with
        | none => rfl
        | some i => cases y <;> rfl
theorem w_isi (a : E) (ts : List Ty) : evE cl (.isi a ts) env = (evB cl a env).bind fun x => (rd x.2 x.1).bind fun dx => some (.v (.bl (ts.any fun t => t.has dx)), x.2) := by rw [evE]; rfl
def mthQ (m : Mf) (i : Nat) (env : En) (ds : List D) : Option (Op × En) := match env[i]? with
  | some (.ow io (.lst xs)) => (mthS m xs ds).bind fun r => some (.v r.1, env.set i (.ow io (.lst r.2)))
  | _ => none
theorem w_mth (m : Mf) (i : Nat) (es : Es) : evE cl (.mth m i es) env = if isOwL env i = true then (evDs cl es env).bind fun z => mthQ m i z.2 z.1 else none := by
  rw [evE]
  unfold mthQ
  cases isOwL env i <;> rfl
theorem w_srtset (e : E) : evE cl (.srtset e) env = (evB cl e env).bind fun x => (rd x.2 x.1).bind fun dx => (seqD dx).bind fun xs => (intsD xs).bind fun ns => if ns.length < 64 then some (.nw (.lst ((VIS.srtU ns).map .int)), x.2) else none := by rw [evE]; rfl
def dflQ (mx : Bool) (dx dy : D) : Option D := if flatD dy = true then (match dx with
    | .lst xs => (intsD xs).map fun ns => if ns.length = 0 then dy else .int (if mx = true then maxL ns else minL ns)
    | .tup xs => if mx = true then (intsD xs).map fun ns => if ns.length = 0 then dy else .int (if mx = true then maxL ns else minL ns) else none
    | _ => none) else none
theorem w_dfl (mx : Bool) (a d : E) : evE cl (.dfl mx a d) env = (evB cl a env).bind fun x => (evB cl d x.2).bind fun y => (rd y.2 x.1).bind fun dx => (rd y.2 y.1).bind fun dy => (dflQ mx dx dy).bind fun r => some (.v r, y.2) := by
  rw [evE]
  cases h1 : evB cl a env with
  | none => rfl
  | some x =>
    obtain ⟨x, e1⟩ := x
    simp only [bind, Option.bind_some]
    cases h2 : evB cl d e1 with
    | none => rfl
    | some y =>
      obtain ⟨y, e2⟩ := y
      simp only [bind, Option.bind_some]
      cases h3 : rd e2 x with
      | none => rfl
      | some dx =>
        cases h4 : rd e2 y with
        | none => rfl
        | some dy =>
          simp only [Option.bind_some]
          unfold dflQ
          cases flatD dy with
          | false => rfl
          | true =>
            cases dx with
            | lst xs =>
              cases h5 : intsD xs with
              | none => simp [h5]
              | some ns => simp [h5]
            | tup xs =>
              cases mx with
              | false => rfl
              | true =>
                cases h5 : intsD xs with
                | none => simp [h5]
                | some ns => simp [h5]
            | _ => rfl
def dgetQ (d0 dx : D) (j : L2.Key) (z : Op) : Option Op := match d0, dx with
  | .dk _ _, .dk ks ds => some (match valD ks ds j with
    | some r => .v r
    | none => z)
  | _, _ => none
theorem dgetQ_dk (k0 : List L2.Key) (e0 : List D) (ks : List L2.Key) (ds : List D) (j : L2.Key) (z : Op) : dgetQ (.dk k0 e0) (.dk ks ds) j z = some (match valD ks ds j with | some r => .v r | none => z) := rfl
theorem w_dnew : evE cl .dnew env = some (.nw (.dk [] []), env) := by rw [evE]
theorem w_dget (a k d : E) : evE cl (.dget a k d) env = (evB cl a env).bind fun x => (rd x.2 x.1).bind fun d0 => (evB cl k x.2).bind fun y => (evB cl d y.2).bind fun z => (rd z.2 x.1).bind fun dx => (rd z.2 y.1).bind fun dy => (keyD dy).bind fun j => (dgetQ d0 dx j z.1).bind fun r => some (r, z.2) := by
  rw [evE]
  simp only [bind]
  refine congrArg _ (funext fun x => ?_)
  refine congrArg _ (funext fun d0 => ?_)
  refine congrArg _ (funext fun y => ?_)
  refine congrArg _ (funext fun z => ?_)
  refine congrArg _ (funext fun dx => ?_)
  refine congrArg _ (funext fun dy => ?_)
  refine congrArg _ (funext fun j => ?_)
  unfold dgetQ
  cases d0 with
  | dk k0 e0 =>
    cases dx with
    | dk ks ds =>
      cases h : valD ks ds j with
      | none => simp [h]
      | some r => simp [h]
    | _ => rfl
  | _ => rfl
def irgQ (env : En) : Option Sl → Option (List D × List (Nat × Bool) × En)
  | some (.rg lo hi) => (rngS lo hi).bind fun ds => some (ds, [], env)
  | _ => none
theorem w_Irg (i : Nat) : evI cl (.rgv i) env = irgQ env env[i]? := by
  rw [evI]
  unfold irgQ
  cases h : env[i]? with
  | none => rfl
  | some s => cases s <;> rfl
theorem irgQ_rg (lo hi : Int) : irgQ env (some (.rg lo hi)) = (rngS lo hi).bind fun ds => some (ds, [], env) := rfl
theorem w_setlen (e : E) : evE cl (.setlen e) env = (evB cl e env).bind fun x => (rd x.2 x.1).bind fun dx => (seqD dx).bind fun xs => (intsD xs).bind fun ns => if ns.length < 64 then some (.v (.int (dcnt ns : Nat)), x.2) else none := by rw [evE]; rfl
theorem w_bits (a : E) : evE cl (.bits a) env = (evB cl a env).bind fun x => (rd x.2 x.1).bind fun dx => (intD dx).bind fun i => some (.v (.int (Builtin.Int.intBits i : Nat)), x.2) := by rw [evE]; rfl
theorem w_gcd (a b : E) : evE cl (.gcd a b) env = (evB cl a env).bind fun x => (evB cl b x.2).bind fun y => (rd y.2 x.1).bind fun dx => (rd y.2 y.1).bind fun dy => (intD dx).bind fun i => (intD dy).bind fun j => some (.v (.int (Nat.gcd i.natAbs j.natAbs : Nat)), y.2) := by rw [evE]; rfl
theorem w_inrng (a b c : E) : evE cl (.inrng a b c) env = (evB cl a env).bind fun x => (evB cl b x.2).bind fun y => (evB cl c y.2).bind fun z => (rd z.2 x.1).bind fun dx => (rd z.2 y.1).bind fun dy => (rd z.2 z.1).bind fun dz => (intD dx).bind fun i => (intD dy).bind fun j => (intD dz).bind fun k => some (.v (.bl (decide (j ≤ i ∧ i < k))), z.2) := by rw [evE]; rfl
theorem w_cntof (a b : E) : evE cl (.cntof a b) env = (evB cl a env).bind fun x => (rd x.2 x.1).bind fun d0 => (evB cl b x.2).bind fun y => (rd y.2 x.1).bind fun dx => (rd y.2 y.1).bind fun dy => (cntS d0 dx dy).bind fun r => some (.v (.int r), y.2) := by rw [evE]; rfl
theorem w_ixof (a b : E) : evE cl (.ixof a b) env = (evB cl a env).bind fun x => (rd x.2 x.1).bind fun d0 => (evB cl b x.2).bind fun y => (rd y.2 x.1).bind fun dx => (rd y.2 y.1).bind fun dy => (ixS d0 dx dy).bind fun r => some (.v (.int r), y.2) := by rw [evE]; rfl
theorem w_frz (a : E) : evE cl (.frz a) env = (evE cl a env).bind fun x => some (x.1.frz, x.2) := by rw [evE]; rfl
theorem w_glo (x : Str) (d : D) : evE cl (.glo x d) env = some (.v d, env) := by rw [evE]
theorem w_attr (a : E) (f : Str) : evE cl (.attr a f) env = (evB cl a env).bind fun x => (rd x.2 x.1).bind fun dx => (attrS f dx).bind fun d => some (.v d, x.2) := by rw [evE]; rfl
theorem w_make (c : Cn) (fi : Nat) (es : Es) : evE cl (.make c fi es) env = (evBs cl es env).bind fun z => (toArgs z.2 z.1).bind fun args => if (lent z.2 z.1).Nodup then (cl fi (.ow true (.ins c [] []) :: args)).bind fun r => (madeS r).bind fun d => some (.nw d.1, backArgs z.2 z.1 d.2) else none := by rw [evE]; rfl
theorem w_meth (c : Cn) (m : Str) (fi : Nat) (a : E) (es : Es) : evE cl (.meth c m fi a es) env = (evB cl a env).bind fun x => (rd x.2 x.1).bind fun d0 => if hasM c m d0 = true then (evBs cl es x.2).bind fun z => (toArgs z.2 (x.1 :: z.1)).bind fun args => if (lent z.2 (x.1 :: z.1)).Nodup then (cl fi args).bind fun r => some (r.1, backArgs z.2 (x.1 :: z.1) r.2) else none else none := by rw [evE]; rfl
theorem made_ow (io : Bool) (d : D) (fin : List Sl) : madeS (.v .non, .ow io d :: fin) = some (d, fin) := rfl
theorem w_B (e : E) : evB cl e env = (evE cl e env).bind fun z => some (z.1.frz, z.2) := by rw [evB]; rfl
theorem w_and1 (e : E) : evAnd cl (.cons e .nil) env = evE cl e env := by rw [evAnd]
theorem w_and2 (e e2 : E) (es : Es) : evAnd cl (.cons e (.cons e2 es)) env = (evB cl e env).bind fun x => (rd x.2 x.1).bind fun dx => (blD dx).bind fun b => iteQ b (evAnd cl (.cons e2 es) x.2) (some (.v (.bl false), x.2)) := by
  rw [evAnd]
  · rfl
  · intro h; cases h
theorem w_or1 (e : E) : evOr cl (.cons e .nil) env = evE cl e env := by rw [evOr]
theorem w_or2 (e e2 : E) (es : Es) : evOr cl (.cons e (.cons e2 es)) env = (evB cl e env).bind fun x => (rd x.2 x.1).bind fun dx => (blD dx).bind fun b => iteQ b (some (.v (.bl true), x.2)) (evOr cl (.cons e2 es) x.2) := by
  rw [evOr]
  · rfl
  · intro h; cases h
theorem w_Bn : evBs cl .nil env = some ([], env) := by rw [evBs]
theorem w_Bc (e : E) (es : Es) : evBs cl (.cons e es) env = (evB cl e env).bind fun x => (evBs cl es x.2).bind fun y => some (x.1 :: y.1, y.2) := by rw [evBs]; rfl
theorem w_Dn : evDs cl .nil env = some ([], env) := by rw [evDs]
theorem w_Dc (e : E) (es : Es) : evDs cl (.cons e es) env = (evE cl e env).bind fun x => (esc x.2 x.1).bind fun d => (evDs cl es d.2).bind fun y => some (d.1 :: y.1, y.2) := by rw [evDs]; rfl
theorem w_On : evO cl .no env = some (none, env) := by rw [evO]
theorem w_Os (e : E) : evO cl (.so e) env = (evB cl e env).bind fun x => (rd x.2 x.1).bind fun d => (intD d).bind fun i => some (some i, x.2) := by rw [evO]; rfl
theorem w_Cif (c : C) (a b : E) : evC cl (.ifc c a b) env = (evC cl c env).bind fun z => (iteQ z.1 (evB cl a z.2) (evB cl b z.2)).bind fun x => (rd x.2 x.1).bind fun d => (blD d).bind fun b => some (b, x.2) := by
  rw [evC]
  show (evC cl c env).bind _ = _
  congr 1
  funext z
  obtain ⟨r, e⟩ := z
  cases r <;> rfl
theorem w_Cv (e : E) : evC cl (.val e) env = (evB cl e env).bind fun x => (rd x.2 x.1).bind fun d => (blD d).bind fun b => some (b, x.2) := by rw [evC]; rfl
theorem w_Ca (cs : VI.Cs) : evC cl (.and cs) env = evCand cl cs env := by rw [evC]
theorem w_Co (cs : VI.Cs) : evC cl (.or cs) env = evCor cl cs env := by rw [evC]
theorem w_Cn (c : C) : evC cl (.not c) env = (evC cl c env).bind fun z => some (!z.1, z.2) := by rw [evC]; rfl
theorem w_Cc (op : CmpOp) (a b : E) : evC cl (.cmp op a b) env = (evB cl a env).bind fun x => (evB cl b x.2).bind fun y => (rd y.2 x.1).bind fun dx => (rd y.2 y.1).bind fun dy => (cmpS op dx dy).bind fun r => some (r, y.2) := by rw [evC]; rfl
theorem w_Cc2 (op op' : CmpOp) (a b c : E) : evC cl (.cmp2 op op' a b c) env = (evB cl a env).bind fun x => (evB cl b x.2).bind fun y => (rd y.2 x.1).bind fun dx => (rd y.2 y.1).bind fun dy => (cmpS op dx dy).bind fun r =>
    iteQ r ((evB cl c y.2).bind fun z => (rd z.2 y.1).bind fun dy => (rd z.2 z.1).bind fun dz => (cmpS op' dy dz).bind fun r => some (r, z.2)) (some (false, y.2)) := by rw [evC]; rfl
theorem w_Ca1 (c : C) : evCand cl (.cons c .nil) env = evC cl c env := by rw [evCand]
theorem w_Ca2 (c c2 : C) (cs : VI.Cs) : evCand cl (.cons c (.cons c2 cs)) env = (evC cl c env).bind fun z => iteQ z.1 (evCand cl (.cons c2 cs) z.2) (some (false, z.2)) := by
  rw [evCand]
  · rfl
  · intro h; cases h
theorem w_Co1 (c : C) : evCor cl (.cons c .nil) env = evC cl c env := by rw [evCor]
theorem w_Co2 (c c2 : C) (cs : VI.Cs) : evCor cl (.cons c (.cons c2 cs)) env = (evC cl c env).bind fun z => iteQ z.1 (some (true, z.2)) (evCor cl (.cons c2 cs) z.2) := by
  rw [evCor]
  · rfl
  · intro h; cases h
theorem w_OCn : evOC cl .no env = some (true, env) := by rw [evOC]
theorem w_OCs (c : C) : evOC cl (.so c) env = evC cl c env := by rw [evOC]
theorem w_Is (e : E) : evI cl (.seq e) env = (evB cl e env).bind fun x => (rd x.2 x.1).bind fun d => (itemsOf d).bind fun ds => some (ds, (lockS x.2 x.1).2, (lockS x.2 x.1).1) := by rw [evI]; rfl
theorem w_I1 (a : E) : evI cl (.rng1 a) env = (evB cl a env).bind fun x => (rd x.2 x.1).bind fun dx => (intD dx).bind fun i => (rngS 0 i).bind fun ds => some (ds, [], x.2) := by rw [evI]; rfl
theorem w_I2 (a b : E) : evI cl (.rng2 a b) env = (evB cl a env).bind fun x => (evB cl b x.2).bind fun y => (rd y.2 x.1).bind fun dx => (rd y.2 y.1).bind fun dy => (intD dx).bind fun i => (intD dy).bind fun j => (rngS i j).bind fun ds => some (ds, [], y.2) := by rw [evI]; rfl
theorem w_Ie (e : E) : evI cl (.enum e) env = (evB cl e env).bind fun x => (rd x.2 x.1).bind fun d => (itemsOf d).bind fun ds => some (enumD 0 ds, (lockS x.2 x.1).2, (lockS x.2 x.1).1) := by rw [evI]; rfl
theorem w_Iz3 (a b c : E) : evI cl (.zip3 a b c) env = (evB cl a env).bind fun x => (evB cl b x.2).bind fun y => (evB cl c y.2).bind fun z => (rd z.2 x.1).bind fun dx => (rd z.2 y.1).bind fun dy => (rd z.2 z.1).bind fun dz => (zip3S dx dy dz).bind fun ds => some (ds, (lockS (lockS (lockS z.2 x.1).1 y.1).1 z.1).2 ++ ((lockS (lockS z.2 x.1).1 y.1).2 ++ (lockS z.2 x.1).2), (lockS (lockS (lockS z.2 x.1).1 y.1).1 z.1).1) := by rw [evI]; rfl
theorem w_Iz (a b : E) : evI cl (.zip a b) env = (evB cl a env).bind fun x => (evB cl b x.2).bind fun y => (rd y.2 x.1).bind fun dx => (rd y.2 y.1).bind fun dy => (zipS dx dy).bind fun ds => some (ds, (lockS (lockS y.2 x.1).1 y.1).2 ++ (lockS y.2 x.1).2, (lockS (lockS y.2 x.1).1 y.1).1) := by rw [evI]; rfl
theorem w_Ir (e : E) : evI cl (.rev e) env = (evB cl e env).bind fun x => (rd x.2 x.1).bind fun d => (itemsOf d).bind fun ds => some (ds.reverse, (lockS x.2 x.1).2, (lockS x.2 x.1).1) := by rw [evI]; rfl
theorem x_set (i : Nat) (e : E) : evS cl (.set i e) env = (evE cl e env).bind fun x => (stO x.2 i x.1).bind fun e => some (.nx e) := by rw [evS]; rfl
theorem x_unp (t : T) (e : E) : evS cl (.unp t e) env = (evE cl e env).bind fun x => (esc x.2 x.1).bind fun d => (t.put d.2 d.1).bind fun e => some (.nx e) := by rw [evS]; rfl
theorem x_par (i j : Nat) (a b : E) : evS cl (.par i j a b) env = (evDs cl (.cons a (.cons b .nil)) env).bind fun z => match z.1 with
    | [x, y] => (putS z.2 i (.fz x)).bind fun e => (putS e j (.fz y)).bind fun e => some (.nx e)
    | _ => none := by rw [evS]; rfl
def putQ (i : Nat) (env : En) (n : Int) (d : D) : Option Fl := match env[i]? with
  | some (.ow io (.lst xs)) => (L2.ixN xs.length n).bind fun j => some (.nx (env.set i (.ow io (.lst (xs.set j d)))))
  | _ => none
def setaQ (i : Nat) (f : Str) (env : En) (d : D) : Option Fl := match env[i]? with
  | some (.ow io d0) => (setaS f d d0).bind fun d1 => some (.nx (env.set i (.ow io d1)))
  | _ => none
def setaW (s : Option Sl) (i : Nat) (f : Str) (env : En) (d : D) : Option Fl := match s with
  | some (.ow io d0) => (setaS f d d0).bind fun d1 => some (.nx (env.set i (.ow io d1)))
  | _ => none
theorem setaQ' (i : Nat) (f : Str) (env : En) (d : D) : setaQ i f env d = setaW env[i]? i f env d := rfl
theorem setaW_ow (io : Bool) (d0 : D) (i : Nat) (f : Str) (env : En) (d : D) : setaW (some (.ow io d0)) i f env d = (setaS f d d0).bind fun d1 => some (.nx (env.set i (.ow io d1))) := rfl
theorem x_seta (i : Nat) (f : Str) (e : E) : evS cl (.seta i f e) env = (evE cl e env).bind fun x => (esc x.2 x.1).bind fun d => setaQ i f d.2 d.1 := by
  rw [evS]
  simp only [bind]
  congr 1
theorem x_put (i : Nat) (k e : E) : evS cl (.put i k e) env = (evE cl e env).bind fun x => (esc x.2 x.1).bind fun d => if isOwL d.2 i = true then (evB cl k d.2).bind fun z => (rd z.2 z.1).bind fun dk => (intD dk).bind fun n => putQ i z.2 n d.1 else none := by
  rw [evS]
  simp only [bind]
  congr 1
  funext x
  congr 1
  funext d
  cases isOwL d.2 i <;> rfl
def dputQ (i : Nat) (env : En) (j : L2.Key) (d : D) : Option Fl := match env[i]? with
  | some (.ow io (.dk ks ds)) => if ks.length < 16777216 then some (.nx (env.set i (.ow io (.dk (putDk j d ks ds).1 (putDk j d ks ds).2)))) else none
  | _ => none
theorem x_dput (i : Nat) (k e : E) : evS cl (.dput i k e) env = (evE cl e env).bind fun x => (esc x.2 x.1).bind fun d => if isOwK d.2 i = true then (evB cl k d.2).bind fun z => (rd z.2 z.1).bind fun dk => (keyD dk).bind fun n => dputQ i z.2 n d.1 else none := by
  rw [evS]
  simp only [bind]
  congr 1
  funext x
  congr 1
  funext d
  cases isOwK d.2 i <;> rfl
def dputW (i : Nat) (env : En) (j : L2.Key) (d : D) : Option Sl → Option Fl
  | some (.ow io (.dk ks ds)) => if ks.length < 16777216 then some (.nx (env.set i (.ow io (.dk (putDk j d ks ds).1 (putDk j d ks ds).2)))) else none
  | _ => none
theorem dputQ' {i : Nat} {env : En} {j : L2.Key} {d : D} : dputQ i env j d = dputW i env j d env[i]? := rfl
theorem dputW_ow {i : Nat} {env : En} {j : L2.Key} {d : D} {io : Bool} {ks : List L2.Key} {ds : List D} : dputW i env j d (some (.ow io (.dk ks ds))) = if ks.length < 16777216 then some (.nx (env.set i (.ow io (.dk (putDk j d ks ds).1 (putDk j d ks ds).2)))) else none := rfl
def isOwKS : Option Sl → Bool
  | some (.ow _ (.dk _ _)) => true
  | _ => false
theorem isOwK' {env : En} {i : Nat} : isOwK env i = isOwKS env[i]? := by
  unfold isOwK isOwKS
  rfl
theorem isOwKS_ow {io : Bool} {ks : List L2.Key} {ds : List D} : isOwKS (some (.ow io (.dk ks ds))) = true := rfl
theorem key_int {i : Int} : keyD (.int i) = some (.inl i) := rfl
theorem notin_dk {x : D} {ks : List L2.Key} {ds : List D} {k : L2.Key} (h : keyD x = some k) : cmpS .NotIn x (.dk ks ds) = some (!(valD ks ds k).isSome) := by
  show (inS x (.dk ks ds)).map _ = _
  unfold inS
  rw [h]
  rfl
theorem len_dk {ks : List L2.Key} {ds : List D} : bltS .len [.dk ks ds] = some (.v (.int ks.length)) := rfl
theorem prsD_map {α : Type} (k : α → L2.Key) (g : α → D) : ∀ xs : List α, prsD (xs.map fun x => .tup [keyB (k x), g x]) = some (xs.map fun x => (k x, g x))
  | [] => rfl
  | x :: xs => by
    rw [List.map_cons, List.map_cons]
    unfold prsD
    rw [prsD_map k g xs]
    cases k x <;> rfl
/-- keys that are all different: in their order -/
theorem dfold_new : ∀ (ps : List (L2.Key × D)) (ks : List L2.Key) (ds : List D), ks.length = ds.length → (ks ++ ps.map (·.1)).Nodup → dfold ps (ks, ds) = (ks ++ ps.map (·.1), ds ++ ps.map (·.2))
  | [], ks, ds, _, _ => by simp [dfold]
  | p :: ps, ks, ds, hl, hn => by
    have h1 : p.1 ∉ ks := by
      intro z
      rw [List.map_cons] at hn
      exact (List.nodup_append.mp hn).2.2 _ z _ List.mem_cons_self rfl
    have h2 : ¬ (ks.any fun j => decide (j = p.1)) = true := by
      intro z
      obtain ⟨x, hx, e⟩ := List.any_eq_true.mp z
      exact h1 ((of_decide_eq_true e) ▸ hx)
    unfold dfold putDk
    rw [if_neg h2]
    have := dfold_new ps (ks ++ [p.1]) (ds ++ [p.2]) (by simp [hl]) (by simpa using hn)
    simpa using this
theorem x_setrg (i : Nat) (a : E) : evS cl (.setrg i a) env = (evB cl a env).bind fun x => (rd x.2 x.1).bind fun dx => (intD dx).bind fun n => (putS x.2 i (.rg 0 n)).bind fun e => some (.nx e) := by rw [evS]; rfl
def incQ (cl : CallF) (i : Nat) (e : E) (env : En) : Option Fl := match env[i]? with
  | some (.fz (.int a)) => (evB cl e env).bind fun x => (rd x.2 x.1).bind fun d => (intD d).bind fun b => (putS x.2 i (.fz (.int (a + b)))).bind fun e => some (.nx e)
  | _ => none
theorem x_inc (i : Nat) (e : E) : evS cl (.inc i e) env = incQ cl i e env := by rw [evS]; rfl
theorem x_expr (e : E) : evS cl (.expr e) env = (evE cl e env).bind fun x => some (.nx x.2) := by rw [evS]; rfl
theorem x_ret (e : E) : evS cl (.ret e) env = (evE cl e env).bind fun x => (retO x.2 x.1).bind fun y => some (.rt y.1 y.2) := by rw [evS]; rfl
theorem x_retn : evS cl .retn env = some (.rt (.v .non) env) := by rw [evS]
theorem x_if (c : C) (a b : Ss) : evS cl (.ifs c a b) env = (evC cl c env).bind fun z => iteQ z.1 (evSs cl a z.2) (evSs cl b z.2) := by rw [evS]; rfl
theorem x_brk : evS cl .brk env = some (.bk env) := by rw [evS]
theorem x_cont : evS cl .cont env = some (.ct env) := by rw [evS]
theorem x_pass : evS cl .pass env = some (.nx env) := by rw [evS]
theorem x_doc : evS cl .doc env = some (.nx env) := by rw [evS]
theorem x_nil : evSs cl .nil env = some (.nx env) := by rw [evSs]
theorem ev_fo {t : T} {it : I} {b : Ss} {Q : Fl → Prop} : Ev (evS cl (.fo t it b) env) Q ↔ Ev (evI cl it env) fun z => FoE cl t b z.1 z.2.2 fun fl => Q (fl.free z.2.1) := by
  rw [evS]
  simp only [bind, pure, ev_bind, ev_some, FoE]
theorem ev_lc {vs : List Nat} {el : E} {t : T} {it : I} {c : OC} {Q : Op × En → Prop} : Ev (evE cl (.lc vs el t it c) env) Q ↔ Ev (evI cl it env) fun z => (z.2.1.all fun j => !vs.contains j.1) = true ∧ LcE cl vs el t c z.1 (wipeE z.2.2 vs) fun outs e => outs.length ≤ 16777216 ∧ Q (.nw (.lst outs), unlock (restE e z.2.2 vs) z.2.1) := by
  rw [evE]
  simp only [bind, ev_bind, LcE]
  refine iff_of_eq (congrArg _ (funext fun z => ?_))
  obtain ⟨items, lk, e1⟩ := z
  show Ev _ _ = _
  cases lk.all fun j => !vs.contains j.1 with
  | false => simp [ev_none]
  | true =>
    simp only [Bool.not_true, Bool.false_eq_true, if_false, true_and, pure, ev_bind, ev_ifn, ev_some]
    rfl
/-- a dict comprehension's turns -/
def kvQ (cl : CallF) (ke ve : E) (env : En) : Option (D × En) := (evB cl ke env).bind fun x => (rd x.2 x.1).bind fun kd => (keyD kd).bind fun k => (evE cl ve x.2).bind fun o => (esc o.2 o.1).bind fun d => some (.tup [keyB k, d.1], d.2)
def DcE (cl : CallF) (vs : List Nat) (ke ve : E) (t : T) (c : OC) (items : List D) (env : En) (R : List D → En → Prop) : Prop := Ev (lcLoop (fun env => evOC cl c env) (kvQ cl ke ve) t vs items env) fun z => R z.1 z.2
theorem ev_dc {vs : List Nat} {ke ve : E} {t : T} {it : I} {c : OC} {Q : Op × En → Prop} : Ev (evE cl (.dc vs ke ve t it c) env) Q ↔ Ev (evI cl it env) fun z => (z.2.1.all fun j => !vs.contains j.1) = true ∧ DcE cl vs ke ve t c z.1 (wipeE z.2.2 vs) fun outs e => Ev (prsD outs) fun ps => ps.length < 16777216 ∧ Q (.nw (.dk (dfold ps ([], [])).1 (dfold ps ([], [])).2), unlock (restE e z.2.2 vs) z.2.1) := by
  rw [evE]
  simp only [bind, ev_bind, DcE]
  refine iff_of_eq (congrArg _ (funext fun z => ?_))
  obtain ⟨items, lk, e1⟩ := z
  show Ev _ _ = _
  cases lk.all fun j => !vs.contains j.1 with
  | false => simp [ev_none]
  | true =>
    simp only [Bool.not_true, Bool.false_eq_true, if_false, true_and, pure, ev_bind, ev_ifn, ev_some]
    rfl
theorem ev_slen {vs : List Nat} {el : E} {t : T} {it : I} {c : OC} {Q : Op × En → Prop} : Ev (evE cl (.slen vs el t it c) env) Q ↔ Ev (evI cl it env) fun z => (z.2.1.all fun j => !vs.contains j.1) = true ∧ LcE cl vs el t c z.1 (wipeE z.2.2 vs) fun outs e => Ev (intsD outs) fun ns => ns.length < 4000 ∧ Q (.v (.int (dcnt ns : Nat)), unlock (restE e z.2.2 vs) z.2.1) := by
  rw [evE]
  simp only [bind, ev_bind, LcE]
  refine iff_of_eq (congrArg _ (funext fun z => ?_))
  obtain ⟨items, lk, e1⟩ := z
  show Ev _ _ = _
  cases lk.all fun j => !vs.contains j.1 with
  | false => simp [ev_none]
  | true =>
    simp only [Bool.not_true, Bool.false_eq_true, if_false, true_and, pure, ev_bind, ev_ifn, ev_some]
theorem ev_lc2 {vs vs1 : List Nat} {el : E} {t t1 : T} {it it1 : I} {c c1 : OC} {Q : Op × En → Prop} : Ev (evE cl (.lc2 vs vs1 el t it c t1 it1 c1) env) Q ↔ Ev (evI cl it env) fun z => (z.2.1.all fun j => !vs.contains j.1) = true ∧ Lc2E cl vs vs1 el t c t1 it1 c1 z.1 (wipeE z.2.2 vs) fun outs e => outs.length ≤ 16777216 ∧ Q (.nw (.lst outs), unlock (restE e z.2.2 vs) z.2.1) := by
  rw [evE]
  simp only [bind, ev_bind, Lc2E, inQ]
  refine iff_of_eq (congrArg _ (funext fun z => ?_))
  obtain ⟨items, lk, e1⟩ := z
  show Ev _ _ = _
  cases lk.all fun j => !vs.contains j.1 with
  | false => simp [ev_none]
  | true =>
    simp only [Bool.not_true, Bool.false_eq_true, if_false, true_and, pure, ev_bind, ev_ifn, ev_some]
    rfl
end
def finC (env : En) : Nat → List Sl → List Sl
  | _, [] => []
  | i, a :: as => (match a with
    | .ow io d => (env[i]?).getD (.ow io d)
    | a => a) :: finC env (i + 1) as
theorem finA_go {env : En} {args : List Sl} : finA args env = finC env 0 args := by
  have h : ∀ (as : List Sl) (i : Nat), (as.mapIdx fun j a => match a with
    | .ow _ _ => (env[i + j]?).getD a
    | a => a) = finC env i as := by
    intro as
    induction as with
    | nil => intro i; rfl
    | cons a as ih =>
      intro i
      rw [List.mapIdx_cons]
      unfold finC
      rw [← ih (i + 1)]
      congr 1
      · cases a <;> rfl
      · congr 1
        funext j a
        cases a with
        | ow io d => simp only []; rw [show i + (j + 1) = i + 1 + j by omega]
        | _ => rfl
  have := h args 0
  simp only [Nat.zero_add] at this
  exact this
theorem finA_nil {env : En} {i : Nat} : finC env i [] = [] := rfl
theorem finA_cons {env : En} {i : Nat} {a : Sl} {as : List Sl} : finC env i (a :: as) = (match a with
    | .ow io d => (env[i]?).getD (.ow io d)
    | a => a) :: finC env (i + 1) as := rfl
/-- the end of a def -/
def Ed (args : List Sl) (Q : Op × List Sl → Prop) (fl : Fl) : Prop := Ev (endF args fl) Q
theorem ed_nx {args : List Sl} {Q : Op × List Sl → Prop} {e : En} : Ed args Q (.nx e) ↔ Q (.v .non, finA args e) := ev_some
theorem ed_v {args : List Sl} {Q : Op × List Sl → Prop} {d : D} {e : En} : Ed args Q (.rt (.v d) e) ↔ Q (.v d, finA args e) := ev_some
theorem ed_nw {args : List Sl} {Q : Op × List Sl → Prop} {d : D} {e : En} : Ed args Q (.rt (.nw d) e) ↔ Q (.nw d, finA args e) := ev_some
theorem enter2 {cl : CallF} {d : FD} {args : List Sl} {Q : Op × List Sl → Prop} (hl : args.length = d.ps.length ∧ args.all argOk = true) (h : Ev (evSs cl d.body (args ++ List.replicate (d.N.length - args.length) .un)) (Ed args Q)) : Ev (runDef cl d args) Q := enter hl h
section
variable {env : En} {d : D} {i : Nat}
theorem rd_v : rd env (.v d) = some d := rfl
theorem rd_nw : rd env (.nw d) = some d := rfl
theorem rd_p : rd env (.p i) = (match env[i]? with
    | some (.fz d) => some d
    | some (.ow _ d) => some d
    | some (.lk _ d) => some d
    | _ => none) := rfl
theorem rds_nil : rds env [] = some [] := rfl
theorem rds_cons {o : Op} {os : List Op} : rds env (o :: os) = (rd env o).bind fun d => (rds env os).map fun ds => d :: ds := rfl
theorem esc_v : esc env (.v d) = some (d, env) := rfl
theorem esc_nw : esc env (.nw d) = some (d, env) := rfl
theorem esc_p : esc env (.p i) = (match env[i]? with
    | some (.fz d) => some (d, env)
    | some (.ow false d) => some (d, env.set i (.fz d))
    | _ => none) := rfl
theorem toA_v : toArg env (.v d) = some (.fz d) := rfl
theorem toA_nw : toArg env (.nw d) = some (.fz d) := rfl
theorem toA_p : toArg env (.p i) = (match env[i]? with
    | some (.fz d) => some (.fz d)
    | some (.ow _ d) => some (.ow true d)
    | some (.lk _ d) => some (.lk true d)
    | _ => none) := rfl
theorem toAs_nil : toArgs env [] = some [] := rfl
theorem toAs_cons {o : Op} {os : List Op} : toArgs env (o :: os) = (toArg env o).bind fun a => (toArgs env os).map (a :: ·) := rfl
theorem stO_v : stO env i (.v d) = putS env i (.fz d) := rfl
theorem stO_nw : stO env i (.nw d) = putS env i (.ow false d) := rfl
theorem stO_p {j : Nat} : stO env i (.p j) = (esc env (.p j)).bind fun z => putS z.2 i (.fz z.1) := rfl
theorem retO_v : retO env (.v d) = some (.v d, env) := rfl
theorem retO_nw : retO env (.nw d) = some (.nw d, env) := rfl
theorem retO_p : retO env (.p i) = (match env[i]? with
    | some (.fz d) => some (.v d, env)
    | some (.ow false d) => some (.nw d, env.set i .un)
    | _ => none) := rfl
theorem lockS_v : lockS env (.v d) = (env, []) := rfl
theorem lockS_nw : lockS env (.nw d) = (env, []) := rfl
theorem lockS_p : lockS env (.p i) = (match env[i]? with
    | some (.ow io d) => (env.set i (.lk io d), [(i, true)])
    | some (.lk _ _) => (env, [(i, false)])
    | _ => (env, [])) := rfl
theorem int_i {i : Int} : intD (.int i) = some i := rfl
theorem bl_b {b : Bool} : blD (.bl b) = some b := rfl
theorem items_l {xs : List D} : itemsOf (.lst xs) = some xs := rfl
theorem items_t {xs : List D} : itemsOf (.tup xs) = some xs := rfl
theorem items_s {ns : List Int} : itemsOf (.scr ns) = some (ns.map .int) := rfl
theorem rngQ_n {i : Int} : rngQ none i = rgS 0 i := rfl
theorem rngQ_s {i j : Int} : rngQ (some j) i = rgS i j := rfl
theorem pop_last {xs : List D} {d : D} : mthS .pop (xs ++ [d]) [] = some (d, xs) := by simp [mthS]
theorem put_nm {d : D} : (T.nm i).put env d = putS env i (.fz d) := by unfold T.put; rfl
theorem put_tt {ts : Ts} {ds : List D} : (T.tup ts).put env (.tup ds) = ts.put env ds := by rw [T.put]
theorem put_tl {ts : Ts} {ds : List D} : (T.tup ts).put env (.lst ds) = ts.put env ds := by rw [T.put]
theorem put_tn : Ts.nil.put env [] = some env := by rw [Ts.put]
theorem put_tc {t : T} {ts : Ts} {ds : List D} : (Ts.cons t ts).put env (d :: ds) = (t.put env d).bind fun e => ts.put e ds := by rw [Ts.put]
theorem max_t {l : List Int} (h : 0 < l.length) : bltS .max [.tup (l.map .int)] = some (.v (.int (maxL l))) := by
  show (intsD (l.map .int)).bind _ = _
  rw [intsD_map]
  show (if 0 < l.length then _ else none) = _
  rw [if_pos h]
theorem min_t {l : List Int} (h : 0 < l.length) : bltS .min [.tup (l.map .int)] = some (.v (.int (minL l))) := by
  show (intsD (l.map .int)).bind _ = _
  rw [intsD_map]
  show (if 0 < l.length then _ else none) = _
  rw [if_pos h]
theorem max_n {l : List Int} (h : 0 < l.length) : bltS .max [.lst (l.map .int)] = some (.v (.int (maxL l))) := by
  show (intsD (l.map .int)).bind _ = _
  rw [intsD_map]
  show (if 0 < l.length then _ else none) = _
  rw [if_pos h]
theorem min_n {l : List Int} (h : 0 < l.length) : bltS .min [.lst (l.map .int)] = some (.v (.int (minL l))) := by
  show (intsD (l.map .int)).bind _ = _
  rw [intsD_map]
  show (if 0 < l.length then _ else none) = _
  rw [if_pos h]
theorem minp_n {l : List (Int × Int)} (h : 0 < l.length) : bltS .minp [.lst (l.map fun p => .tup [.int p.1, .int p.2])] = some (.v (.tup [.int (minPr l).1, .int (minPr l).2])) := by
  show (pairsD _).bind _ = _
  rw [pairsD_map]
  show (if 0 < l.length then _ else none) = _
  rw [if_pos h]
theorem sum_t {l : List Int} : bltS .sum [.tup (l.map .int)] = some (.v (.int l.sum)) := by
  show (intsD (l.map .int)).map _ = _
  rw [intsD_map]
  rfl
theorem sum_n {l : List Int} : bltS .sum [.lst (l.map .int)] = some (.v (.int l.sum)) := by
  show (intsD (l.map .int)).map _ = _
  rw [intsD_map]
  rfl
theorem srt_n {l : List Int} : bltS .sorted [.lst (l.map .int)] = some (.nw (LI (l.mergeSort (· ≤ ·)))) := by
  show (intsD (l.map .int)).map _ = _
  rw [intsD_map]
  rfl
theorem any_n {l : List Bool} : bltS .any [.lst (l.map .bl)] = some (.v (.bl (l.any id))) := by
  show (blsD (l.map .bl)).map _ = _
  rw [blsD_map]
  rfl
theorem all_n {l : List Bool} : bltS .all [.lst (l.map .bl)] = some (.v (.bl (l.all id))) := by
  show (blsD (l.map .bl)).map _ = _
  rw [blsD_map]
  rfl
theorem rngS2 {m n : Int} (h1 : -(2 ^ 62) ≤ m) (h2 : m < 2 ^ 62) (h3 : -(2 ^ 62) ≤ n) (h4 : n < 2 ^ 62) : rngS m n = some ((List.range (n - m).toNat).map fun k => .int (m + (k : Nat))) := by
  unfold rngS
  rw [if_pos ⟨h1, h2, h3, h4⟩]
theorem rngS1 {n : Int} (h1 : 0 ≤ n) (h2 : n < 2 ^ 62) : rngS 0 n = some ((List.range n.toNat).map fun k => .int (k : Nat)) := rngS_ok ⟨h1, h2⟩
theorem rgS1 {n : Int} (h1 : 0 ≤ n) (h2 : n ≤ 2 ^ 24) : rgS 0 n = some ((List.range n.toNat).map fun k => .int (k : Nat)) := rgS_ok' ⟨h1, h2⟩
theorem mul_r1 {a b : Int} (h1 : -(2 ^ 64) < b) (h2 : b < 2 ^ 64) : binS .Mult (.int a) (.int b) = some (.v (.int (a * b))) := mul_r ⟨h1, h2⟩
theorem mul_l1 {a b : Int} (h1 : -(2 ^ 64) < a) (h2 : a < 2 ^ 64) : binS .Mult (.int a) (.int b) = some (.v (.int (a * b))) := mul_l ⟨h1, h2⟩
theorem div_c1 {a b : Int} (h1 : 0 < b) (h2 : b < 1073741824) : binS .FloorDiv (.int a) (.int b) = some (.v (.int (a / b))) := div_c ⟨h1, h2⟩
theorem rep_n {x : D} {n : Nat} (h : n ≤ 16777216) : binS .Mult (.lst [x]) (.int (n : Nat)) = some (.nw (.lst (List.replicate n x))) := by
  have hs : sizeLine = 16777216 := rfl
  simp only [binS]
  rw [if_pos (by simp; omega)]
  simp
theorem add_lst1 {xs ys : List D} (h : xs.length + ys.length ≤ 16777216) : binS .Add (.lst xs) (.lst ys) = some (.nw (.lst (xs ++ ys))) := by
  simp only [binS]
  rw [if_pos (show xs.length + ys.length ≤ sizeLine from h)]
theorem add_tup1 {xs ys : List D} (h : xs.length + ys.length ≤ 16777216) : binS .Add (.tup xs) (.tup ys) = some (.v (.tup (xs ++ ys))) := by
  simp only [binS]
  rw [if_pos (show xs.length + ys.length ≤ sizeLine from h)]
theorem app_16 {xs : List D} {d : D} (h : xs.length < 16777216) : mthS .append xs [d] = some (.non, xs ++ [d]) := app_1 h
end
section
variable {cl : CallF}
/-- a for statement by place -/
theorem foE {t : T} {b : Ss} {items : List D} {Q : Fl → Prop} {env : En} (P : Nat → En → Prop) (h0 : P 0 env)
    (hs : ∀ i (hi : i < items.length) e, P i e → Ev (t.put e items[i]) fun e1 => Ev (evSs cl b e1) fun fl => match fl with
      | .nx e2 => P (i + 1) e2
      | .ct e2 => P (i + 1) e2
      | .bk e2 => Q (.nx e2)
      | .rt o e2 => Q (.rt o e2)) (hd : ∀ e, P items.length e → Q (.nx e)) : FoE cl t b items env Q := fo_ind P hs hd h0
/-- what a turn ends in -/
def Tn (P : En → Prop) (Q : Fl → Prop) : Fl → Prop
  | .nx e => P e
  | .ct e => P e
  | .bk e => Q (.nx e)
  | .rt o e => Q (.rt o e)
theorem tn_nx {P : En → Prop} {Q : Fl → Prop} {e : En} : Tn P Q (.nx e) = P e := rfl
theorem tn_ct {P : En → Prop} {Q : Fl → Prop} {e : En} : Tn P Q (.ct e) = P e := rfl
theorem tn_bk {P : En → Prop} {Q : Fl → Prop} {e : En} : Tn P Q (.bk e) = Q (.nx e) := rfl
theorem tn_rt {P : En → Prop} {Q : Fl → Prop} {o : Op} {e : En} : Tn P Q (.rt o e) = Q (.rt o e) := rfl
/-- while -/
def WhE (cl : CallF) (c : C) (b : Ss) (env : En) (Q : Fl → Prop) : Prop := Ev (whE (fun env => evC cl c env) (fun env => evSs cl b env) env) Q
noncomputable def whQ (cl : CallF) (c : C) (b : Ss) (env : En) : Option Fl := whE (fun env => evC cl c env) (fun env => evSs cl b env) env
theorem x_whi {cl : CallF} {env : En} (c : C) (b : Ss) : evS cl (.whi c b) env = whQ cl c b env := by rw [evS]; rfl
theorem ev_wh {cl : CallF} {env : En} {c : C} {b : Ss} {Q : Fl → Prop} : Ev (whQ cl c b env) Q ↔ WhE cl c b env Q := Iff.rfl
/-- a turn of a while -/
def Wt (cl : CallF) (b : Ss) (P : En → Prop) (Q : Fl → Prop) (z : Bool × En) : Prop := (z.1 = true → Ev (evSs cl b z.2) (Tn P Q)) ∧ (z.1 = false → Q (.nx z.2))
theorem wt_i {cl : CallF} {b : Ss} {P : En → Prop} {Q : Fl → Prop} {k : Bool} {e : En} : Wt cl b P Q (k, e) ↔ (k = true → Ev (evSs cl b e) (Tn P Q)) ∧ (k = false → Q (.nx e)) := Iff.rfl
theorem whI {cl : CallF} {c : C} {b : Ss} {env : En} {Q : Fl → Prop} (P : Nat → En → Prop) (n : Nat) (h0 : P n env) (hs : ∀ n e, P n e → Ev (evC cl c e) (Wt cl b (fun e => ∃ m, m < n ∧ P m e) Q)) : WhE cl c b env Q := by
  have key : ∀ n e, P n e → ∃ k fl, whLoop (fun env => evC cl c env) (fun env => evSs cl b env) k e = some fl ∧ Q fl := by
    intro n
    induction n using Nat.strongRecOn with
    | ind n ih =>
      intro e he
      obtain ⟨⟨k, e1⟩, h1, h2, h3⟩ := hs n e he
      cases k with
      | false =>
        refine ⟨1, .nx e1, ?_, h3 rfl⟩
        simp only [whLoop, h1, Option.bind_some]
        rfl
      | true =>
        obtain ⟨fl, h4, h5⟩ := h2 rfl
        cases fl with
        | nx e2 =>
          obtain ⟨m, hm, hp⟩ := h5
          obtain ⟨k, fl, h6, h7⟩ := ih m hm e2 hp
          refine ⟨k + 1, fl, ?_, h7⟩
          simp only [whLoop, h1, Option.bind_some, if_true, show evSs cl b e1 = _ from h4]
          exact h6
        | ct e2 =>
          obtain ⟨m, hm, hp⟩ := h5
          obtain ⟨k, fl, h6, h7⟩ := ih m hm e2 hp
          refine ⟨k + 1, fl, ?_, h7⟩
          simp only [whLoop, h1, Option.bind_some, if_true, show evSs cl b e1 = _ from h4]
          exact h6
        | bk e2 =>
          refine ⟨1, .nx e2, ?_, h5⟩
          simp only [whLoop, h1, Option.bind_some, if_true, show evSs cl b e1 = _ from h4]
        | rt o e2 =>
          refine ⟨1, .rt o e2, ?_, h5⟩
          simp only [whLoop, h1, Option.bind_some, if_true, show evSs cl b e1 = _ from h4]
  obtain ⟨k, fl, h1, h2⟩ := key n env h0
  exact ⟨fl, whE_of h1, h2⟩
/-- .. over the images of a list, by place -/
theorem foM {α : Type} {f : α → D} {t : T} {b : Ss} {xs : List α} {Q : Fl → Prop} {env : En} (P : Nat → En → Prop) (h0 : P 0 env)
    (hs : ∀ i x, xs[i]? = some x → ∀ e, P i e → Ev (t.put e (f x)) fun e1 => Ev (evSs cl b e1) (Tn (P (i + 1)) Q)) (hd : ∀ e, P xs.length e → Q (.nx e)) : FoE cl t b (xs.map f) env Q := by
  refine foE P h0 (fun i hi e hp => ?_) (fun e hp => hd e (by simpa using hp))
  have hi' : i < xs.length := by simpa using hi
  have := hs i xs[i] (List.getElem?_eq_getElem hi') e hp
  rw [show (xs.map f)[i] = f xs[i] by simp]
  refine ev_mono this fun e1 h1 => ev_mono h1 fun fl h2 => ?_
  cases fl <;> exact h2
/-- .. over range(n) -/
theorem foR {n : Nat} {f : Nat → D} {t : T} {b : Ss} {Q : Fl → Prop} {env : En} (P : Nat → En → Prop) (h0 : P 0 env)
    (hs : ∀ i, i < n → ∀ e, P i e → Ev (t.put e (f i)) fun e1 => Ev (evSs cl b e1) (Tn (P (i + 1)) Q)) (hd : ∀ e, P n e → Q (.nx e)) : FoE cl t b ((List.range n).map f) env Q := by
  refine foM (xs := List.range n) P h0 (fun i x hx e hp => ?_) (fun e hp => hd e (by simpa using hp))
  obtain ⟨h1, h2⟩ := List.getElem?_eq_some_iff.mp hx
  simp at h1 h2
  subst h2
  exact hs i h1 e hp
/-- a comprehension by place -/
theorem lcE {vs : List Nat} {el : E} {t : T} {c : OC} {items : List D} {Q : List D → En → Prop} {env : En} (P : Nat → List D → En → Prop) (h0 : P 0 [] env)
    (hs : ∀ i (hi : i < items.length) acc e, P i acc e → Ev (t.put e items[i]) fun e1 => Ev (evOC cl c e1) fun z => if z.1 = true then Ev (evE cl el z.2) fun y => Ev (esc y.2 y.1) fun w => P (i + 1) (acc ++ [w.1]) (wipeE w.2 vs) else P (i + 1) acc (wipeE z.2 vs))
    (hd : ∀ acc e, P items.length acc e → Q acc e) : LcE cl vs el t c items env Q := by
  refine lc_ind P (fun i hi acc e hp => ev_mono (hs i hi acc e hp) fun e1 h1 => ev_mono h1 fun z h2 => ?_) hd h0
  split at h2
  · rename_i hz
    rw [if_pos hz]
    exact ev_bind.mpr h2
  · rename_i hz
    rw [if_neg hz]
    exact h2
/-- one turn of a comprehension -/
def Lt (cl : CallF) (vs : List Nat) (el : E) (P : List D → En → Prop) (acc : List D) (z : Bool × En) : Prop :=
  if z.1 = true then Ev (evE cl el z.2) fun y => Ev (esc y.2 y.1) fun w => P (acc ++ [w.1]) (wipeE w.2 vs) else P acc (wipeE z.2 vs)
theorem lt_t {vs : List Nat} {el : E} {P : List D → En → Prop} {acc : List D} {e : En} : Lt cl vs el P acc (true, e) = Ev (evE cl el e) fun y => Ev (esc y.2 y.1) fun w => P (acc ++ [w.1]) (wipeE w.2 vs) := rfl
theorem lt_b {vs : List Nat} {el : E} {P : List D → En → Prop} {acc : List D} {e : En} {b : Bool} : Lt cl vs el P acc (b, e) ↔ (b = true → Ev (evE cl el e) fun y => Ev (esc y.2 y.1) fun w => P (acc ++ [w.1]) (wipeE w.2 vs)) ∧ (b = false → P acc (wipeE e vs)) := by cases b <;> simp [Lt]
theorem lcM {α : Type} {f : α → D} {vs : List Nat} {el : E} {t : T} {c : OC} {xs : List α} {Q : List D → En → Prop} {env : En} (P : Nat → List D → En → Prop) (h0 : P 0 [] env)
    (hs : ∀ i x, xs[i]? = some x → ∀ acc e, P i acc e → Ev (t.put e (f x)) fun e1 => Ev (evOC cl c e1) (Lt cl vs el (P (i + 1)) acc)) (hd : ∀ acc e, P xs.length acc e → Q acc e) : LcE cl vs el t c (xs.map f) env Q := by
  refine lcE P h0 (fun i hi acc e hp => ?_) (fun acc e hp => hd acc e (by simpa using hp))
  have hi' : i < xs.length := by simpa using hi
  have := hs i xs[i] (List.getElem?_eq_getElem hi') acc e hp
  rw [show (xs.map f)[i] = f xs[i] by simp]
  exact this
theorem lcR {n : Nat} {f : Nat → D} {vs : List Nat} {el : E} {t : T} {c : OC} {Q : List D → En → Prop} {env : En} (P : Nat → List D → En → Prop) (h0 : P 0 [] env)
    (hs : ∀ i, i < n → ∀ acc e, P i acc e → Ev (t.put e (f i)) fun e1 => Ev (evOC cl c e1) (Lt cl vs el (P (i + 1)) acc)) (hd : ∀ acc e, P n acc e → Q acc e) : LcE cl vs el t c ((List.range n).map f) env Q := by
  refine lcM (xs := List.range n) P h0 (fun i x hx acc e hp => ?_) (fun acc e hp => hd acc e (by simpa using hp))
  obtain ⟨h1, h2⟩ := List.getElem?_eq_some_iff.mp hx
  simp at h1 h2
  subst h2
  exact hs i h1 acc e hp
/-- a comprehension that keeps the slots: [g x for x in xs if p x] -/
theorem lcF {α : Type} {f : α → D} (g : α → D) (p : α → Bool) {vs : List Nat} {el : E} {t : T} {c : OC} {xs : List α} {Q : List D → En → Prop} {env : En}
    (hs : ∀ x ∈ xs, Ev (t.put env (f x)) fun e1 => Ev (evOC cl c e1) fun z => z.1 = p x ∧ (p x = true → Ev (evE cl el z.2) fun y => Ev (esc y.2 y.1) fun w => w.1 = g x ∧ wipeE w.2 vs = env) ∧ (p x = false → wipeE z.2 vs = env))
    (hd : Q ((xs.filter p).map g) env) : LcE cl vs el t c (xs.map f) env Q := by
  refine ⟨_, lc_filter (g := g) (p := p) fun x hx => ?_, hd⟩
  obtain ⟨e1, h1, ⟨b, e2⟩, h2, rfl, h3, h4⟩ := hs x hx
  refine ⟨e1, e2, h1, h2, fun hp => ?_, h4⟩
  obtain ⟨⟨o, e3⟩, h5, ⟨d, e4⟩, h6, rfl, h7⟩ := h3 hp
  exact ⟨e4, by rw [h5]; exact h6, h7⟩
/-- .. without a test -/
theorem lcG {α : Type} {f : α → D} (g : α → D) {vs : List Nat} {el : E} {t : T} {c : OC} {xs : List α} {Q : List D → En → Prop} {env : En}
    (hs : ∀ x ∈ xs, Ev (t.put env (f x)) fun e1 => Ev (evOC cl c e1) fun z => z.1 = true ∧ Ev (evE cl el z.2) fun y => Ev (esc y.2 y.1) fun w => w.1 = g x ∧ wipeE w.2 vs = env)
    (hd : Q (xs.map g) env) : LcE cl vs el t c (xs.map f) env Q := by
  refine ⟨_, lc_map (g := g) fun x hx => ?_, hd⟩
  obtain ⟨e1, h1, ⟨b, e2⟩, h2, h3, ⟨o, e3⟩, h5, ⟨d, e4⟩, h6, rfl, h7⟩ := hs x hx
  have h3 : b = true := h3
  subst h3
  exact ⟨e1, e2, e4, h1, h2, by rw [h5]; exact h6, h7⟩
end
section
variable {cl : CallF}
/-- a dict comprehension without a test that keeps the slots -/
theorem dcG {α : Type} {f : α → D} (k : α → L2.Key) (g : α → D) {vs : List Nat} {ke ve : E} {t : T} {c : OC} {xs : List α} {Q : List D → En → Prop} {env : En}
    (hs : ∀ x ∈ xs, Ev (t.put env (f x)) fun e1 => Ev (evOC cl c e1) fun z => z.1 = true ∧ Ev (evB cl ke z.2) fun y => Ev (rd y.2 y.1) fun kd => keyD kd = some (k x) ∧ Ev (evE cl ve y.2) fun o => Ev (esc o.2 o.1) fun w => w.1 = g x ∧ wipeE w.2 vs = env)
    (hd : Q (xs.map fun x => .tup [keyB (k x), g x]) env) : DcE cl vs ke ve t c (xs.map f) env Q := by
  refine ⟨_, lc_map (g := fun x => .tup [keyB (k x), g x]) fun x hx => ?_, hd⟩
  obtain ⟨e1, h1, ⟨b, e2⟩, h2, h3, ⟨y, ey⟩, hy, kd, hkd, hk, ⟨o, e3⟩, h5, ⟨d, e4⟩, h6, h7, h8⟩ := hs x hx
  have h3 : b = true := h3
  subst h3
  have h7 : d = g x := h7
  subst h7
  refine ⟨e1, e2, e4, h1, h2, ?_, h8⟩
  have hkd : rd ey y = some kd := hkd
  have h5 : evE cl ve ey = some (o, e3) := h5
  have h6 : esc e3 o = some (g x, e4) := h6
  simp only [kvQ, hy, Option.bind_some, hkd, hk, h5, h6]
end
def frO : Option Sl → Bool
  | some s => fr s
  | none => false
theorem putS_q {env : En} {i : Nat} {x : Sl} : putS env i x = if frO env[i]? = true then some (env.set i x) else none := by
  by_cases h : frO env[i]? = true
  · rw [if_pos h]
    refine putS_at ?_
    cases e : env[i]? with
    | none => rw [e] at h; cases h
    | some s => rw [e] at h; exact h
  · rw [if_neg h]
    unfold putS
    cases e : env[i]? with
    | none => rfl
    | some s =>
      rw [e] at h
      cases s with
      | un => exact absurd rfl h
      | fz d => exact absurd rfl h
      | ow io d => cases io <;> first | rfl | exact absurd rfl h
      | lk io d => rfl
      | rg lo hi => rfl
theorem frO_some {s : Sl} : frO (some s) = fr s := rfl
theorem fr_un : fr .un = true := rfl
theorem fr_fz {d : D} : fr (.fz d) = true := rfl
theorem fr_ow {d : D} : fr (.ow false d) = true := rfl
theorem isN_n : isNon .non = true := rfl
theorem isN_i {i : Int} : isNon (.int i) = false := rfl
theorem isN_b {i : Bool} : isNon (.bl i) = false := rfl
theorem isN_s {i : Str} : isNon (.str i) = false := rfl
theorem isN_t {i : List D} : isNon (.tup i) = false := rfl
theorem isN_l {i : List D} : isNon (.lst i) = false := rfl
theorem idx_tint {l : List Int} {p : Int} (h0 : 0 ≤ p) (h : p < l.length) : idxS (.tup (l.map .int)) (.int p) = some (.int (l.getD p.toNat 0)) := idx_ints h0 h
def nmS (i : Nat) (env : En) : Option Sl → Option (Op × En)
  | some (.fz d) => some (.v d, env)
  | some (.ow _ _) => some (.p i, env)
  | some (.lk _ _) => some (.p i, env)
  | _ => none
def rdS : Option Sl → Option D
  | some (.fz d) => some d
  | some (.ow _ d) => some d
  | some (.lk _ d) => some d
  | _ => none
def escS (env : En) (i : Nat) : Option Sl → Option (D × En)
  | some (.fz d) => some (d, env)
  | some (.ow false d) => some (d, env.set i (.fz d))
  | _ => none
def toAS : Option Sl → Option Sl
  | some (.fz d) => some (.fz d)
  | some (.ow _ d) => some (.ow true d)
  | some (.lk _ d) => some (.lk true d)
  | _ => none
def retS (env : En) (i : Nat) : Option Sl → Option (Op × En)
  | some (.fz d) => some (.v d, env)
  | some (.ow false d) => some (.nw d, env.set i .un)
  | _ => none
def lckS (env : En) (i : Nat) : Option Sl → En × List (Nat × Bool)
  | some (.ow io d) => (env.set i (.lk io d), [(i, true)])
  | some (.lk _ _) => (env, [(i, false)])
  | _ => (env, [])
def mthW (m : Mf) (i : Nat) (env : En) (ds : List D) : Option Sl → Option (Op × En)
  | some (.ow io (.lst xs)) => (mthS m xs ds).bind fun r => some (.v r.1, env.set i (.ow io (.lst r.2)))
  | _ => none
def putW (i : Nat) (env : En) (n : Int) (d : D) : Option Sl → Option Fl
  | some (.ow io (.lst xs)) => (L2.ixN xs.length n).bind fun j => some (.nx (env.set i (.ow io (.lst (xs.set j d)))))
  | _ => none
def incW (cl : CallF) (i : Nat) (e : E) (env : En) : Option Sl → Option Fl
  | some (.fz (.int a)) => (evB cl e env).bind fun x => (rd x.2 x.1).bind fun d => (intD d).bind fun b => (putS x.2 i (.fz (.int (a + b)))).bind fun e => some (.nx e)
  | _ => none
def bakS (env : En) (i : Nat) (d : D) : Option Sl → En
  | some (.ow io _) => env.set i (.ow io d)
  | _ => env
def lenS (i : Nat) : Option Sl → List Nat → List Nat
  | some (.ow _ _), l => i :: l
  | some (.lk _ _), l => i :: l
  | _, l => l
def unlS (env : En) (i : Nat) : Option Sl → En
  | some (.lk io d) => env.set i (.ow io d)
  | _ => env
def resS (env : En) (v : Nat) : Option Sl → En
  | some s => env.set v s
  | none => env
def isOwS : Option Sl → Bool
  | some (.ow _ (.lst _)) => true
  | _ => false
def finS (o : Option Sl) : Sl → Sl
  | .ow io d => o.getD (.ow io d)
  | a => a
section
variable {env env0 : En} {i : Nat} {d : D} {io : Bool}
theorem w_nm' (cl : CallF) : evE cl (.nm i) env = nmS i env env[i]? := by
  rw [w_nm]
  cases env[i]? with
  | none => rfl
  | some s => cases s <;> rfl
theorem nm_fz : nmS i env (some (.fz d)) = some (.v d, env) := rfl
theorem nm_ow : nmS i env (some (.ow io d)) = some (.p i, env) := rfl
theorem nm_lk : nmS i env (some (.lk io d)) = some (.p i, env) := rfl
theorem rd_p' : rd env (.p i) = rdS env[i]? := by
  rw [rd_p]
  cases env[i]? with
  | none => rfl
  | some s => cases s <;> rfl
theorem rdS_fz : rdS (some (.fz d)) = some d := rfl
theorem rdS_ow : rdS (some (.ow io d)) = some d := rfl
theorem rdS_lk : rdS (some (.lk io d)) = some d := rfl
theorem esc_p' : esc env (.p i) = escS env i env[i]? := by
  rw [esc_p]
  cases env[i]? with
  | none => rfl
  | some s =>
    cases s with
    | ow io d => cases io <;> rfl
    | _ => rfl
theorem escS_fz : escS env i (some (.fz d)) = some (d, env) := rfl
theorem escS_ow : escS env i (some (.ow false d)) = some (d, env.set i (.fz d)) := rfl
theorem toA_p' : toArg env (.p i) = toAS env[i]? := by
  rw [toA_p]
  cases env[i]? with
  | none => rfl
  | some s => cases s <;> rfl
theorem toAS_fz : toAS (some (.fz d)) = some (.fz d) := rfl
theorem toAS_ow : toAS (some (.ow io d)) = some (.ow true d) := rfl
theorem toAS_lk : toAS (some (.lk io d)) = some (.lk true d) := rfl
theorem retO_p' : retO env (.p i) = retS env i env[i]? := by
  rw [retO_p]
  cases env[i]? with
  | none => rfl
  | some s =>
    cases s with
    | ow io d => cases io <;> rfl
    | _ => rfl
theorem retS_fz : retS env i (some (.fz d)) = some (.v d, env) := rfl
theorem retS_ow : retS env i (some (.ow false d)) = some (.nw d, env.set i .un) := rfl
theorem lockS_p' : lockS env (.p i) = lckS env i env[i]? := by
  rw [lockS_p]
  cases env[i]? with
  | none => rfl
  | some s => cases s <;> rfl
theorem lckS_fz : lckS env i (some (.fz d)) = (env, []) := rfl
theorem lckS_ow : lckS env i (some (.ow io d)) = (env.set i (.lk io d), [(i, true)]) := rfl
theorem lckS_lk : lckS env i (some (.lk io d)) = (env, [(i, false)]) := rfl
theorem mthQ' {m : Mf} {ds : List D} : mthQ m i env ds = mthW m i env ds env[i]? := rfl
theorem mthW_ow {m : Mf} {ds xs : List D} : mthW m i env ds (some (.ow io (.lst xs))) = (mthS m xs ds).bind fun r => some (.v r.1, env.set i (.ow io (.lst r.2))) := rfl
theorem putQ' {n : Int} : putQ i env n d = putW i env n d env[i]? := rfl
theorem putW_ow {n : Int} {xs : List D} : putW i env n d (some (.ow io (.lst xs))) = (L2.ixN xs.length n).bind fun j => some (.nx (env.set i (.ow io (.lst (xs.set j d))))) := rfl
theorem incQ' {cl : CallF} {e : E} : incQ cl i e env = incW cl i e env env[i]? := rfl
theorem incW_i {cl : CallF} {e : E} {a : Int} : incW cl i e env (some (.fz (.int a))) = (evB cl e env).bind fun x => (rd x.2 x.1).bind fun d => (intD d).bind fun b => (putS x.2 i (.fz (.int (a + b)))).bind fun e => some (.nx e) := rfl
theorem bak_p {os : List Op} {fs : List Sl} : backArgs env (.p i :: os) (.ow io d :: fs) = backArgs (bakS env i d env[i]?) os fs := by
  conv => lhs; unfold backArgs
  cases h : env[i]? with
  | none => rfl
  | some s => cases s <;> rfl
theorem bak_pf {d' : D} {os : List Op} {fs : List Sl} : backArgs env (.p i :: os) (.fz d' :: fs) = backArgs env os fs := rfl
theorem bak_pl {d' : D} {os : List Op} {fs : List Sl} : backArgs env (.p i :: os) (.lk io d' :: fs) = backArgs env os fs := rfl
theorem bak_v {os : List Op} {f : Sl} {fs : List Sl} : backArgs env (.v d :: os) (f :: fs) = backArgs env os fs := rfl
theorem bak_w {os : List Op} {f : Sl} {fs : List Sl} : backArgs env (.nw d :: os) (f :: fs) = backArgs env os fs := rfl
theorem bak_n {fs : List Sl} : backArgs env [] fs = env := by cases fs <;> rfl
theorem bakS_ow {d' : D} : bakS env i d (some (.ow io d')) = env.set i (.ow io d) := rfl
theorem bakS_fz {d' : D} : bakS env i d (some (.fz d')) = env := rfl
theorem bakS_lk {d' : D} : bakS env i d (some (.lk io d')) = env := rfl
theorem len_p {os : List Op} : lent env (.p i :: os) = lenS i env[i]? (lent env os) := by
  conv => lhs; unfold lent
  cases h : env[i]? with
  | none => rfl
  | some s => cases s <;> rfl
theorem len_v {os : List Op} : lent env (.v d :: os) = lent env os := rfl
theorem len_w {os : List Op} : lent env (.nw d :: os) = lent env os := rfl
theorem len_n : lent env [] = [] := rfl
theorem lenS_ow {l : List Nat} : lenS i (some (.ow io d)) l = i :: l := rfl
theorem lenS_lk {l : List Nat} : lenS i (some (.lk io d)) l = i :: l := rfl
theorem lenS_fz {l : List Nat} : lenS i (some (.fz d)) l = l := rfl
theorem unl_n : unlock env [] = env := rfl
theorem unl_t {is : List (Nat × Bool)} : unlock env ((i, true) :: is) = unlock (unlS env i env[i]?) is := by
  conv => lhs; unfold unlock
  cases h : env[i]? with
  | none => rfl
  | some s => cases s <;> rfl
theorem unl_f {is : List (Nat × Bool)} : unlock env ((i, false) :: is) = unlock env is := rfl
theorem unlS_lk : unlS env i (some (.lk io d)) = env.set i (.ow io d) := rfl
theorem res_n : restE env env0 [] = env := rfl
theorem res_c {vs : List Nat} : restE env env0 (i :: vs) = resS (restE env env0 vs) i env0[i]? := by
  conv => lhs; unfold restE
  cases h : env0[i]? with
  | none => rfl
  | some s => rfl
theorem resS_s {s : Sl} : resS env i (some s) = env.set i s := rfl
theorem isOw' : isOwL env i = isOwS env[i]? := rfl
theorem isOwS_ow {xs : List D} : isOwS (some (.ow io (.lst xs))) = true := rfl
theorem wip_n : wipeE env [] = env := rfl
theorem wip_c {vs : List Nat} : wipeE env (i :: vs) = (wipeE env vs).set i .un := rfl
theorem fin_c {a : Sl} {as : List Sl} : finC env i (a :: as) = finS env[i]? a :: finC env (i + 1) as := by
  rw [finA_cons]
  cases a <;> rfl
theorem finS_ow {s : Sl} : finS (some s) (.ow io d) = s := rfl
theorem finS_fz {o : Option Sl} : finS o (.fz d) = .fz d := rfl
theorem finS_lk {o : Option Sl} : finS o (.lk io d) = .lk io d := rfl
end
theorem free_nx {lk : List (Nat × Bool)} {e : En} : Fl.free lk (.nx e) = .nx (unlock e lk) := rfl
theorem free_bk {lk : List (Nat × Bool)} {e : En} : Fl.free lk (.bk e) = .bk (unlock e lk) := rfl
theorem free_ct {lk : List (Nat × Bool)} {e : En} : Fl.free lk (.ct e) = .ct (unlock e lk) := rfl
theorem free_rt {lk : List (Nat × Bool)} {o : Op} {e : En} : Fl.free lk (.rt o e) = .rt o (unlock e lk) := rfl
theorem ix_mem {z : List D} {l : List Int} {a : Int} (h : a ∈ l) : ixS (.lst z) (.lst (l.map .int)) (.int a) = some ((l.idxOf a : Nat) : Int) := by
  have h1 : okD (.lst (l.map D.int)) = true := okD_of (by simp only [lay]; exact lays_map (fun _ => rfl) l) (by simp only [dep]; have := deps_map (f := D.int) (n := 0) (fun _ => Nat.le_refl _) l; omega)
  simp only [ixS, h1, okD_int, Bool.and_self, if_true]
  have e : ((l.map D.int).findIdx? fun z => deq z (.int a)) = l.findIdx? fun x => x == a := by
    rw [List.findIdx?_map]
    exact congrArg (fun f => l.findIdx? f) (funext fun x => deq_int)
  rw [e]
  have : l.findIdx? (fun x => x == a) = some (l.idxOf a) := by
    rw [List.findIdx?_eq_some_iff_getElem]
    have hl := List.idxOf_lt_length_iff.mpr h
    refine ⟨hl, by simp, fun j hj => ?_⟩
    have := List.not_of_lt_findIdx (p := fun x => x == a) (xs := l) hj
    simpa using this
  rw [this]
  rfl
theorem seq_l {xs : List D} : seqD (.lst xs) = some xs := rfl
theorem seq_t {xs : List D} : seqD (.tup xs) = some xs := rfl
end VI
namespace G
open PySem VI
local macro_rules | `(tactic| simp_arith! [$ls,*]) => `(tactic| simp -implicitDefEqProofs (disch := first | omega | exact rfl | assumption | (simp -implicitDefEqProofs; done) | (simp -implicitDefEqProofs; omega)) only [w_nm', nm_fz, nm_ow, nm_lk, w_lit, w_bin, w_un, w_cmp, w_cmp2, w_and, w_or, w_ifx, w_tup, w_lst, w_idx, w_sli, w_call, w_blt, w_rng, w_isi, w_mth, w_srtset, w_setlen, ev_slen, w_dnew, w_dget, dgetQ_dk, w_Irg, irgQ_rg, ev_dc, x_dput, dputQ', dputW_ow, isOwK', isOwKS_ow, x_setrg, key_int, len_dk, w_dfl, w_bits, w_gcd, w_ixof, w_cntof, w_inrng, w_glo, w_frz, w_attr, w_make, w_meth, made_ow, w_B, w_and1, w_and2, w_or1, w_or2, w_Bn, w_Bc, w_Dn, w_Dc, w_On, w_Os, w_Cv, w_Cif, w_Ca, w_Co, w_Cn, w_Cc, w_Cc2, w_Ca1, w_Ca2, w_Co1, w_Co2, w_OCn, w_OCs, w_Is, w_I1, w_I2, w_Ie, w_Iz, w_Iz3, zip3S, w_Ir, x_set, x_unp, x_par, x_whi, ev_wh, wt_i, x_seta, setaQ', setaW_ow, x_put, x_inc, x_expr, x_ret, x_retn, x_if, x_brk, x_cont, x_pass, x_doc, x_nil, ev_fo, ev_lc, ev_lc2, ev_none, ev_some, ev_map, ev_bind, ev_ifn, ev_iteQ, iteQ_t, iteQ_f, iteQ_and, iteQ_or, iteQ_andE, iteQ_orE, Bool.and_eq_false_iff, Bool.or_eq_false_iff, some_bind, Option.bind_some, Option.map_some, kt_nx, kt_bk, kt_ct, kt_rt, ed_nx, ed_v, ed_nw, finA_nil, fin_c, finS_ow, finS_fz, finS_lk, finA_go, Option.getD_some, List.getElem?_cons_zero, List.getElem?_cons_succ, List.set_cons_zero, List.set_cons_succ, frz_v, frz_nw, frz_p, rd_v, rd_nw, rd_p', rdS_fz, rdS_ow, rdS_lk, rds_nil, rds_cons, esc_v, esc_nw, esc_p', escS_fz, escS_ow, toAs_nil, toAs_cons, toA_v, toA_nw, toA_p', toAS_fz, toAS_ow, toAS_lk, bak_p, bak_pf, bak_pl, bak_v, bak_w, bak_n, bakS_ow, bakS_fz, bakS_lk, len_p, len_v, len_w, len_n, lenS_ow, lenS_lk, lenS_fz, lockS_v, lockS_nw, lockS_p', lckS_fz, lckS_ow, lckS_lk, unl_n, unl_t, unl_f, unlS_lk, res_n, res_c, resS_s, wip_n, wip_c, stO_v, stO_nw, stO_p, putS_q, frO_some, fr_un, fr_fz, fr_ow, put_nm, put_tt, put_tl, put_tn, put_tc, retO_v, retO_nw, retO_p', retS_fz, retS_ow, isOw', isOwS_ow, mthQ', mthW_ow, putQ', putW_ow, incQ', incW_i, rngQ_n, rngQ_s, int_i, bl_b, items_l, items_t, items_s, Option.any_some, dflQ, flatD, List.nodup_cons, List.not_mem_nil, List.nodup_nil, not_false_eq_true, and_self, and_true, true_and, if_true, if_false, Bool.true_and, Bool.and_true, Bool.false_and, Bool.and_false, Bool.or_false, Bool.false_or, Bool.or_true, Bool.true_or, Bool.not_true, Bool.not_false, Bool.false_eq_true, false_implies, true_implies, implies_true, ne_self_iff_false, or_self, false_or, reduceCtorEq, List.all_nil, List.all_cons, List.append_nil, List.nil_append, List.cons_append, List.contains_nil, List.contains_cons, Nat.reduceBEq, List.mem_cons, or_false, Nat.reduceEqDiff, not_true_eq_false, List.length_map, List.length_range, List.length_cons, List.length_nil, Nat.zero_add, Nat.reduceAdd, Nat.reduceSub, Nat.reduceLeDiff, List.reduceReplicate, eq_int, ne_int, eq_bl, ne_bl, lt_int, le_int, gt_int, ge_int, is_non, isnot_non, isN_n, isN_i, isN_t, isN_l, isN_b, isN_s, in_ints, notin_ints, in_tupI, intsD_map, seq_l, seq_t, blsD_map, add_i, sub_i, mod_p, div_c1, mul_r1, mul_l1, bl_int, bl_intb, bl_len_l, bl_len_t, bl_tup_l, bl_tup_t, bl_lst_l, bl_lst_t, rngS1, rngS2, rgS1, app_16, rep_n, max_n, max_t, min_t, min_n, minp_n, sum_n, sum_t, srt_n, any_n, all_n, add_lst1, add_tup1, pop_last, tn_nx, tn_ct, tn_bk, tn_rt, lt_t, lt_b, List.length_append, List.length_replicate, List.length_zip, List.length_reverse, List.length_set,  idx_ints, idx_tint, ixN_int, Int.sub_zero, Int.zero_add, Int.add_zero, Int.toNat_natCast, Int.add_sub_cancel, Int.reduceAdd, Int.reduceSub, Int.reduceNeg, Int.reduceLT, Int.reduceLE, Ty.has, List.any_cons, List.any_nil, decide_eq_true_eq, beq_iff_eq, bne_iff_ne, Bool.not_eq_true', decide_eq_false_iff_not, beq_eq_false_iff_ne, Bool.and_eq_true, Bool.or_eq_true, Bool.not_eq_eq_eq_not, Option.isSome_none, Option.isSome_some, free_nx, free_bk, free_ct, free_rt, $ls,*]) | `(tactic| walk_at "s") => `(tactic| (refine kt ?_; simp_arith! [])) | `(tactic| walk_at "in") => `(tactic| (refine enter2 ⟨rfl, rfl⟩ ?_; simp -implicitDefEqProofs only [List.cons_append, List.nil_append, List.length_cons, List.length_nil, Nat.zero_add, Nat.reduceAdd, Nat.reduceSub, List.reduceReplicate]))
/-- k steps -/
def eu : Nat → Nat → Nat → Nat × Nat
  | 0, a, b => (a, b)
  | k + 1, a, b => if b = 0 then (a, b) else eu k b (a % b)
theorem eu_zero : ∀ (k a : Nat), eu k a 0 = (a, 0)
  | 0, a => rfl
  | k + 1, a => by rw [eu, if_pos rfl]
theorem mod_half {b r : Nat} (h0 : 0 < r) (h : r < b) : 2 * (b % r) < b := by
  have h1 := Nat.mod_lt b h0
  have h2 := Nat.div_add_mod b r
  have h3 : 1 ≤ b / r := by
    rcases Nat.eq_zero_or_pos (b / r) with q | q
    · rw [q, Nat.mul_zero, Nat.zero_add] at h2
      omega
    · exact q
  have h4 : r ≤ r * (b / r) := Nat.le_mul_of_pos_right r h3
  omega
theorem eu_gcd : ∀ (L k a b : Nat), b < 2 ^ L → 2 * L + 1 ≤ k → eu k a b = (Nat.gcd a b, 0)
  | 0, k, a, b, hb, hk => by
    have : b = 0 := by simpa using hb
    subst this
    rw [eu_zero, Nat.gcd_zero_right]
  | L + 1, k, a, b, hb, hk => by
    obtain ⟨k, rfl⟩ : ∃ j, k = j + 2 := ⟨k - 2, by omega⟩
    by_cases h0 : b = 0
    · subst h0; rw [eu_zero, Nat.gcd_zero_right]
    rw [eu, if_neg h0]
    have g1 : Nat.gcd a b = Nat.gcd b (a % b) := by rw [Nat.gcd_comm a b, Nat.gcd_rec b a, Nat.gcd_comm]
    rw [g1]
    by_cases h1 : a % b = 0
    · rw [h1, eu_zero, Nat.gcd_zero_right]
    rw [eu, if_neg h1]
    have g2 : Nat.gcd b (a % b) = Nat.gcd (a % b) (b % (a % b)) := by rw [Nat.gcd_comm b, Nat.gcd_rec (a % b) b, Nat.gcd_comm]
    rw [g2]
    have h2 := mod_half (Nat.pos_of_ne_zero h1) (Nat.mod_lt a (Nat.pos_of_ne_zero h0))
    refine eu_gcd L k _ _ ?_ (by omega)
    rw [Nat.pow_succ] at hb
    omega
def nf (n d : Int) : Int × Int := (n / (Int.gcd n d : Int), d / (Int.gcd n d : Int))
theorem gcd_pos {n d : Int} (h : 0 < d) : 0 < Int.gcd n d := Nat.pos_of_ne_zero fun z => by
  have := (Int.gcd_eq_zero_iff.mp z).2
  omega
theorem nf_mul {n d : Int} : n = (Int.gcd n d : Int) * (nf n d).1 ∧ d = (Int.gcd n d : Int) * (nf n d).2 := by
  unfold nf
  exact ⟨(Int.mul_ediv_cancel' (Int.gcd_dvd_left ..)).symm, (Int.mul_ediv_cancel' (Int.gcd_dvd_right ..)).symm⟩
theorem nf_pos {n d : Int} (h : 0 < d) : 0 < (nf n d).2 := by
  have h1 := (nf_mul (n := n) (d := d)).2
  have h2 : (0 : Int) < (Int.gcd n d : Int) := by have := gcd_pos (n := n) h; omega
  rcases Int.lt_trichotomy (nf n d).2 0 with q | q | q
  · have := Int.mul_neg_of_pos_of_neg h2 q; omega
  · rw [q, Int.mul_zero] at h1; omega
  · exact q
theorem nf_cross {n d : Int} : (nf n d).1 * d = n * (nf n d).2 := by
  obtain ⟨h1, h2⟩ := nf_mul (n := n) (d := d)
  generalize hx : (nf n d).1 = x at *
  generalize hy : (nf n d).2 = y at *
  generalize (Int.gcd n d : Int) = g at *
  rw [h2, h1]
  simp [Int.mul_comm, Int.mul_left_comm]
theorem nf_cop {n d : Int} (h : 0 < d) : Nat.Coprime (nf n d).1.natAbs (nf n d).2.natAbs := by
  have hg := gcd_pos (n := n) h
  have : Int.gcd (n / (Int.gcd n d : Int)) (d / (Int.gcd n d : Int)) = 1 := Int.gcd_ediv_gcd_ediv_gcd hg
  exact this
theorem nf_uniq {a b c d : Int} (hb : 0 < b) (hd : 0 < d) (c1 : Nat.Coprime a.natAbs b.natAbs) (c2 : Nat.Coprime c.natAbs d.natAbs) (h : a * d = c * b) : a = c ∧ b = d := by
  have hn : a.natAbs * d.natAbs = c.natAbs * b.natAbs := by rw [← Int.natAbs_mul, ← Int.natAbs_mul, h]
  have h1 : b.natAbs ∣ d.natAbs := c1.symm.dvd_of_dvd_mul_left ⟨c.natAbs, by rw [hn, Nat.mul_comm]⟩
  have h2 : d.natAbs ∣ b.natAbs := c2.symm.dvd_of_dvd_mul_left ⟨a.natAbs, by rw [← hn, Nat.mul_comm]⟩
  have h3 := Nat.dvd_antisymm h1 h2
  have h4 : b = d := by omega
  subst h4
  exact ⟨Int.eq_of_mul_eq_mul_right (by omega) h, rfl⟩
/-- the same ratio has the same lowest terms -/
theorem nf_eq {n d n' d' : Int} (hd : 0 < d) (hd' : 0 < d') (h : n * d' = n' * d) : nf n d = nf n' d' := by
  have key : (nf n d).1 * (nf n' d').2 = (nf n' d').1 * (nf n d).2 := by
    obtain ⟨h1, h2⟩ := nf_mul (n := n) (d := d)
    obtain ⟨h3, h4⟩ := nf_mul (n := n') (d := d')
    have g1 : (0 : Int) < (Int.gcd n d : Int) := by have := gcd_pos (n := n) hd; omega
    have g2 : (0 : Int) < (Int.gcd n' d' : Int) := by have := gcd_pos (n := n') hd'; omega
    generalize (nf n d).1 = x at *
    generalize (nf n d).2 = y at *
    generalize (nf n' d').1 = z at *
    generalize (nf n' d').2 = w at *
    generalize (Int.gcd n d : Int) = g at *
    generalize (Int.gcd n' d' : Int) = k at *
    subst h1 h2 h3 h4
    have e1 : g * x * (k * w) = (g * k) * (x * w) := by simp [Int.mul_comm, Int.mul_left_comm]
    have e2 : k * z * (g * y) = (g * k) * (z * y) := by simp [Int.mul_comm, Int.mul_left_comm]
    rw [e1, e2] at h
    exact Int.eq_of_mul_eq_mul_left (by have := Int.mul_pos g1 g2; omega) h
  obtain ⟨e1, e2⟩ := nf_uniq (nf_pos hd) (nf_pos hd') (nf_cop hd) (nf_cop hd') key
  exact Prod.ext e1 e2
def b106_0 : Ss := .cons (.par 0 1 (.un .USub (.nm 0)) (.un .USub (.nm 1))) .nil
def b106_1 : Ss := .cons (.ret (.tup (.cons (.bin .FloorDiv (.nm 0) (.nm 2)) (.cons (.bin .FloorDiv (.nm 1) (.nm 2)) .nil)))) .nil
def b106_2 : Ss := .cons (.set 2 (.gcd (.nm 0) (.nm 1))) b106_1
def b106_3 : Ss := .cons (.ifs (.cmp .Lt (.nm 1) (.lit (.int 0))) b106_0 .nil) b106_2
/-- fraction -/
def b106 : Ss := b106_3
def b107_0 : Ss := .cons (.ret (.call 106 (.cons (.bin .Add (.bin .Mult (.idx (.nm 0) (.lit (.int 0))) (.idx (.nm 1) (.lit (.int 1)))) (.bin .Mult (.idx (.nm 1) (.lit (.int 0))) (.idx (.nm 0) (.lit (.int 1))))) (.cons (.bin .Mult (.idx (.nm 0) (.lit (.int 1))) (.idx (.nm 1) (.lit (.int 1)))) .nil)))) .nil
/-- add -/
def b107 : Ss := b107_0
def b108_0 : Ss := .cons (.ret (.call 106 (.cons (.bin .Mult (.idx (.nm 0) (.lit (.int 0))) (.idx (.nm 1) (.lit (.int 0)))) (.cons (.bin .Mult (.idx (.nm 0) (.lit (.int 1))) (.idx (.nm 1) (.lit (.int 1)))) .nil)))) .nil
/-- multiply -/
def b108 : Ss := b108_0
def b109_0 : Ss := .cons (.set 1 (.call 107 (.cons (.nm 1) (.cons (.nm 2) .nil)))) .nil
def b109_1 : Ss := .cons (.ret (.nm 1)) .nil
def b109_2 : Ss := .cons (.fo (.nm 2) (.seq (.nm 0)) b109_0) b109_1
def b109_3 : Ss := .cons (.set 1 (.tup (.cons (.lit (.int 0)) (.cons (.lit (.int 1)) .nil)))) b109_2
/-- total -/
def b109 : Ss := b109_3
def b110_0 : Ss := .cons .brk .nil
def b110_1 : Ss := .cons (.set 3 (.nm 5)) .nil
def b110_2 : Ss := .cons (.set 2 (.nm 3)) b110_1
def b110_3 : Ss := .cons (.set 5 (.bin .Mod (.blt .int (.cons (.nm 2) .nil)) (.nm 3))) b110_2
def b110_4 : Ss := .cons (.ifs (.cmp .Eq (.nm 3) (.lit (.int 0))) b110_0 .nil) b110_3
def b110_5 : Ss := .cons (.ret (.nm 2)) .nil
def b110_6 : Ss := .cons (.fo (.nm 4) (.rng1 (.bin .Add (.bin .Mult (.lit (.int 2)) (.bits (.nm 3))) (.lit (.int 3)))) b110_4) b110_5
def b110_7 : Ss := .cons (.set 3 (.blt .abs (.cons (.nm 1) .nil))) b110_6
def b110_8 : Ss := .cons (.set 2 (.blt .abs (.cons (.nm 0) .nil))) b110_7
/-- _law_common -/
def b110 : Ss := b110_8
def b111_0 : Ss := .cons (.set 2 (.bin .Sub (.lit (.int 0)) (.nm 2))) .nil
def b111_1 : Ss := .cons (.ret (.tup (.cons (.bin .FloorDiv (.nm 0) (.nm 2)) (.cons (.bin .FloorDiv (.nm 1) (.nm 2)) .nil)))) .nil
def b111_2 : Ss := .cons (.ifs (.cmp .Lt (.nm 1) (.lit (.int 0))) b111_0 .nil) b111_1
def b111_3 : Ss := .cons (.set 2 (.call 110 (.cons (.nm 0) (.cons (.nm 1) .nil)))) b111_2
/-- _law_ratio -/
def b111 : Ss := b111_3
def b112_0 : Ss := .cons (.ret (.call 111 (.cons (.bin .Mult (.idx (.nm 0) (.lit (.int 0))) (.idx (.nm 1) (.lit (.int 0)))) (.cons (.bin .Mult (.idx (.nm 0) (.lit (.int 1))) (.idx (.nm 1) (.lit (.int 1)))) .nil)))) .nil
/-- _law_times_ratio -/
def b112 : Ss := b112_0
def b113_0 : Ss := .cons (.set 3 (.bin .Mult (.nm 3) (.idx (.idx (.nm 0) (.nm 4)) (.lit (.int 1))))) .nil
def b113_1 : Ss := .cons (.set 2 (.bin .Add (.bin .Mult (.nm 2) (.idx (.idx (.nm 0) (.nm 4)) (.lit (.int 1)))) (.bin .Mult (.bin .Mult (.idx (.idx (.nm 0) (.nm 4)) (.lit (.int 0))) (.idx (.nm 1) (.nm 4))) (.nm 3)))) b113_0
def b113_2 : Ss := .cons (.ifs (.and (.cons (.cmp .NotEq (.idx (.idx (.nm 0) (.nm 4)) (.lit (.int 0))) (.lit (.int 0))) (.cons (.cmp .NotEq (.idx (.nm 1) (.nm 4)) (.lit (.int 0))) .nil))) b113_1 .nil) .nil
def b113_3 : Ss := .cons (.ret (.call 111 (.cons (.nm 2) (.cons (.nm 3) .nil)))) .nil
def b113_4 : Ss := .cons (.fo (.nm 4) (.rng1 (.blt .len (.cons (.nm 0) .nil))) b113_2) b113_3
def b113_5 : Ss := .cons (.set 3 (.lit (.int 1))) b113_4
def b113_6 : Ss := .cons (.set 2 (.lit (.int 0))) b113_5
/-- _law_weighed -/
def b113 : Ss := b113_6
def b114_0 : Ss := .cons (.ret (.call 113 (.cons (.nm 0) (.cons (.bin .Mult (.lst (.cons (.lit (.int 1)) .nil)) (.blt .len (.cons (.nm 0) .nil))) .nil)))) .nil
/-- _law_total -/
def b114 : Ss := b114_0
def b115_0 : Ss := .cons (.ret (.nm 1)) .nil
def b115_1 : Ss := .cons (.ret (.bin .Add (.nm 1) (.bin .Mult (.call 6 (.cons (.nm 0) (.cons (.lst (.cons (.lit (.int 9)) (.cons (.lit (.int 60)) (.cons (.lit (.int 1000003)) (.cons (.bin .Add (.bin .Pow (.lit (.int 10)) (.lit (.int 15))) (.lit (.int 37))) (.cons (.bin .Add (.bin .Pow (.lit (.int 10)) (.lit (.int 40))) (.lit (.int 121))) .nil)))))) .nil))) (.bin .Sub (.lit (.int 1)) (.bin .Mult (.lit (.int 2)) (.call 5 (.cons (.nm 0) (.cons (.lit (.int 2)) .nil)))))))) .nil
def b115_2 : Ss := .cons (.ifs (.cmp .Gt (.call 5 (.cons (.nm 0) (.cons (.lit (.int 14)) .nil))) (.lit (.int 0))) b115_0 .nil) b115_1
def b115_3 : Ss := .cons (.set 1 (.bin .Sub (.call 5 (.cons (.nm 0) (.cons (.lit (.int 9)) .nil))) (.lit (.int 4)))) b115_2
/-- _law_wide -/
def b115 : Ss := b115_3
def T8 : Tb := fun i => match i with
  | 106 => some ⟨["n", "d"], ["n", "d", "divisor"], b106⟩
  | 107 => some ⟨["f", "g"], ["f", "g"], b107⟩
  | 108 => some ⟨["f", "g"], ["f", "g"], b108⟩
  | 109 => some ⟨["fractions"], ["fractions", "result", "f"], b109⟩
  | 110 => some ⟨["one", "other"], ["one", "other", "a", "b", "turn", "c"], b110⟩
  | 111 => some ⟨["n", "d"], ["n", "d", "c"], b111⟩
  | 112 => some ⟨["one", "other"], ["one", "other"], b112⟩
  | 113 => some ⟨["ratios", "numbers"], ["ratios", "numbers", "n", "d", "k"], b113⟩
  | 114 => some ⟨["ratios"], ["ratios"], b114⟩
  | 115 => some ⟨["draws"], ["draws", "small"], b115⟩
  | _ => none
class A8 (Δ : Tb) : Prop where
  h : ∀ i, 106 ≤ i → i < 116 → Δ i = T8 i
theorem fn106 (Δ : Tb) [A8 Δ] (k : Nat) : callN Δ (k + 1) 106 = runDef (callN Δ k) ⟨["n", "d"], ["n", "d", "divisor"], b106⟩ := by
  show (fun args => (Δ 106).bind fun d => runDef (callN Δ k) d args) = _
  rw [show Δ 106 = T8 106 from A8.h 106 (by decide) (by decide)]
  rfl
theorem fn107 (Δ : Tb) [A8 Δ] (k : Nat) : callN Δ (k + 1) 107 = runDef (callN Δ k) ⟨["f", "g"], ["f", "g"], b107⟩ := by
  show (fun args => (Δ 107).bind fun d => runDef (callN Δ k) d args) = _
  rw [show Δ 107 = T8 107 from A8.h 107 (by decide) (by decide)]
  rfl
theorem fn108 (Δ : Tb) [A8 Δ] (k : Nat) : callN Δ (k + 1) 108 = runDef (callN Δ k) ⟨["f", "g"], ["f", "g"], b108⟩ := by
  show (fun args => (Δ 108).bind fun d => runDef (callN Δ k) d args) = _
  rw [show Δ 108 = T8 108 from A8.h 108 (by decide) (by decide)]
  rfl
/-- behind_costs -/
def b0 : Ss := (.cons (.ret (.lc [3, 4] (.ifx (.cmp .Is (.idx (.nm 0) (.nm 3)) (.lit .non)) (.lit .non) (.bin .Add (.nm 4) (.idx (.idx (.nm 0) (.nm 3)) (.lit (.int 0))))) (.tup (.cons (.nm 3) (.cons (.nm 4) .nil))) (.zip (.nm 1) (.nm 2)) .no)) .nil)
/-- next_cost -/
def b1 : Ss := (.cons (.set 3 (.lc [4] (.nm 4) (.nm 4) (.seq (.nm 2)) (.so (.cmp .IsNot (.nm 4) (.lit .non))))) (.cons (.ifs (.cmp .Eq (.nm 1) (.nm 0)) (.cons (.ret (.dfl false (.nm 3) (.lit .non))) .nil) .nil) (.cons (.ret (.ifx (.cmp .Eq (.blt .len (.cons (.nm 3) .nil)) (.blt .len (.cons (.nm 2) .nil))) (.blt .max (.cons (.nm 2) .nil)) (.lit .non))) .nil)))
/-- cost_ranks -/
def b2 : Ss := (.cons (.set 4 (.lc [7] (.ifx (.cmp .In (.nm 7) (.nm 2)) (.tup (.cons (.lit (.int 0)) (.cons (.lit (.int 0)) .nil))) (.lit .non)) (.nm 7) (.rng1 (.blt .len (.cons (.nm 0) .nil))) .no)) (.cons (.fo (.nm 5) (.rng2 (.lit (.int 1)) (.bin .Add (.blt .len (.cons (.nm 0) .nil)) (.lit (.int 1)))) (.cons (.set 6 (.lit .non)) (.cons (.fo (.tup (.cons (.nm 7) (.cons (.tup (.cons (.nm 8) (.cons (.nm 9) .nil))) .nil))) (.enum (.nm 0)) (.cons (.ifs (.cmp .Is (.idx (.nm 4) (.nm 7)) (.lit .non)) (.cons (.set 10 (.call 1 (.cons (.nm 1) (.cons (.nm 8) (.cons (.call 0 (.cons (.nm 4) (.cons (.nm 9) (.cons (.idx (.nm 3) (.nm 7)) .nil)))) .nil))))) (.cons (.ifs (.and (.cons (.cmp .IsNot (.nm 10) (.lit .non)) (.cons (.or (.cons (.cmp .Is (.nm 6) (.lit .non)) (.cons (.cmp .Lt (.nm 10) (.idx (.nm 6) (.lit (.int 0)))) .nil))) .nil))) (.cons (.set 6 (.tup (.cons (.nm 10) (.cons (.nm 7) .nil)))) .nil) .nil) .nil)) .nil) .nil)) (.cons (.ifs (.cmp .IsNot (.nm 6) (.lit .non)) (.cons (.put 4 (.idx (.nm 6) (.lit (.int 1))) (.tup (.cons (.idx (.nm 6) (.lit (.int 0))) (.cons (.nm 5) .nil)))) .nil) .nil) .nil)))) (.cons (.ret (.blt .tuple (.cons (.nm 4) .nil))) .nil)))
/-- reaching_costs -/
def b3 : Ss := (.cons (.ret (.blt .tuple (.cons (.lc [4] (.ifx (.cmp .Is (.nm 4) (.lit .non)) (.lit .non) (.idx (.nm 4) (.lit (.int 0)))) (.nm 4) (.seq (.call 2 (.cons (.nm 0) (.cons (.nm 1) (.cons (.nm 2) (.cons (.nm 3) .nil)))))) .no) .nil))) .nil)
/-- _law_draws -/
def b4 : Ss := (.cons (.set 2 (.lc [8] (.blt .int (.cons (.nm 8) .nil)) (.nm 8) (.seq (.nm 0)) .no)) (.cons (.ifs (.cmp .Eq (.blt .len (.cons (.nm 2) .nil)) (.lit (.int 0))) (.cons (.expr (.mth .append 2 (.cons (.lit (.int 0)) .nil))) .nil) .nil) (.cons (.set 3 (.blt .list (.cons (.nm 2) .nil))) (.cons (.set 4 (.lst .nil)) (.cons (.fo (.nm 5) (.rng1 (.nm 1)) (.cons (.set 6 (.bin .Mod (.blt .int (.cons (.nm 5) .nil)) (.blt .len (.cons (.nm 2) .nil)))) (.cons (.ifs (.and (.cons (.cmp .GtE (.idx (.nm 2) (.nm 6)) (.bin .Pow (.lit (.int 10)) (.lit (.int 18)))) (.cons (.cmp .Gt (.idx (.nm 3) (.nm 6)) (.lit (.int 0))) .nil))) (.cons (.expr (.mth .append 4 (.cons (.bin .Mod (.blt .int (.cons (.idx (.nm 3) (.nm 6)) .nil)) (.lit (.int 1000))) .nil))) (.cons (.put 3 (.nm 6) (.bin .FloorDiv (.idx (.nm 3) (.nm 6)) (.lit (.int 1000)))) .nil)) (.cons (.set 7 (.bin .Mod (.blt .int (.cons (.bin .Add (.bin .Add (.bin .Mult (.idx (.nm 2) (.nm 6)) (.lit (.int 48271))) (.bin .Mult (.nm 5) (.lit (.int 69621)))) (.lit (.int 11))) .nil)) (.lit (.int 2147483647)))) (.cons (.expr (.mth .append 4 (.cons (.bin .Mod (.blt .int (.cons (.bin .Add (.bin .Add (.bin .Mult (.nm 7) (.nm 7)) (.bin .Mult (.lit (.int 3)) (.nm 7))) (.nm 5)) .nil)) (.lit (.int 1000003))) .nil))) .nil))) .nil))) (.cons (.expr (.mth .reverse 4 .nil)) (.cons (.ret (.nm 4)) .nil)))))))
/-- _law_take -/
def b5 : Ss := (.cons (.ifs (.cmp .Eq (.blt .len (.cons (.nm 0) .nil)) (.lit (.int 0))) (.cons (.ret (.lit (.int 0))) .nil) .nil) (.cons (.ret (.bin .Mod (.blt .int (.cons (.mth .pop 0 .nil) .nil)) (.nm 1))) .nil))
/-- _law_pick -/
def b6 : Ss := (.cons (.ret (.idx (.nm 1) (.call 5 (.cons (.nm 0) (.cons (.blt .len (.cons (.nm 1) .nil)) .nil))))) .nil)
/-- _law_same -/
def b7 : Ss := (.cons (.ifs (.val (.isi (.nm 1) [.tuple, .list])) (.cons (.ifs (.or (.cons (.cmp .NotEq (.isi (.nm 0) [.tuple]) (.isi (.nm 1) [.tuple])) (.cons (.cmp .NotEq (.isi (.nm 0) [.list]) (.isi (.nm 1) [.list])) .nil))) (.cons (.ret (.lit (.bl false))) .nil) .nil) (.cons (.ifs (.cmp .NotEq (.blt .len (.cons (.nm 0) .nil)) (.blt .len (.cons (.nm 1) .nil))) (.cons (.ret (.lit (.bl false))) .nil) .nil) (.cons (.ret (.cmp .NotIn (.lit (.bl false)) (.lc [2] (.call 7 (.cons (.idx (.nm 0) (.nm 2)) (.cons (.idx (.nm 1) (.nm 2)) .nil))) (.nm 2) (.rng1 (.blt .len (.cons (.nm 1) .nil))) .no))) .nil))) .nil) (.cons (.ifs (.or (.cons (.cmp .NotEq (.isi (.nm 0) [.bool]) (.isi (.nm 1) [.bool])) (.cons (.cmp .NotEq (.isi (.nm 0) [.int]) (.isi (.nm 1) [.int])) .nil))) (.cons (.ret (.lit (.bl false))) .nil) .nil) (.cons (.ifs (.or (.cons (.cmp .NotEq (.isi (.nm 0) [.str]) (.isi (.nm 1) [.str])) (.cons (.cmp .NotEq (.cmp .Is (.nm 0) (.lit .non)) (.cmp .Is (.nm 1) (.lit .non))) .nil))) (.cons (.ret (.lit (.bl false))) .nil) .nil) (.cons (.ret (.cmp .Eq (.nm 0) (.nm 1))) .nil))))
/-- _law_shuffled -/
def b8 : Ss := (.cons (.set 2 (.blt .list (.cons (.nm 1) .nil))) (.cons (.set 3 (.lst .nil)) (.cons (.fo (.nm 4) (.rng1 (.blt .len (.cons (.nm 2) .nil))) (.cons (.expr (.mth .append 3 (.cons (.mth .pop 2 (.cons (.call 5 (.cons (.nm 0) (.cons (.blt .len (.cons (.nm 2) .nil)) .nil))) .nil)) .nil))) .nil)) (.cons (.ret (.nm 3)) .nil))))
/-- _law_some_of -/
def b9 : Ss := (.cons (.set 3 (.lst .nil)) (.cons (.fo (.nm 4) (.rng1 (.bin .Add (.lit (.int 1)) (.call 5 (.cons (.nm 0) (.cons (.nm 2) .nil))))) (.cons (.set 5 (.call 6 (.cons (.nm 0) (.cons (.nm 1) .nil)))) (.cons (.ifs (.cmp .NotIn (.nm 5) (.nm 3)) (.cons (.expr (.mth .append 3 (.cons (.nm 5) .nil))) .nil) .nil) .nil))) (.cons (.ret (.blt .sorted (.cons (.nm 3) .nil))) .nil)))
/-- _law_arena -/
def b10 : Ss := (.cons (.ret (.blt .tuple (.cons (.lc [3] (.tup (.cons (.call 5 (.cons (.nm 0) (.cons (.lit (.int 2)) .nil))) (.cons (.blt .tuple (.cons (.call 9 (.cons (.nm 0) (.cons (.rng false (.nm 1) .no) (.cons (.nm 2) .nil)))) .nil)) .nil))) (.nm 3) (.rng1 (.nm 1)) .no) .nil))) .nil)
/-- _law_renamed -/
def b11 : Ss := (.cons (.set 2 (.bin .Mult (.lst (.cons (.lit .non) .nil)) (.blt .len (.cons (.nm 0) .nil)))) (.cons (.fo (.nm 3) (.rng1 (.blt .len (.cons (.nm 0) .nil))) (.cons (.put 2 (.idx (.nm 1) (.nm 3)) (.tup (.cons (.idx (.idx (.nm 0) (.nm 3)) (.lit (.int 0))) (.cons (.blt .tuple (.cons (.blt .sorted (.cons (.lc [4] (.idx (.nm 1) (.nm 4)) (.nm 4) (.seq (.idx (.idx (.nm 0) (.nm 3)) (.lit (.int 1)))) .no) .nil)) .nil)) .nil)))) .nil)) (.cons (.ret (.blt .tuple (.cons (.nm 2) .nil))) .nil)))
/-- _law_row_arena -/
def b12 : Ss := (.cons (.set 3 (.lst .nil)) (.cons (.fo (.nm 4) (.rng1 (.bin .Sub (.nm 1) (.lit (.int 1)))) (.cons (.set 5 (.call 5 (.cons (.nm 0) (.cons (.lit (.int 2)) .nil)))) (.cons (.set 6 (.lc [7] (.call 5 (.cons (.nm 0) (.cons (.bin .Add (.nm 4) (.lit (.int 1))) .nil))) (.nm 7) (.rng1 (.bin .Mult (.call 5 (.cons (.nm 0) (.cons (.lit (.int 5)) .nil))) (.blt .int (.cons (.cmp .Eq (.nm 5) (.nm 2)) .nil)))) .no)) (.cons (.expr (.mth .append 3 (.cons (.tup (.cons (.nm 5) (.cons (.blt .tuple (.cons (.srtset (.bin .Add (.nm 6) (.lst (.cons (.bin .Add (.nm 4) (.lit (.int 1))) .nil)))) .nil)) .nil))) .nil))) .nil)))) (.cons (.ret (.blt .tuple (.cons (.bin .Add (.nm 3) (.lst (.cons (.tup (.cons (.call 5 (.cons (.nm 0) (.cons (.lit (.int 2)) .nil))) (.cons (.tup (.cons (.bin .Sub (.nm 1) (.lit (.int 1))) .nil)) .nil))) .nil))) .nil))) .nil)))
/-- _law_some_places -/
def b13 : Ss := (.cons (.ret (.blt .tuple (.cons (.srtset (.lc [2] (.call 5 (.cons (.nm 0) (.cons (.nm 1) .nil))) (.nm 2) (.rng1 (.call 6 (.cons (.nm 0) (.cons (.lst (.cons (.lit (.int 1)) (.cons (.lit (.int 1)) (.cons (.lit (.int 2)) (.cons (.lit (.int 0)) (.cons (.lit (.int 7)) .nil)))))) .nil)))) .no)) .nil))) .nil)
/-- _law_prices -/
def b14 : Ss := (.cons (.set 2 (.lst .nil)) (.cons (.fo (.nm 3) (.seq (.nm 1)) (.cons (.expr (.mth .append 2 (.cons (.blt .tuple (.cons (.lc [4] (.call 6 (.cons (.nm 0) (.cons (.lst (.cons (.lit (.int 0)) (.cons (.lit (.int 0)) (.cons (.lit (.int 1)) (.cons (.lit (.int 1)) (.cons (.lit (.int 2)) (.cons (.lit (.int 3)) (.cons (.lit (.int 5)) (.cons (.lit (.int 9)) (.cons (.lit (.int 4)) (.cons (.bin .Add (.bin .Pow (.lit (.int 10)) (.lit (.int 15))) (.lit (.int 37))) .nil))))))))))) .nil))) (.nm 4) (.seq (.idx (.nm 3) (.lit (.int 1)))) .no) .nil)) .nil))) .nil)) (.cons (.ret (.blt .tuple (.cons (.nm 2) .nil))) .nil)))
/-- _law_costs -/
def b15 : Ss := (.cons (.set 4 (.bin .Mult (.lst (.cons (.lit .non) .nil)) (.blt .len (.cons (.nm 0) .nil)))) (.cons (.set 5 (.bin .Mult (.lst (.cons (.lit .non) .nil)) (.blt .len (.cons (.nm 0) .nil)))) (.cons (.fo (.nm 6) (.seq (.nm 2)) (.cons (.put 4 (.nm 6) (.lit (.int 0))) (.cons (.put 5 (.nm 6) (.lit (.int 0))) .nil))) (.cons (.fo (.nm 7) (.rng2 (.lit (.int 1)) (.bin .Add (.blt .len (.cons (.nm 0) .nil)) (.lit (.int 1)))) (.cons (.set 8 (.lst .nil)) (.cons (.fo (.nm 6) (.rng1 (.blt .len (.cons (.nm 0) .nil))) (.cons (.ifs (.cmp .Is (.idx (.nm 4) (.nm 6)) (.lit .non)) (.cons (.unp (.tup (.cons (.nm 9) (.cons (.nm 10) .nil))) (.idx (.nm 0) (.nm 6))) (.cons (.set 11 (.lc [14] (.nm 14) (.nm 14) (.rng1 (.blt .len (.cons (.nm 10) .nil))) (.so (.cmp .IsNot (.idx (.nm 4) (.idx (.nm 10) (.nm 14))) (.lit .non))))) (.cons (.set 12 (.lc [14] (.bin .Add (.idx (.idx (.nm 3) (.nm 6)) (.nm 14)) (.idx (.nm 4) (.idx (.nm 10) (.nm 14)))) (.nm 14) (.seq (.nm 11)) .no)) (.cons (.ifs (.and (.cons (.cmp .Eq (.nm 9) (.nm 1)) (.cons (.cmp .Gt (.blt .len (.cons (.nm 12) .nil)) (.lit (.int 0))) .nil))) (.cons (.expr (.mth .append 8 (.cons (.tup (.cons (.blt .min (.cons (.nm 12) .nil)) (.cons (.nm 6) .nil))) .nil))) .nil) (.cons (.ifs (.and (.cons (.cmp .NotEq (.nm 9) (.nm 1)) (.cons (.cmp .Eq (.blt .len (.cons (.nm 12) .nil)) (.blt .len (.cons (.nm 10) .nil))) .nil))) (.cons (.expr (.mth .append 8 (.cons (.tup (.cons (.blt .max (.cons (.nm 12) .nil)) (.cons (.nm 6) .nil))) .nil))) .nil) .nil) .nil)) .nil)))) .nil) .nil)) (.cons (.ifs (.cmp .Eq (.blt .len (.cons (.nm 8) .nil)) (.lit (.int 0))) (.cons .brk .nil) .nil) (.cons (.unp (.tup (.cons (.nm 13) (.cons (.nm 6) .nil))) (.blt .minp (.cons (.nm 8) .nil))) (.cons (.put 4 (.nm 6) (.nm 13)) (.cons (.put 5 (.nm 6) (.nm 7)) .nil))))))) (.cons (.ret (.lst (.cons (.blt .tuple (.cons (.nm 4) .nil)) (.cons (.blt .tuple (.cons (.nm 5) .nil)) .nil)))) .nil)))))
def T0 : Tb := fun i => match i with
  | 0 => some ⟨["pairs", "moves", "row"], ["pairs", "moves", "row", "move", "weight"], b0⟩
  | 1 => some ⟨["side", "owner", "costs"], ["side", "owner", "costs", "there", "cost"], b1⟩
  | 2 => some ⟨["arena", "side", "target", "weights"], ["arena", "side", "target", "weights", "pairs", "rank", "best", "place", "owner", "moves", "cost"], b2⟩
  | 3 => some ⟨["arena", "side", "target", "weights"], ["arena", "side", "target", "weights", "pair"], b3⟩
  | 4 => some ⟨["script", "many"], ["script", "many", "cells", "left", "draws", "k", "place", "mixed", "cell"], b4⟩
  | 5 => some ⟨["draws", "many"], ["draws", "many"], b5⟩
  | 6 => some ⟨["draws", "row"], ["draws", "row"], b6⟩
  | 7 => some ⟨["actual", "due"], ["actual", "due", "k"], b7⟩
  | 8 => some ⟨["draws", "row"], ["draws", "row", "left", "told", "k"], b8⟩
  | 9 => some ⟨["draws", "things", "many"], ["draws", "things", "many", "found", "k", "thing"], b9⟩
  | 10 => some ⟨["draws", "many", "most"], ["draws", "many", "most", "k"], b10⟩
  | 11 => some ⟨["arena", "order"], ["arena", "order", "places", "k", "move"], b11⟩
  | 12 => some ⟨["draws", "many", "side"], ["draws", "many", "side", "told", "k", "owner", "back", "j"], b12⟩
  | 13 => some ⟨["draws", "many"], ["draws", "many", "k"], b13⟩
  | 14 => some ⟨["draws", "arena"], ["draws", "arena", "told", "place", "move"], b14⟩
  | 15 => some ⟨["arena", "side", "target", "weights"], ["arena", "side", "target", "weights", "costs", "ranks", "place", "turn", "best", "owner", "goals", "known", "sums", "cost", "k"], b15⟩
  | _ => none
class A0 (Δ : Tb) : Prop where
  h : ∀ i, 0 ≤ i → i < 16 → Δ i = T0 i
theorem fn4 (Δ : Tb) [A0 Δ] (k : Nat) : callN Δ (k + 1) 4 = runDef (callN Δ k) ⟨["script", "many"], ["script", "many", "cells", "left", "draws", "k", "place", "mixed", "cell"], b4⟩ := by
  show (fun args => (Δ 4).bind fun d => runDef (callN Δ k) d args) = _
  rw [show Δ 4 = T0 4 from A0.h 4 (by decide) (by decide)]
  rfl
theorem fn5 (Δ : Tb) [A0 Δ] (k : Nat) : callN Δ (k + 1) 5 = runDef (callN Δ k) ⟨["draws", "many"], ["draws", "many"], b5⟩ := by
  show (fun args => (Δ 5).bind fun d => runDef (callN Δ k) d args) = _
  rw [show Δ 5 = T0 5 from A0.h 5 (by decide) (by decide)]
  rfl
theorem fn6 (Δ : Tb) [A0 Δ] (k : Nat) : callN Δ (k + 1) 6 = runDef (callN Δ k) ⟨["draws", "row"], ["draws", "row"], b6⟩ := by
  show (fun args => (Δ 6).bind fun d => runDef (callN Δ k) d args) = _
  rw [show Δ 6 = T0 6 from A0.h 6 (by decide) (by decide)]
  rfl
theorem fn7 (Δ : Tb) [A0 Δ] (k : Nat) : callN Δ (k + 1) 7 = runDef (callN Δ k) ⟨["actual", "due"], ["actual", "due", "k"], b7⟩ := by
  show (fun args => (Δ 7).bind fun d => runDef (callN Δ k) d args) = _
  rw [show Δ 7 = T0 7 from A0.h 7 (by decide) (by decide)]
  rfl
theorem draws_ok (Δ : Tb) [A0 Δ] (k : Nat) (ns : List Int) (m : Int) (hns : ns.length ≤ 63) (hm : 0 ≤ m ∧ m ≤ 2 ^ 24) :
    Ev (callN Δ (k + 1) 4 [.fz (.scr ns), .fz (.int m)]) fun z => ∃ ds, z = (.nw (LI ds), [.fz (.scr ns), .fz (.int m)]) := by
  rw [fn4]
  generalize callN Δ k = cl
  refine enter ⟨rfl, rfl⟩ ?_
  show Ev (evSs cl b4 [.fz (.scr ns), .fz (.int m), .un, .un, .un, .un, .un, .un, .un]) _
  apply c_nx
  · simp -implicitDefEqProofs [evS, evSs, evC, evB, evE, evBs, evI, evOC, Op.frz, rds, rd, itemsOf, lockS, wipeE]
    rw [lc_map (f := D.int) (g := D.int)]
    · have h : ns.length ≤ sizeLine := by have : sizeLine = 16777216 := rfl; omega
      simp -implicitDefEqProofs [h, restE, unlock, stO, putS]
      rfl
    · intro x hx
      simp -implicitDefEqProofs [T.put, putS, evE, evBs, evB, Op.frz, rds, rd, bltS, esc, wipeE]
  · refine c_ex (fun cs : List Int => [.fz (.scr ns), .fz (.int m), .ow false (LI cs), .un, .un, .un, .un, .un, .un]) (fun cs => 0 < cs.length ∧ cs.length ≤ 64) ?_ ?_
    · rcases ns with _ | ⟨n, ns⟩
      · refine ⟨[0], by simp, ?_⟩
        simp -implicitDefEqProofs [evS, evSs, evC, evB, evE, evBs, evDs, Op.frz, rds, rd, bltS, eq_int, isOwL, mthS, esc, sizeLine]
      · refine ⟨n :: ns, by simp at hns ⊢; omega, ?_⟩
        have h : ((ns.length : Int) + 1 == 0) = false := by simp; omega
        simp -implicitDefEqProofs [evS, evSs, evC, evB, evE, evBs, evDs, Op.frz, rds, rd, bltS, eq_int, h]
    rintro cs ⟨hc0, hc⟩
    apply c_nx
    · simp -implicitDefEqProofs [evS, evE, evBs, evB, Op.frz, rds, rd, bltS, stO, putS]
      rfl
    apply c_nx
    · simp -implicitDefEqProofs [evS, evE, evDs, stO, putS]
      rfl
    apply c_ev
    refine s_fo (items := (List.range m.toNat).map fun k => .int (k : Nat)) (lk := []) (env1 := [.fz (.scr ns), .fz (.int m), .ow false (LI cs), .ow false (LI cs), .ow false (LI []), .un, .un, .un, .un]) ?_ ?_
    · simp -implicitDefEqProofs [evI, evB, evE, Op.frz, rd, intD, rngS_ok (show 0 ≤ m ∧ m < 2 ^ 62 by omega)]
    refine fo_ind (fun i e => ∃ (lf ds : List Int) (s1 s2 s3 : Sl), fr s1 = true ∧ fr s2 = true ∧ fr s3 = true ∧ lf.length = cs.length ∧ ds.length = i ∧ e = [.fz (.scr ns), .fz (.int m), .ow false (LI cs), .ow false (LI lf), .ow false (LI ds), s1, s2, s3, .un]) ?_ ?_ ⟨cs, [], .un, .un, .un, rfl, rfl, rfl, rfl, rfl, rfl⟩
    · rintro i hi e ⟨lf, ds, s1, s2, s3, f1, f2, f3, hl, hd, rfl⟩
      simp only [List.length_map, List.length_range] at hi
      refine ev_of (a := [.fz (.scr ns), .fz (.int m), .ow false (LI cs), .ow false (LI lf), .ow false (LI ds), .fz (.int (i : Nat)), s2, s3, .un]) ?_ ?_
      · simp -implicitDefEqProofs [T.put, putS_at, f1]
      have hp0 : 0 ≤ (i : Int) % cs.length := Int.emod_nonneg _ (by omega)
      have hp1 : (i : Int) % cs.length < cs.length := Int.emod_lt_of_pos _ (by omega)
      apply c_nx
      · simp -implicitDefEqProofs [evS, evE, evBs, evB, Op.frz, rds, rd, bltS, mod_p (show 0 < (cs.length : Int) by omega), stO, putS_at, f2]
        rfl
      generalize (i : Int) % cs.length = p at hp0 hp1
      obtain ⟨u, iu⟩ : ∃ u, idxS (LI cs) (.int p) = some (.int u) := ⟨_, idx_ints hp0 hp1⟩
      obtain ⟨v, iv⟩ : ∃ v, idxS (LI lf) (.int p) = some (.int v) := ⟨_, idx_ints hp0 (by omega)⟩
      have ip : L2.ixN lf.length p = some p.toNat := ixN_int hp0 (by omega)
      have hz : ds.length < sizeLine := by have : sizeLine = 16777216 := rfl; omega
      apply c_one
      refine s_ifs (env1 := [.fz (.scr ns), .fz (.int m), .ow false (LI cs), .ow false (LI lf), .ow false (LI ds), .fz (.int (i : Nat)), .fz (.int p), s3, .un]) (k := decide (1000000000000000000 ≤ u) && decide (0 < v)) ?_ (fun hk => ?_) (fun hk => ?_)
      · simp -implicitDefEqProofs [evC, evCand, evE, evB, frz_v, frz_p, rd, iu, iv, pow_10, ge_int, gt_int, blD]
        by_cases h1 : (1000000000000000000 : Int) ≤ u <;> simp -implicitDefEqProofs [h1]
      · apply c_nx
        · simp -implicitDefEqProofs [evS, evE, evDs, evBs, evB, frz_v, frz_p, rd, rds, isOwL, iv, bl_int, mod_p (show (0 : Int) < 1000 by decide), esc, app_1 (show (ds.map D.int).length < sizeLine by simpa using hz)]
          rfl
        apply c_nx
        · simp -implicitDefEqProofs [evS, evE, evB, frz_v, frz_p, rd, isOwL, iv, div_c (show (0 : Int) < 1000 ∧ (1000 : Int) < 1073741824 by decide), esc, intD, ip]
          rfl
        apply c_nil
        exact ⟨lf.set p.toNat (v / 1000), ds ++ [v % 1000], .fz (.int (i : Nat)), .fz (.int p), s3, rfl, rfl, f3, by simpa using hl, by simp -implicitDefEqProofs [hd], by simp -implicitDefEqProofs [List.map_set]⟩
      · obtain ⟨x, ix, hx0, hx1⟩ := mod_ex (u * 48271 + (i : Int) * 69621 + 11) 2147483647 (by omega)
        obtain ⟨y, iy, _, _⟩ := mod_ex (x * x + 3 * x + (i : Int)) 1000003 (by omega)
        have m1 : binS .Mult (.int u) (.int 48271) = some (.v (.int (u * 48271))) := mul_r (by omega)
        have m2 : binS .Mult (.int (i : Nat)) (.int 69621) = some (.v (.int ((i : Int) * 69621))) := mul_r (by omega)
        have m3 : ∀ a, binS .Mult (.int a) (.int x) = some (.v (.int (a * x))) := fun a => mul_r (by omega)
        apply c_nx
        · simp -implicitDefEqProofs [evS, evE, evBs, evB, frz_v, frz_p, rd, rds, iu, bl_int, m1, m2, ix, add_i, stO, putS_at, f3]
          rfl
        apply c_nx
        · simp -implicitDefEqProofs [evS, evE, evDs, evBs, evB, frz_v, frz_p, rd, rds, isOwL, bl_int, m3, iy, add_i, esc, app_1 (show (ds.map D.int).length < sizeLine by simpa using hz)]
          rfl
        apply c_nil
        exact ⟨lf, ds ++ [y], .fz (.int (i : Nat)), .fz (.int p), .fz (.int x), rfl, rfl, rfl, hl, by simp -implicitDefEqProofs [hd], by simp⟩
    · rintro e ⟨lf, ds, s1, s2, s3, f1, f2, f3, hl, hd, rfl⟩
      show Ev (evSs cl _ _) _
      apply c_nx
      · simp -implicitDefEqProofs [evS, evE, evDs, isOwL, mthS, unlock]
        rfl
      · apply c_rt
        · simp -implicitDefEqProofs [evS, evE, retO]
          exact ⟨rfl, rfl⟩
        · exact ⟨_, rfl, ds.reverse, by simp -implicitDefEqProofs [finA]⟩
theorem take_ok (Δ : Tb) [A0 Δ] (k : Nat) (ds : List Int) (m : Int) (hm : 0 < m) :
    Ev (callN Δ (k + 1) 5 [.ow true (LI ds), .fz (.int m)]) fun z => ∃ r ds', z = (.v (.int r), [.ow true (LI ds'), .fz (.int m)]) ∧ 0 ≤ r ∧ r < m := by
  rw [fn5]
  generalize callN Δ k = cl
  refine enter ⟨rfl, rfl⟩ ?_
  show Ev (evSs cl b5 [.ow true (LI ds), .fz (.int m)]) _
  rcases List.eq_nil_or_concat ds with rfl | ⟨ds, d, rfl⟩
  · apply c_rt
    · simp -implicitDefEqProofs [evS, evSs, evC, evB, evE, evBs, Op.frz, rds, rd, bltS, eq_int, retO]
      exact ⟨rfl, rfl⟩
    · exact ⟨_, rfl, 0, [], rfl, by omega, hm⟩
  · apply c_nx
    · have h : ((ds.length : Int) + 1 == 0) = false := by simp; omega
      simp -implicitDefEqProofs [evS, evSs, evC, evB, evE, evBs, Op.frz, rds, rd, bltS, eq_int, retO, h]
      rfl
    · apply c_rt
      · simp -implicitDefEqProofs [evS, evSs, evC, evB, evE, evBs, evDs, Op.frz, rds, rd, bltS, eq_int, retO, isOwL, mthS, binS, hm]
        exact ⟨rfl, rfl⟩
      · exact ⟨_, rfl, _, ds, rfl, Int.emod_nonneg _ (by omega), Int.emod_lt_of_pos _ hm⟩
/-- what _law_take promises -/
def TakeOk (cl : CallF) : Prop := ∀ (ds : List Int) (m : Int), 0 < m → ∃ r ds', cl 5 [.ow true (LI ds), .fz (.int m)] = some (.v (.int r), [.ow true (LI ds'), .fz (.int m)]) ∧ 0 ≤ r ∧ r < m
theorem takeOk (Δ : Tb) [A0 Δ] (k : Nat) : TakeOk (callN Δ (k + 1)) := fun ds m hm => by
  obtain ⟨z, h, r, ds', e, h1, h2⟩ := take_ok Δ k ds m hm
  exact ⟨r, ds', by rw [h, e], h1, h2⟩
theorem idx_lst {xs : List D} {i : Int} (h0 : 0 ≤ i) (h : i < xs.length) : ∃ d, idxS (.lst xs) (.int i) = some d ∧ d ∈ xs := by
  have hl : i.toNat < xs.length := by omega
  refine ⟨xs[i.toNat], ?_, List.getElem_mem hl⟩
  show L2.atI xs i = _
  unfold L2.atI
  rw [ixN_int h0 h]
  simp [hl]
theorem pick_ok (Δ : Tb) [A0 Δ] (k : Nat) (ds : List Int) (xs : List D) (hx : 0 < xs.length) :
    ∃ d ds', callN Δ (k + 2) 6 [.ow true (LI ds), .fz (.lst xs)] = some (.v d, [.ow true (LI ds'), .fz (.lst xs)]) ∧ d ∈ xs := by
  suffices h : Ev (callN Δ (k + 2) 6 [.ow true (LI ds), .fz (.lst xs)]) fun z => ∃ d ds', z = (.v d, [.ow true (LI ds'), .fz (.lst xs)]) ∧ d ∈ xs by
    obtain ⟨z, h, d, ds', e, hd⟩ := h
    exact ⟨d, ds', by rw [h, e], hd⟩
  rw [fn6]
  have ht := takeOk Δ k
  generalize callN Δ (k + 1) = cl at ht
  refine enter ⟨rfl, rfl⟩ ?_
  show Ev (evSs cl b6 [.ow true (LI ds), .fz (.lst xs)]) _
  obtain ⟨r, ds', h1, h2, h3⟩ := ht ds xs.length (by omega)
  obtain ⟨d, h4, h5⟩ := idx_lst h2 h3
  apply c_rt
  · simp -implicitDefEqProofs [evS, evE, evBs, evB, frz_v, frz_p, rd, rds, bl_len_l, toArgs, toArg, lent, h1, backArgs, h4, retO]
    exact ⟨rfl, rfl⟩
  · exact ⟨_, rfl, d, ds', rfl, h5⟩
def GoodP (n : Int) (p : Int × List Int) : Prop := (p.1 = 0 ∨ p.1 = 1) ∧ 0 < p.2.length ∧ p.2.length ≤ 1000 ∧ ∀ x ∈ p.2, 0 ≤ x ∧ x < n
def tupI (w : List Int) : D := .tup (w.map .int)
def Fits (ar : List (Int × List Int)) (ws : List (List Int)) : Prop := ws.length = ar.length ∧ ∀ (i : Nat) (p : Int × List Int) (w : List Int), ar[i]? = some p → ws[i]? = some w → w.length = p.2.length
def oD : Option Int → D
  | none => .non
  | some i => .int i
theorem same_flat (Δ : Tb) [A0 Δ] (k : Nat) (x : Option Int) : callN Δ (k + 1) 7 [.fz (oD x), .fz (oD x)] = some (.v (.bl true), [.fz (oD x), .fz (oD x)]) := by
  suffices h : Ev (callN Δ (k + 1) 7 [.fz (oD x), .fz (oD x)]) fun z => z = (.v (.bl true), [.fz (oD x), .fz (oD x)]) by
    obtain ⟨z, h, rfl⟩ := h
    exact h
  rw [fn7]
  generalize callN Δ k = cl
  refine enter ⟨rfl, rfl⟩ ?_
  show Ev (evSs cl b7 [.fz (oD x), .fz (oD x), .un]) _
  have eqn : cmpS .Eq .non .non = some true := by simp [cmpS, okD_non, deq_non]
  cases x with
  | none =>
    apply c_nx
    · simp -implicitDefEqProofs [evS, evSs, evC, evE, evB, frz_v, rd, oD, Ty.has, blD]
      rfl
    apply c_nx
    · simp -implicitDefEqProofs [evS, evSs, evC, evCor, evE, evB, frz_v, rd, Ty.has, blD, ne_bl]
      rfl
    apply c_nx
    · simp -implicitDefEqProofs [evS, evSs, evC, evCor, evE, evB, frz_v, rd, Ty.has, blD, ne_bl, is_non, isNon]
      rfl
    apply c_rt
    · simp -implicitDefEqProofs [evS, evE, evB, frz_v, rd, eqn, retO]
      exact ⟨rfl, rfl⟩
    · exact ⟨_, rfl, rfl⟩
  | some i =>
    apply c_nx
    · simp -implicitDefEqProofs [evS, evSs, evC, evE, evB, frz_v, rd, oD, Ty.has, blD]
      rfl
    apply c_nx
    · simp -implicitDefEqProofs [evS, evSs, evC, evCor, evE, evB, frz_v, rd, Ty.has, blD, ne_bl]
      rfl
    apply c_nx
    · simp -implicitDefEqProofs [evS, evSs, evC, evCor, evE, evB, frz_v, rd, Ty.has, blD, ne_bl, is_non, isNon]
      rfl
    apply c_rt
    · simp -implicitDefEqProofs [evS, evE, evB, frz_v, rd, eq_int, retO]
      exact ⟨rfl, rfl⟩
    · exact ⟨_, rfl, rfl⟩
theorem notin_trues {α : Type} (l : List α) : cmpS .NotIn (.bl false) (.lst (l.map fun _ => D.bl true)) = some true := by
  have h1 : okD (.lst (l.map fun _ => D.bl true)) = true := okD_of (by simp only [lay]; exact lays_map (fun _ => rfl) l) (by simp only [dep]; have := deps_map (f := fun _ : α => D.bl true) (n := 0) (fun _ => Nat.le_refl _) l; omega)
  simp only [cmpS, inS, okD_bl, h1, Bool.and_self, if_true, Option.map_some]
  congr 1
  rw [List.any_map]
  simp [deq_bl]
abbrev Cs := List (Option Int)
/-- what a move costs, if its goal's cost is known -/
def beh (cs : Cs) (mw : Int × Int) : Option Int := (cs.getD mw.1.toNat none).map (mw.2 + ·)
/-- the cost of a place by the costs of its moves -/
def nc (sd ow : Int) (l : Cs) : Option Int :=
  if ow = sd then (if (l.filterMap id).length = 0 then none else some (minL (l.filterMap id))) else if (l.filterMap id).length = l.length then some (maxL (l.filterMap id)) else none
abbrev Ps := List (Option (Int × Int))
/-- the costs of the pairs -/
def csOf (ps : Ps) : Cs := ps.map fun x => x.map (·.1)
/-- what place i may cost -/
def candAt (ar : List (Int × List Int)) (ws : List (List Int)) (sd : Int) (cs : Cs) (i : Nat) : Option Int :=
  if (cs.getD i none).isSome then none else nc sd (ar.getD i (0, [])).1 ((((ar.getD i (0, [])).2).zip (ws.getD i [])).map (beh cs))
/-- the leftmost of the least -/
def upd1 (b : Option (Int × Int)) (c : Option Int) (i : Int) : Option (Int × Int) :=
  match c with
  | none => b
  | some c => match b with
    | none => some (c, i)
    | some q => if c < q.1 then some (c, i) else b
def bestTo (ar : List (Int × List Int)) (ws : List (List Int)) (sd : Int) (cs : Cs) : Nat → Option (Int × Int)
  | 0 => none
  | i + 1 => upd1 (bestTo ar ws sd cs i) (candAt ar ws sd cs i) i
def start (n : Nat) (tg : List Int) : Ps := (List.range n).map fun j : Nat => if (j : Int) ∈ tg then some (0, 0) else none
def step (ar : List (Int × List Int)) (ws : List (List Int)) (sd : Int) (rank : Int) (ps : Ps) : Ps :=
  match bestTo ar ws sd (csOf ps) ar.length with
  | none => ps
  | some q => ps.set q.2.toNat (some (q.1, rank))
/-- the arena, the weights that fit -/
structure Okay (ar : List (Int × List Int)) (ws : List (List Int)) : Prop where
  n : ar.length ≤ 1000
  g : ∀ p ∈ ar, GoodP ar.length p
  f : Fits ar ws
theorem Okay.row {ar ws} (h : Okay ar ws) {i : Nat} {p : Int × List Int} (hp : ar[i]? = some p) : ∃ w, ws[i]? = some w ∧ w.length = p.2.length := by
  have hl : i < ws.length := by rw [h.f.1]; exact (List.getElem?_eq_some_iff.mp hp).1
  exact ⟨ws[i], List.getElem?_eq_getElem hl, h.f.2 i p _ hp (List.getElem?_eq_getElem hl)⟩
def b17_0 : Ss := .cons (.ret (.and (.cons (.isi (.nm 0) [.tuple]) (.cons (.cmp .Eq (.blt .len (.cons (.nm 0) .nil)) (.nm 1)) .nil)))) .nil
/-- is_row -/
def b17 : Ss := b17_0
def b18_0 : Ss := .cons (.ret (.and (.cons (.isi (.nm 0) [.int]) (.cons (.cmp .GtE (.nm 0) (.lit (.int 0))) .nil)))) .nil
/-- is_natural -/
def b18 : Ss := b18_0
def b19_0 : Ss := .cons (.ret (.and (.cons (.call 17 (.cons (.nm 0) (.cons (.lit (.int 2)) .nil))) (.cons (.blt .all (.cons (.lc [1] (.call 18 (.cons (.nm 1) .nil)) (.nm 1) (.seq (.nm 0)) .no) .nil)) .nil)))) .nil
/-- is_pair -/
def b19 : Ss := b19_0
def b20_0 : Ss := .cons (.ret (.lit (.bl false))) .nil
def b20_1 : Ss := .cons (.ret (.blt .any (.cons (.lc [8, 9] (.and (.cons (.cmp .Eq (.nm 8) (.nm 5)) (.cons (.nm 9) .nil))) (.tup (.cons (.nm 8) (.cons (.nm 9) .nil))) (.zip (.nm 4) (.nm 7)) .no) .nil))) .nil
def b20_2 : Ss := .cons (.ifs (.val (.blt .any (.cons (.lc [8] (.and (.cons (.cmp .IsNot (.nm 8) (.lit .non)) (.cons (.cmp .Lt (.nm 8) (.nm 5)) .nil))) (.nm 8) (.seq (.nm 4)) .no) .nil))) b20_0 .nil) b20_1
def b20_3 : Ss := .cons (.ret (.and (.cons (.blt .all (.cons (.nm 7) .nil)) (.cons (.cmp .Eq (.blt .max (.cons (.nm 4) .nil)) (.nm 5)) .nil)))) .nil
def b20_4 : Ss := .cons (.ifs (.cmp .Eq (.nm 1) (.nm 0)) b20_2 .nil) b20_3
def b20_5 : Ss := .cons (.set 7 (.lc [8] (.and (.cons (.cmp .IsNot (.nm 8) (.lit .non)) (.cons (.cmp .Lt (.idx (.nm 8) (.lit (.int 1))) (.nm 6)) .nil))) (.nm 8) (.seq (.nm 3)) .no)) b20_4
def b20_6 : Ss := .cons (.unp (.tup (.cons (.nm 5) (.cons (.nm 6) .nil))) (.nm 2)) b20_5
/-- is_right_pair -/
def b20 : Ss := b20_6
def b21_0 : Ss := .cons (.ret (.ifx (.cmp .Eq (.nm 1) (.nm 0)) (.blt .all (.cons (.nm 3) .nil)) (.blt .any (.cons (.nm 3) .nil)))) .nil
def b21_1 : Ss := .cons (.set 3 (.lc [4] (.cmp .Is (.nm 4) (.lit .non)) (.nm 4) (.seq (.nm 2)) .no)) b21_0
/-- is_right_nothing -/
def b21 : Ss := b21_1
def b22_0 : Ss := .cons (.ret (.call 21 (.cons (.nm 0) (.cons (.nm 1) (.cons (.nm 3) .nil))))) .nil
def b22_1 : Ss := .cons (.ret (.call 20 (.cons (.nm 0) (.cons (.nm 1) (.cons (.nm 2) (.cons (.nm 3) (.cons (.nm 4) .nil))))))) .nil
def b22_2 : Ss := .cons (.ifs (.cmp .Is (.nm 2) (.lit .non)) b22_0 .nil) b22_1
/-- is_right_at -/
def b22 : Ss := b22_2
def b23_0 : Ss := .cons (.ret (.lit (.bl false))) .nil
def b23_1 : Ss := .cons (.ret (.lit (.bl false))) .nil
def b23_2 : Ss := .cons (.ifs (.cmp .NotEq (.idx (.nm 4) (.nm 5)) (.tup (.cons (.lit (.int 0)) (.cons (.lit (.int 0)) .nil)))) b23_1 .nil) .nil
def b23_3 : Ss := .cons (.ret (.lit (.bl false))) .nil
def b23_4 : Ss := .cons (.ifs (.not (.val (.call 22 (.cons (.nm 1) (.cons (.nm 6) (.cons (.idx (.nm 4) (.nm 5)) (.cons (.nm 8) (.cons (.nm 9) .nil)))))))) b23_3 .nil) .nil
def b23_5 : Ss := .cons (.ifs (.cmp .In (.nm 5) (.nm 2)) b23_2 b23_4) .nil
def b23_6 : Ss := .cons (.set 9 (.call 0 (.cons (.nm 4) (.cons (.nm 7) (.cons (.idx (.nm 3) (.nm 5)) .nil))))) b23_5
def b23_7 : Ss := .cons (.set 8 (.lc [11] (.idx (.nm 4) (.nm 11)) (.nm 11) (.seq (.nm 7)) .no)) b23_6
def b23_8 : Ss := .cons (.ret (.lit (.bl true))) .nil
def b23_9 : Ss := .cons (.fo (.tup (.cons (.nm 5) (.cons (.tup (.cons (.nm 6) (.cons (.nm 7) .nil))) .nil))) (.enum (.nm 0)) b23_7) b23_8
def b23_10 : Ss := .cons (.ifs (.or (.cons (.not (.val (.call 17 (.cons (.nm 4) (.cons (.blt .len (.cons (.nm 0) .nil)) .nil))))) (.cons (.not (.val (.blt .all (.cons (.lc [10] (.or (.cons (.cmp .Is (.nm 10) (.lit .non)) (.cons (.call 19 (.cons (.nm 10) .nil)) .nil))) (.nm 10) (.seq (.nm 4)) .no) .nil)))) .nil))) b23_0 .nil) b23_9
/-- judge_costs -/
def b23 : Ss := b23_10
def b24_0 : Ss := .cons (.ret (.and (.cons (.isi (.nm 0) [.int]) (.cons (.un .Not (.isi (.nm 0) [.bool])) .nil)))) .nil
/-- _law_is_int -/
def b24 : Ss := b24_0
def b25_0 : Ss := .cons (.ret (.bin .Add (.bin .Add (.sli (.nm 0) .no (.so (.nm 1))) (.tup (.cons (.nm 2) .nil))) (.sli (.nm 0) (.so (.bin .Add (.nm 1) (.lit (.int 1)))) .no))) .nil
/-- _law_put -/
def b25 : Ss := b25_0
def b26_0 : Ss := .cons (.ret (.lst (.cons (.tup .nil) (.cons (.sli (.nm 0) .no (.so (.un .USub (.lit (.int 1))))) (.cons (.bin .Add (.nm 0) (.sli (.nm 0) .no (.so (.lit (.int 1))))) (.cons (.tup (.cons (.nm 0) .nil)) (.cons (.call 25 (.cons (.nm 0) (.cons (.nm 1) (.cons (.tup (.cons (.idx (.nm 0) (.nm 1)) .nil)) .nil)))) .nil))))))) .nil
def b26_1 : Ss := .cons (.set 1 (.bin .FloorDiv (.blt .len (.cons (.nm 0) .nil)) (.lit (.int 2)))) b26_0
/-- _law_misshapen -/
def b26 : Ss := b26_1
def b27_0 : Ss := .cons (.put 3 (.nm 4) (.lit (.int 0))) .nil
def b27_1 : Ss := .cons (.expr (.mth .append 6 (.cons (.nm 4) .nil))) .nil
def b27_2 : Ss := .cons (.ifs (.or (.cons (.and (.cons (.cmp .Eq (.idx (.idx (.nm 0) (.nm 4)) (.lit (.int 0))) (.nm 1)) (.cons (.cmp .In (.lit (.bl true)) (.nm 7)) .nil))) (.cons (.and (.cons (.cmp .NotEq (.idx (.idx (.nm 0) (.nm 4)) (.lit (.int 0))) (.nm 1)) (.cons (.cmp .NotIn (.lit (.bl false)) (.nm 7)) .nil))) .nil))) b27_1 .nil) .nil
def b27_3 : Ss := .cons (.set 7 (.lc [8] (.cmp .IsNot (.idx (.nm 3) (.nm 8)) (.lit .non)) (.nm 8) (.seq (.idx (.idx (.nm 0) (.nm 4)) (.lit (.int 1)))) .no)) b27_2
def b27_4 : Ss := .cons (.ifs (.cmp .Is (.idx (.nm 3) (.nm 4)) (.lit .non)) b27_3 .nil) .nil
def b27_5 : Ss := .cons (.put 3 (.nm 4) (.nm 5)) .nil
def b27_6 : Ss := .cons (.fo (.nm 4) (.seq (.nm 6)) b27_5) .nil
def b27_7 : Ss := .cons (.fo (.nm 4) (.rng1 (.blt .len (.cons (.nm 0) .nil))) b27_4) b27_6
def b27_8 : Ss := .cons (.set 6 (.lst .nil)) b27_7
def b27_9 : Ss := .cons (.ret (.blt .tuple (.cons (.nm 3) .nil))) .nil
def b27_10 : Ss := .cons (.fo (.nm 5) (.rng2 (.lit (.int 1)) (.blt .len (.cons (.nm 0) .nil))) b27_8) b27_9
def b27_11 : Ss := .cons (.fo (.nm 4) (.seq (.nm 2)) b27_0) b27_10
def b27_12 : Ss := .cons (.set 3 (.bin .Mult (.lst (.cons (.lit .non) .nil)) (.blt .len (.cons (.nm 0) .nil)))) b27_11
/-- _law_ranks -/
def b27 : Ss := b27_12
def b28_0 : Ss := .cons (.ret (.blt .tuple (.cons (.lc [4] (.nm 4) (.nm 4) (.rng1 (.blt .len (.cons (.nm 0) .nil))) (.so (.cmp .Is (.idx (.nm 3) (.nm 4)) (.lit .non)))) .nil))) .nil
def b28_1 : Ss := .cons (.set 3 (.call 27 (.cons (.nm 0) (.cons (.nm 1) (.cons (.nm 2) .nil))))) b28_0
/-- _law_trap -/
def b28 : Ss := b28_1
def b29_0 : Ss := .cons (.expr (.mth .append 7 (.cons (.lit .non) .nil))) .nil
def b29_1 : Ss := .cons (.expr (.mth .append 7 (.cons (.tup (.cons (.idx (.nm 5) (.nm 8)) (.cons (.bin .Mult (.nm 4) (.idx (.nm 6) (.nm 8))) .nil))) .nil))) .nil
def b29_2 : Ss := .cons (.ifs (.cmp .Is (.idx (.nm 5) (.nm 8)) (.lit .non)) b29_0 b29_1) .nil
def b29_3 : Ss := .cons (.ret (.blt .tuple (.cons (.nm 7) .nil))) .nil
def b29_4 : Ss := .cons (.fo (.nm 8) (.rng1 (.blt .len (.cons (.nm 0) .nil))) b29_2) b29_3
def b29_5 : Ss := .cons (.set 7 (.lst .nil)) b29_4
def b29_6 : Ss := .cons (.unp (.tup (.cons (.nm 5) (.cons (.nm 6) .nil))) (.call 15 (.cons (.nm 0) (.cons (.nm 1) (.cons (.nm 2) (.cons (.nm 3) .nil)))))) b29_5
/-- _law_cost_pairs -/
def b29 : Ss := b29_6
def b30_0 : Ss := .cons (.ret (.and (.cons (.cmp .Eq (.blt .len (.cons (.nm 9) .nil)) (.blt .len (.cons (.nm 6) .nil))) (.cons (.cmp .NotIn (.lit (.bl false)) (.nm 11)) (.cons (.cmp .Eq (.blt .max (.cons (.nm 10) .nil)) (.nm 7)) .nil))))) .nil
def b30_1 : Ss := .cons (.ret (.and (.cons (.cmp .In (.lit (.bl true)) (.nm 12)) (.cons (.cmp .Eq (.blt .min (.cons (.nm 10) .nil)) (.nm 7)) .nil)))) .nil
def b30_2 : Ss := .cons (.set 12 (.lc [14] (.and (.cons (.cmp .Eq (.idx (.nm 10) (.nm 14)) (.nm 7)) (.cons (.idx (.nm 11) (.nm 14)) .nil))) (.nm 14) (.rng1 (.blt .len (.cons (.nm 10) .nil))) .no)) b30_1
def b30_3 : Ss := .cons (.ifs (.cmp .NotEq (.nm 5) (.nm 1)) b30_0 .nil) b30_2
def b30_4 : Ss := .cons (.set 11 (.lc [13] (.cmp .Lt (.idx (.idx (.nm 3) (.idx (.nm 6) (.nm 13))) (.lit (.int 1))) (.nm 8)) (.nm 13) (.seq (.nm 9)) .no)) b30_3
def b30_5 : Ss := .cons (.set 10 (.lc [13] (.bin .Add (.idx (.idx (.nm 2) (.nm 4)) (.nm 13)) (.idx (.idx (.nm 3) (.idx (.nm 6) (.nm 13))) (.lit (.int 0)))) (.nm 13) (.seq (.nm 9)) .no)) b30_4
def b30_6 : Ss := .cons (.set 9 (.lc [13] (.nm 13) (.nm 13) (.rng1 (.blt .len (.cons (.nm 6) .nil))) (.so (.cmp .IsNot (.idx (.nm 3) (.idx (.nm 6) (.nm 13))) (.lit .non))))) b30_5
def b30_7 : Ss := .cons (.unp (.tup (.cons (.nm 7) (.cons (.nm 8) .nil))) (.idx (.nm 3) (.nm 4))) b30_6
def b30_8 : Ss := .cons (.unp (.tup (.cons (.nm 5) (.cons (.nm 6) .nil))) (.idx (.nm 0) (.nm 4))) b30_7
/-- _law_pair_is_shown -/
def b30 : Ss := b30_8
def b31_0 : Ss := .cons (.ret (.lit (.bl false))) .nil
def b31_1 : Ss := .cons (.ret (.lit (.bl false))) .nil
def b31_2 : Ss := .cons (.ret (.lit (.bl false))) .nil
def b31_3 : Ss := .cons (.ifs (.or (.cons (.not (.val (.isi (.nm 7) [.tuple]))) (.cons (.cmp .NotEq (.blt .len (.cons (.nm 7) .nil)) (.lit (.int 2))) (.cons (.cmp .In (.lit (.bl false)) (.lc [8] (.call 24 (.cons (.nm 8) .nil)) (.nm 8) (.seq (.nm 7)) .no)) .nil)))) b31_2 .nil) .nil
def b31_4 : Ss := .cons (.ifs (.cmp .IsNot (.nm 7) (.lit .non)) b31_3 .nil) .nil
def b31_5 : Ss := .cons (.ifs (.cmp .NotEq (.cmp .Is (.nm 7) (.lit .non)) (.cmp .In (.nm 6) (.nm 5))) b31_1 .nil) b31_4
def b31_6 : Ss := .cons (.set 7 (.idx (.nm 4) (.nm 6))) b31_5
def b31_7 : Ss := .cons (.ret (.lit (.bl false))) .nil
def b31_8 : Ss := .cons (.ifs (.cmp .NotEq (.idx (.nm 4) (.nm 6)) (.tup (.cons (.lit (.int 0)) (.cons (.lit (.int 0)) .nil)))) b31_7 .nil) .nil
def b31_9 : Ss := .cons (.ret (.lit (.bl false))) .nil
def b31_10 : Ss := .cons (.ifs (.and (.cons (.cmp .IsNot (.idx (.nm 4) (.nm 6)) (.lit .non)) (.cons (.not (.val (.call 30 (.cons (.nm 0) (.cons (.nm 1) (.cons (.nm 3) (.cons (.nm 4) (.cons (.nm 6) .nil)))))))) .nil))) b31_9 .nil) .nil
def b31_11 : Ss := .cons (.ifs (.cmp .In (.nm 6) (.nm 2)) b31_8 b31_10) .nil
def b31_12 : Ss := .cons (.ret (.lit (.bl true))) .nil
def b31_13 : Ss := .cons (.fo (.nm 6) (.rng1 (.blt .len (.cons (.nm 0) .nil))) b31_11) b31_12
def b31_14 : Ss := .cons (.fo (.nm 6) (.rng1 (.blt .len (.cons (.nm 0) .nil))) b31_6) b31_13
def b31_15 : Ss := .cons (.set 5 (.call 28 (.cons (.nm 0) (.cons (.nm 1) (.cons (.nm 2) .nil))))) b31_14
def b31_16 : Ss := .cons (.ifs (.or (.cons (.not (.val (.isi (.nm 4) [.tuple]))) (.cons (.cmp .NotEq (.blt .len (.cons (.nm 4) .nil)) (.blt .len (.cons (.nm 0) .nil))) .nil))) b31_0 .nil) b31_15
/-- _law_shows_costs -/
def b31 : Ss := b31_16
def b32_0 : Ss := .cons (.ret (.call 25 (.cons (.nm 1) (.cons (.nm 2) (.cons (.lit .non) .nil))))) .nil
def b32_1 : Ss := .cons (.ret (.call 25 (.cons (.call 25 (.cons (.nm 1) (.cons (.nm 2) (.cons (.idx (.nm 1) (.nm 3)) .nil)))) (.cons (.nm 3) (.cons (.idx (.nm 1) (.nm 2)) .nil))))) .nil
def b32_2 : Ss := .cons (.ret (.call 25 (.cons (.nm 1) (.cons (.nm 2) (.cons (.call 6 (.cons (.nm 0) (.cons (.lst (.cons (.tup (.cons (.lit (.int 0)) (.cons (.lit (.int 0)) .nil))) (.cons (.tup (.cons (.lit (.int 1)) (.cons (.lit (.int 1)) .nil))) (.cons (.tup (.cons (.lit (.int 0)) (.cons (.lit (.int 1)) .nil))) (.cons (.tup .nil) (.cons (.tup (.cons (.lit (.int 0)) .nil)) (.cons (.tup (.cons (.bin .Pow (.lit (.int 10)) (.lit (.int 20))) (.cons (.bin .Pow (.lit (.int 10)) (.lit (.int 20))) .nil))) (.cons (.tup (.cons (.lit .non) (.cons (.lit (.int 0)) .nil))) .nil)))))))) .nil))) .nil))))) .nil
def b32_3 : Ss := .cons (.ret (.call 25 (.cons (.nm 1) (.cons (.nm 2) (.cons (.call 6 (.cons (.nm 0) (.cons (.lst (.cons (.tup (.cons (.nm 6) (.cons (.nm 5) .nil))) (.cons (.tup (.cons (.nm 5) (.cons (.nm 6) (.cons (.lit (.int 0)) .nil)))) (.cons (.tup (.cons (.nm 5) .nil)) (.cons (.tup (.cons (.nm 5) (.cons (.lit .non) .nil))) (.cons (.tup (.cons (.tup (.cons (.nm 5) .nil)) (.cons (.nm 6) .nil))) .nil)))))) .nil))) .nil))))) .nil
def b32_4 : Ss := .cons (.ret (.call 25 (.cons (.nm 1) (.cons (.nm 2) (.cons (.tup (.cons (.bin .Add (.nm 5) (.call 6 (.cons (.nm 0) (.cons (.lst (.cons (.lit (.int 1)) (.cons (.bin .Sub (.lit (.int 0)) (.lit (.int 1))) (.cons (.bin .Pow (.lit (.int 10)) (.lit (.int 18))) .nil)))) .nil)))) (.cons (.nm 6) .nil))) .nil))))) .nil
def b32_5 : Ss := .cons (.ret (.call 25 (.cons (.nm 1) (.cons (.nm 2) (.cons (.tup (.cons (.nm 5) (.cons (.call 6 (.cons (.nm 0) (.cons (.lst (.cons (.bin .Add (.nm 6) (.lit (.int 1))) (.cons (.bin .Sub (.nm 6) (.lit (.int 1))) (.cons (.lit (.int 0)) (.cons (.bin .Sub (.lit (.int 0)) (.lit (.int 1))) (.cons (.bin .Pow (.lit (.int 10)) (.lit (.int 30))) (.cons (.lit (.int 1)) .nil))))))) .nil))) .nil))) .nil))))) .nil
def b32_6 : Ss := .cons (.ifs (.cmp .Eq (.nm 4) (.lit (.int 4))) b32_4 .nil) b32_5
def b32_7 : Ss := .cons (.ifs (.cmp .Eq (.nm 4) (.lit (.int 3))) b32_3 .nil) b32_6
def b32_8 : Ss := .cons (.unp (.tup (.cons (.nm 5) (.cons (.nm 6) .nil))) (.idx (.nm 1) (.nm 2))) b32_7
def b32_9 : Ss := .cons (.ifs (.or (.cons (.cmp .Is (.idx (.nm 1) (.nm 2)) (.lit .non)) (.cons (.cmp .Eq (.nm 4) (.lit (.int 2))) .nil))) b32_2 .nil) b32_8
def b32_10 : Ss := .cons (.ifs (.cmp .Eq (.nm 4) (.lit (.int 1))) b32_1 .nil) b32_9
def b32_11 : Ss := .cons (.ifs (.cmp .Eq (.nm 4) (.lit (.int 0))) b32_0 .nil) b32_10
def b32_12 : Ss := .cons (.set 4 (.call 5 (.cons (.nm 0) (.cons (.lit (.int 7)) .nil)))) b32_11
def b32_13 : Ss := .cons (.set 3 (.call 5 (.cons (.nm 0) (.cons (.blt .len (.cons (.nm 1) .nil)) .nil)))) b32_12
def b32_14 : Ss := .cons (.set 2 (.call 5 (.cons (.nm 0) (.cons (.blt .len (.cons (.nm 1) .nil)) .nil)))) b32_13
/-- _law_other_pairs -/
def b32 : Ss := b32_14
def T1 : Tb := fun i => match i with
  | 17 => some ⟨["thing", "length"], ["thing", "length"], b17⟩
  | 18 => some ⟨["thing"], ["thing"], b18⟩
  | 19 => some ⟨["thing"], ["thing", "part"], b19⟩
  | 20 => some ⟨["side", "owner", "pair", "behind", "costs"], ["side", "owner", "pair", "behind", "costs", "cost", "rank", "lesser", "other", "is_less"], b20⟩
  | 21 => some ⟨["side", "owner", "behind"], ["side", "owner", "behind", "missing", "pair"], b21⟩
  | 22 => some ⟨["side", "owner", "pair", "behind", "costs"], ["side", "owner", "pair", "behind", "costs"], b22⟩
  | 23 => some ⟨["arena", "side", "target", "weights", "pairs"], ["arena", "side", "target", "weights", "pairs", "place", "owner", "moves", "behind", "costs", "pair", "move"], b23⟩
  | 24 => some ⟨["thing"], ["thing"], b24⟩
  | 25 => some ⟨["row", "place", "thing"], ["row", "place", "thing"], b25⟩
  | 26 => some ⟨["row"], ["row", "k"], b26⟩
  | 27 => some ⟨["arena", "side", "target"], ["arena", "side", "target", "ranks", "place", "turn", "fresh", "known", "move"], b27⟩
  | 28 => some ⟨["arena", "side", "target"], ["arena", "side", "target", "ranks", "place"], b28⟩
  | 29 => some ⟨["arena", "side", "target", "weights", "factor"], ["arena", "side", "target", "weights", "factor", "costs", "ranks", "told", "place"], b29⟩
  | 30 => some ⟨["arena", "side", "weights", "pairs", "place"], ["arena", "side", "weights", "pairs", "place", "owner", "goals", "cost", "rank", "known", "sums", "less", "held", "k", "j"], b30⟩
  | 31 => some ⟨["arena", "side", "target", "weights", "pairs"], ["arena", "side", "target", "weights", "pairs", "trap", "place", "pair", "one"], b31⟩
  | 32 => some ⟨["draws", "row"], ["draws", "row", "k", "j", "kind", "one", "other"], b32⟩
  | _ => none
theorem lcH {cl : CallF} {α β : Type} {f : α → D} (e : β → D) (g : α → β) {vs : List Nat} {el : E} {t : T} {c : OC} {xs : List α} {Q : List D → En → Prop} {env : En}
    (hs : ∀ x ∈ xs, Ev (t.put env (f x)) fun e1 => Ev (evOC cl c e1) fun z => z.1 = true ∧ Ev (evE cl el z.2) fun y => Ev (esc y.2 y.1) fun w => w.1 = e (g x) ∧ wipeE w.2 vs = env)
    (hd : Q ((xs.map g).map e) env) : LcE cl vs el t c (xs.map f) env Q := lcG (fun x => e (g x)) hs (by rw [List.map_map] at hd; exact hd)
/-- an equation of a call from its evaluation -/
theorem eq_of {α : Type} {o : Option α} {a : α} (h : Ev o fun z => z = a) : o = some a := by
  obtain ⟨z, h, rfl⟩ := h
  exact h
/-- not a truth value -/
def noB : D → Bool
  | .bl _ => false
  | _ => true
theorem band_nn (a b : Nat) : Builtin.bitAnd (a : Int) (b : Int) = ((a &&& b : Nat) : Int) := by
  have h1 : decide ((0 : Int) ≤ (a : Int)) = true := by simp
  have h2 : decide ((0 : Int) ≤ (b : Int)) = true := by simp
  unfold Builtin.bitAnd
  rw [h1, h2]
  simp
/-- the places of a mask, below n -/
def bits (n m : Nat) : List Nat := (List.range n).filter m.testBit
/-- the mask of a set -/
def msk : List Nat → Nat
  | [] => 0
  | i :: l => 2 ^ i ||| msk l
/-- of at most B bits -/
def Bd (B : Nat) (x : Int) : Prop := x.natAbs < 2 ^ B
theorem dv_ok {a b : Int} (h : 0 < b) (hb : Bd 9000 b) : binS .FloorDiv (.int a) (.int b) = some (.v (.int (a / b))) := by
  have : divOk a b = true := by
    unfold divOk
    rw [Bool.or_eq_true]
    right
    rw [decide_eq_true_eq]
    exact ⟨h, (Nat.log2_lt (by omega)).mpr hb⟩
  simp only [binS, this, if_true]
theorem gcd_le {n d : Int} (h : 0 < d) : Int.gcd n d ≤ d.natAbs := Nat.le_of_dvd (by omega) (Nat.gcd_dvd_right ..)
theorem fraction_ok (Δ : Tb) [A8 Δ] (k : Nat) (n d : Int) (hd : 0 < d) (hb : Bd 9000 d) : callN Δ (k + 1) 106 [.fz (.int n), .fz (.int d)] = some (.v (.tup [.int (nf n d).1, .int (nf n d).2]), [.fz (.int n), .fz (.int d)]) := by
  refine eq_of ?_
  rw [fn106]
  generalize callN Δ k = cl
  have hg := gcd_pos (n := n) hd
  have hl := gcd_le (n := n) hd
  have hg2 : Bd 9000 (Int.gcd n d : Int) := by unfold Bd at hb ⊢; omega
  have dvg := fun a => dv_ok (a := a) (b := (Int.gcd n d : Int)) (by omega) hg2
  walk_at "in"
  refine kt ?_
  simp_arith! []
  refine ⟨fun z => by omega, fun _ => ?_⟩
  refine kt ?_
  simp_arith! []
  rw [show Nat.gcd n.natAbs d.natAbs = Int.gcd n d from rfl]
  refine kt ?_
  simp_arith! [dvg]
  rfl
theorem abs_i (i : Int) : bltS .abs [.int i] = some (.v (.int (i.natAbs : Int))) := by
  show some (Op.v (.int (if i < 0 then -i else i))) = _
  congr 3
  split <;> omega
theorem mod_nn {a b : Nat} (h : 0 < b) : binS .Mod (.int (a : Int)) (.int (b : Int)) = some (.v (.int ((a % b : Nat) : Int))) := by
  simp only [binS]
  rw [if_pos (by omega)]
  rfl
def frD (f : Int × Int) : D := .tup [.int f.1, .int f.2]
theorem Bd.mono {m n : Nat} {x : Int} (h : Bd m x) (hmn : m ≤ n) : Bd n x := Nat.lt_of_lt_of_le h (Nat.pow_le_pow_right (by omega) hmn)
theorem Bd.mul {m n : Nat} {x y : Int} (h : Bd m x) (g : Bd n y) : Bd (m + n) (x * y) := by
  unfold Bd at *
  rw [Int.natAbs_mul, Nat.pow_add]
  exact Nat.mul_lt_mul'' h g
theorem Bd.add {m : Nat} {x y : Int} (h : Bd m x) (g : Bd m y) : Bd (m + 1) (x + y) := by
  unfold Bd at *
  rw [Nat.pow_succ]
  omega
theorem Bd.log {m : Nat} {x : Int} (h : Bd m x) : x.natAbs.log2 ≤ m := by
  by_cases q : x.natAbs = 0
  · rw [q]; simp
  · exact Nat.le_of_lt ((Nat.log2_lt q).mpr h)
theorem ml_ok {a b : Int} {m n : Nat} (h : Bd m a) (g : Bd n b) (hmn : m + n < 1000000) : binS .Mult (.int a) (.int b) = some (.v (.int (a * b))) := by
  have : mulOk a b = true := by
    unfold mulOk
    rw [Bool.or_eq_true]
    right
    rw [decide_eq_true_eq]
    have h1 := h.log
    have h2 := g.log
    show a.natAbs.log2 + b.natAbs.log2 < 1000000
    omega
  simp only [binS, this, if_true]
theorem fr0 (f : Int × Int) : idxS (frD f) (.int 0) = some (.int f.1) := rfl
theorem fr1 (f : Int × Int) : idxS (frD f) (.int 1) = some (.int f.2) := rfl
/-- a fraction of at most B bits -/
structure Fr (B : Nat) (f : Int × Int) : Prop where
  p : 0 < f.2
  n : Bd B f.1
  d : Bd B f.2
def addF (f g : Int × Int) : Int × Int := nf (f.1 * g.2 + g.1 * f.2) (f.2 * g.2)
def mulF (f g : Int × Int) : Int × Int := nf (f.1 * g.1) (f.2 * g.2)
theorem fadd_ok (Δ : Tb) [A8 Δ] (k : Nat) (f g : Int × Int) (hf : Fr 4000 f) (hg : Fr 4000 g) : callN Δ (k + 2) 107 [.fz (frD f), .fz (frD g)] = some (.v (frD (addF f g)), [.fz (frD f), .fz (frD g)]) := by
  refine eq_of ?_
  have hd : 0 < f.2 * g.2 := Int.mul_pos hf.p hg.p
  have hb : Bd 9000 (f.2 * g.2) := (hf.d.mul hg.d).mono (by omega)
  have h106 := fraction_ok Δ k (f.1 * g.2 + g.1 * f.2) (f.2 * g.2) hd hb
  have m1 := ml_ok hf.n hg.d (by omega)
  have m2 := ml_ok hg.n hf.d (by omega)
  have m3 := ml_ok hf.d hg.d (by omega)
  rw [fn107]
  generalize callN Δ (k + 1) = cl at h106
  walk_at "in"
  refine kt ?_
  simp_arith! [fr0, fr1, m1, m2, m3, h106]
  rfl
theorem fmul_ok (Δ : Tb) [A8 Δ] (k : Nat) (f g : Int × Int) (hf : Fr 4000 f) (hg : Fr 4000 g) : callN Δ (k + 2) 108 [.fz (frD f), .fz (frD g)] = some (.v (frD (mulF f g)), [.fz (frD f), .fz (frD g)]) := by
  refine eq_of ?_
  have hd : 0 < f.2 * g.2 := Int.mul_pos hf.p hg.p
  have hb : Bd 9000 (f.2 * g.2) := (hf.d.mul hg.d).mono (by omega)
  have h106 := fraction_ok Δ k (f.1 * g.1) (f.2 * g.2) hd hb
  have m1 := ml_ok hf.n hg.n (by omega)
  have m3 := ml_ok hf.d hg.d (by omega)
  rw [fn108]
  generalize callN Δ (k + 1) = cl at h106
  walk_at "in"
  refine kt ?_
  simp_arith! [fr0, fr1, m1, m3, h106]
  rfl
theorem nf_val {n d : Int} (hd : 0 < d) {N E : Int} (h : n * E = N * d) : (nf n d).1 * E = N * (nf n d).2 := by
  have hc := nf_cross (n := n) (d := d)
  have : (nf n d).1 * E * d = N * (nf n d).2 * d := by
    have e1 : (nf n d).1 * E * d = (nf n d).1 * d * E := by simp [Int.mul_comm, Int.mul_left_comm]
    have e2 : N * (nf n d).2 * d = N * d * (nf n d).2 := by simp [Int.mul_comm, Int.mul_left_comm]
    have e3 : n * (nf n d).2 * E = n * E * (nf n d).2 := by simp [Int.mul_comm, Int.mul_left_comm]
    rw [e1, hc, e2, ← h, e3]
  exact Int.eq_of_mul_eq_mul_right (by omega) this
/-- f, in lowest terms, is N / D -/
structure Val (D : Int) (f : Int × Int) (N : Int) : Prop where
  p : 0 < f.2
  c : Nat.Coprime f.1.natAbs f.2.natAbs
  e : f.1 * D = N * f.2
theorem Val.uniq {D : Int} (hD : 0 < D) {f g : Int × Int} {N : Int} (h : Val D f N) (k : Val D g N) : f = g := by
  have key : f.1 * g.2 = g.1 * f.2 := by
    have e1 : f.1 * g.2 * D = g.1 * f.2 * D := by
      have a : f.1 * g.2 * D = f.1 * D * g.2 := by simp [Int.mul_comm, Int.mul_left_comm]
      have b : g.1 * f.2 * D = g.1 * D * f.2 := by simp [Int.mul_comm, Int.mul_left_comm]
      rw [a, b, h.e, k.e]
      simp [Int.mul_comm, Int.mul_left_comm]
    exact Int.eq_of_mul_eq_mul_right (by omega) e1
  obtain ⟨e1, e2⟩ := nf_uniq h.p k.p h.c k.c key
  exact Prod.ext e1 e2
theorem Val.of_nf {D N n d : Int} (hd : 0 < d) (h : n * D = N * d) : Val D (nf n d) N := ⟨nf_pos hd, nf_cop hd, nf_val hd h⟩
theorem Val.add {D : Int} {f g : Int × Int} {N M : Int} (h : Val D f N) (k : Val D g M) : Val D (addF f g) (N + M) := by
  refine Val.of_nf (Int.mul_pos h.p k.p) ?_
  have a : (f.1 * g.2 + g.1 * f.2) * D = f.1 * D * g.2 + g.1 * D * f.2 := by
    rw [Int.add_mul]
    simp [Int.mul_comm, Int.mul_left_comm]
  rw [a, h.e, k.e, Int.add_mul]
  simp [Int.mul_comm, Int.mul_left_comm]
theorem Val.mul {D E : Int} {f g : Int × Int} {N M : Int} (h : Val D f N) (k : Val E g M) : Val (D * E) (mulF f g) (N * M) := by
  refine Val.of_nf (Int.mul_pos h.p k.p) ?_
  have a : f.1 * g.1 * (D * E) = (f.1 * D) * (g.1 * E) := by simp [Int.mul_comm, Int.mul_left_comm]
  rw [a, h.e, k.e]
  simp [Int.mul_comm, Int.mul_left_comm]
theorem Val.bd {D : Int} (hD : 0 < D) {f : Int × Int} {N : Int} (h : Val D f N) : f.2 ≤ D ∧ f.1.natAbs ≤ N.natAbs := by
  have hd : f.2.natAbs ∣ D.natAbs := by
    refine h.c.symm.dvd_of_dvd_mul_left ⟨N.natAbs, ?_⟩
    rw [← Int.natAbs_mul, h.e, Int.natAbs_mul, Nat.mul_comm]
  obtain ⟨q, hq⟩ := hd
  have hp := h.p
  have hq0 : 0 < q := Nat.pos_of_ne_zero fun z => by rw [z, Nat.mul_zero] at hq; omega
  have h1 : f.2.natAbs ≤ D.natAbs := by rw [hq]; exact Nat.le_mul_of_pos_right _ hq0
  refine ⟨by omega, ?_⟩
  have e : f.1.natAbs * D.natAbs = N.natAbs * f.2.natAbs := by rw [← Int.natAbs_mul, h.e, Int.natAbs_mul]
  rw [hq, Nat.mul_comm f.2.natAbs q, ← Nat.mul_assoc] at e
  have : f.1.natAbs * q = N.natAbs := Nat.eq_of_mul_eq_mul_right (by omega) e
  rw [← this]
  exact Nat.le_mul_of_pos_right _ hq0
theorem Val.fr {B : Nat} {D : Int} (hD : 0 < D) {f : Int × Int} {N : Int} (h : Val D f N) (b1 : Bd B D) (b2 : Bd B N) : Fr B f := by
  obtain ⟨h1, h2⟩ := h.bd hD
  have := h.p
  unfold Bd at *
  exact ⟨h.p, Nat.lt_of_le_of_lt h2 b2, by unfold Bd; omega⟩
theorem Val.zero {D : Int} : Val D (0, 1) 0 := ⟨by decide, by decide, by simp⟩
theorem pw_uniq {α : Type} {R : α → α → Prop} (as_ : ∀ x y, R x y → ¬ R y x) : ∀ {xs ys : List α}, xs.Perm ys → xs.Pairwise R → ys.Pairwise R → xs = ys
  | [], ys, h, _, _ => by rw [List.nil_perm.mp h]
  | x :: xs, [], h, _, _ => by cases h.length_eq
  | x :: xs, y :: ys, h, h1, h2 => by
    have e : x = y := by
      have a : x ∈ y :: ys := h.mem_iff.mp List.mem_cons_self
      have b : y ∈ x :: xs := h.mem_iff.mpr List.mem_cons_self
      rcases List.mem_cons.mp a with a | a
      · exact a
      · rcases List.mem_cons.mp b with b | b
        · exact b.symm
        · exact absurd (List.rel_of_pairwise_cons h2 a) (as_ _ _ (List.rel_of_pairwise_cons h1 b))
    subst e
    rw [pw_uniq as_ (List.Perm.cons_inv h) (List.Pairwise.of_cons h1) (List.Pairwise.of_cons h2)]
section
variable (a b : Nat → Int)
/-- i goes over ahead of j -/
def Lx (i j : Nat) : Prop := a i * b j < a j * b i ∨ (a i * b j = a j * b i ∧ i < j)
variable {a b}
theorem Lx.asym {i j : Nat} (h : Lx a b i j) : ¬ Lx a b j i := by
  unfold Lx at *
  omega
/-- ratios -/
theorem rt_trans {i j k : Nat} (bi : 0 ≤ b i) (bj : 0 < b j) (bk : 0 ≤ b k) (h1 : a i * b j ≤ a j * b i) (h2 : a j * b k ≤ a k * b j) : a i * b k ≤ a k * b i := by
  have e1 : a i * b j * b k ≤ a j * b i * b k := Int.mul_le_mul_of_nonneg_right h1 bk
  have e2 : a j * b k * b i ≤ a k * b j * b i := Int.mul_le_mul_of_nonneg_right h2 bi
  have e3 : a j * b i * b k = a j * b k * b i := by rw [Int.mul_assoc, Int.mul_comm (b i), Int.mul_assoc]
  have e4 : (a i * b k) * b j ≤ (a k * b i) * b j := by
    have x1 : (a i * b k) * b j = a i * b j * b k := by rw [Int.mul_assoc, Int.mul_comm (b k), Int.mul_assoc]
    have x2 : (a k * b i) * b j = a k * b j * b i := by rw [Int.mul_assoc, Int.mul_comm (b i), Int.mul_assoc]
    omega
  exact Int.le_of_mul_le_mul_right e4 bj
theorem rt_lt {i j k : Nat} (bi : 0 < b i) (bj : 0 < b j) (bk : 0 < b k) (h1 : a i * b j < a j * b i) (h2 : a j * b k ≤ a k * b j) : a i * b k < a k * b i := by
  have h := rt_trans (Int.le_of_lt bi) bj (Int.le_of_lt bk) (Int.le_of_lt h1) h2
  rcases Int.lt_or_eq_of_le h with h | h
  · exact h
  · exfalso
    have h3 : a k * b i ≤ a i * b k := by omega
    have h4 := rt_trans (i := j) (j := k) (k := i) (Int.le_of_lt bj) bk (Int.le_of_lt bi) h2 h3
    omega
variable (a b)
def bstA (x : Nat) (ts : List Nat) : Nat := ts.foldl (fun best t => if a t * b best < a best * b t then t else best) x
variable {a b}
theorem bstA_snoc (x : Nat) (ts : List Nat) (t : Nat) : bstA a b x (ts ++ [t]) = if a t * b (bstA a b x ts) < a (bstA a b x ts) * b t then t else bstA a b x ts := by
  unfold bstA
  rw [List.foldl_append]
  rfl
theorem bstA_spec {x : Nat} : ∀ (l : List Nat), (∀ t ∈ x :: l.reverse, 0 < b t) → (x :: l.reverse).Pairwise (· < ·) → bstA a b x l.reverse ∈ x :: l.reverse ∧ ∀ t ∈ x :: l.reverse, t ≠ bstA a b x l.reverse → Lx a b (bstA a b x l.reverse) t
  | [], _, _ => ⟨by simp [bstA], fun t ht hn => by
    simp [bstA] at ht hn
    exact absurd ht hn⟩
  | y :: l, hb, hp => by
    rw [List.reverse_cons] at hb hp ⊢
    rw [bstA_snoc]
    have hp1 : (x :: l.reverse).Pairwise (· < ·) := by
      rw [← List.cons_append] at hp
      exact (List.pairwise_append.mp hp).1
    have hlt : ∀ t ∈ x :: l.reverse, t < y := fun t ht => by
      rw [← List.cons_append] at hp
      exact (List.pairwise_append.mp hp).2.2 t ht y List.mem_cons_self
    obtain ⟨h1, h2⟩ := bstA_spec l (fun t ht => hb t (by rw [← List.cons_append]; exact List.mem_append_left _ ht)) hp1
    generalize hB : bstA a b x l.reverse = B at h1 h2 ⊢
    have hbB : 0 < b B := hb B (by rw [← List.cons_append]; exact List.mem_append_left _ h1)
    have hby : 0 < b y := hb y (by simp)
    split
    · rename_i hl
      refine ⟨by simp, fun t ht hn => ?_⟩
      rw [← List.cons_append] at ht
      rcases List.mem_append.mp ht with ht | ht
      · by_cases e : t = B
        · subst e; exact .inl hl
        · have hbt : 0 < b t := hb t (by rw [← List.cons_append]; exact List.mem_append_left _ ht)
          have := h2 t ht e
          refine .inl (rt_lt hby hbB hbt hl ?_)
          unfold Lx at this; omega
      · exact absurd (List.mem_singleton.mp ht) hn
    · rename_i hl
      refine ⟨by rw [← List.cons_append]; exact List.mem_append_left _ h1, fun t ht hn => ?_⟩
      rw [← List.cons_append] at ht
      rcases List.mem_append.mp ht with ht | ht
      · exact h2 t ht hn
      · have := List.mem_singleton.mp ht
        subst this
        have := hlt B h1
        unfold Lx
        omega
variable (a b)
def selL : Nat → List Nat → List Nat
  | _, [] => []
  | 0, _ => []
  | f + 1, x :: xs => bstA a b x (x :: xs) :: selL f ((x :: xs).erase (bstA a b x (x :: xs)))
variable {a b}
theorem bstA_self (x : Nat) (xs : List Nat) : bstA a b x (x :: xs) = bstA a b x xs := by
  unfold bstA
  rw [List.foldl_cons, if_neg (by omega)]
theorem bstA_ok {x : Nat} {xs : List Nat} (hb : ∀ t ∈ x :: xs, 0 < b t) (hp : (x :: xs).Pairwise (· < ·)) : bstA a b x (x :: xs) ∈ x :: xs ∧ ∀ t ∈ x :: xs, t ≠ bstA a b x (x :: xs) → Lx a b (bstA a b x (x :: xs)) t := by
  rw [bstA_self]
  have := bstA_spec (a := a) (b := b) (x := x) xs.reverse (by simpa using hb) (by simpa using hp)
  simpa using this
theorem selL_ok : ∀ (f : Nat) (xs : List Nat), xs.length ≤ f → (∀ t ∈ xs, 0 < b t) → xs.Pairwise (· < ·) → (selL a b f xs).Perm xs ∧ (selL a b f xs).Pairwise (Lx a b)
  | _, [], _, _, _ => by unfold selL; exact ⟨.nil, .nil⟩
  | 0, _ :: _, h, _, _ => by simp at h
  | f + 1, x :: xs, h, hb, hp => by
    obtain ⟨h1, h2⟩ := bstA_ok hb hp
    unfold selL
    generalize bstA a b x (x :: xs) = B at h1 h2 ⊢
    have hl : ((x :: xs).erase B).length ≤ f := by rw [List.length_erase_of_mem h1]; simp at h ⊢; omega
    have nd : (x :: xs).Nodup := hp.imp fun h => by omega
    obtain ⟨p1, p2⟩ := selL_ok f ((x :: xs).erase B) hl (fun t ht => hb t (List.mem_of_mem_erase ht)) (hp.sublist List.erase_sublist)
    refine ⟨(p1.cons B).trans (List.perm_cons_erase h1).symm, List.pairwise_cons.mpr ⟨fun t ht => ?_, p2⟩⟩
    have ht := p1.mem_iff.mp ht
    have := (nd.mem_erase_iff).mp ht
    exact h2 t this.2 this.1
def lastP (p : Nat → Bool) (l : List Nat) : Nat := (l.foldl (fun z j => (if p j = true then z.2 + 1 else z.1, z.2 + 1)) (0, 0)).1
theorem lastP_go (p : Nat → Bool) : ∀ (l : List Nat) (x n : Nat), (l.foldl (fun z j => (if p j = true then z.2 + 1 else z.1, z.2 + 1)) (x, n)).2 = n + l.length
  | [], x, n => rfl
  | j :: l, x, n => by rw [List.foldl_cons, lastP_go p l]; simp; omega
theorem lastP_nil (p : Nat → Bool) : lastP p [] = 0 := rfl
theorem lastP_snoc (p : Nat → Bool) (l : List Nat) (j : Nat) : lastP p (l ++ [j]) = if p j = true then l.length + 1 else lastP p l := by
  unfold lastP
  rw [List.foldl_append, List.foldl_cons, List.foldl_nil]
  simp only [lastP_go, Nat.zero_add]
theorem lastP_none (p : Nat → Bool) : ∀ (l l2 : List Nat), (∀ j ∈ l2, p j = false) → lastP p (l ++ l2.reverse) = lastP p l
  | l, [], _ => by simp
  | l, x :: l2, h => by
    rw [List.reverse_cons, ← List.append_assoc, lastP_snoc, h x List.mem_cons_self, if_neg (by simp)]
    exact lastP_none p l l2 fun j hj => h j (List.mem_cons_of_mem _ hj)
theorem lastP_all (p : Nat → Bool) (l l2 : List Nat) (h1 : ∀ j ∈ l, p j = true) (h2 : ∀ j ∈ l2, p j = false) : lastP p (l ++ l2) = l.length := by
  have := lastP_none p l l2.reverse fun j hj => h2 j (List.mem_reverse.mp hj)
  rw [List.reverse_reverse] at this
  rw [this]
  rcases List.eq_nil_or_concat l with rfl | ⟨l', x, rfl⟩
  · rfl
  · rw [List.concat_eq_append] at *
    rw [lastP_snoc, if_pos (h1 x (by simp))]; simp
variable (a b)
/-- j stays ahead of k -/
def ahd (k j : Nat) : Bool := decide (b k = 0) || (decide (0 < b j) && decide (a j * b k ≤ a k * b j))
def insO (ord : List Nat) (k : Nat) : List Nat := ord.take (lastP (ahd a b k) ord) ++ [k] ++ ord.drop (lastP (ahd a b k) ord)
def ordL (ks : List Nat) : List Nat := ks.foldl (insO a b) []
variable {a b}
theorem ordL_snoc (ks : List Nat) (k : Nat) : ordL a b (ks ++ [k]) = insO a b (ordL a b ks) k := by
  unfold ordL
  rw [List.foldl_append]
  rfl
structure OrdI (a b : Nat → Int) (ks pos zs : List Nat) : Prop where
  e : ordL a b ks = pos ++ zs
  p : pos.Pairwise (Lx a b)
  hp : pos.Perm (ks.filter fun k => decide (0 < b k))
  hz : zs.Perm (ks.filter fun k => !decide (0 < b k))
theorem ordI_snoc {ks pos zs : List Nat} {k : Nat} (hb : ∀ t ∈ ks ++ [k], 0 ≤ b t) (hlt : ∀ t ∈ ks, t < k) (h : OrdI a b ks pos zs) : ∃ pos' zs', OrdI a b (ks ++ [k]) pos' zs' := by
  have posb : ∀ t ∈ pos, 0 < b t ∧ t ∈ ks := fun t ht => by
    have := h.hp.mem_iff.mp ht
    rw [List.mem_filter] at this
    exact ⟨by simpa using this.2, this.1⟩
  have zsb : ∀ t ∈ zs, b t = 0 := fun t ht => by
    have := h.hz.mem_iff.mp ht
    rw [List.mem_filter] at this
    have h1 := hb t (List.mem_append_left _ this.1)
    have h2 : ¬ 0 < b t := by simpa using this.2
    omega
  by_cases hk : 0 < b k
  · -- among the positive ones
    have pre : ∀ (l : List Nat), l.Pairwise (Lx a b) → (∀ t ∈ l, 0 < b t) → ∃ u v, l = u ++ v ∧ (∀ j ∈ u, ahd a b k j = true) ∧ ∀ j ∈ v, ahd a b k j = false := by
      intro l
      induction l with
      | nil => intro _ _; exact ⟨[], [], rfl, by simp, by simp⟩
      | cons j l ih =>
        intro hp hb'
        obtain ⟨u, v, e1, e2, e3⟩ := ih (List.Pairwise.of_cons hp) fun t ht => hb' t (List.mem_cons_of_mem _ ht)
        cases hj : ahd a b k j with
        | true => exact ⟨j :: u, v, by rw [e1]; rfl, fun t ht => (List.mem_cons.mp ht).elim (fun z => z ▸ hj) (e2 t), e3⟩
        | false =>
          refine ⟨[], j :: l, rfl, by simp, fun t ht => ?_⟩
          rcases List.mem_cons.mp ht with z | ht
          · exact z ▸ hj
          · have hl := List.rel_of_pairwise_cons hp ht
            have bj := hb' j List.mem_cons_self
            have bt := hb' t (List.mem_cons_of_mem _ ht)
            have hj' : ¬ a j * b k ≤ a k * b j := by
              intro z
              unfold ahd at hj
              simp [bj, z] at hj
            have : ¬ a t * b k ≤ a k * b t := fun z => hj' (rt_trans (Int.le_of_lt bj) bt (Int.le_of_lt hk) (by unfold Lx at hl; omega) z)
            unfold ahd
            simp [this]
            omega
    obtain ⟨u, v, rfl, h1, h2⟩ := pre pos h.p fun t ht => (posb t ht).1
    have hz0 : ∀ j ∈ zs, ahd a b k j = false := fun j hj => by
      unfold ahd
      simp [zsb j hj]
      omega
    have hl : lastP (ahd a b k) (ordL a b ks) = u.length := by
      rw [h.e, List.append_assoc]
      exact lastP_all _ u (v ++ zs) h1 fun j hj => (List.mem_append.mp hj).elim (h2 j) (hz0 j)
    refine ⟨u ++ k :: v, zs, ⟨?_, ?_, ?_, ?_⟩⟩
    · rw [ordL_snoc]
      unfold insO
      rw [hl, h.e, List.append_assoc u v zs, List.take_left, List.drop_left]
      simp
    · obtain ⟨q1, q2, q3⟩ := List.pairwise_append.mp h.p
      refine List.pairwise_append.mpr ⟨q1, List.pairwise_cons.mpr ⟨fun j hj => ?_, q2⟩, fun i hi j hj => ?_⟩
      · have := h2 j hj
        have bj := (posb j (List.mem_append_right _ hj)).1
        unfold ahd at this
        simp [bj] at this
        unfold Lx
        omega
      · rcases List.mem_cons.mp hj with rfl | hj
        · have := h1 i hi
          have bi := posb i (List.mem_append_left _ hi)
          unfold ahd at this
          have hk0 : ¬ b j = 0 := by omega
          simp [bi.1, hk0] at this
          have := hlt i bi.2
          unfold Lx
          omega
        · exact q3 i hi j hj
    · rw [List.filter_append]
      have : [k].filter (fun k => decide (0 < b k)) = [k] := by simp [hk]
      rw [this]
      have h3 : (u ++ k :: v).Perm (u ++ v ++ [k]) := by
        rw [List.append_assoc]
        exact List.Perm.append_left u (List.perm_append_singleton k v).symm
      exact h3.trans (h.hp.append_right [k])
    · rw [List.filter_append]
      have : [k].filter (fun k => !decide (0 < b k)) = [] := by simp [hk]
      rw [this, List.append_nil]
      exact h.hz
  · have hk0 : b k = 0 := by have := hb k (by simp); omega
    have hl : lastP (ahd a b k) (ordL a b ks) = (ordL a b ks).length := by
      have := lastP_all (ahd a b k) (ordL a b ks) [] (fun j _ => by unfold ahd; simp [hk0]) (by simp)
      simpa using this
    refine ⟨pos, zs ++ [k], ⟨?_, h.p, ?_, ?_⟩⟩
    · rw [ordL_snoc]
      unfold insO
      rw [hl, List.take_length, List.drop_length, h.e]
      simp
    · rw [List.filter_append]
      have : [k].filter (fun k => decide (0 < b k)) = [] := by simp [hk]
      rw [this, List.append_nil]
      exact h.hp
    · rw [List.filter_append]
      have : [k].filter (fun k => !decide (0 < b k)) = [k] := by simp [hk0]
      rw [this]
      exact h.hz.append_right [k]
theorem ordI_all : ∀ (l : List Nat), (∀ t ∈ l.reverse, 0 ≤ b t) → l.reverse.Pairwise (· < ·) → ∃ pos zs, OrdI a b l.reverse pos zs
  | [], _, _ => ⟨[], [], ⟨rfl, .nil, .nil, .nil⟩⟩
  | k :: l, hb, hp => by
    rw [List.reverse_cons] at hb hp ⊢
    obtain ⟨p1, _, p3⟩ := List.pairwise_append.mp hp
    obtain ⟨pos, zs, h⟩ := ordI_all l (fun t ht => hb t (List.mem_append_left _ ht)) p1
    exact ordI_snoc hb (fun t ht => p3 t ht k List.mem_cons_self) h
/-- the law's order: the program's, then those to which the other one gives nothing -/
theorem ordL_eq {ks : List Nat} (hb : ∀ t ∈ ks, 0 ≤ b t) (hp : ks.Pairwise (· < ·)) : ∃ zs, ordL a b ks = selL a b ks.length (ks.filter fun k => decide (0 < b k)) ++ zs ∧ zs.Perm (ks.filter fun k => !decide (0 < b k)) := by
  obtain ⟨pos, zs, h⟩ := ordI_all (a := a) (b := b) ks.reverse (by simpa using hb) (by simpa using hp)
  rw [List.reverse_reverse] at h
  obtain ⟨s1, s2⟩ := selL_ok (a := a) (b := b) ks.length (ks.filter fun k => decide (0 < b k)) (List.length_filter_le _ _) (fun t ht => by simpa using (List.mem_filter.mp ht).2) (hp.sublist List.filter_sublist)
  refine ⟨zs, ?_, h.hz⟩
  rw [h.e, pw_uniq (R := Lx a b) (fun x y h => h.asym) (h.hp.trans s1.symm) h.p s2]
end
def sm (n : Nat) (h : Nat → Int) : Int := ((List.range n).map h).sum
theorem sm_zero (h : Nat → Int) : sm 0 h = 0 := rfl
theorem sm_succ (n : Nat) (h : Nat → Int) : sm (n + 1) h = sm n h + h n := by
  unfold sm
  rw [List.range_succ, List.map_append, List.sum_append]
  simp
theorem sm_add (n : Nat) (h g : Nat → Int) : sm n (fun k => h k + g k) = sm n h + sm n g := by
  induction n with
  | zero => rfl
  | succ n ih => rw [sm_succ, sm_succ, sm_succ, ih]; omega
theorem sm_mul (n : Nat) (c : Int) (h : Nat → Int) : sm n (fun k => c * h k) = c * sm n h := by
  induction n with
  | zero => simp [sm_zero]
  | succ n ih => rw [sm_succ, sm_succ, ih, Int.mul_add]
theorem sm_congr {n : Nat} {h g : Nat → Int} (e : ∀ k, k < n → h k = g k) : sm n h = sm n g := by
  induction n with
  | zero => rfl
  | succ n ih => rw [sm_succ, sm_succ, ih fun k hk => e k (by omega), e n (by omega)]
theorem sm_le {n : Nat} {h g : Nat → Int} (e : ∀ k, k < n → h k ≤ g k) : sm n h ≤ sm n g := by
  induction n with
  | zero => exact Int.le_refl _
  | succ n ih => rw [sm_succ, sm_succ]; have := ih fun k hk => e k (by omega); have := e n (by omega); omega
def ind (l : List Nat) (k : Nat) : Int := if k ∈ l then 1 else 0
theorem sm_one {n x : Nat} (w : Nat → Int) (h : x < n) : sm n (fun k => w k * (if k = x then 1 else 0)) = w x := by
  induction n with
  | zero => omega
  | succ n ih =>
    rw [sm_succ]
    by_cases e : x = n
    · subst e
      have : sm x (fun k => w k * (if k = x then 1 else 0)) = sm x (fun _ => 0) := sm_congr fun k hk => by rw [if_neg (by omega), Int.mul_zero]
      have z : sm x (fun _ => (0 : Int)) = 0 := by
        have := sm_mul x 0 (fun _ => 0)
        simpa using this
      rw [this, z]
      simp
    · rw [ih (by omega), if_neg (fun z => e z.symm)]; simp
theorem sm_ind {n : Nat} (w : Nat → Int) : ∀ (l : List Nat), l.Nodup → (∀ x ∈ l, x < n) → sm n (fun k => w k * ind l k) = (l.map w).sum
  | [], _, _ => by
    have : sm n (fun k => w k * ind [] k) = sm n (fun _ => 0 * 0) := sm_congr fun k _ => by simp [ind]
    rw [this, sm_mul]; simp
  | x :: l, nd, hl => by
    have nd' := List.nodup_cons.mp nd
    have e : ∀ k, k < n → w k * ind (x :: l) k = w k * (if k = x then 1 else 0) + w k * ind l k := fun k _ => by
      rw [← Int.mul_add]
      congr 1
      unfold ind
      by_cases h1 : k = x
      · subst h1; simp [nd'.1]
      · simp [h1]
    rw [sm_congr e, sm_add, sm_one w (hl x List.mem_cons_self), sm_ind w l nd'.2 fun y hy => hl y (List.mem_cons_of_mem _ hy)]
    rw [List.map_cons, List.sum_cons]
section
variable {n : Nat} {f g : Nat → Int}
/-- P k of M parts of each thing for the first: both have the same, and it is split at one ratio -/
structure Fair (n : Nat) (f g : Nat → Int) (M : Int) (P : Nat → Int) (S : Int) : Prop where
  m : 0 < M
  p0 : ∀ k, k < n → 0 ≤ P k ∧ P k ≤ M
  s1 : sm n (fun k => f k * P k) = S
  s2 : sm n (fun k => g k * (M - P k)) = S
  r : ∃ A B : Int, 0 ≤ A ∧ 0 ≤ B ∧ 0 < A + B ∧ ∀ k, k < n → (0 < P k → A * g k ≤ f k * B) ∧ (P k < M → f k * B ≤ A * g k)
theorem Fair.swap {M : Int} {P : Nat → Int} {S : Int} (h : Fair n f g M P S) : Fair n g f M (fun k => M - P k) S := by
  obtain ⟨A, B, h1, h2, h3, h4⟩ := h.r
  refine ⟨h.m, fun k hk => by have := h.p0 k hk; omega, h.s2, ?_, B, A, h2, h1, by omega, fun k hk => ⟨fun z => ?_, fun z => ?_⟩⟩
  · rw [← h.s1]
    exact sm_congr fun k _ => by congr 1; omega
  · have := (h4 k hk).2 (by omega)
    rw [Int.mul_comm B, Int.mul_comm (g k)]; exact this
  · have := (h4 k hk).1 (by omega)
    rw [Int.mul_comm B, Int.mul_comm (g k)]; exact this
/-- at least half -/
theorem Fair.half {M : Int} {P : Nat → Int} {S T : Int} (h : Fair n f g M P S) (hf : sm n f = T) (hg : sm n g = T) : T * M ≤ 2 * S := by
  obtain ⟨A, B, h1, h2, h3, h4⟩ := h.r
  -- A * (g of the first's parts) ≤ B * S
  have a1 : A * sm n (fun k => g k * P k) ≤ B * sm n (fun k => f k * P k) := by
    rw [← sm_mul, ← sm_mul]
    refine sm_le fun k hk => ?_
    by_cases z : 0 < P k
    · have := Int.mul_le_mul_of_nonneg_right ((h4 k hk).1 z) (Int.le_of_lt z)
      rw [← Int.mul_assoc, ← Int.mul_assoc, Int.mul_comm B]; exact this
    · have : P k = 0 := by have := h.p0 k hk; omega
      rw [this]; simp
  have a2 : B * sm n (fun k => f k * (M - P k)) ≤ A * sm n (fun k => g k * (M - P k)) := by
    rw [← sm_mul, ← sm_mul]
    refine sm_le fun k hk => ?_
    by_cases z : P k < M
    · have := Int.mul_le_mul_of_nonneg_right ((h4 k hk).2 z) (show 0 ≤ M - P k by omega)
      rw [← Int.mul_assoc, ← Int.mul_assoc, Int.mul_comm B]; exact this
    · have : M - P k = 0 := by have := h.p0 k hk; omega
      rw [this]; simp
  have b1 : sm n (fun k => g k * P k) = T * M - S := by
    have : sm n (fun k => g k * P k) + sm n (fun k => g k * (M - P k)) = sm n (fun k => M * g k) := by
      rw [← sm_add]
      exact sm_congr fun k _ => by rw [← Int.mul_add, Int.mul_comm]; congr 1; omega
    rw [h.s2, sm_mul, hg, Int.mul_comm M] at this
    omega
  have b2 : sm n (fun k => f k * (M - P k)) = T * M - S := by
    have : sm n (fun k => f k * P k) + sm n (fun k => f k * (M - P k)) = sm n (fun k => M * f k) := by
      rw [← sm_add]
      exact sm_congr fun k _ => by rw [← Int.mul_add, Int.mul_comm]; congr 1; omega
    rw [h.s1, sm_mul, hf, Int.mul_comm M] at this
    omega
  rw [b1, h.s1] at a1
  rw [b2, h.s2] at a2
  -- (A + B) * (T M - S) ≤ (A + B) * S
  have c : (A + B) * (T * M - S) ≤ (A + B) * S := by
    rw [Int.add_mul, Int.add_mul]; omega
  have := Int.le_of_mul_le_mul_left c h3
  omega
theorem Fair.le {M M' : Int} {P P' : Nat → Int} {S S' : Int} (h : Fair n f g M P S) (h' : Fair n f g M' P' S') : S' * M ≤ S * M' := by
  obtain ⟨A, B, h1, h2, h3, h4⟩ := h.r
  have m := h.m
  have m' := h'.m
  have key : A * sm n (fun k => g k * (P k * M' - P' k * M)) ≤ B * sm n (fun k => f k * (P k * M' - P' k * M)) := by
    rw [← sm_mul, ← sm_mul]
    refine sm_le fun k hk => ?_
    rw [← Int.mul_assoc, ← Int.mul_assoc, Int.mul_comm B]
    obtain ⟨q1, q2⟩ := h.p0 k hk
    obtain ⟨q3, q4⟩ := h'.p0 k hk
    by_cases z : 0 ≤ P k * M' - P' k * M
    · by_cases z1 : 0 < P k
      · exact Int.mul_le_mul_of_nonneg_right ((h4 k hk).1 z1) z
      · have e1 : P k = 0 := by omega
        have e2 : 0 ≤ P' k * M := Int.mul_nonneg q3 (Int.le_of_lt m)
        have e3 : P k * M' - P' k * M = 0 := by rw [e1, Int.zero_mul] at z ⊢; omega
        rw [e3]; simp
    · by_cases z1 : P k < M
      · have := Int.mul_le_mul_of_nonpos_right ((h4 k hk).2 z1) (show P k * M' - P' k * M ≤ 0 by omega)
        exact this
      · have e1 : P k = M := by omega
        have e2 : P' k * M ≤ M' * M := Int.mul_le_mul_of_nonneg_right q4 (Int.le_of_lt m)
        rw [e1, Int.mul_comm M M'] at z
        omega
  have d1 : sm n (fun k => f k * (P k * M' - P' k * M)) = S * M' - S' * M := by
    have e : ∀ k, k < n → f k * (P k * M' - P' k * M) = M' * (f k * P k) + (-M) * (f k * P' k) := fun k _ => by
      rw [Int.mul_sub, Int.neg_mul, ← Int.mul_assoc, ← Int.mul_assoc, Int.mul_comm M', Int.mul_comm M]; omega
    rw [sm_congr e, sm_add, sm_mul, sm_mul, h.s1, h'.s1, Int.neg_mul, Int.mul_comm M', Int.mul_comm M]; omega
  have d2 : sm n (fun k => g k * (P k * M' - P' k * M)) = S' * M - S * M' := by
    have e : ∀ k, k < n → g k * (P k * M' - P' k * M) = M * (g k * (M' - P' k)) + (-M') * (g k * (M - P k)) := fun k _ => by
      have x1 : M * (g k * (M' - P' k)) = g k * (M' * M) - g k * (P' k * M) := by
        rw [← Int.mul_assoc, Int.mul_comm M (g k), Int.mul_assoc, ← Int.mul_sub, Int.mul_sub, Int.mul_comm M M', Int.mul_comm M]
      have x2 : (-M') * (g k * (M - P k)) = g k * (P k * M') - g k * (M' * M) := by
        rw [Int.neg_mul, ← Int.mul_assoc, Int.mul_comm M' (g k), Int.mul_assoc, ← Int.mul_sub, Int.mul_sub, Int.mul_comm M' (P k), Int.mul_sub, Int.mul_sub]; omega
      rw [x1, x2, Int.mul_sub]; omega
    rw [sm_congr e, sm_add, sm_mul, sm_mul, h.s2, h'.s2, Int.neg_mul, Int.mul_comm M S', Int.mul_comm M' S]; omega
  rw [d1, d2] at key
  have c : (A + B) * (S' * M) ≤ (A + B) * (S * M') := by
    rw [Int.mul_sub, Int.mul_sub] at key
    rw [Int.add_mul, Int.add_mul]; omega
  exact Int.le_of_mul_le_mul_left c h3
theorem Fair.same {M M' : Int} {P P' : Nat → Int} {S S' : Int} (h : Fair n f g M P S) (h' : Fair n f g M' P' S') : S' * M = S * M' := by
  have a := h.le h'
  have b := h'.le h
  omega
end
section
variable (a b : Nat → Int)
/-- the things that go over wholly; the one that goes over in part, with the gap ahead of it -/
def fin_ : List Nat → Int → List Nat × Option (Nat × Int)
  | [], _ => ([], none)
  | k :: ks, gap => if gap ≤ a k + b k then ([], some (k, gap)) else (k :: (fin_ ks (gap - (a k + b k))).1, (fin_ ks (gap - (a k + b k))).2)
variable {a b}
structure FinI (a b : Nat → Int) (ks : List Nat) (gap : Int) (mv : List Nat) (o : Option (Nat × Int)) : Prop where
  pre : ∃ rest, ks = mv ++ rest ∧ (∀ k g, o = some (k, g) → ∃ r2, rest = k :: r2) ∧ (o = none → rest = [])
  gp : ∀ k g, o = some (k, g) → g = gap - (mv.map fun k => a k + b k).sum ∧ 0 ≤ g ∧ g ≤ a k + b k
  nn : o = none → 0 < gap - (mv.map fun k => a k + b k).sum ∨ (mv = [] ∧ ks = [])
theorem fin_ok : ∀ (ks : List Nat) (gap : Int), 0 ≤ gap → FinI a b ks gap (fin_ a b ks gap).1 (fin_ a b ks gap).2
  | [], gap, _ => by
    unfold fin_
    exact ⟨⟨[], rfl, fun k g h => (by cases h), fun _ => rfl⟩, fun k g h => (by cases h), fun _ => .inr ⟨rfl, rfl⟩⟩
  | k :: ks, gap, h0 => by
    unfold fin_
    split
    · rename_i h
      exact ⟨⟨k :: ks, rfl, fun k' g e => (by cases e; exact ⟨ks, rfl⟩), fun e => (by cases e)⟩, fun k' g e => (by cases e; simp; omega), fun e => (by cases e)⟩
    · rename_i h
      have ih := fin_ok ks (gap - (a k + b k)) (by omega)
      obtain ⟨⟨rest, e1, e2, e3⟩, e4, e5⟩ := ih
      refine ⟨⟨rest, by rw [List.cons_append, ← e1], e2, e3⟩, fun k' g e => ?_, fun e => ?_⟩
      · obtain ⟨x1, x2, x3⟩ := e4 k' g e
        refine ⟨?_, x2, x3⟩
        rw [x1, List.map_cons, List.sum_cons]; omega
      · rw [List.map_cons, List.sum_cons]
        rcases e5 e with x | ⟨x, _⟩
        · exact .inl (by omega)
        · rw [x]; exact .inl (by simp; omega)
end
abbrev St_ := Nat → Bool
abbrev Ar_ := List (Int × List Int)
def ownr (ar : Ar_) (p : Nat) : Int := (ar[p]?.map (·.1)).getD 0
def mvs (ar : Ar_) (p : Nat) : List Nat := ((ar[p]?.map (·.2)).getD []).map Int.toNat
/-- from p the side forces the next place into F, within W -/
def cf (ar : Ar_) (s : Int) (W F : St_) (p : Nat) : Bool := if ownr ar p = s then (mvs ar p).any fun m => W m && F m else (mvs ar p).all fun m => !W m || F m
def stp (ar : Ar_) (s : Int) (W F : St_) : St_ := fun p => F p || (W p && cf ar s W F p)
section
variable {ar : Ar_} {s : Int} {W G : St_}
end
/-- no place of the set is below n -/
def emp (n : Nat) (F : St_) : Bool := (List.range n).all fun p => !F p
def topN (nu : List Int) (n : Nat) (W : St_) : Int := maxL (((List.range n).filter W).map fun p => nu.getD p 0)
theorem emp_iff {n : Nat} {F : St_} : emp n F = true ↔ ∀ p, p < n → F p = false := by simp [emp]
abbrev nI (i : Nat) : D := .int (i : Int)
def b144_0 : Ss := .cons (.ret (.tup (.cons (.nm 1) (.cons (.dfl true (.bin .Add (.sli (.nm 0) .no (.so (.nm 1))) (.sli (.nm 0) (.so (.bin .Add (.nm 1) (.lit (.int 1)))) .no)) (.lit (.int 0))) .nil)))) .nil
def b144_1 : Ss := .cons (.set 1 (.ixof (.nm 0) (.blt .max (.cons (.nm 0) .nil)))) b144_0
/-- second_price -/
def b144 : Ss := b144_1
def b145_0 : Ss := .cons (.set 1 (.lc2 [3, 4] [4] (.bin .Add (.nm 3) (.tup (.cons (.nm 4) .nil))) (.nm 3) (.seq (.nm 1)) .no (.nm 4) (.rng1 (.blt .len (.cons (.nm 2) .nil))) (.so (.val (.call 146 (.cons (.nm 3) (.cons (.nm 4) .nil))))))) .nil
def b145_1 : Ss := .cons (.ret (.nm 1)) .nil
def b145_2 : Ss := .cons (.fo (.nm 2) (.seq (.nm 0)) b145_0) b145_1
def b145_3 : Ss := .cons (.set 1 (.lst (.cons (.tup .nil) .nil))) b145_2
/-- sharings -/
def b145 : Ss := b145_3
def b146_0 : Ss := .cons (.ret (.blt .all (.cons (.lc [2] (.cmp .Eq (.bin .BitAnd (.nm 2) (.nm 1)) (.lit (.int 0))) (.nm 2) (.seq (.nm 0)) .no) .nil))) .nil
/-- is_free -/
def b146 : Ss := b146_0
def b147_0 : Ss := .cons (.ret (.blt .sum (.cons (.lc [2, 3] (.idx (.nm 2) (.nm 3)) (.tup (.cons (.nm 2) (.cons (.nm 3) .nil))) (.zip (.nm 0) (.nm 1)) .no) .nil))) .nil
/-- worth_of_sharing -/
def b147 : Ss := b147_0
def b148_0 : Ss := .cons (.set 1 (.nm 2)) .nil
def b148_1 : Ss := .cons (.ifs (.or (.cons (.cmp .Is (.nm 1) (.lit .non)) (.cons (.cmp .Gt (.call 147 (.cons (.nm 0) (.cons (.nm 2) .nil))) (.call 147 (.cons (.nm 0) (.cons (.nm 1) .nil)))) .nil))) b148_0 .nil) .nil
def b148_2 : Ss := .cons (.ret (.nm 1)) .nil
def b148_3 : Ss := .cons (.fo (.nm 2) (.seq (.call 145 (.cons (.nm 0) .nil))) b148_1) b148_2
def b148_4 : Ss := .cons (.set 1 (.lit .non)) b148_3
/-- best_sharing -/
def b148 : Ss := b148_4
def b149_0 : Ss := .cons (.expr (.mth .append 3 (.cons (.bin .Sub (.nm 7) (.bin .Sub (.nm 2) (.idx (.nm 5) (.idx (.nm 1) (.nm 4))))) .nil))) .nil
def b149_1 : Ss := .cons (.set 7 (.call 147 (.cons (.nm 6) (.cons (.call 148 (.cons (.nm 6) .nil)) .nil)))) b149_0
def b149_2 : Ss := .cons (.set 6 (.bin .Add (.sli (.nm 0) .no (.so (.nm 4))) (.sli (.nm 0) (.so (.bin .Add (.nm 4) (.lit (.int 1)))) .no))) b149_1
def b149_3 : Ss := .cons (.ret (.blt .tuple (.cons (.nm 3) .nil))) .nil
def b149_4 : Ss := .cons (.fo (.tup (.cons (.nm 4) (.cons (.nm 5) .nil))) (.enum (.nm 0)) b149_2) b149_3
def b149_5 : Ss := .cons (.set 3 (.lst .nil)) b149_4
def b149_6 : Ss := .cons (.set 2 (.call 147 (.cons (.nm 0) (.cons (.nm 1) .nil)))) b149_5
def b149_7 : Ss := .cons (.set 1 (.call 148 (.cons (.nm 0) .nil))) b149_6
/-- payments -/
def b149 : Ss := b149_7
def b150_0 : Ss := .cons (.ret (.call 106 (.cons (.bin .Sub (.bin .Mult (.idx (.nm 0) (.lit (.int 0))) (.idx (.nm 1) (.lit (.int 1)))) (.bin .Mult (.idx (.nm 1) (.lit (.int 0))) (.idx (.nm 0) (.lit (.int 1))))) (.cons (.bin .Mult (.idx (.nm 0) (.lit (.int 1))) (.idx (.nm 1) (.lit (.int 1)))) .nil)))) .nil
/-- subtract -/
def b150 : Ss := b150_0
def b151_0 : Ss := .cons (.ret (.call 106 (.cons (.bin .Mult (.idx (.nm 0) (.lit (.int 0))) (.idx (.nm 1) (.lit (.int 1)))) (.cons (.bin .Mult (.idx (.nm 0) (.lit (.int 1))) (.idx (.nm 1) (.lit (.int 0)))) .nil)))) .nil
/-- divide -/
def b151 : Ss := b151_0
def b152_0 : Ss := .cons (.set 4 (.bin .Add (.nm 4) (.lc [6] (.lst (.cons (.bin .Add (.idx (.nm 5) (.lit (.int 0))) (.tup (.cons (.nm 6) .nil))) (.cons (.bin .BitOr (.idx (.nm 5) (.lit (.int 1))) (.nm 6)) .nil))) (.nm 6) (.rng1 (.nm 1)) (.so (.cmp .Eq (.bin .BitAnd (.nm 6) (.idx (.nm 5) (.lit (.int 1)))) (.lit (.int 0))))))) .nil
def b152_1 : Ss := .cons (.set 2 (.nm 4)) .nil
def b152_2 : Ss := .cons (.fo (.nm 5) (.seq (.nm 2)) b152_0) b152_1
def b152_3 : Ss := .cons (.set 4 (.lst .nil)) b152_2
def b152_4 : Ss := .cons (.ret (.lc [5] (.idx (.nm 5) (.lit (.int 0))) (.nm 5) (.seq (.nm 2)) .no)) .nil
def b152_5 : Ss := .cons (.fo (.nm 3) (.rng1 (.nm 0)) b152_3) b152_4
def b152_6 : Ss := .cons (.set 2 (.lst (.cons (.lst (.cons (.tup .nil) (.cons (.lit (.int 0)) .nil))) .nil))) b152_5
/-- _law_sharings -/
def b152 : Ss := b152_6
def b153_0 : Ss := .cons (.ret (.blt .sum (.cons (.lc [2] (.idx (.idx (.nm 0) (.nm 2)) (.idx (.nm 1) (.nm 2))) (.nm 2) (.rng1 (.blt .len (.cons (.nm 0) .nil))) .no) .nil))) .nil
/-- _law_sum_of_bids -/
def b153 : Ss := b153_0
def b154_0 : Ss := .cons (.set 2 (.nm 3)) .nil
def b154_1 : Ss := .cons (.ifs (.or (.cons (.cmp .Is (.nm 2) (.lit .non)) (.cons (.cmp .Gt (.call 153 (.cons (.nm 0) (.cons (.nm 3) .nil))) (.call 153 (.cons (.nm 0) (.cons (.nm 2) .nil)))) .nil))) b154_0 .nil) .nil
def b154_2 : Ss := .cons (.ret (.nm 2)) .nil
def b154_3 : Ss := .cons (.fo (.nm 3) (.seq (.call 152 (.cons (.blt .len (.cons (.nm 0) .nil)) (.cons (.nm 1) .nil)))) b154_1) b154_2
def b154_4 : Ss := .cons (.set 2 (.lit .non)) b154_3
/-- _law_best -/
def b154 : Ss := b154_4
def b155_0 : Ss := .cons (.set 9 (.blt .max (.cons (.bin .Add (.lst (.cons (.nm 9) .nil)) (.lc [10] (.idx (.nm 7) (.nm 10)) (.nm 10) (.rng1 (.nm 8)) (.so (.cmp .Eq (.bin .BitAnd (.nm 10) (.nm 8)) (.nm 10))))) .nil))) .nil
def b155_1 : Ss := .cons (.expr (.mth .append 7 (.cons (.nm 9) .nil))) .nil
def b155_2 : Ss := .cons (.ifs (.cmp .Eq (.nm 5) (.lit (.int 1))) b155_0 .nil) b155_1
def b155_3 : Ss := .cons (.set 9 (.bin .Mult (.call 5 (.cons (.nm 0) (.cons (.lit (.int 9)) .nil))) (.nm 3))) b155_2
def b155_4 : Ss := .cons (.expr (.mth .append 4 (.cons (.blt .tuple (.cons (.nm 7) .nil)) .nil))) .nil
def b155_5 : Ss := .cons (.fo (.nm 8) (.rng2 (.lit (.int 1)) (.nm 2)) b155_3) b155_4
def b155_6 : Ss := .cons (.set 7 (.lst (.cons (.lit (.int 0)) .nil))) b155_5
def b155_7 : Ss := .cons (.ret (.lst (.cons (.blt .tuple (.cons (.nm 4) .nil)) (.cons (.nm 5) .nil)))) .nil
def b155_8 : Ss := .cons (.fo (.nm 6) (.rng1 (.nm 1)) b155_6) b155_7
def b155_9 : Ss := .cons (.set 5 (.call 5 (.cons (.nm 0) (.cons (.lit (.int 2)) .nil)))) b155_8
def b155_10 : Ss := .cons (.set 4 (.lst .nil)) b155_9
def b155_11 : Ss := .cons (.set 3 (.call 6 (.cons (.nm 0) (.cons (.lst (.cons (.lit (.int 1)) (.cons (.lit (.int 1)) (.cons (.bin .Pow (.lit (.int 10)) (.lit (.int 20))) .nil)))) .nil)))) b155_10
/-- _law_drawn_bids -/
def b155 : Ss := b155_11
def b156_0 : Ss := .cons .brk .nil
def b156_1 : Ss := .cons (.set 3 (.nm 5)) .nil
def b156_2 : Ss := .cons (.set 2 (.nm 3)) b156_1
def b156_3 : Ss := .cons (.set 5 (.bin .Mod (.blt .int (.cons (.nm 2) .nil)) (.nm 3))) b156_2
def b156_4 : Ss := .cons (.ifs (.cmp .Eq (.nm 3) (.lit (.int 0))) b156_0 .nil) b156_3
def b156_5 : Ss := .cons (.ret (.nm 2)) .nil
def b156_6 : Ss := .cons (.fo (.nm 4) (.rng1 (.lit (.int 400))) b156_4) b156_5
def b156_7 : Ss := .cons (.set 3 (.blt .abs (.cons (.nm 1) .nil))) b156_6
def b156_8 : Ss := .cons (.set 2 (.blt .abs (.cons (.nm 0) .nil))) b156_7
/-- _law_gcd -/
def b156 : Ss := b156_8
def b157_0 : Ss := .cons (.set 2 (.bin .Sub (.lit (.int 0)) (.nm 2))) .nil
def b157_1 : Ss := .cons (.ret (.tup (.cons (.bin .FloorDiv (.nm 0) (.nm 2)) (.cons (.bin .FloorDiv (.nm 1) (.nm 2)) .nil)))) .nil
def b157_2 : Ss := .cons (.ifs (.cmp .Lt (.nm 1) (.lit (.int 0))) b157_0 .nil) b157_1
def b157_3 : Ss := .cons (.set 2 (.blt .max (.cons (.lit (.int 1)) (.cons (.call 156 (.cons (.nm 0) (.cons (.nm 1) .nil))) .nil)))) b157_2
/-- _law_frac -/
def b157 : Ss := b157_3
def b158_0 : Ss := .cons (.ret (.call 157 (.cons (.bin .Add (.bin .Mult (.idx (.nm 0) (.lit (.int 0))) (.idx (.nm 1) (.lit (.int 1)))) (.bin .Mult (.idx (.nm 1) (.lit (.int 0))) (.idx (.nm 0) (.lit (.int 1))))) (.cons (.bin .Mult (.idx (.nm 0) (.lit (.int 1))) (.idx (.nm 1) (.lit (.int 1)))) .nil)))) .nil
/-- _law_plus -/
def b158 : Ss := b158_0
def b159_0 : Ss := .cons (.ret (.call 157 (.cons (.bin .Sub (.bin .Mult (.idx (.nm 0) (.lit (.int 0))) (.idx (.nm 1) (.lit (.int 1)))) (.bin .Mult (.idx (.nm 1) (.lit (.int 0))) (.idx (.nm 0) (.lit (.int 1))))) (.cons (.bin .Mult (.idx (.nm 0) (.lit (.int 1))) (.idx (.nm 1) (.lit (.int 1)))) .nil)))) .nil
/-- _law_minus -/
def b159 : Ss := b159_0
def b160_0 : Ss := .cons (.ret (.call 157 (.cons (.bin .Mult (.idx (.nm 0) (.lit (.int 0))) (.idx (.nm 1) (.lit (.int 0)))) (.cons (.bin .Mult (.idx (.nm 0) (.lit (.int 1))) (.idx (.nm 1) (.lit (.int 1)))) .nil)))) .nil
/-- _law_product -/
def b160 : Ss := b160_0
def b161_0 : Ss := .cons (.ret (.call 157 (.cons (.bin .Mult (.idx (.nm 0) (.lit (.int 0))) (.idx (.nm 1) (.lit (.int 1)))) (.cons (.bin .Mult (.idx (.nm 0) (.lit (.int 1))) (.idx (.nm 1) (.lit (.int 0)))) .nil)))) .nil
/-- _law_quotient -/
def b161 : Ss := b161_0
def b162_0 : Ss := .cons (.ret (.nm 1)) .nil
def b162_1 : Ss := .cons (.ret (.bin .Add (.nm 1) (.bin .Mult (.call 6 (.cons (.nm 0) (.cons (.lst (.cons (.lit (.int 1)) (.cons (.bin .Sub (.lit (.int 0)) (.lit (.int 1))) .nil))) .nil))) (.call 6 (.cons (.nm 0) (.cons (.lst (.cons (.lit (.int 60)) (.cons (.lit (.int 1000003)) (.cons (.bin .Add (.bin .Pow (.lit (.int 10)) (.lit (.int 15))) (.lit (.int 37))) (.cons (.bin .Add (.bin .Pow (.lit (.int 10)) (.lit (.int 18))) (.lit (.int 9))) .nil))))) .nil)))))) .nil
def b162_2 : Ss := .cons (.ifs (.cmp .Gt (.call 5 (.cons (.nm 0) (.cons (.lit (.int 4)) .nil))) (.lit (.int 0))) b162_0 .nil) b162_1
def b162_3 : Ss := .cons (.set 1 (.bin .Sub (.call 5 (.cons (.nm 0) (.cons (.lit (.int 19)) .nil))) (.lit (.int 9)))) b162_2
/-- _law_great -/
def b162 : Ss := b162_3
def b163_0 : Ss := .cons (.set 1 (.lit (.int 12))) .nil
def b163_1 : Ss := .cons (.ret (.call 157 (.cons (.call 162 (.cons (.nm 0) .nil)) (.cons (.nm 1) .nil)))) .nil
def b163_2 : Ss := .cons (.ifs (.cmp .Eq (.nm 1) (.lit (.int 0))) b163_0 .nil) b163_1
def b163_3 : Ss := .cons (.set 1 (.call 162 (.cons (.nm 0) .nil))) b163_2
/-- _law_drawn_fraction -/
def b163 : Ss := b163_3
def T11 : Tb := fun i => match i with
  | 144 => some ⟨["bids"], ["bids", "winner"], b144⟩
  | 145 => some ⟨["bids"], ["bids", "found", "row", "told", "things"], b145⟩
  | 146 => some ⟨["told", "things"], ["told", "things", "other"], b146⟩
  | 147 => some ⟨["bids", "sharing"], ["bids", "sharing", "row", "things"], b147⟩
  | 148 => some ⟨["bids"], ["bids", "best", "sharing"], b148⟩
  | 149 => some ⟨["bids"], ["bids", "best", "whole", "found", "bidder", "row", "others", "without"], b149⟩
  | 150 => some ⟨["f", "g"], ["f", "g"], b150⟩
  | 151 => some ⟨["f", "g"], ["f", "g"], b151⟩
  | 152 => some ⟨["many", "sets"], ["many", "sets", "found", "k", "grown", "pair", "one"], b152⟩
  | 153 => some ⟨["bids", "sharing"], ["bids", "sharing", "k"], b153⟩
  | 154 => some ⟨["bids", "sets"], ["bids", "sets", "best", "sharing"], b154⟩
  | 155 => some ⟨["draws", "many", "sets"], ["draws", "many", "sets", "scale", "rows", "rising", "k", "row", "one", "bid", "part"], b155⟩
  | 156 => some ⟨["one", "other"], ["one", "other", "a", "b", "turn", "c"], b156⟩
  | 157 => some ⟨["n", "d"], ["n", "d", "c"], b157⟩
  | 158 => some ⟨["one", "other"], ["one", "other"], b158⟩
  | 159 => some ⟨["one", "other"], ["one", "other"], b159⟩
  | 160 => some ⟨["one", "other"], ["one", "other"], b160⟩
  | 161 => some ⟨["one", "other"], ["one", "other"], b161⟩
  | 162 => some ⟨["draws"], ["draws", "small"], b162⟩
  | 163 => some ⟨["draws"], ["draws", "d"], b163⟩
  | _ => none
class A11 (Δ : Tb) : Prop where
  h : ∀ i, 144 ≤ i → i < 164 → Δ i = T11 i
theorem fn146 (Δ : Tb) [A11 Δ] (k : Nat) : callN Δ (k + 1) 146 = runDef (callN Δ k) ⟨["told", "things"], ["told", "things", "other"], b146⟩ := by
  show (fun args => (Δ 146).bind fun d => runDef (callN Δ k) d args) = _
  rw [show Δ 146 = T11 146 from A11.h 146 (by decide) (by decide)]
  rfl
theorem fn150 (Δ : Tb) [A11 Δ] (k : Nat) : callN Δ (k + 1) 150 = runDef (callN Δ k) ⟨["f", "g"], ["f", "g"], b150⟩ := by
  show (fun args => (Δ 150).bind fun d => runDef (callN Δ k) d args) = _
  rw [show Δ 150 = T11 150 from A11.h 150 (by decide) (by decide)]
  rfl
theorem fn156 (Δ : Tb) [A11 Δ] (k : Nat) : callN Δ (k + 1) 156 = runDef (callN Δ k) ⟨["one", "other"], ["one", "other", "a", "b", "turn", "c"], b156⟩ := by
  show (fun args => (Δ 156).bind fun d => runDef (callN Δ k) d args) = _
  rw [show Δ 156 = T11 156 from A11.h 156 (by decide) (by decide)]
  rfl
theorem fn157 (Δ : Tb) [A11 Δ] (k : Nat) : callN Δ (k + 1) 157 = runDef (callN Δ k) ⟨["n", "d"], ["n", "d", "c"], b157⟩ := by
  show (fun args => (Δ 157).bind fun d => runDef (callN Δ k) d args) = _
  rw [show Δ 157 = T11 157 from A11.h 157 (by decide) (by decide)]
  rfl
theorem fn158 (Δ : Tb) [A11 Δ] (k : Nat) : callN Δ (k + 1) 158 = runDef (callN Δ k) ⟨["one", "other"], ["one", "other"], b158⟩ := by
  show (fun args => (Δ 158).bind fun d => runDef (callN Δ k) d args) = _
  rw [show Δ 158 = T11 158 from A11.h 158 (by decide) (by decide)]
  rfl
theorem fn159 (Δ : Tb) [A11 Δ] (k : Nat) : callN Δ (k + 1) 159 = runDef (callN Δ k) ⟨["one", "other"], ["one", "other"], b159⟩ := by
  show (fun args => (Δ 159).bind fun d => runDef (callN Δ k) d args) = _
  rw [show Δ 159 = T11 159 from A11.h 159 (by decide) (by decide)]
  rfl
theorem fn160 (Δ : Tb) [A11 Δ] (k : Nat) : callN Δ (k + 1) 160 = runDef (callN Δ k) ⟨["one", "other"], ["one", "other"], b160⟩ := by
  show (fun args => (Δ 160).bind fun d => runDef (callN Δ k) d args) = _
  rw [show Δ 160 = T11 160 from A11.h 160 (by decide) (by decide)]
  rfl
theorem fn161 (Δ : Tb) [A11 Δ] (k : Nat) : callN Δ (k + 1) 161 = runDef (callN Δ k) ⟨["one", "other"], ["one", "other"], b161⟩ := by
  show (fun args => (Δ 161).bind fun d => runDef (callN Δ k) d args) = _
  rw [show Δ 161 = T11 161 from A11.h 161 (by decide) (by decide)]
  rfl
def fre (t : List Nat) (x : Nat) : Bool := t.all fun o => decide (o &&& x = 0)
def Sg (m : Nat) (t : List Nat) : Prop := (∀ x ∈ t, x < m) ∧ t.Pairwise fun a b => a &&& b = 0
theorem Sg.erase {m : Nat} {t : List Nat} (h : Sg m t) (k : Nat) : Sg m (t.eraseIdx k) := ⟨fun x hx => h.1 x (List.mem_of_mem_eraseIdx hx), h.2.sublist (List.eraseIdx_sublist ..)⟩
theorem two {x : Nat} (h : x < 2) : x = 0 ∨ x = 1 := by omega
set_option exponentiation.threshold 10000
def tN (t : List Nat) : D := .tup (t.map nI)
theorem bandN (a b : Nat) : binS .BitAnd (nI a) (nI b) = some (.v (nI (a &&& b))) := by
  show some (Op.v (D.int (Builtin.bitAnd (a : Int) (b : Int)))) = _
  rw [band_nn]
theorem eq0b (a : Nat) : (((a : Nat) : Int) == 0) = decide (a = 0) := by
  by_cases h : a = 0
  · subst h; rfl
  · rw [decide_eq_false h, beq_eq_false_iff_ne]; omega
theorem free_ok (Δ : Tb) [A11 Δ] (k : Nat) (t : List Nat) (x : Nat) (ht : t.length ≤ 1000) : callN Δ (k + 1) 146 [.fz (tN t), .fz (nI x)] = some (.v (.bl (fre t x)), [.fz (tN t), .fz (nI x)]) := by
  refine eq_of ?_
  rw [fn146]
  generalize callN Δ k = cl
  unfold tN
  walk_at "in"
  refine kt ?_
  simp_arith! []
  refine lcH (fun b : Bool => D.bl b) (fun o => decide (o &&& x = 0)) (f := nI) (fun o ho => ?_) ?_
  · simp_arith! [bandN]
    rw [eq0b]
  · simp_arith! []
    refine ⟨by omega, ?_⟩
    unfold fre
    rw [List.all_map]
    rfl

theorem num_atN {nu : List Int} {p : Nat} (h : p < nu.length) : idxS (tupI nu) (nI p) = some (.int (nu.getD p 0)) := atI_map (by rw [List.getD_eq_getElem?_getD, List.getElem?_eq_getElem h]; rfl)
set_option exponentiation.threshold 10000
def nz (n d : Int) : Int × Int := if d < 0 then nf (-n) (-d) else nf n d
theorem nz_pos {n d : Int} (h : d ≠ 0) : 0 < (nz n d).2 := by
  unfold nz
  split
  · exact nf_pos (by omega)
  · exact nf_pos (by omega)
theorem nf_small {n d : Int} (h : 0 < d) : (nf n d).1.natAbs ≤ n.natAbs ∧ (nf n d).2.natAbs ≤ d.natAbs := by
  obtain ⟨h1, h2⟩ := nf_mul (n := n) (d := d)
  have hg := gcd_pos (n := n) h
  have a1 := congrArg Int.natAbs h1
  have a2 := congrArg Int.natAbs h2
  rw [Int.natAbs_mul, Int.natAbs_natCast] at a1 a2
  exact ⟨a1 ▸ Nat.le_mul_of_pos_left _ hg, a2 ▸ Nat.le_mul_of_pos_left _ hg⟩
theorem nz_small {n d : Int} (h : d ≠ 0) : (nz n d).1.natAbs ≤ n.natAbs ∧ (nz n d).2.natAbs ≤ d.natAbs := by
  unfold nz
  split
  · have := nf_small (n := -n) (d := -d) (by omega)
    omega
  · exact nf_small (by omega)
theorem nf_self {f : Int × Int} (h : 0 < f.2) (hc : Nat.Coprime f.1.natAbs f.2.natAbs) : nf f.1 f.2 = f := by
  obtain ⟨e1, e2⟩ := nf_uniq (nf_pos h) h (nf_cop h) hc (nf_cross (n := f.1) (d := f.2))
  exact Prod.ext e1 e2
theorem nz_mul {f : Int × Int} (h : 0 < f.2) (hc : Nat.Coprime f.1.natAbs f.2.natAbs) {c : Int} (hc0 : c ≠ 0) : nz (f.1 * c) (f.2 * c) = f := by
  have e := nf_self h hc
  unfold nz
  rcases Int.lt_or_gt_of_ne hc0 with q | q
  · have := Int.mul_neg_of_pos_of_neg h q
    rw [if_pos this]
    refine (nf_eq (by omega) h ?_).trans e
    rw [Int.neg_mul, Int.mul_neg, Int.mul_assoc, Int.mul_comm c]
  · have := Int.mul_pos h q
    rw [if_neg (by omega)]
    refine (nf_eq this h ?_).trans e
    rw [Int.mul_assoc, Int.mul_comm c]
theorem nz_zero {c : Int} (hc0 : c ≠ 0) : nz 0 c = (0, 1) := by
  have := nz_mul (f := (0, 1)) (by decide) (by decide) hc0
  simpa using this
theorem fraction_any (Δ : Tb) [A8 Δ] (k : Nat) (n d : Int) (hd : d ≠ 0) (hb : Bd 9000 d) : callN Δ (k + 1) 106 [.fz (.int n), .fz (.int d)] = some (.v (frD (nz n d)), [.fz (.int n), .fz (.int d)]) := by
  by_cases hp : 0 < d
  · rw [fraction_ok Δ k n d hp hb]
    unfold nz
    rw [if_neg (by omega)]
    rfl
  have hn : d < 0 := by omega
  refine eq_of ?_
  rw [fn106]
  generalize callN Δ k = cl
  have hg := gcd_pos (n := -n) (d := -d) (by omega)
  have hl := gcd_le (n := -n) (d := -d) (by omega)
  have hg2 : Bd 9000 (Int.gcd (-n) (-d) : Int) := by unfold Bd at hb ⊢; omega
  have dvg := fun a => dv_ok (a := a) (b := (Int.gcd (-n) (-d) : Int)) (by omega) hg2
  have u1 : ∀ i : Int, unS .USub (.int i) = some (.int (-i)) := fun _ => rfl
  walk_at "in"
  refine kt ?_
  simp_arith! []
  refine ⟨fun _ => ?_, fun z => by omega⟩
  refine kt ?_
  simp_arith! [u1]
  refine kt ?_
  simp_arith! []
  refine kt ?_
  rw [show Nat.gcd (-n).natAbs (-d).natAbs = Int.gcd (-n) (-d) from rfl]
  simp_arith! [dvg]
  unfold nz
  rw [if_pos hn]
  rfl
set_option maxHeartbeats 0 in
theorem lgcd_ok (Δ : Tb) [A11 Δ] (k : Nat) (n d : Int) (hb : Bd 199 d) : callN Δ (k + 1) 156 [.fz (.int n), .fz (.int d)] = some (.v (.int (Int.gcd n d : Int)), [.fz (.int n), .fz (.int d)]) := by
  refine eq_of ?_
  rw [fn156]
  generalize callN Δ k = cl
  walk_at "in"
  refine kt ?_
  simp_arith! [abs_i]
  refine kt ?_
  simp_arith! [abs_i]
  have he := eu_gcd 199 400 n.natAbs d.natAbs hb (by omega)
  rw [show Nat.gcd n.natAbs d.natAbs = Int.gcd n d from rfl] at he
  generalize Int.gcd n d = g at he
  refine kt ?_
  simp_arith! []
  refine foR (fun t e => ∃ (a b : Nat) (s4 s5 : Sl), fr s4 = true ∧ fr s5 = true ∧ eu (400 - t) a b = (g, 0) ∧ e = [.fz (.int n), .fz (.int d), .fz (.int (a : Int)), .fz (.int (b : Int)), s4, s5]) ⟨n.natAbs, d.natAbs, _, _, rfl, rfl, he, rfl⟩ ?_ ?_
  · rintro t ht e ⟨a, b, s4, s5, f4, f5, hab, rfl⟩
    obtain ⟨j, hj⟩ : ∃ j, 400 - t = j + 1 := ⟨400 - t - 1, by omega⟩
    rw [hj] at hab
    simp_arith! [f4]
    refine kt ?_
    simp_arith! []
    refine ⟨fun z => ?_, fun z => ?_⟩
    · have hb0 : b = 0 := by omega
      subst hb0
      rw [eu_zero] at hab
      cases hab
      refine kt ?_
      simp_arith! []
      refine kt ?_
      simp_arith! []
    · have hb0 : ¬ b = 0 := by omega
      rw [eu, if_neg hb0] at hab
      refine kt ?_
      simp_arith! [mod_nn (a := a) (Nat.pos_of_ne_zero hb0), f5]
      refine kt ?_
      simp_arith! []
      refine kt ?_
      simp_arith! []
      refine ⟨b, a % b, _, _, rfl, rfl, ?_, rfl⟩
      rw [show 400 - (t + 1) = j by omega]
      exact hab
  · rintro e ⟨a, b, s4, s5, f4, f5, hab, rfl⟩
    rw [show Int.toNat 400 = 400 from rfl, Nat.sub_self] at hab
    cases hab
    simp_arith! []
    refine kt ?_
    simp_arith! []
theorem dv_neg {a b : Int} (h : b < 0) (hb : Bd 9000 b) : binS .FloorDiv (.int a) (.int b) = some (.v (.int (a.fdiv b))) := by
  show (if divOk a b = true then some (Op.v (.int (a / b))) else if b < 0 ∧ b.natAbs.log2 < 9000 then some (Op.v (.int (a.fdiv b))) else none) = _
  have h1 : divOk a b = false := by
    unfold divOk
    rw [decide_eq_false (show ¬ L2.CDiv a b from fun z => by have := z.1; omega), decide_eq_false (show ¬ L2.CDivW a b from fun z => by have := z.1; omega)]
    rfl
  rw [h1, if_neg (by simp), if_pos ⟨h, (Nat.log2_lt (by omega)).mpr hb⟩]
theorem fdiv_neg {g a n : Int} (hg : 0 < g) (h : n = g * a) : n.fdiv (0 - g) = (-n) / g := by
  have e1 : n = (0 - g) * (-a) := by rw [h, Int.zero_sub, Int.neg_mul_neg]
  rw [e1, Int.mul_fdiv_cancel_left _ (by omega), Int.zero_sub, Int.neg_mul_neg, ← Int.mul_neg, Int.mul_ediv_cancel_left _ (by omega)]
set_option maxHeartbeats 0 in
theorem lfrac_ok (Δ : Tb) [A11 Δ] (k : Nat) (n d : Int) (hd : d ≠ 0) (hb : Bd 199 d) : callN Δ (k + 2) 157 [.fz (.int n), .fz (.int d)] = some (.v (frD (nz n d)), [.fz (.int n), .fz (.int d)]) := by
  refine eq_of ?_
  have h156 := lgcd_ok Δ k n d hb
  rw [fn157]
  generalize callN Δ (k + 1) = cl at h156
  have hg : 0 < Int.gcd n d := Nat.pos_of_ne_zero fun z => hd (Int.gcd_eq_zero_iff.mp z).2
  have hl : Int.gcd n d ≤ d.natAbs := Nat.le_of_dvd (by omega) (Nat.gcd_dvd_right ..)
  have hg2 : Bd 9000 (Int.gcd n d : Int) := by
    have h2 : Bd 9000 d := hb.mono (by omega)
    unfold Bd at h2 ⊢; omega
  obtain ⟨m1, m2⟩ := nf_mul (n := n) (d := d)
  have hge : Int.gcd (-n) (-d) = Int.gcd n d := by rw [Int.gcd_neg, Int.neg_gcd]
  walk_at "in"
  refine kt ?_
  have mx2 : bltS .max [.int 1, .int (Int.gcd n d : Int)] = some (.v (.int (Int.gcd n d : Int))) := by
    show some (Op.v (.int (if (Int.gcd n d : Int) > 1 then (Int.gcd n d : Int) else 1))) = _
    congr 3
    split <;> omega
  simp_arith! [h156, mx2]
  refine kt ?_
  simp_arith! []
  refine ⟨fun hn => ?_, fun hn => ?_⟩
  · have dvg := fun a => dv_neg (a := a) (b := (0 - (Int.gcd n d : Int))) (by omega) (by unfold Bd at hg2 ⊢; omega)
    refine kt ?_
    simp_arith! []
    refine kt ?_
    simp_arith! [dvg]
    unfold nz nf
    rw [if_pos hn, hge]
    have e1 := fdiv_neg (g := (Int.gcd n d : Int)) (by omega) m1
    have e2 := fdiv_neg (g := (Int.gcd n d : Int)) (by omega) m2
    rw [e1, e2]
    rfl
  · have dvg := fun a => dv_ok (a := a) (b := (Int.gcd n d : Int)) (by omega) hg2
    refine kt ?_
    simp_arith! [dvg]
    unfold nz nf
    rw [if_neg hn]
    rfl
/-- a fraction in lowest terms, of at most 61 bits -/
structure Fq (f : Int × Int) : Prop where
  p : 0 < f.2
  c : Nat.Coprime f.1.natAbs f.2.natAbs
  n : Bd 61 f.1
  d : Bd 61 f.2
theorem Fq.fr {f : Int × Int} (h : Fq f) : Fr 4000 f := ⟨h.p, h.n.mono (by omega), h.d.mono (by omega)⟩
def subF (f g : Int × Int) : Int × Int := nz (f.1 * g.2 - g.1 * f.2) (f.2 * g.2)
def divF (f g : Int × Int) : Int × Int := nz (f.1 * g.2) (f.2 * g.1)
theorem nz_nf {n d : Int} (h : 0 < d) : nz n d = nf n d := by unfold nz; rw [if_neg (by omega)]
theorem Val.sub {D : Int} {f g : Int × Int} {N M : Int} (h : Val D f N) (k : Val D g M) : Val D (subF f g) (N - M) := by
  have hp := Int.mul_pos h.p k.p
  unfold subF
  rw [nz_nf hp]
  refine Val.of_nf hp ?_
  have a : (f.1 * g.2 - g.1 * f.2) * D = f.1 * D * g.2 - g.1 * D * f.2 := by
    rw [Int.sub_mul]
    simp [Int.mul_comm, Int.mul_left_comm]
  rw [a, h.e, k.e, Int.sub_mul]
  simp [Int.mul_comm, Int.mul_left_comm]
theorem Val.unit {D : Int} : Val D (1, 1) D := ⟨by decide, by decide, by simp⟩
theorem Val.int (n : Int) : Val 1 (n, 1) n := ⟨by show (0 : Int) < 1; decide, by simp, by simp⟩
theorem Val.intD (D n : Int) : Val D (n, 1) (n * D) := ⟨by show (0 : Int) < 1; decide, by simp, by simp⟩
theorem Val.nz {g c : Int} (hc : 0 < c) : Val c (nz g c) g := by
  rw [nz_nf hc]
  exact Val.of_nf hc rfl
theorem Val.imul {D n : Int} {f : Int × Int} {N : Int} (h : Val D f N) : Val D (mulF (n, 1) f) (n * N) := by
  have := (Val.int n).mul h
  rwa [Int.one_mul] at this
theorem Val.mulI {D n : Int} {f : Int × Int} {N : Int} (h : Val D f N) : Val D (mulF f (n, 1)) (N * n) := by
  have := h.mul (Val.int n)
  rwa [Int.mul_one] at this
/-- a giver's part of a thing -/
def pM (a b : Nat → Int) : Option (Nat × Int) → Int
  | some (k, _) => a k + b k
  | none => 1
def pX (o : Option (Nat × Int)) (k : Nat) : Int := match o with
  | some (k', g) => if k = k' then g else 0
  | none => 0
def pY (w : Nat → Int) : Option (Nat × Int) → Int
  | some (k, g) => g * w k
  | none => 0
def pP (a b : Nat → Int) (held mv : List Nat) (o : Option (Nat × Int)) (k : Nat) : Int := pM a b o * ind held k - pM a b o * ind mv k - pX o k
def pF (a b : Nat → Int) (held mv : List Nat) (o : Option (Nat × Int)) (k : Nat) : Int × Int :=
  if k ∈ held then (if k ∈ mv then (0, 1) else match o with
    | some (k', g) => if k = k' then subF (1, 1) (nz g (a k' + b k')) else (1, 1)
    | none => (1, 1)) else (0, 1)
structure ShE (a b : Nat → Int) (n : Nat) (held pos mv : List Nat) (o : Option (Nat × Int)) (T gap : Int) : Prop where
  a0 : ∀ k, k < n → 0 ≤ a k
  b0 : ∀ k, k < n → 0 ≤ b k
  at_ : sm n a = T
  bt : sm n b = T
  hn : held.Nodup
  hl : ∀ k ∈ held, k < n
  h1 : ∀ k, k < n → k ∈ held → b k ≤ a k
  h2 : ∀ k, k < n → k ∉ held → a k ≤ b k
  pp : pos.Perm (held.filter fun k => decide (0 < b k))
  ps : pos.Pairwise (Lx a b)
  ge : gap = (held.map a).sum - (sm n b - (held.map b).sum)
  g0 : 0 ≤ gap
  fin : FinI a b pos gap mv o
section
variable {a b : Nat → Int} {n : Nat} {held pos mv : List Nat} {o : Option (Nat × Int)} {T gap : Int}
theorem sum_addf (w v : Nat → Int) : ∀ l : List Nat, (l.map fun k => w k + v k).sum = (l.map w).sum + (l.map v).sum
  | [] => rfl
  | x :: l => by
    have := sum_addf w v l
    simp [this]; omega
theorem ShE.posb (h : ShE a b n held pos mv o T gap) {k : Nat} (hk : k ∈ pos) : k ∈ held ∧ 0 < b k ∧ k < n := by
  have := h.pp.mem_iff.mp hk
  rw [List.mem_filter] at this
  exact ⟨this.1, by simpa using this.2, h.hl k this.1⟩
theorem ShE.posn (h : ShE a b n held pos mv o T gap) : pos.Nodup := h.pp.nodup_iff.mpr (h.hn.filter _)
theorem sum_perm {l l' : List Nat} (w : Nat → Int) (h : l.Perm l') : (l.map w).sum = (l'.map w).sum := by
  induction h with
  | nil => rfl
  | cons x _ ih => simp [ih]
  | swap x y l => simp; omega
  | trans _ _ h1 h2 => exact h1.trans h2
theorem sum_flt (w : Nat → Int) (p : Nat → Bool) : ∀ (l : List Nat), (l.map w).sum = ((l.filter p).map w).sum + ((l.filter fun k => !p k).map w).sum
  | [] => rfl
  | x :: l => by
    have ih := sum_flt w p l
    rw [List.map_cons, List.sum_cons]
    cases hp : p x <;> simp [hp] <;> omega
/-- something goes over in part, or there is nothing to go over and the gap is 0 -/
theorem ShE.none_ (h : ShE a b n held pos mv o T gap) (e : o = none) : pos = [] ∧ mv = [] ∧ gap = 0 := by
  obtain ⟨rest, e1, _, e3⟩ := h.fin.pre
  have e3 := e3 e
  subst e3
  rw [List.append_nil] at e1
  subst e1
  -- the giver keeps those of b = 0 alone: no more than T; the other one has all of T
  have s1 : (held.map fun k => a k + b k).sum = (held.map a).sum + (held.map b).sum := sum_addf a b held
  have s2 : (pos.map fun k => a k + b k).sum = ((held.filter fun k => decide (0 < b k)).map fun k => a k + b k).sum := sum_perm _ h.pp
  have s3 := sum_flt (fun k => a k + b k) (fun k => decide (0 < b k)) held
  have s4 : ((held.filter fun k => !decide (0 < b k)).map fun k => a k + b k).sum ≤ T := by
    have e1 : ((held.filter fun k => !decide (0 < b k)).map fun k => a k + b k).sum = ((held.filter fun k => !decide (0 < b k)).map a).sum := by
      congr 1
      refine List.map_congr_left fun k hk => ?_
      rw [List.mem_filter] at hk
      have h1 := h.b0 k (h.hl k hk.1)
      have h2 : ¬ 0 < b k := by simpa using hk.2
      omega
    rw [e1, ← sm_ind a _ (h.hn.filter _) (fun k hk => h.hl k (List.mem_filter.mp hk).1), ← h.at_]
    refine sm_le fun k hk => ?_
    have := h.a0 k hk
    unfold ind
    split <;> omega
  have hg := h.ge
  rw [h.bt] at hg
  have hz := h.g0
  rcases h.fin.nn e with z | ⟨z1, z2⟩
  · exfalso
    omega
  · refine ⟨z2, z2, ?_⟩
    rw [z2] at s2
    simp only [List.map_nil, List.sum_nil] at s2
    omega
theorem ShE.fair (h : ShE a b n held pos mv o T gap) : Fair n a b (pM a b o) (pP a b held mv o) (pM a b o * ((held.map a).sum - (mv.map a).sum) - pY a o) := by
  obtain ⟨rest, e1, e2, e3⟩ := h.fin.pre
  have mvp : ∀ k ∈ mv, k ∈ pos := fun k hk => by rw [e1]; exact List.mem_append_left _ hk
  have mvn : mv.Nodup := (List.nodup_append.mp (e1 ▸ h.posn)).1
  have mvh : ∀ k ∈ mv, k ∈ held := fun k hk => (h.posb (mvp k hk)).1
  -- the thing that goes over in part
  have part : ∀ k g, o = some (k, g) → k ∈ pos ∧ k ∉ mv ∧ (∀ j ∈ mv, Lx a b j k) ∧ (∀ j ∈ pos, j ∉ mv → j ≠ k → Lx a b k j) := fun k g e => by
    obtain ⟨r2, rfl⟩ := e2 k g e
    have nd := h.posn
    have ps := h.ps
    rw [e1] at nd ps
    obtain ⟨q1, q2, q3⟩ := List.pairwise_append.mp ps
    refine ⟨by rw [e1]; simp, fun z => (List.nodup_append.mp nd).2.2 k z k (by simp) rfl, fun j hj => q3 j hj k (by simp), fun j hj hn hne => ?_⟩
    rw [e1] at hj
    rcases List.mem_append.mp hj with z | z
    · exact absurd z hn
    · rcases List.mem_cons.mp z with z | z
      · exact absurd z hne
      · exact List.rel_of_pairwise_cons q2 z
  have hM : 0 < pM a b o := by
    cases ho : o with
    | none => simp [pM]
    | some z =>
      obtain ⟨k, g⟩ := z
      have h1 := h.posb (part k g ho).1
      have := h.a0 k h1.2.2
      show 0 < a k + b k
      omega
  have lin : ∀ w : Nat → Int, sm n (fun k => w k * pP a b held mv o k) = pM a b o * ((held.map w).sum - (mv.map w).sum) - pY w o := fun w => by
    have e : ∀ k, k < n → w k * pP a b held mv o k = pM a b o * (w k * ind held k) + ((-pM a b o) * (w k * ind mv k) + (-1) * (w k * pX o k)) := fun k _ => by
      unfold pP
      rw [Int.mul_sub, Int.mul_sub, Int.neg_mul, ← Int.mul_assoc (pM a b o), Int.mul_comm (pM a b o) (w k), Int.mul_assoc, ← Int.mul_assoc (pM a b o) (w k), Int.mul_comm (pM a b o) (w k), Int.mul_assoc]
      omega
    rw [sm_congr e, sm_add, sm_add, sm_mul, sm_mul, sm_mul, sm_ind w held h.hn h.hl, sm_ind w mv mvn fun k hk => h.hl k (mvh k hk)]
    have x : sm n (fun k => w k * pX o k) = pY w o := by
      cases ho : o with
      | none =>
        have : sm n (fun k => w k * pX none k) = sm n (fun _ => 0 * 0) := sm_congr fun k _ => by simp [pX]
        rw [this, sm_mul]; simp [pY]
      | some z =>
        obtain ⟨k', g⟩ := z
        have hk := (h.posb (part k' g ho).1).2.2
        have : sm n (fun k => w k * pX (some (k', g)) k) = sm n (fun k => g * (w k * (if k = k' then 1 else 0))) := sm_congr fun k _ => by
          unfold pX
          by_cases z : k = k'
          · simp [z, Int.mul_comm]
          · simp [z]
        rw [this, sm_mul, sm_one w hk]
        rfl
    rw [x, Int.mul_sub, Int.neg_mul]
    omega
  have pv : ∀ k, k < n → (k ∉ held ∧ pP a b held mv o k = 0) ∨ (k ∈ mv ∧ pP a b held mv o k = 0) ∨ (k ∈ held ∧ k ∉ mv ∧ (∀ g, o ≠ some (k, g)) ∧ pP a b held mv o k = pM a b o) ∨ (k ∈ held ∧ ∃ g, o = some (k, g) ∧ pP a b held mv o k = pM a b o - g) := fun k hk => by
    by_cases z1 : k ∈ held
    · by_cases z2 : k ∈ mv
      · refine .inr (.inl ⟨z2, ?_⟩)
        have : pX o k = 0 := by
          unfold pX
          cases ho : o with
          | none => rfl
          | some z =>
            obtain ⟨k', g⟩ := z
            have := (part k' g ho).2.1
            simp only
            rw [if_neg fun (q : k = k') => this (q ▸ z2)]
        unfold pP ind
        rw [if_pos z1, if_pos z2, this]; omega
      · cases ho : o with
        | none =>
          refine .inr (.inr (.inl ⟨z1, z2, fun g q => (by cases q), ?_⟩))
          unfold pP ind pX
          rw [if_pos z1, if_neg z2]; simp
        | some z =>
          obtain ⟨k', g⟩ := z
          by_cases z3 : k = k'
          · subst z3
            refine .inr (.inr (.inr ⟨z1, g, rfl, ?_⟩))
            unfold pP ind pX
            rw [if_pos z1, if_neg z2]; simp
          · refine .inr (.inr (.inl ⟨z1, z2, fun g' q => z3 (by cases q; rfl), ?_⟩))
            unfold pP ind pX
            rw [if_pos z1, if_neg z2]; simp [z3]
    · refine .inl ⟨z1, ?_⟩
      have z2 : k ∉ mv := fun q => z1 (mvh k q)
      have : pX o k = 0 := by
        unfold pX
        cases ho : o with
        | none => rfl
        | some z =>
          obtain ⟨k', g⟩ := z
          have := (h.posb (part k' g ho).1).1
          simp only
          rw [if_neg fun (q : k = k') => z1 (q ▸ this)]
      unfold pP ind
      rw [if_neg z1, if_neg z2, this]; omega
  have gb : ∀ k g, o = some (k, g) → 0 ≤ g ∧ g ≤ pM a b o := fun k g e => by
    have := (h.fin.gp k g e).2
    rw [e]
    exact this
  refine ⟨hM, fun k hk => ?_, lin a, ?_, ?_⟩
  · rcases pv k hk with ⟨_, e⟩ | ⟨_, e⟩ | ⟨_, _, _, e⟩ | ⟨_, g, eo, e⟩
    · omega
    · omega
    · omega
    · have := gb k g eo; omega
  · have e : ∀ k, k < n → b k * (pM a b o - pP a b held mv o k) = pM a b o * b k + (-1) * (b k * pP a b held mv o k) := fun k _ => by
      rw [Int.mul_sub, Int.mul_comm (b k)]; omega
    rw [sm_congr e, sm_add, sm_mul, sm_mul, lin b]
    have hg := h.ge
    cases ho : o with
    | none =>
      obtain ⟨_, hm, hz⟩ := h.none_ ho
      subst hm
      simp only [pM, pY, List.map_nil, List.sum_nil]
      omega
    | some z =>
      obtain ⟨k, g⟩ := z
      obtain ⟨g1, _, _⟩ := h.fin.gp k g ho
      have ms : (mv.map fun k => a k + b k).sum = (mv.map a).sum + (mv.map b).sum := sum_addf a b mv
      rw [ms, hg] at g1
      show (a k + b k) * sm n b + -1 * ((a k + b k) * ((held.map b).sum - (mv.map b).sum) - g * b k) = (a k + b k) * ((held.map a).sum - (mv.map a).sum) - g * a k
      have key : (a k + b k) * g = (a k + b k) * ((held.map a).sum - (sm n b - (held.map b).sum) - ((mv.map a).sum + (mv.map b).sum)) := by rw [← g1]
      have x1 : (a k + b k) * g = g * a k + g * b k := by rw [Int.add_mul, Int.mul_comm, Int.mul_comm (b k)]
      simp only [Int.mul_sub, Int.mul_add] at key ⊢
      omega
  · cases ho : o with
    | none =>
      obtain ⟨hp, hm, _⟩ := h.none_ ho
      refine ⟨1, 1, by omega, by omega, by omega, fun k hk => ?_⟩
      rw [← ho]
      rcases pv k hk with ⟨z, e⟩ | ⟨z, e⟩ | ⟨z, _, _, e⟩ | ⟨z, g, eo, e⟩
      · have := h.h2 k hk z
        exact ⟨fun q => by omega, fun _ => by omega⟩
      · rw [hm] at z; cases z
      · have := h.h1 k hk z
        exact ⟨fun _ => by omega, fun q => by omega⟩
      · rw [ho] at eo; cases eo
    | some z =>
      obtain ⟨k', g⟩ := z
      obtain ⟨q1, q2, q3, q4⟩ := part k' g ho
      obtain ⟨r1, r2, r3⟩ := h.posb q1
      have ak := h.a0 k' r3
      have hk1 := h.h1 k' r3 r1
      refine ⟨a k', b k', ak, by omega, by omega, fun k hk => ?_⟩
      rw [← ho]
      have bk := h.b0 k hk
      have akk := h.a0 k hk
      rcases pv k hk with ⟨z, e⟩ | ⟨z, e⟩ | ⟨z, z2, z3, e⟩ | ⟨z, g', eo, e⟩
      · refine ⟨fun q => by omega, fun _ => ?_⟩
        have := h.h2 k hk z
        have x1 : a k * b k' ≤ b k * b k' := Int.mul_le_mul_of_nonneg_right this (by omega)
        have x2 : b k * b k' ≤ b k * a k' := Int.mul_le_mul_of_nonneg_left hk1 bk
        rw [Int.mul_comm (a k')]
        omega
      · refine ⟨fun q => by omega, fun _ => ?_⟩
        have := q3 k z
        unfold Lx at this
        omega
      · refine ⟨fun _ => ?_, fun q => by omega⟩
        have hne : k ≠ k' := fun q => z3 g (q ▸ ho)
        by_cases zb : 0 < b k
        · have hp : k ∈ pos := h.pp.mem_iff.mpr (List.mem_filter.mpr ⟨z, by simpa using zb⟩)
          have := q4 k hp z2 hne
          unfold Lx at this
          omega
        · have : b k = 0 := by omega
          rw [this, Int.mul_zero]
          exact Int.mul_nonneg akk (by omega)
      · rw [ho] at eo
        cases eo
        exact ⟨fun _ => Int.le_refl _, fun _ => Int.le_refl _⟩
theorem ShE.val (h : ShE a b n held pos mv o T gap) (k : Nat) : Val (pM a b o) (pF a b held mv o k) (pP a b held mv o k) := by
  have hM := h.fair.m
  obtain ⟨rest, e1, e2, e3⟩ := h.fin.pre
  have mvh : ∀ k ∈ mv, k ∈ held := fun k hk => (h.posb (by rw [e1]; exact List.mem_append_left _ hk)).1
  unfold pF
  by_cases z1 : k ∈ held
  · rw [if_pos z1]
    by_cases z2 : k ∈ mv
    · rw [if_pos z2]
      have : pP a b held mv o k = 0 := by
        have hx : pX o k = 0 := by
          unfold pX
          cases ho : o with
          | none => rfl
          | some z =>
            obtain ⟨k', g⟩ := z
            obtain ⟨r2, rfl⟩ := e2 k' g ho
            have nd := h.posn
            rw [e1] at nd
            simp only
            rw [if_neg fun q => (List.nodup_append.mp nd).2.2 k z2 k' (by simp) q]
        unfold pP ind
        rw [if_pos z1, if_pos z2, hx]; omega
      rw [this]
      exact Val.zero
    · rw [if_neg z2]
      cases ho : o with
      | none =>
        simp only
        have : pP a b held mv none k = 1 := by unfold pP ind pX pM; rw [if_pos z1, if_neg z2]; rfl
        rw [this]
        exact Val.unit
      | some z =>
        obtain ⟨k', g⟩ := z
        simp only
        rw [ho] at hM
        by_cases z3 : k = k'
        · subst z3
          rw [if_pos rfl]
          have : pP a b held mv (some (k, g)) k = pM a b (some (k, g)) - g := by unfold pP ind pX; rw [if_pos z1, if_neg z2]; simp
          rw [this]
          exact Val.unit.sub (Val.nz hM)
        · rw [if_neg z3]
          have : pP a b held mv (some (k', g)) k = pM a b (some (k', g)) := by unfold pP ind pX; rw [if_pos z1, if_neg z2]; simp [z3]
          rw [this]
          exact Val.unit
  · rw [if_neg z1]
    have z2 : k ∉ mv := fun q => z1 (mvh k q)
    have : pP a b held mv o k = 0 := by
      have hx : pX o k = 0 := by
        unfold pX
        cases ho : o with
        | none => rfl
        | some z =>
          obtain ⟨k', g⟩ := z
          obtain ⟨r2, rfl⟩ := e2 k' g ho
          have := (h.posb (k := k') (by rw [e1]; simp)).1
          simp only
          rw [if_neg fun (q : k = k') => z1 (q ▸ this)]
      unfold pP ind
      rw [if_neg z1, if_neg z2, hx]; omega
    rw [this]
    exact Val.zero
end
def b222_0 : Ss := .cons (.set 2 (.call 107 (.cons (.nm 2) (.cons (.call 108 (.cons (.tup (.cons (.nm 3) (.cons (.lit (.int 1)) .nil))) (.cons (.nm 4) .nil))) .nil)))) .nil
def b222_1 : Ss := .cons (.ret (.nm 2)) .nil
def b222_2 : Ss := .cons (.fo (.tup (.cons (.nm 3) (.cons (.nm 4) .nil))) (.zip (.nm 0) (.nm 1)) b222_0) b222_1
def b222_3 : Ss := .cons (.set 2 (.glo "NONE" (.tup [(.int 0), (.int 1)]))) b222_2
/-- points_of -/
def b222 : Ss := b222_3
def b223_0 : Ss := .cons (.set 5 (.nm 6)) .nil
def b223_1 : Ss := .cons (.ifs (.cmp .Lt (.bin .Mult (.idx (.nm 0) (.nm 6)) (.idx (.nm 1) (.nm 5))) (.bin .Mult (.idx (.nm 0) (.nm 5)) (.idx (.nm 1) (.nm 6)))) b223_0 .nil) .nil
def b223_2 : Ss := .cons (.expr (.mth .remove 3 (.cons (.nm 5) .nil))) .nil
def b223_3 : Ss := .cons (.expr (.mth .append 4 (.cons (.nm 5) .nil))) b223_2
def b223_4 : Ss := .cons (.fo (.nm 6) (.seq (.nm 3)) b223_1) b223_3
def b223_5 : Ss := .cons (.set 5 (.idx (.nm 3) (.lit (.int 0)))) b223_4
def b223_6 : Ss := .cons (.ret (.nm 4)) .nil
def b223_7 : Ss := .cons (.whi (.cmp .Gt (.blt .len (.cons (.nm 3) .nil)) (.lit (.int 0))) b223_5) b223_6
def b223_8 : Ss := .cons (.set 4 (.lst .nil)) b223_7
def b223_9 : Ss := .cons (.set 3 (.lc [6] (.nm 6) (.nm 6) (.seq (.nm 2)) (.so (.cmp .Gt (.idx (.nm 1) (.nm 6)) (.lit (.int 0)))))) b223_8
/-- going_over -/
def b223 : Ss := b223_9
def b224_0 : Ss := .cons (.ret (.nm 3)) .nil
def b224_1 : Ss := .cons (.dput 3 (.nm 6) (.call 150 (.cons (.glo "ALL" (.tup [(.int 1), (.int 1)])) (.cons (.call 106 (.cons (.nm 7) (.cons (.nm 8) .nil))) .nil)))) b224_0
def b224_2 : Ss := .cons (.set 5 (.bin .Add (.nm 5) (.idx (.nm 1) (.nm 6)))) .nil
def b224_3 : Ss := .cons (.set 4 (.bin .Sub (.nm 4) (.idx (.nm 0) (.nm 6)))) b224_2
def b224_4 : Ss := .cons (.dput 3 (.nm 6) (.glo "NONE" (.tup [(.int 0), (.int 1)]))) b224_3
def b224_5 : Ss := .cons (.ifs (.cmp .LtE (.nm 7) (.nm 8)) b224_1 .nil) b224_4
def b224_6 : Ss := .cons (.set 8 (.bin .Add (.idx (.nm 0) (.nm 6)) (.idx (.nm 1) (.nm 6)))) b224_5
def b224_7 : Ss := .cons (.set 7 (.bin .Sub (.nm 4) (.nm 5))) b224_6
def b224_8 : Ss := .cons (.ret (.nm 3)) .nil
def b224_9 : Ss := .cons (.fo (.nm 6) (.seq (.call 223 (.cons (.nm 0) (.cons (.nm 1) (.cons (.nm 2) .nil))))) b224_7) b224_8
def b224_10 : Ss := .cons (.set 5 (.blt .sum (.cons (.lc [6] (.idx (.nm 1) (.nm 6)) (.nm 6) (.rng1 (.blt .len (.cons (.nm 1) .nil))) (.so (.cmp .NotIn (.nm 6) (.nm 3)))) .nil))) b224_9
def b224_11 : Ss := .cons (.set 4 (.blt .sum (.cons (.lc [6] (.idx (.nm 0) (.nm 6)) (.nm 6) (.seq (.nm 2)) .no) .nil))) b224_10
def b224_12 : Ss := .cons (.set 3 (.dc [6] (.nm 6) (.glo "ALL" (.tup [(.int 1), (.int 1)])) (.nm 6) (.seq (.nm 2)) .no)) b224_11
/-- parts_left -/
def b224 : Ss := b224_12
def b225_0 : Ss := .cons (.ret (.blt .tuple (.cons (.lc [1] (.call 150 (.cons (.glo "ALL" (.tup [(.int 1), (.int 1)])) (.cons (.nm 1) .nil))) (.nm 1) (.seq (.nm 0)) .no) .nil))) .nil
/-- others_parts -/
def b225 : Ss := b225_0
def b226_0 : Ss := .cons (.set 6 (.blt .tuple (.cons (.lc [7] (.dget (.nm 5) (.nm 7) (.glo "NONE" (.tup [(.int 0), (.int 1)]))) (.nm 7) (.rgv 2) .no) .nil))) .nil
def b226_1 : Ss := .cons (.set 5 (.call 224 (.cons (.nm 0) (.cons (.nm 1) (.cons (.nm 3) .nil))))) b226_0
def b226_2 : Ss := .cons (.set 6 (.call 225 (.cons (.lc [7] (.dget (.nm 5) (.nm 7) (.glo "NONE" (.tup [(.int 0), (.int 1)]))) (.nm 7) (.rgv 2) .no) .nil))) .nil
def b226_3 : Ss := .cons (.set 5 (.call 224 (.cons (.nm 1) (.cons (.nm 0) (.cons (.nm 4) .nil))))) b226_2
def b226_4 : Ss := .cons (.ret (.tup (.cons (.nm 6) (.cons (.call 222 (.cons (.nm 0) (.cons (.nm 6) .nil))) (.cons (.call 222 (.cons (.nm 1) (.cons (.call 225 (.cons (.nm 6) .nil)) .nil))) .nil))))) .nil
def b226_5 : Ss := .cons (.ifs (.cmp .GtE (.blt .sum (.cons (.lc [7] (.idx (.nm 0) (.nm 7)) (.nm 7) (.seq (.nm 3)) .no) .nil)) (.blt .sum (.cons (.lc [7] (.idx (.nm 1) (.nm 7)) (.nm 7) (.seq (.nm 4)) .no) .nil))) b226_1 b226_3) b226_4
def b226_6 : Ss := .cons (.set 4 (.lc [7] (.nm 7) (.nm 7) (.rgv 2) (.so (.cmp .Lt (.idx (.nm 0) (.nm 7)) (.idx (.nm 1) (.nm 7)))))) b226_5
def b226_7 : Ss := .cons (.set 3 (.lc [7] (.nm 7) (.nm 7) (.rgv 2) (.so (.cmp .GtE (.idx (.nm 0) (.nm 7)) (.idx (.nm 1) (.nm 7)))))) b226_6
def b226_8 : Ss := .cons (.setrg 2 (.blt .len (.cons (.nm 0) .nil))) b226_7
/-- evened_out -/
def b226 : Ss := b226_8
def b227_0 : Ss := .cons (.set 10 (.bin .Add (.ixof (.nm 8) (.nm 11)) (.lit (.int 1)))) .nil
def b227_1 : Ss := .cons (.ifs (.or (.cons (.cmp .Eq (.idx (.idx (.nm 2) (.bin .Sub (.lit (.int 1)) (.nm 6))) (.nm 9)) (.lit (.int 0))) (.cons (.and (.cons (.cmp .Gt (.idx (.idx (.nm 2) (.bin .Sub (.lit (.int 1)) (.nm 6))) (.nm 11)) (.lit (.int 0))) (.cons (.val (.nm 12)) .nil))) .nil))) b227_0 .nil) .nil
def b227_2 : Ss := .cons (.set 12 (.cmp .LtE (.bin .Mult (.idx (.idx (.nm 2) (.nm 6)) (.nm 11)) (.idx (.idx (.nm 2) (.bin .Sub (.lit (.int 1)) (.nm 6))) (.nm 9))) (.bin .Mult (.idx (.idx (.nm 2) (.nm 6)) (.nm 9)) (.idx (.idx (.nm 2) (.bin .Sub (.lit (.int 1)) (.nm 6))) (.nm 11))))) b227_1
def b227_3 : Ss := .cons (.expr (.mth .insert 8 (.cons (.nm 10) (.cons (.nm 9) .nil)))) .nil
def b227_4 : Ss := .cons (.fo (.nm 11) (.seq (.nm 8)) b227_2) b227_3
def b227_5 : Ss := .cons (.set 10 (.lit (.int 0))) b227_4
def b227_6 : Ss := .cons .brk .nil
def b227_7 : Ss := .cons (.set 15 (.call 161 (.cons (.nm 13) (.cons (.tup (.cons (.nm 14) (.cons (.lit (.int 1)) .nil))) .nil)))) .nil
def b227_8 : Ss := .cons (.put 4 (.nm 9) (.idx (.lst (.cons (.call 159 (.cons (.tup (.cons (.lit (.int 1)) (.cons (.lit (.int 1)) .nil))) (.cons (.nm 15) .nil))) (.cons (.nm 15) .nil))) (.nm 6))) .nil
def b227_9 : Ss := .cons (.put 5 (.bin .Sub (.lit (.int 1)) (.nm 6)) (.call 158 (.cons (.idx (.nm 5) (.bin .Sub (.lit (.int 1)) (.nm 6))) (.cons (.call 160 (.cons (.nm 15) (.cons (.tup (.cons (.idx (.idx (.nm 2) (.bin .Sub (.lit (.int 1)) (.nm 6))) (.nm 9)) (.cons (.lit (.int 1)) .nil))) .nil))) .nil)))) b227_8
def b227_10 : Ss := .cons (.put 5 (.nm 6) (.call 159 (.cons (.idx (.nm 5) (.nm 6)) (.cons (.call 160 (.cons (.nm 15) (.cons (.tup (.cons (.idx (.idx (.nm 2) (.nm 6)) (.nm 9)) (.cons (.lit (.int 1)) .nil))) .nil))) .nil)))) b227_9
def b227_11 : Ss := .cons (.ifs (.val (.call 134 (.cons (.nm 13) (.cons (.tup (.cons (.nm 14) (.cons (.lit (.int 1)) .nil))) .nil)))) b227_7 .nil) b227_10
def b227_12 : Ss := .cons (.set 15 (.tup (.cons (.lit (.int 1)) (.cons (.lit (.int 1)) .nil)))) b227_11
def b227_13 : Ss := .cons (.set 14 (.bin .Add (.idx (.idx (.nm 2) (.lit (.int 0))) (.nm 9)) (.idx (.idx (.nm 2) (.lit (.int 1))) (.nm 9)))) b227_12
def b227_14 : Ss := .cons (.ifs (.cmp .LtE (.idx (.nm 13) (.lit (.int 0))) (.lit (.int 0))) b227_6 .nil) b227_13
def b227_15 : Ss := .cons (.set 13 (.call 159 (.cons (.idx (.nm 5) (.nm 6)) (.cons (.idx (.nm 5) (.bin .Sub (.lit (.int 1)) (.nm 6))) .nil)))) b227_14
def b227_16 : Ss := .cons (.ret (.lst (.cons (.blt .tuple (.cons (.nm 4) .nil)) (.cons (.idx (.nm 5) (.lit (.int 0))) (.cons (.idx (.nm 5) (.lit (.int 1))) .nil))))) .nil
def b227_17 : Ss := .cons (.fo (.nm 9) (.seq (.nm 8)) b227_15) b227_16
def b227_18 : Ss := .cons (.fo (.nm 9) (.seq (.nm 7)) b227_5) b227_17
def b227_19 : Ss := .cons (.set 8 (.lst .nil)) b227_18
def b227_20 : Ss := .cons (.set 7 (.lc [9] (.nm 9) (.nm 9) (.rng1 (.blt .len (.cons (.nm 0) .nil))) (.so (.cmp .Eq (.idx (.nm 3) (.nm 9)) (.nm 6))))) b227_19
def b227_21 : Ss := .cons (.set 5 (.lst (.cons (.tup (.cons (.idx (.nm 5) (.lit (.int 0))) (.cons (.lit (.int 1)) .nil))) (.cons (.tup (.cons (.idx (.nm 5) (.lit (.int 1))) (.cons (.lit (.int 1)) .nil))) .nil)))) b227_20
def b227_22 : Ss := .cons (.set 6 (.blt .int (.cons (.cmp .Gt (.idx (.nm 5) (.lit (.int 1))) (.idx (.nm 5) (.lit (.int 0)))) .nil))) b227_21
def b227_23 : Ss := .cons (.set 5 (.lc [16] (.blt .sum (.cons (.lc [9] (.idx (.idx (.nm 2) (.nm 16)) (.nm 9)) (.nm 9) (.rng1 (.blt .len (.cons (.nm 0) .nil))) (.so (.cmp .Eq (.idx (.nm 3) (.nm 9)) (.nm 16)))) .nil)) (.nm 16) (.rng1 (.lit (.int 2))) .no)) b227_22
def b227_24 : Ss := .cons (.set 4 (.lc [9] (.tup (.cons (.bin .Sub (.lit (.int 1)) (.idx (.nm 3) (.nm 9))) (.cons (.lit (.int 1)) .nil))) (.nm 9) (.rng1 (.blt .len (.cons (.nm 0) .nil))) .no)) b227_23
def b227_25 : Ss := .cons (.set 3 (.lc [9] (.blt .int (.cons (.cmp .Gt (.idx (.nm 1) (.nm 9)) (.idx (.nm 0) (.nm 9))) .nil)) (.nm 9) (.rng1 (.blt .len (.cons (.nm 0) .nil))) .no)) b227_24
def b227_26 : Ss := .cons (.set 2 (.lst (.cons (.nm 0) (.cons (.nm 1) .nil)))) b227_25
/-- _law_evened -/
def b227 : Ss := b227_26
def b228_0 : Ss := .cons (.ret (.blt .tuple (.cons (.lc [4] (.bin .Sub (.idx (.bin .Add (.nm 3) (.lst (.cons (.nm 2) .nil))) (.nm 4)) (.idx (.bin .Add (.lst (.cons (.lit (.int 0)) .nil)) (.nm 3)) (.nm 4))) (.nm 4) (.rng1 (.nm 1)) .no) .nil))) .nil
def b228_1 : Ss := .cons (.set 3 (.blt .sorted (.cons (.lc [4] (.call 5 (.cons (.nm 0) (.cons (.bin .Add (.nm 2) (.lit (.int 1))) .nil))) (.nm 4) (.rng1 (.bin .Sub (.nm 1) (.lit (.int 1)))) .no) .nil))) b228_0
/-- _law_points -/
def b228 : Ss := b228_1
def T14 : Tb := fun i => match i with
  | 222 => some ⟨["points", "parts"], ["points", "parts", "found", "number", "part"], b222⟩
  | 223 => some ⟨["giver", "taker", "held"], ["giver", "taker", "held", "things", "ordered", "best", "thing"], b223⟩
  | 224 => some ⟨["giver", "taker", "held"], ["giver", "taker", "held", "parts", "more", "less", "thing", "gap", "both"], b224⟩
  | 225 => some ⟨["parts"], ["parts", "part"], b225⟩
  | 226 => some ⟨["first", "second"], ["first", "second", "things", "firsts", "seconds", "left", "parts", "thing"], b226⟩
  | 227 => some ⟨["first", "second"], ["first", "second", "points", "owner", "parts", "sums", "rich", "own", "order", "k", "at", "j", "ahead", "gap", "both", "moved", "p"], b227⟩
  | 228 => some ⟨["draws", "many", "total"], ["draws", "many", "total", "cuts", "k"], b228⟩
  | _ => none
class A14 (Δ : Tb) : Prop where
  h : ∀ i, 222 ≤ i → i < 229 → Δ i = T14 i
theorem fn222 (Δ : Tb) [A14 Δ] (k : Nat) : callN Δ (k + 1) 222 = runDef (callN Δ k) ⟨["points", "parts"], ["points", "parts", "found", "number", "part"], b222⟩ := by
  show (fun args => (Δ 222).bind fun d => runDef (callN Δ k) d args) = _
  rw [show Δ 222 = T14 222 from A14.h 222 (by decide) (by decide)]
  rfl
theorem fn223 (Δ : Tb) [A14 Δ] (k : Nat) : callN Δ (k + 1) 223 = runDef (callN Δ k) ⟨["giver", "taker", "held"], ["giver", "taker", "held", "things", "ordered", "best", "thing"], b223⟩ := by
  show (fun args => (Δ 223).bind fun d => runDef (callN Δ k) d args) = _
  rw [show Δ 223 = T14 223 from A14.h 223 (by decide) (by decide)]
  rfl
theorem fn224 (Δ : Tb) [A14 Δ] (k : Nat) : callN Δ (k + 1) 224 = runDef (callN Δ k) ⟨["giver", "taker", "held"], ["giver", "taker", "held", "parts", "more", "less", "thing", "gap", "both"], b224⟩ := by
  show (fun args => (Δ 224).bind fun d => runDef (callN Δ k) d args) = _
  rw [show Δ 224 = T14 224 from A14.h 224 (by decide) (by decide)]
  rfl
theorem fn225 (Δ : Tb) [A14 Δ] (k : Nat) : callN Δ (k + 1) 225 = runDef (callN Δ k) ⟨["parts"], ["parts", "part"], b225⟩ := by
  show (fun args => (Δ 225).bind fun d => runDef (callN Δ k) d args) = _
  rw [show Δ 225 = T14 225 from A14.h 225 (by decide) (by decide)]
  rfl
theorem fn226 (Δ : Tb) [A14 Δ] (k : Nat) : callN Δ (k + 1) 226 = runDef (callN Δ k) ⟨["first", "second"], ["first", "second", "things", "firsts", "seconds", "left", "parts", "thing"], b226⟩ := by
  show (fun args => (Δ 226).bind fun d => runDef (callN Δ k) d args) = _
  rw [show Δ 226 = T14 226 from A14.h 226 (by decide) (by decide)]
  rfl
theorem fn227 (Δ : Tb) [A14 Δ] (k : Nat) : callN Δ (k + 1) 227 = runDef (callN Δ k) ⟨["first", "second"], ["first", "second", "points", "owner", "parts", "sums", "rich", "own", "order", "k", "at", "j", "ahead", "gap", "both", "moved", "p"], b227⟩ := by
  show (fun args => (Δ 227).bind fun d => runDef (callN Δ k) d args) = _
  rw [show Δ 227 = T14 227 from A14.h 227 (by decide) (by decide)]
  rfl
theorem fn228 (Δ : Tb) [A14 Δ] (k : Nat) : callN Δ (k + 1) 228 = runDef (callN Δ k) ⟨["draws", "many", "total"], ["draws", "many", "total", "cuts", "k"], b228⟩ := by
  show (fun args => (Δ 228).bind fun d => runDef (callN Δ k) d args) = _
  rw [show Δ 228 = T14 228 from A14.h 228 (by decide) (by decide)]
  rfl
def fA (f : List Int) (k : Nat) : Int := f.getD k 0
def LN (l : List Nat) : D := .lst (l.map nI)
structure Pt (n : Nat) (f : List Int) : Prop where
  l : f.length = n
  nn : ∀ k, 0 ≤ fA f k
  bd : ∀ k, Bd 80 (fA f k)
theorem Pt.ix {n : Nat} {f : List Int} (h : Pt n f) {k : Nat} (hk : k < n) : idxS (tupI f) (nI k) = some (.int (fA f k)) := num_atN (by rw [h.l]; exact hk)
theorem Pt.ml {n : Nat} {f g : List Int} (h : Pt n f) (h' : Pt n g) (i j : Nat) : binS .Mult (.int (fA f i)) (.int (fA g j)) = some (.v (.int (fA f i * fA g j))) := ml_ok (h.bd i) (h'.bd j) (by omega)
theorem rem_LN {l : List Nat} {k : Nat} (hk : k ∈ l) : mthS .remove (l.map nI) [nI k] = some (.non, (l.erase k).map nI) := by
  have e : ∀ l : List Nat, l.map nI = (l.map fun j : Nat => (j : Int)).map D.int := fun l => by rw [List.map_map]; rfl
  rw [e l, e (l.erase k)]
  unfold mthS
  simp only [intsD_map, Option.bind_some]
  have hm : (k : Int) ∈ l.map fun j : Nat => (j : Int) := List.mem_map.mpr ⟨k, hk, rfl⟩
  rw [if_pos hm]
  congr 2
  have : ∀ l : List Nat, (l.map fun j : Nat => (j : Int)).erase (k : Int) = (l.erase k).map fun j : Nat => (j : Int) := by
    intro l
    induction l with
    | nil => rfl
    | cons x l ih =>
      rw [List.map_cons, List.erase_cons, List.erase_cons, ih]
      by_cases e : x = k
      · subst e; simp
      · have e2 : ¬ (x : Int) = k := by omega
        simp [e, e2]
  rw [this l]
theorem idx_LN0 {x : Nat} {l : List Nat} : idxS (.lst ((x :: l).map nI)) (.int 0) = some (nI x) := by
  show L2.atI (nI x :: l.map nI) 0 = _
  unfold L2.atI L2.ixN
  simp
theorem over_ok (Δ : Tb) [A14 Δ] (k n : Nat) (f g : List Int) (hf : Pt n f) (hg : Pt n g) (held : List Nat) (hl : ∀ t ∈ held, t < n) (hz : held.length ≤ 1000) (hp : held.Pairwise (· < ·)) :
    callN Δ (k + 1) 223 [.fz (tupI f), .fz (tupI g), .ow true (LN held)] = some (.nw (LN (selL (fA f) (fA g) held.length (held.filter fun k => decide (0 < fA g k)))), [.fz (tupI f), .fz (tupI g), .ow true (LN held)]) := by
  refine eq_of ?_
  rw [fn223]
  generalize callN Δ k = cl
  unfold LN
  walk_at "in"
  refine kt ?_
  simp_arith! []
  refine lcF (f := nI) nI (fun t => decide (0 < fA g t)) (fun t ht => ?_) ?_
  · have e1 := hg.ix (hl t ht)
    simp_arith! [e1]
  have hfl : (held.filter fun k => decide (0 < fA g k)).length ≤ held.length := List.length_filter_le _ _
  have hpf : (held.filter fun k => decide (0 < fA g k)).Pairwise (· < ·) := hp.sublist List.filter_sublist
  have hmf : ∀ t ∈ held.filter (fun k => decide (0 < fA g k)), t < n ∧ 0 < fA g t := fun t ht => by
    rw [List.mem_filter] at ht
    exact ⟨hl t ht.1, by simpa using ht.2⟩
  generalize held.filter (fun k => decide (0 < fA g k)) = xs at hfl hpf hmf ⊢
  simp_arith! []
  refine ⟨by omega, ?_⟩
  refine kt ?_
  simp_arith! []
  refine kt ?_
  simp_arith! []
  refine whI (fun m e => ∃ (rest done : List Nat) (s5 s6 : Sl) (fu : Nat), rest.length = m ∧ e = [.fz (tupI f), .fz (tupI g), .ow true (.lst (held.map nI)), .ow false (.lst (rest.map nI)), .ow false (.lst (done.map nI)), s5, s6] ∧ fr s5 = true ∧ fr s6 = true ∧
    rest.length ≤ fu ∧ selL (fA f) (fA g) held.length xs = done ++ selL (fA f) (fA g) fu rest ∧ (∀ t ∈ rest, t < n ∧ 0 < fA g t) ∧ rest.Pairwise (· < ·) ∧ done.length + rest.length ≤ 1000) xs.length ?_ (fun m e he => ?_)
  · exact ⟨xs, [], _, _, held.length, rfl, rfl, rfl, rfl, hfl, rfl, hmf, hpf, by simp; omega⟩
  · obtain ⟨rest, done, s5, s6, fu, rfl, rfl, f5, f6, hfu, hsel, hr, hpr, hlen⟩ := he
    cases rest with
    | nil =>
      simp_arith! []
      rw [show selL (fA f) (fA g) fu [] = [] by unfold selL; rfl, List.append_nil] at hsel
      rw [hsel]
      exact ⟨fun z => (by simp at z), fun _ => kt (by simp_arith! [])⟩
    | cons x xs' =>
      simp_arith! []
      refine ⟨fun _ => ?_, fun z => by simp at z⟩
      refine kt ?_
      simp_arith! [idx_LN0, f5]
      refine kt ?_
      simp_arith! []
      have hb := bstA_ok (a := fA f) (b := fA g) (x := x) (xs := xs') (fun t ht => (hr t ht).2) hpr
      refine foM (f := nI) (P := fun i e => ∃ s6, e = [.fz (tupI f), .fz (tupI g), .ow true (.lst (held.map nI)), .lk false (.lst ((x :: xs').map nI)), .ow false (.lst (done.map nI)), .fz (nI (bstA (fA f) (fA g) x ((x :: xs').take i))), s6] ∧ fr s6 = true) ⟨s6, rfl, f6⟩ (fun i t hit e he => ?_) fun e he => ?_
      · obtain ⟨s6, rfl, f6⟩ := he
        have htm := List.mem_of_getElem? hit
        have hbm : bstA (fA f) (fA g) x ((x :: xs').take i) ∈ x :: xs' := by
          have : ∀ l : List Nat, (∀ t ∈ l, t ∈ x :: xs') → bstA (fA f) (fA g) x l.reverse ∈ x :: xs' := by
            intro l
            induction l with
            | nil => intro _; simp [bstA]
            | cons y l ih =>
              intro h
              rw [List.reverse_cons, bstA_snoc]
              split
              · exact h y List.mem_cons_self
              · exact ih fun t ht => h t (List.mem_cons_of_mem _ ht)
          have := this ((x :: xs').take i).reverse fun t ht => List.mem_of_mem_take (List.mem_reverse.mp ht)
          rwa [List.reverse_reverse] at this
        have hs : (x :: xs').take (i + 1) = (x :: xs').take i ++ [t] := by rw [List.take_add_one, hit]; rfl
        have hst := bstA_snoc (a := fA f) (b := fA g) x ((x :: xs').take i) t
        rw [← hs] at hst
        generalize bstA (fA f) (fA g) x ((x :: xs').take i) = B at hbm hst ⊢
        have i1 := hf.ix (hr t htm).1
        have i2 := hg.ix (hr t htm).1
        have i3 := hf.ix (hr B hbm).1
        have i4 := hg.ix (hr B hbm).1
        have m1 := hf.ml hg t B
        have m2 := hf.ml hg B t
        simp_arith! [f6]
        refine kt ?_
        simp_arith! [i1, i2, i3, i4, m1, m2]
        refine ⟨fun q => ?_, fun q => ?_⟩
        · refine kt ?_
          simp_arith! []
          rw [if_pos (by simpa using q)] at hst
          exact ⟨_, by rw [hst], rfl⟩
        · rw [if_neg (by simpa using q)] at hst
          exact ⟨_, by rw [hst], rfl⟩
      · obtain ⟨s6, rfl, f6⟩ := he
        rw [List.take_length]
        generalize hB : bstA (fA f) (fA g) x (x :: xs') = B at hb
        have e1 := rem_LN hb.1
        cases fu with
        | zero => simp at hfu
        | succ fu =>
          simp_arith! []
          refine kt ?_
          simp_arith! []
          refine kt ?_
          simp_arith! [e1]
          refine ⟨_, ?_, (x :: xs').erase B, done ++ [B], .fz (nI B), s6, fu, rfl, by simp, rfl, f6, ?_, ?_, fun t ht => hr t (List.mem_of_mem_erase ht), hpr.sublist List.erase_sublist, ?_⟩
          · rw [List.length_erase_of_mem hb.1]; simp
          · rw [List.length_erase_of_mem hb.1]; simp at hfu ⊢; omega
          · rw [hsel]
            conv => lhs; rw [selL]
            rw [hB]; simp
          · rw [List.length_erase_of_mem hb.1]; simp at hlen ⊢; omega
set_option exponentiation.threshold 10000
structure Fw (f : Int × Int) : Prop where
  p : 0 < f.2
  n : Bd 3000 f.1
  d : Bd 99 f.2
theorem Fw.fr {f : Int × Int} (h : Fw f) : Fr 4000 f := ⟨h.p, h.n.mono (by omega), h.d.mono (by omega)⟩
theorem wsub_ok (Δ : Tb) [A8 Δ] [A11 Δ] (k : Nat) (f g : Int × Int) (hf : Fw f) (hg : Fw g) : callN Δ (k + 2) 150 [.fz (frD f), .fz (frD g)] = some (.v (frD (subF f g)), [.fz (frD f), .fz (frD g)]) := by
  refine eq_of ?_
  have hd : 0 < f.2 * g.2 := Int.mul_pos hf.p hg.p
  have h106 := fraction_any Δ k (f.1 * g.2 - g.1 * f.2) (f.2 * g.2) (by omega) ((hf.d.mul hg.d).mono (by omega))
  have m1 := ml_ok hf.n hg.d (by omega)
  have m2 := ml_ok hg.n hf.d (by omega)
  have m3 := ml_ok hf.d hg.d (by omega)
  rw [fn150]
  generalize callN Δ (k + 1) = cl at h106
  walk_at "in"
  refine kt ?_
  simp_arith! [fr0, fr1, m1, m2, m3, h106]
  rfl
theorem wlplus_ok (Δ : Tb) [A11 Δ] (k : Nat) (f g : Int × Int) (hf : Fw f) (hg : Fw g) : callN Δ (k + 3) 158 [.fz (frD f), .fz (frD g)] = some (.v (frD (addF f g)), [.fz (frD f), .fz (frD g)]) := by
  refine eq_of ?_
  have hd : 0 < f.2 * g.2 := Int.mul_pos hf.p hg.p
  have h157 := lfrac_ok Δ k (f.1 * g.2 + g.1 * f.2) (f.2 * g.2) (by omega) ((hf.d.mul hg.d).mono (by omega))
  rw [nz_nf hd] at h157
  have m1 := ml_ok hf.n hg.d (by omega)
  have m2 := ml_ok hg.n hf.d (by omega)
  have m3 := ml_ok hf.d hg.d (by omega)
  rw [fn158]
  generalize callN Δ (k + 2) = cl at h157
  walk_at "in"
  refine kt ?_
  simp_arith! [fr0, fr1, m1, m2, m3, h157]
  rfl
theorem wlminus_ok (Δ : Tb) [A11 Δ] (k : Nat) (f g : Int × Int) (hf : Fw f) (hg : Fw g) : callN Δ (k + 3) 159 [.fz (frD f), .fz (frD g)] = some (.v (frD (subF f g)), [.fz (frD f), .fz (frD g)]) := by
  refine eq_of ?_
  have hd : 0 < f.2 * g.2 := Int.mul_pos hf.p hg.p
  have h157 := lfrac_ok Δ k (f.1 * g.2 - g.1 * f.2) (f.2 * g.2) (by omega) ((hf.d.mul hg.d).mono (by omega))
  have m1 := ml_ok hf.n hg.d (by omega)
  have m2 := ml_ok hg.n hf.d (by omega)
  have m3 := ml_ok hf.d hg.d (by omega)
  rw [fn159]
  generalize callN Δ (k + 2) = cl at h157
  walk_at "in"
  refine kt ?_
  simp_arith! [fr0, fr1, m1, m2, m3, h157]
  rfl
theorem wlprod_ok (Δ : Tb) [A11 Δ] (k : Nat) (f g : Int × Int) (hf : Fw f) (hg : Fw g) : callN Δ (k + 3) 160 [.fz (frD f), .fz (frD g)] = some (.v (frD (mulF f g)), [.fz (frD f), .fz (frD g)]) := by
  refine eq_of ?_
  have hd : 0 < f.2 * g.2 := Int.mul_pos hf.p hg.p
  have h157 := lfrac_ok Δ k (f.1 * g.1) (f.2 * g.2) (by omega) ((hf.d.mul hg.d).mono (by omega))
  rw [nz_nf hd] at h157
  have m1 := ml_ok hf.n hg.n (by omega)
  have m3 := ml_ok hf.d hg.d (by omega)
  rw [fn160]
  generalize callN Δ (k + 2) = cl at h157
  walk_at "in"
  refine kt ?_
  simp_arith! [fr0, fr1, m1, m3, h157]
  rfl
theorem wlquot_ok (Δ : Tb) [A11 Δ] (k : Nat) (f g : Int × Int) (hf : Fw f) (hg : Fw g) (h0 : g.1 ≠ 0) (h1 : Bd 99 g.1) : callN Δ (k + 3) 161 [.fz (frD f), .fz (frD g)] = some (.v (frD (divF f g)), [.fz (frD f), .fz (frD g)]) := by
  refine eq_of ?_
  have hd : f.2 * g.1 ≠ 0 := Int.mul_ne_zero (by have := hf.p; omega) h0
  have h157 := lfrac_ok Δ k (f.1 * g.2) (f.2 * g.1) hd ((hf.d.mul h1).mono (by omega))
  have m1 := ml_ok hf.n hg.d (by omega)
  have m3 := ml_ok hf.d hg.n (by omega)
  rw [fn161]
  generalize callN Δ (k + 2) = cl at h157
  walk_at "in"
  refine kt ?_
  simp_arith! [fr0, fr1, m1, m3, h157]
  rfl
set_option exponentiation.threshold 10000
def kN (k : Nat) : L2.Key := .inl (k : Int)
theorem kN_inj {i j : Nat} (h : kN i = kN j) : i = j := by
  have : (i : Int) = j := Sum.inl.inj h
  omega
theorem key_nI (k : Nat) : keyD (nI k) = some (kN k) := rfl
theorem val_kN (h : Nat → D) (t : Nat) : ∀ l : List Nat, valD (l.map kN) (l.map h) (kN t) = if t ∈ l then some (h t) else none
  | [] => by simp [valD]
  | x :: l => by
    rw [List.map_cons, List.map_cons]
    unfold valD
    rw [val_kN h t l]
    by_cases e : x = t
    · subst e; simp
    · have e2 : ¬ kN x = kN t := fun z => e (kN_inj z)
      have e3 : ¬ t = x := fun z => e z.symm
      simp [e2, e3]
theorem put_kN (h : Nat → D) (t : Nat) (d : D) (l : List Nat) (ht : t ∈ l) : putDk (.inl (t : Int)) d (l.map kN) (l.map h) = (l.map kN, l.map fun k => if k = t then d else h k) := by
  show putDk (kN t) d (l.map kN) (l.map h) = _
  unfold putDk
  have e : ((l.map kN).any fun j => decide (j = kN t)) = true := List.any_eq_true.mpr ⟨kN t, List.mem_map.mpr ⟨t, ht, rfl⟩, by simp⟩
  rw [if_pos e]
  congr 1
  have : ∀ l : List Nat, List.zipWith (fun j x => if j = kN t then d else x) (l.map kN) (l.map h) = l.map fun k => if k = t then d else h k := by
    intro l
    induction l with
    | nil => rfl
    | cons x l ih =>
      rw [List.map_cons, List.map_cons, List.zipWith_cons_cons, ih, List.map_cons]
      by_cases e : x = t
      · subst e; simp
      · have e2 : ¬ kN x = kN t := fun z => e (kN_inj z)
        simp [e, e2]
  exact this l
def stP (mv : List Nat) (k : Nat) : D := frD (if k ∈ mv then (0, 1) else (1, 1))
def DKf (held : List Nat) (h : Nat → D) : D := .dk (held.map kN) (held.map h)
theorem Bd.of_le {m : Nat} {x y : Int} (h : Bd m y) (h0 : 0 ≤ x) (h1 : x ≤ y) : Bd m x := by
  unfold Bd at *
  omega
theorem Bd.sum2 {x y : Int} (h : Bd 80 x) (h' : Bd 80 y) : Bd 81 (x + y) := h.add h'
theorem fw_int {n : Int} (h : Bd 3000 n) : Fw (n, 1) := ⟨by show (0 : Int) < 1; decide, h, by show Bd 99 1; unfold Bd; decide⟩
theorem fw_nz {g c : Int} (hc : 0 < c) (hg : 0 ≤ g) (hgc : g ≤ c) (hb : Bd 90 c) : Fw (nz g c) := by
  obtain ⟨h1, h2⟩ := nz_small (n := g) (d := c) (by omega)
  refine ⟨nz_pos (by omega), ?_, ?_⟩
  · have : Bd 90 (nz g c).1 := by unfold Bd at *; omega
    exact this.mono (by omega)
  · have : Bd 90 (nz g c).2 := by unfold Bd at *; omega
    exact this.mono (by omega)
theorem parts_ok (Δ : Tb) [A8 Δ] [A11 Δ] [A14 Δ] (k n : Nat) (f g : List Int) (hf : Pt n f) (hg : Pt n g) (hn : n ≤ 100) (held : List Nat) (hl : ∀ t ∈ held, t < n) (hz : held.length ≤ 1000) (hp : held.Pairwise (· < ·))
    (gap : Int) (hgap : gap = (held.map (fA f)).sum - (((List.range n).filter fun t => !decide (t ∈ held)).map (fA g)).sum) (h0 : 0 ≤ gap) (mv : List Nat) (o : Option (Nat × Int)) (hfin : fin_ (fA f) (fA g) (selL (fA f) (fA g) held.length (held.filter fun k => decide (0 < fA g k))) gap = (mv, o)) :
    callN Δ (k + 3) 224 [.fz (tupI f), .fz (tupI g), .ow true (LN held)] = some (.nw (DKf held fun k => frD (pF (fA f) (fA g) held mv o k)), [.fz (tupI f), .fz (tupI g), .ow true (LN held)]) := by
  refine eq_of ?_
  rw [fn224]
  have h223 := over_ok Δ (k + 1) n f g hf hg held hl hz hp
  have h106 := fun a d hd hb => fraction_any Δ (k + 1) a d hd hb
  have h150 := fun a d ha hd => wsub_ok Δ k a d ha hd
  obtain ⟨sp, _⟩ := selL_ok (a := fA f) (b := fA g) held.length (held.filter fun k => decide (0 < fA g k)) (List.length_filter_le _ _) (fun t ht => by simpa using (List.mem_filter.mp ht).2) (hp.sublist List.filter_sublist)
  have sm_ : ∀ t ∈ selL (fA f) (fA g) held.length (held.filter fun k => decide (0 < fA g k)), t ∈ held ∧ t < n ∧ 0 < fA g t := fun t ht => by
    have := List.mem_filter.mp (sp.mem_iff.mp ht)
    exact ⟨this.1, hl t this.1, by simpa using this.2⟩
  have snd_ : (selL (fA f) (fA g) held.length (held.filter fun k => decide (0 < fA g k))).Nodup := sp.nodup_iff.mpr ((hp.imp fun h => by omega : held.Nodup).filter _)
  generalize selL (fA f) (fA g) held.length (held.filter fun k => decide (0 < fA g k)) = pos at h223 sp sm_ snd_ hfin
  unfold LN at h223 ⊢
  generalize callN Δ (k + 2) = cl at h223 h106 h150
  walk_at "in"
  refine kt ?_
  simp_arith! []
  refine dcG (f := nI) kN (fun _ => frD (1, 1)) (fun t ht => ?_) ?_
  · simp_arith! []
    exact ⟨rfl, rfl⟩
  rw [prsD_map]
  have hnd : (held.map kN).Nodup := List.Pairwise.map kN (fun x y h e => by have := kN_inj e; omega) hp
  have hdf := dfold_new (held.map fun k => (kN k, frD (1, 1))) [] [] rfl (by simpa [Function.comp_def] using hnd)
  simp only [List.nil_append, List.map_map, Function.comp_def] at hdf
  simp_arith! [hdf]
  refine ⟨by omega, ?_⟩
  refine kt ?_
  simp_arith! []
  refine lcF (f := nI) (fun t => .int (fA f t)) (fun _ => true) (fun t ht => ?_) ?_
  · have e1 := hf.ix (hl t ht)
    simp_arith! [e1]
  have e2 : (held.filter fun _ => true).map (fun t => D.int (fA f t)) = (held.map (fA f)).map D.int := by rw [List.filter_eq_self.mpr (fun _ _ => rfl), List.map_map]; rfl
  rw [e2]
  simp_arith! []
  refine ⟨by omega, ?_⟩
  refine kt ?_
  have tl : bltS .len [tupI g] = some (.v (.int (n : Nat))) := by rw [← hg.l]; simp [tupI, bltS]
  simp_arith! [tl]
  refine lcF (f := fun k => D.int ((k : Nat) : Int)) (fun t => .int (fA g t)) (fun t => !decide (t ∈ held)) (fun t ht => ?_) ?_
  · have e1 := hg.ix (show t < n by simpa using ht)
    have e3 := notin_dk (x := nI t) (ks := held.map kN) (ds := held.map fun _ => frD (1, 1)) (key_nI t)
    rw [val_kN] at e3
    have e4 : (!(if t ∈ held then some (frD (1, 1)) else none).isSome) = !decide (t ∈ held) := by by_cases z : t ∈ held <;> simp [z]
    rw [e4] at e3
    simp_arith! [e1, e3]
  have e5 : ((List.range n).filter fun t => !decide (t ∈ held)).map (fun t => D.int (fA g t)) = (((List.range n).filter fun t => !decide (t ∈ held)).map (fA g)).map D.int := by rw [List.map_map]; rfl
  have e6 : ((List.range n).filter fun t => !decide (t ∈ held)).length ≤ n := by
    have := List.length_filter_le (fun t => !decide (t ∈ held)) (List.range n)
    simpa using this
  rw [e5]
  simp_arith! []
  refine ⟨by omega, ?_⟩
  refine kt ?_
  simp_arith! [h223]
  refine foM (f := nI) (P := fun i e => ∃ s6 s7 s8 more less, e = [.fz (tupI f), .fz (tupI g), .ow true (.lst (held.map nI)), .ow false (DKf held (stP (pos.take i))), .fz (.int more), .fz (.int less), s6, s7, s8] ∧ fr s6 = true ∧ fr s7 = true ∧ fr s8 = true ∧ 0 ≤ more - less ∧
    (mv, o) = (pos.take i ++ (fin_ (fA f) (fA g) (pos.drop i) (more - less)).1, (fin_ (fA f) (fA g) (pos.drop i) (more - less)).2)) ⟨_, _, _, _, _, rfl, rfl, rfl, rfl, by rw [← hgap]; exact h0, by rw [← hgap, ← hfin]; rfl⟩ (fun i t hit e he => ?_) fun e he => ?_
  · obtain ⟨s6, s7, s8, more, less, rfl, f6, f7, f8, hm, hfi⟩ := he
    have htm := sm_ t (List.mem_of_getElem? hit)
    have i1 := hf.ix htm.2.1
    have i2 := hg.ix htm.2.1
    have hft := hf.nn t
    have hc0 : 0 < fA f t + fA g t := by omega
    have hbc : Bd 90 (fA f t + fA g t) := ((hf.bd t).sum2 (hg.bd t)).mono (by omega)
    have hlt : i < pos.length := (List.getElem?_eq_some_iff.mp hit).1
    have hdr : pos.drop i = t :: pos.drop (i + 1) := by rw [List.drop_eq_getElem_cons hlt]; congr 1; exact (List.getElem?_eq_some_iff.mp hit).2
    have htk : pos.take (i + 1) = pos.take i ++ [t] := by rw [List.take_add_one, hit]; rfl
    rw [hdr] at hfi
    simp_arith! [f6]
    refine kt ?_
    simp_arith! [f7]
    refine kt ?_
    simp_arith! [i1, i2, f8]
    refine kt ?_
    simp_arith! []
    refine ⟨fun q => ?_, fun q => ?_⟩
    · have a1 := h106 (more - less) (fA f t + fA g t) (by omega) (hbc.mono (by omega))
      have a2 := h150 (1, 1) (nz (more - less) (fA f t + fA g t)) (fw_int (by unfold Bd; decide)) (fw_nz hc0 hm q hbc)
      have a3 : D.tup [D.int 1, D.int 1] = frD (1, 1) := rfl
      have a4 := put_kN (stP (pos.take i)) t (frD (subF (1, 1) (nz (more - less) (fA f t + fA g t)))) held htm.1
      unfold DKf
      refine kt ?_
      simp_arith! [a1, a3, a2, key_nI, a4]
      refine ⟨by omega, ?_⟩
      refine kt ?_
      simp_arith! []
      unfold fin_ at hfi
      rw [if_pos q, List.append_nil] at hfi
      obtain ⟨rfl, rfl⟩ := Prod.mk.inj hfi
      have tni : t ∉ pos.take i := fun z => by
        have := snd_
        rw [← List.take_append_drop i pos, hdr] at this
        exact (List.nodup_append.mp this).2.2 t z t List.mem_cons_self rfl
      congr 3
      refine List.map_congr_left fun k hk => ?_
      unfold pF stP
      rw [if_pos hk]
      by_cases z : k = t
      · subst z
        simp [tni]
      · by_cases z2 : k ∈ pos.take i <;> simp [z, z2]
    · have a3 : D.tup [D.int 0, D.int 1] = frD (0, 1) := rfl
      have a4 := put_kN (stP (pos.take i)) t (frD (0, 1)) held htm.1
      have a5 : (held.map fun k => if k = t then frD (0, 1) else stP (pos.take i) k) = held.map (stP (pos.take (i + 1))) := by
        refine List.map_congr_left fun k hk => ?_
        unfold stP
        rw [htk]
        by_cases z : k = t
        · subst z; simp
        · simp [z]
      rw [a5] at a4
      unfold DKf
      refine kt ?_
      simp_arith! [a3, key_nI, a4]
      refine ⟨by omega, ?_⟩
      refine kt ?_
      simp_arith! [i1]
      refine kt ?_
      simp_arith! [i2]
      unfold fin_ at hfi
      rw [if_neg (by omega)] at hfi
      refine ⟨_, _, _, _, _, rfl, rfl, rfl, rfl, by omega, ?_⟩
      rw [hfi, htk, show more - fA f t - (less + fA g t) = more - less - (fA f t + fA g t) by omega]
      simp
  · obtain ⟨s6, s7, s8, more, less, rfl, f6, f7, f8, hm, hfi⟩ := he
    rw [List.take_length, List.drop_length] at hfi
    unfold fin_ at hfi
    rw [List.append_nil] at hfi
    obtain ⟨rfl, rfl⟩ := Prod.mk.inj hfi
    rw [List.take_length]
    unfold DKf
    refine kt ?_
    simp_arith! []
    congr 3
    refine List.map_congr_left fun k hk => ?_
    unfold pF stP
    rw [if_pos hk]
set_option exponentiation.threshold 10000
def ptD (n : Nat) (h : Nat → Int × Int) : D := .tup ((List.range n).map fun k => frD (h k))
def seqB (b : Bool) (xs : List D) : D := if b then .tup xs else .lst xs
theorem sm_bd {B : Int} : ∀ (n : Nat) (h : Nat → Int), (∀ k, k < n → 0 ≤ h k ∧ h k ≤ B) → 0 ≤ sm n h ∧ sm n h ≤ n * B
  | 0, h, _ => by simp [sm_zero]
  | n + 1, h, hh => by
    have ih := sm_bd n h fun k hk => hh k (by omega)
    have h1 := hh n (by omega)
    rw [sm_succ]
    refine ⟨by omega, ?_⟩
    have : ((n + 1 : Nat) : Int) * B = n * B + B := by rw [Int.natCast_add, Int.add_mul]; simp
    omega
/-- fractions of M, from 0 to 1 -/
structure Pr (n : Nat) (M : Int) (h : Nat → Int × Int) (P : Nat → Int) : Prop where
  m : 0 < M
  b : Bd 90 M
  v : ∀ k, k < n → Val M (h k) (P k)
  p : ∀ k, k < n → 0 ≤ P k ∧ P k ≤ M
theorem Pr.fw {n : Nat} {M : Int} {h : Nat → Int × Int} {P : Nat → Int} (a : Pr n M h P) {k : Nat} (hk : k < n) : Fw (h k) := by
  obtain ⟨h1, h2⟩ := (a.v k hk).bd a.m
  have hp := a.p k hk
  have hb := a.b
  have hh := (a.v k hk).p
  refine ⟨hh, ?_, ?_⟩
  · have : Bd 90 (h k).1 := by unfold Bd at *; omega
    exact this.mono (by omega)
  · have : Bd 90 (h k).2 := by unfold Bd at *; omega
    exact this.mono (by omega)
theorem Pr.other {n : Nat} {M : Int} {h : Nat → Int × Int} {P : Nat → Int} (a : Pr n M h P) : Pr n M (fun k => subF (1, 1) (h k)) (fun k => M - P k) :=
  ⟨a.m, a.b, fun k hk => Val.unit.sub (a.v k hk), fun k hk => by have := a.p k hk; omega⟩
theorem fw_one : Fw (1, 1) := fw_int (by unfold Bd; decide)
theorem others_ok (Δ : Tb) [A8 Δ] [A11 Δ] [A14 Δ] (k n : Nat) (hn : n ≤ 1000) (M : Int) (h : Nat → Int × Int) (P : Nat → Int) (a : Pr n M h P) (b : Bool) :
    callN Δ (k + 3) 225 [.fz (seqB b ((List.range n).map fun k => frD (h k)))] = some (.v (ptD n fun k => subF (1, 1) (h k)), [.fz (seqB b ((List.range n).map fun k => frD (h k)))]) := by
  refine eq_of ?_
  rw [fn225]
  have h150 := fun a d ha hd => wsub_ok Δ k a d ha hd
  generalize callN Δ (k + 2) = cl at h150
  have a3 : D.tup [D.int 1, D.int 1] = frD (1, 1) := rfl
  cases b
  · show Ev (runDef cl _ [.fz (.lst _)]) fun z => z = (_, [.fz (.lst _)])
    walk_at "in"
    refine kt ?_
    simp_arith! []
    refine lcG (f := fun k => frD (h k)) (fun k => frD (subF (1, 1) (h k))) (fun t ht => ?_) ?_
    · have e := h150 (1, 1) (h t) fw_one (a.fw (by simpa using ht))
      simp_arith! [a3, e]
    simp_arith! []
    refine ⟨by omega, ?_⟩
    rfl
  · show Ev (runDef cl _ [.fz (.tup _)]) fun z => z = (_, [.fz (.tup _)])
    walk_at "in"
    refine kt ?_
    simp_arith! []
    refine lcG (f := fun k => frD (h k)) (fun k => frD (subF (1, 1) (h k))) (fun t ht => ?_) ?_
    · have e := h150 (1, 1) (h t) fw_one (a.fw (by simpa using ht))
      simp_arith! [a3, e]
    simp_arith! []
    refine ⟨by omega, ?_⟩
    rfl
theorem zip_pts (f : List Int) (h : Nat → D) : zipD (f.map .int) ((List.range f.length).map h) = (List.range f.length).map fun k => .tup [.int (fA f k), h k] := by
  refine List.ext_getElem? fun i => ?_
  by_cases hi : i < f.length
  · have hl : i < (zipD (f.map .int) ((List.range f.length).map h)).length := by rw [zip_len]; simpa using hi
    obtain ⟨d, hd⟩ : ∃ d, (zipD (f.map .int) ((List.range f.length).map h))[i]? = some d := ⟨_, List.getElem?_eq_getElem hl⟩
    obtain ⟨x, y, e1, e2, rfl⟩ := zip_get hd
    rw [hd, List.getElem?_map, List.getElem?_range hi]
    rw [List.getElem?_map] at e1 e2
    rw [List.getElem?_range hi] at e2
    rw [List.getElem?_eq_getElem hi] at e1
    cases e1
    cases e2
    simp [fA, List.getD_eq_getElem?_getD, List.getElem?_eq_getElem hi]
  · rw [List.getElem?_eq_none (by rw [zip_len]; simp; omega), List.getElem?_eq_none (by simp; omega)]
theorem points_ok (Δ : Tb) [A8 Δ] [A14 Δ] (k n : Nat) (hn : n ≤ 1000) (f : List Int) (hf : Pt n f) (M : Int) (h : Nat → Int × Int) (P : Nat → Int) (a : Pr n M h P) :
    ∃ q, callN Δ (k + 3) 222 [.fz (tupI f), .fz (ptD n h)] = some (.v (frD q), [.fz (tupI f), .fz (ptD n h)]) ∧ Val M q (sm n fun k => fA f k * P k) := by
  have hex : Ev (callN Δ (k + 3) 222 [.fz (tupI f), .fz (ptD n h)]) fun z => ∃ q, z = (.v (frD q), [.fz (tupI f), .fz (ptD n h)]) ∧ Val M q (sm n fun k => fA f k * P k) := by
    rw [fn222]
    have h107 := fun a d ha hd => fadd_ok Δ k a d ha hd
    have h108 := fun a d ha hd => fmul_ok Δ k a d ha hd
    generalize callN Δ (k + 2) = cl at h107 h108
    have hb : ∀ i, i ≤ n → Fr 4000 (0, 1) ∧ Bd 3000 (sm i fun k => fA f k * P k) := fun i hi => by
      refine ⟨⟨by decide, by unfold Bd; decide, by unfold Bd; decide⟩, ?_⟩
      have := sm_bd (B := 2 ^ 80 * 2 ^ 90) i (fun k => fA f k * P k) fun k hk => by
        have h1 := hf.nn k
        have h2 := hf.bd k
        have h3 := a.p k (by omega)
        have h4 := a.b
        unfold Bd at h2 h4
        refine ⟨Int.mul_nonneg h1 h3.1, ?_⟩
        exact Int.mul_le_mul (by omega) (by omega) h3.1 (by decide)
      have h5 : (i : Int) * (2 ^ 80 * 2 ^ 90) ≤ 1000 * (2 ^ 80 * 2 ^ 90) := Int.mul_le_mul_of_nonneg_right (by omega) (by decide)
      have h6 : Bd 200 (sm i fun k => fA f k * P k) := by
        unfold Bd
        omega
      exact h6.mono (by omega)
    walk_at "in"
    refine kt ?_
    simp_arith! []
    refine kt ?_
    unfold ptD tupI
    have hl := hf.l
    subst hl
    simp_arith! [show ∀ xs ys : List D, zipS (.tup xs) (.tup ys) = some (zipD xs ys) from fun _ _ => rfl, zip_pts f fun k => frD (h k)]
    refine foM (f := fun k => D.tup [.int (fA f k), frD (h k)]) (P := fun i e => ∃ q s3 s4, e = [.fz (.tup (f.map .int)), .fz (.tup ((List.range f.length).map fun k => frD (h k))), .fz (frD q), s3, s4] ∧ fr s3 = true ∧ fr s4 = true ∧ Val M q (sm i fun k => fA f k * P k)) ⟨(0, 1), _, _, rfl, rfl, rfl, Val.zero⟩ (fun i t hit e he => ?_) fun e he => ?_
    · obtain ⟨q, s3, s4, rfl, f3, f4, hv⟩ := he
      obtain ⟨hi1, hi2⟩ := List.getElem?_eq_some_iff.mp hit
      simp at hi1 hi2
      subst hi2
      have v1 := (a.v i hi1).imul (n := fA f i)
      have fr1 : Fr 4000 (fA f i, 1) := (fw_int ((hf.bd i).mono (by omega))).fr
      have fr2 : Fr 4000 (h i) := (a.fw hi1).fr
      have bP : Bd 90 (P i) := Bd.of_le a.b (a.p i hi1).1 (a.p i hi1).2
      have fr3 : Fr 4000 (mulF (fA f i, 1) (h i)) := v1.fr a.m (a.b.mono (by omega)) (((hf.bd i).mul bP).mono (by omega))
      have fr4 : Fr 4000 q := hv.fr a.m (a.b.mono (by omega)) ((hb i (by omega)).2.mono (by omega))
      have e1 := h108 (fA f i, 1) (h i) fr1 fr2
      have e2 := h107 q (mulF (fA f i, 1) (h i)) fr4 fr3
      have a3 : D.tup [D.int (fA f i), D.int 1] = frD (fA f i, 1) := rfl
      simp_arith! [f3, f4]
      refine kt ?_
      simp_arith! [a3, e1, e2]
      refine ⟨_, _, _, rfl, rfl, rfl, ?_⟩
      rw [sm_succ]
      exact hv.add v1
    · obtain ⟨q, s3, s4, rfl, f3, f4, hv⟩ := he
      refine kt ?_
      simp_arith! []
      simp at hv
      exact ⟨q, rfl, hv⟩
  obtain ⟨z, h1, q, rfl, h2⟩ := hex
  exact ⟨q, h1, h2⟩
set_option exponentiation.threshold 10000
def hdA (n : Nat) (f g : List Int) : List Nat := (List.range n).filter fun k => decide (fA g k ≤ fA f k)
def hdB (n : Nat) (f g : List Int) : List Nat := (List.range n).filter fun k => decide (fA f k < fA g k)
def rich (n : Nat) (f g : List Int) : Bool := decide (((hdB n f g).map (fA g)).sum ≤ ((hdA n f g).map (fA f)).sum)
/-- the giver's points, the taker's, what the giver has -/
def gA (n : Nat) (f g : List Int) : Nat → Int := if rich n f g = true then fA f else fA g
def gB (n : Nat) (f g : List Int) : Nat → Int := if rich n f g = true then fA g else fA f
def gH (n : Nat) (f g : List Int) : List Nat := if rich n f g = true then hdA n f g else hdB n f g
def gP (n : Nat) (f g : List Int) : List Nat := selL (gA n f g) (gB n f g) (gH n f g).length ((gH n f g).filter fun k => decide (0 < gB n f g k))
def gG (n : Nat) (f g : List Int) : Int := ((gH n f g).map (gA n f g)).sum - (((List.range n).filter fun t => !decide (t ∈ gH n f g)).map (gB n f g)).sum
def gF (n : Nat) (f g : List Int) : List Nat × Option (Nat × Int) := fin_ (gA n f g) (gB n f g) (gP n f g) (gG n f g)
def gM (n : Nat) (f g : List Int) : Int := pM (gA n f g) (gB n f g) (gF n f g).2
/-- a giver's part; the first one's -/
def gQ (n : Nat) (f g : List Int) (k : Nat) : Int × Int := pF (gA n f g) (gB n f g) (gH n f g) (gF n f g).1 (gF n f g).2 k
def gQP (n : Nat) (f g : List Int) (k : Nat) : Int := pP (gA n f g) (gB n f g) (gH n f g) (gF n f g).1 (gF n f g).2 k
def eH (n : Nat) (f g : List Int) (k : Nat) : Int × Int := if rich n f g = true then gQ n f g k else subF (1, 1) (gQ n f g k)
def eP (n : Nat) (f g : List Int) (k : Nat) : Int := if rich n f g = true then gQP n f g k else gM n f g - gQP n f g k
section
variable {n : Nat} {f g : List Int} {T : Int}
theorem hdA_mem {k : Nat} : k ∈ hdA n f g ↔ k < n ∧ fA g k ≤ fA f k := by simp [hdA]
theorem hdB_mem {k : Nat} : k ∈ hdB n f g ↔ k < n ∧ fA f k < fA g k := by simp [hdB]
theorem rng_pw (n : Nat) : (List.range n).Pairwise (· < ·) := List.pairwise_lt_range
theorem hdA_pw : (hdA n f g).Pairwise (· < ·) := (rng_pw n).sublist List.filter_sublist
theorem hdB_pw : (hdB n f g).Pairwise (· < ·) := (rng_pw n).sublist List.filter_sublist
theorem notA : ((List.range n).filter fun t => !decide (t ∈ hdA n f g)) = hdB n f g := by
  unfold hdB
  refine List.filter_congr fun k hk => ?_
  have hk : k < n := by simpa using hk
  by_cases z : fA g k ≤ fA f k
  · have : k ∈ hdA n f g := hdA_mem.mpr ⟨hk, z⟩
    simp [this]; omega
  · have : ¬ k ∈ hdA n f g := fun y => z (hdA_mem.mp y).2
    simp [this]; omega
theorem notB : ((List.range n).filter fun t => !decide (t ∈ hdB n f g)) = hdA n f g := by
  unfold hdA
  refine List.filter_congr fun k hk => ?_
  have hk : k < n := by simpa using hk
  by_cases z : fA f k < fA g k
  · have : k ∈ hdB n f g := hdB_mem.mpr ⟨hk, z⟩
    simp [this]; omega
  · have : ¬ k ∈ hdB n f g := fun y => z (hdB_mem.mp y).2
    simp [this]; omega
theorem gH_pw : (gH n f g).Pairwise (· < ·) := by unfold gH; split; exact hdA_pw; exact hdB_pw
theorem gH_lt {k : Nat} (h : k ∈ gH n f g) : k < n := by
  unfold gH at h
  split at h
  · exact (hdA_mem.mp h).1
  · exact (hdB_mem.mp h).1
theorem gH_len : (gH n f g).length ≤ n := by
  unfold gH hdA hdB
  split <;> exact Nat.le_trans (List.length_filter_le _ _) (by simp)
theorem gG_nn : 0 ≤ gG n f g := by
  unfold gG gH gA gB
  by_cases h : rich n f g = true
  · simp only [if_pos h, notA]
    unfold rich at h
    simp at h
    omega
  · simp only [if_neg h, notB]
    unfold rich at h
    simp at h
    omega
theorem gSh (hf : Pt n f) (hg : Pt n g) (h1 : sm n (fA f) = T) (h2 : sm n (fA g) = T) : ShE (gA n f g) (gB n f g) n (gH n f g) (gP n f g) (gF n f g).1 (gF n f g).2 T (gG n f g) := by
  have hb0 : ∀ k, k < n → 0 ≤ gB n f g k := fun k _ => by unfold gB; split; exact hg.nn k; exact hf.nn k
  obtain ⟨s1, s2⟩ := selL_ok (a := gA n f g) (b := gB n f g) (gH n f g).length ((gH n f g).filter fun k => decide (0 < gB n f g k)) (List.length_filter_le _ _) (fun t ht => by simpa using (List.mem_filter.mp ht).2) (gH_pw.sublist List.filter_sublist)
  refine ⟨fun k _ => ?_, hb0, ?_, ?_, gH_pw.imp fun h => by omega, fun k hk => gH_lt hk, fun k hk hh => ?_, fun k hk hh => ?_, s1, s2, ?_, gG_nn, fin_ok _ _ gG_nn⟩
  · unfold gA; split; exact hf.nn k; exact hg.nn k
  · unfold gA; split; exact h1; exact h2
  · unfold gB; split; exact h2; exact h1
  · unfold gH at hh
    unfold gA gB
    by_cases h : rich n f g = true
    · rw [if_pos h] at hh
      rw [if_pos h, if_pos h]; exact (hdA_mem.mp hh).2
    · rw [if_neg h] at hh
      rw [if_neg h, if_neg h]; exact Int.le_of_lt (hdB_mem.mp hh).2
  · unfold gH at hh
    unfold gA gB
    by_cases h : rich n f g = true
    · rw [if_pos h] at hh
      rw [if_pos h, if_pos h]
      have : ¬ fA g k ≤ fA f k := fun z => hh (hdA_mem.mpr ⟨hk, z⟩)
      omega
    · rw [if_neg h] at hh
      rw [if_neg h, if_neg h]
      have : ¬ fA f k < fA g k := fun z => hh (hdB_mem.mpr ⟨hk, z⟩)
      omega
  · unfold gG
    have e1 := sum_flt (gB n f g) (fun t => decide (t ∈ gH n f g)) (List.range n)
    have e2 : ((List.range n).filter fun t => decide (t ∈ gH n f g)) = gH n f g := by
      unfold gH
      split
      · show _ = (List.range n).filter _
        refine List.filter_congr fun k hk => ?_
        rw [decide_eq_decide]
        exact ⟨fun h => (hdA_mem.mp h).2, fun h => hdA_mem.mpr ⟨by simpa using hk, h⟩⟩
      · show _ = (List.range n).filter _
        refine List.filter_congr fun k hk => ?_
        rw [decide_eq_decide]
        exact ⟨fun h => (hdB_mem.mp h).2, fun h => hdB_mem.mpr ⟨by simpa using hk, h⟩⟩
    rw [e2] at e1
    unfold sm
    omega
theorem gM_bd (hf : Pt n f) (hg : Pt n g) : Bd 90 (gM n f g) := by
  unfold gM pM
  split
  · refine (Bd.sum2 ?_ ?_).mono (by omega)
    · unfold gA; split; exact hf.bd _; exact hg.bd _
    · unfold gB; split; exact hg.bd _; exact hf.bd _
  · unfold Bd; decide
theorem gPr (hf : Pt n f) (hg : Pt n g) (h1 : sm n (fA f) = T) (h2 : sm n (fA g) = T) : Pr n (gM n f g) (gQ n f g) (gQP n f g) := by
  have s := gSh hf hg h1 h2
  exact ⟨s.fair.m, gM_bd hf hg, fun k _ => s.val k, fun k hk => s.fair.p0 k hk⟩
theorem ePr (hf : Pt n f) (hg : Pt n g) (h1 : sm n (fA f) = T) (h2 : sm n (fA g) = T) : Pr n (gM n f g) (eH n f g) (eP n f g) := by
  have p := gPr hf hg h1 h2
  unfold eH eP
  by_cases h : rich n f g = true
  · simpa only [if_pos h] using p
  · simpa only [if_neg h] using p.other
theorem eFair (hf : Pt n f) (hg : Pt n g) (h1 : sm n (fA f) = T) (h2 : sm n (fA g) = T) : ∃ S, Fair n (fA f) (fA g) (gM n f g) (eP n f g) S := by
  have s := (gSh hf hg h1 h2).fair
  unfold eP
  by_cases h : rich n f g = true
  · simp only [if_pos h]
    have e1 : gA n f g = fA f := if_pos h
    have e2 : gB n f g = fA g := if_pos h
    have s := (gSh hf hg h1 h2).fair
    unfold gM gQP
    rw [e1, e2] at *
    exact ⟨_, s⟩
  · simp only [if_neg h]
    have e1 : gA n f g = fA g := if_neg h
    have e2 : gB n f g = fA f := if_neg h
    have s := (gSh hf hg h1 h2).fair
    unfold gM gQP
    rw [e1, e2] at *
    exact ⟨_, s.swap⟩
end
theorem evened_ok (Δ : Tb) [A8 Δ] [A11 Δ] [A14 Δ] (k n : Nat) (hn : n ≤ 100) (f g : List Int) (T : Int) (hf : Pt n f) (hg : Pt n g) (h1 : sm n (fA f) = T) (h2 : sm n (fA g) = T) :
    ∃ q0 q1 S, callN Δ (k + 4) 226 [.fz (tupI f), .fz (tupI g)] = some (.v (.tup [ptD n (eH n f g), frD q0, frD q1]), [.fz (tupI f), .fz (tupI g)]) ∧ Fair n (fA f) (fA g) (gM n f g) (eP n f g) S ∧ Val (gM n f g) q0 S ∧ Val (gM n f g) q1 S := by
  obtain ⟨S, fair⟩ := eFair hf hg h1 h2
  have pr := ePr hf hg h1 h2
  have gpr := gPr hf hg h1 h2
  obtain ⟨q0, c0, v0⟩ := points_ok Δ k n (by omega) f hf _ _ _ pr
  obtain ⟨q1, c1, v1⟩ := points_ok Δ k n (by omega) g hg _ _ _ pr.other
  rw [fair.s1] at v0
  rw [fair.s2] at v1
  refine ⟨q0, q1, S, ?_, fair, v0, v1⟩
  refine eq_of ?_
  rw [fn226]
  have o1 := others_ok Δ k n (by omega) _ _ _ pr true
  have o2 := others_ok Δ k n (by omega) _ _ _ gpr false
  have ph : ∀ (f' g' : List Int), Pt n f' → Pt n g' → gA n f g = fA f' → gB n f g = fA g' → callN Δ (k + 3) 224 [.fz (tupI f'), .fz (tupI g'), .ow true (LN (gH n f g))] = some (.nw (DKf (gH n f g) fun k => frD (gQ n f g k)), [.fz (tupI f'), .fz (tupI g'), .ow true (LN (gH n f g))]) := fun f' g' hf' hg' e1 e2 => by
    have := parts_ok Δ k n f' g' hf' hg' hn (gH n f g) (fun t ht => gH_lt ht) (by have := gH_len (n := n) (f := f) (g := g); omega) gH_pw (gG n f g) (by unfold gG; rw [e1, e2]) gG_nn (gF n f g).1 (gF n f g).2 (by unfold gF gP; rw [e1, e2])
    unfold gQ
    rw [e1, e2]
    exact this
  have get_ : ∀ t : Nat, valD ((gH n f g).map kN) ((gH n f g).map fun k => frD (gQ n f g k)) (Sum.inl (t : Int)) = if t ∈ gH n f g then some (frD (gQ n f g t)) else none := fun (t : Nat) => val_kN _ t _
  have out : ∀ t, t ∉ gH n f g → frD (gQ n f g t) = D.tup [.int 0, .int 1] := fun t ht => by
    unfold gQ pF
    rw [if_neg ht]; rfl
  generalize callN Δ (k + 3) = cl at c0 c1 o1 o2 ph
  have tl : bltS .len [tupI f] = some (.v (.int (n : Nat))) := by rw [← hf.l]; simp [tupI, bltS]
  walk_at "in"
  refine kt ?_
  simp_arith! [tl]
  refine kt ?_
  simp_arith! []
  refine lcF (f := fun k => D.int ((k : Nat) : Int)) nI (fun k => decide (fA g k ≤ fA f k)) (fun t ht => ?_) ?_
  · have i1 := hf.ix (show t < n by simpa using ht)
    have i2 := hg.ix (show t < n by simpa using ht)
    simp_arith! [i1, i2]
  rw [show (List.range n).filter (fun k => decide (fA g k ≤ fA f k)) = hdA n f g from rfl]
  have lA : (hdA n f g).length ≤ n := Nat.le_trans (List.length_filter_le _ _) (by simp)
  have lB : (hdB n f g).length ≤ n := Nat.le_trans (List.length_filter_le _ _) (by simp)
  simp_arith! []
  refine ⟨by omega, ?_⟩
  refine kt ?_
  simp_arith! []
  refine lcF (f := fun k => D.int ((k : Nat) : Int)) nI (fun k => decide (fA f k < fA g k)) (fun t ht => ?_) ?_
  · have i1 := hf.ix (show t < n by simpa using ht)
    have i2 := hg.ix (show t < n by simpa using ht)
    simp_arith! [i1, i2]
  rw [show (List.range n).filter (fun k => decide (fA f k < fA g k)) = hdB n f g from rfl]
  simp_arith! []
  refine ⟨by omega, ?_⟩
  refine kt ?_
  simp_arith! []
  refine lcG (f := nI) (fun t => .int (fA f t)) (fun t ht => ?_) ?_
  · have i1 := hf.ix (hdA_mem.mp ht).1
    simp_arith! [i1]
  rw [show (hdA n f g).map (fun t => D.int (fA f t)) = ((hdA n f g).map (fA f)).map D.int by rw [List.map_map]; rfl]
  simp_arith! []
  refine ⟨by omega, ?_⟩
  refine lcG (f := nI) (fun t => .int (fA g t)) (fun t ht => ?_) ?_
  · have i1 := hg.ix (hdB_mem.mp ht).1
    simp_arith! [i1]
  rw [show (hdB n f g).map (fun t => D.int (fA g t)) = ((hdB n f g).map (fA g)).map D.int by rw [List.map_map]; rfl]
  simp_arith! []
  refine ⟨by omega, ?_⟩
  refine ⟨fun q => ?_, fun q => ?_⟩
  · have hr : rich n f g = true := by unfold rich; simpa using q
    have eh : gH n f g = hdA n f g := if_pos hr
    have p1 := ph f g hf hg (if_pos hr) (if_pos hr)
    rw [eh] at p1 get_ out
    unfold LN DKf at p1
    have ee : eH n f g = gQ n f g := funext fun k => if_pos hr
    refine kt ?_
    simp_arith! [p1]
    refine kt ?_
    simp_arith! []
    refine lcG (f := fun k => D.int ((k : Nat) : Int)) (fun t => frD (gQ n f g t)) (fun t ht => ?_) ?_
    · have e1 := get_ t
      by_cases z : t ∈ hdA n f g
      · rw [if_pos z] at e1
        simp_arith! [e1]
      · rw [if_neg z] at e1
        simp_arith! [e1, out t z]
    simp_arith! []
    refine ⟨by omega, ?_⟩
    refine kt ?_
    unfold seqB at o1
    unfold ptD at c0 c1 o1 ⊢
    simp only [if_true, ee] at c0 c1 o1 ⊢
    simp_arith! [c0, o1, c1]
  · have hr : ¬ rich n f g = true := by unfold rich; simpa using q
    have eh : gH n f g = hdB n f g := if_neg hr
    have p1 := ph g f hg hf (if_neg hr) (if_neg hr)
    rw [eh] at p1 get_ out
    unfold LN DKf at p1
    have ee : eH n f g = fun k => subF (1, 1) (gQ n f g k) := funext fun k => if_neg hr
    refine kt ?_
    simp_arith! [p1]
    refine kt ?_
    simp_arith! []
    refine lcG (f := fun k => D.int ((k : Nat) : Int)) (fun t => frD (gQ n f g t)) (fun t ht => ?_) ?_
    · have e1 := get_ t
      by_cases z : t ∈ hdB n f g
      · rw [if_pos z] at e1
        simp_arith! [e1]
      · rw [if_neg z] at e1
        simp_arith! [e1, out t z]
    unfold seqB at o1 o2
    unfold ptD at c0 c1 o1 o2 ⊢
    simp only [if_true, Bool.false_eq_true, if_false, ee] at c0 c1 o1 o2 ⊢
    simp_arith! [o2]
    refine ⟨by omega, ?_⟩
    refine kt ?_
    simp_arith! [c0, o1, c1]
/-- what a row may hold -/
def ElOk (d : D) : Prop := d = .non ∨ ∃ xs, d = .tup xs ∧ (∀ x ∈ xs, noB x = true) ∧ xs.length ≤ 1000
theorem idx_tupD {es : List D} {j : Nat} {d : D} (h : es[j]? = some d) : idxS (.tup es) (.int j) = some d := by
  have := atI_map (f := fun d : D => d) h
  rwa [List.map_id'] at this
abbrev Ar := List (Int × List Int)
inductive Att (ar : Ar) (sd : Int) (tg : List Int) : Nat → Prop
  | tgt {i : Nat} : (i : Int) ∈ tg → Att ar sd tg i
  | own {i : Nat} {p : Int × List Int} {m : Int} : ar[i]? = some p → p.1 = sd → m ∈ p.2 → Att ar sd tg m.toNat → Att ar sd tg i
  | oth {i : Nat} {p : Int × List Int} : ar[i]? = some p → p.1 ≠ sd → (∀ m ∈ p.2, Att ar sd tg m.toNat) → Att ar sd tg i
theorem getD_of {α : Type} {l : List α} {i : Nat} {x d : α} (h : l[i]? = some x) : l.getD i d = x := by rw [List.getD_eq_getElem?_getD, h]; rfl
def cntS (rk : Cs) : Nat := (rk.filter fun x => x.isSome).length
/-- the arena is one -/
structure Arn (ar : Ar) : Prop where
  g : ∀ p ∈ ar, GoodP ar.length p
theorem Arn.at_ {ar : Ar} (h : Arn ar) {i : Nat} (hi : i < ar.length) : ∃ p, ar[i]? = some p ∧ ar.getD i (0, []) = p ∧ 0 < p.2.length ∧ ∀ m ∈ p.2, 0 ≤ m ∧ m < ar.length := by
  have h1 : ar[i]? = some ar[i] := List.getElem?_eq_getElem hi
  have h2 := h.g _ (List.getElem_mem hi)
  exact ⟨_, h1, getD_of h1, h2.2.1, h2.2.2.2⟩
def vl (z : Option (Int × Int) × Int) : Option Int := z.1.map fun p => z.2 + p.1
/-- arena, weights, target -/
structure Gam (ar : Ar) (ws : List (List Int)) (tg : List Int) : Prop where
  a : Arn ar
  f : Fits ar ws
  w : ∀ (i : Nat) (w : List Int), ws[i]? = some w → ∀ v ∈ w, 0 ≤ v
  t : ∀ x ∈ tg, 0 ≤ x ∧ x < ar.length
theorem Gam.at_ {ar : Ar} {ws : List (List Int)} {tg : List Int} (h : Gam ar ws tg) {i : Nat} (hi : i < ar.length) :
    ∃ x w, ar[i]? = some x ∧ ar.getD i (0, []) = x ∧ ws.getD i [] = w ∧ w.length = x.2.length ∧ 0 < x.2.length ∧ (∀ m ∈ x.2, 0 ≤ m ∧ m < ar.length) ∧ (∀ v ∈ w, 0 ≤ v) ∧ ∀ z ∈ x.2.zip w, (0 ≤ z.1 ∧ z.1 < ar.length) ∧ 0 ≤ z.2 := by
  obtain ⟨x, h1, h2, h3, h4⟩ := h.a.at_ hi
  have hl : i < ws.length := by rw [h.f.1]; exact hi
  have hw : ws[i]? = some ws[i] := List.getElem?_eq_getElem hl
  refine ⟨x, ws[i], h1, h2, getD_of hw, h.f.2 i x _ h1 hw, h3, h4, h.w i _ hw, fun z hz => ?_⟩
  have := List.of_mem_zip hz
  exact ⟨h4 _ this.1, h.w i _ hw _ this.2⟩
theorem el_tup {xs : List D} (h : ∀ x ∈ xs, noB x = true) (hl : xs.length ≤ 1000) : ElOk (.tup xs) := .inr ⟨xs, rfl, h, hl⟩
theorem el_noB {d : D} (h : ElOk d) : noB d = true := by
  rcases h with rfl | ⟨xs, rfl, _⟩ <;> rfl
structure RowOk (es : List D) : Prop where
  e : ∀ d ∈ es, ElOk d
  n : es.length ≤ 1000
theorem RowOk.tup {es : List D} (h : RowOk es) : ElOk (.tup es) := el_tup (fun x hx => el_noB (h.e x hx)) h.n
theorem RowOk.set {es : List D} (h : RowOk es) {j : Nat} {d : D} (hd : ElOk d) : RowOk (es.set j d) :=
  ⟨fun x hx => by
    rcases List.mem_or_eq_of_mem_set hx with hx | rfl
    · exact h.e x hx
    · exact hd, by rw [List.length_set]; exact h.n⟩
inductive Nd where
  | fin (ws : List Int)
  | mov (p : Int) (gs : List Nat)
  | cha (ps : List (Nat × (Int × Int)))
def chD (q : Nat × (Int × Int)) : D := .tup [.int (q.1 : Int), frD q.2]
def ndD : Nd → D
  | .fin ws => .tup [.str "end", .tup (ws.map .int)]
  | .mov p gs => .tup [.str "move", .int p, .tup (gs.map fun g : Nat => D.int (g : Int))]
  | .cha ps => .tup [.str "chance", .tup (ps.map chD)]
theorem Val.one (N : Int) : Val 1 (N, 1) N := ⟨by show (0 : Int) < 1; decide, by simp, by simp⟩
set_option exponentiation.threshold 5000
def Nd.goals : Nd → List Nat
  | .fin _ => []
  | .mov _ gs => gs
  | .cha ps => ps.map (·.1)
def prodI : List Int → Int
  | [] => 1
  | w :: l => w * prodI l
theorem prodI_one : ∀ (l : List Int), (∀ w ∈ l, 1 ≤ w) → 1 ≤ prodI l
  | [], _ => by simp [prodI]
  | w :: l, h => by
    have h1 := h w (by simp)
    have h2 := prodI_one l fun x hx => h x (by simp [hx])
    show 1 ≤ w * prodI l
    have : 0 < w * prodI l := Int.mul_pos (by omega) (by omega)
    omega
/-- a value over E with a bound -/
def GV (B E : Int) (f : Int × Int) : Prop := ∃ N, Val E f N ∧ -(B * E) ≤ N ∧ N ≤ B * E
def BB : Int := 2 ^ 140
theorem BB_pos : 0 < BB := by decide +kernel
theorem GV.fr {f : Int × Int} {E : Int} (h : GV BB E f) (h1 : 1 ≤ E) (h2 : E < 2 ^ 430) : Fr 580 f := by
  obtain ⟨N, v1, v2, v3⟩ := h
  have hb : BB * E < 2 ^ 570 := by
    have := Int.mul_lt_mul_of_pos_left h2 BB_pos
    have e : BB * 2 ^ 430 = 2 ^ 570 := by decide +kernel
    omega
  refine v1.fr (by omega) ?_ ?_
  · unfold Bd
    have : (2 : Int) ^ 430 ≤ 2 ^ 580 := by decide +kernel
    have e : ((2 ^ 580 : Nat) : Int) = 2 ^ 580 := by norm_cast
    omega
  · unfold Bd
    have : (2 : Int) ^ 570 ≤ 2 ^ 580 := by decide +kernel
    have e : ((2 ^ 580 : Nat) : Int) = 2 ^ 580 := by norm_cast
    omega
theorem Fr.mono {a b : Nat} (h : a ≤ b) {f : Int × Int} (hf : Fr a f) : Fr b f := ⟨hf.p, Nat.lt_of_lt_of_le hf.n (Nat.pow_le_pow_right (by decide) h), Nat.lt_of_lt_of_le hf.d (Nat.pow_le_pow_right (by decide) h)⟩

/-- ints or tuples -/
def ItB (d : D) : Prop := (∃ i, d = .int i) ∨ ∃ xs, d = .tup xs
theorem ItB.nb {d : D} (h : ItB d) : noB d = true := by rcases h with ⟨i, rfl⟩ | ⟨xs, rfl⟩ <;> rfl
/-- what stands in a row of places -/
def RowP (n : Nat) (sd : Int) (k : Nat) (p : Int × List Int) : Prop := (p.1 = 0 ∨ p.1 = 1) ∧ 0 < p.2.length ∧ p.2.length ≤ 10 ∧
  if k + 1 < n then ((k : Int) + 1) ∈ p.2 ∧ (∀ m ∈ p.2, 0 ≤ m ∧ m ≤ (k : Int) + 1) ∧ (p.1 ≠ sd → ∀ m ∈ p.2, m = (k : Int) + 1) else p.2 = [(k : Int)]
theorem RowP.good {n : Nat} {sd : Int} {k : Nat} {p : Int × List Int} (h : RowP n sd k p) (hk : k < n) : GoodP n p := by
  obtain ⟨h1, h2, h3, h4⟩ := h
  refine ⟨h1, h2, by omega, fun m hm => ?_⟩
  split at h4
  · have := h4.2.1 m hm; omega
  · rw [h4] at hm
    simp only [List.mem_singleton] at hm
    omega
structure Ord (n : Nat) (od : List Int) : Prop where
  l : od.length = n
  m : ∀ x, x ∈ od ↔ 0 ≤ x ∧ x < n
  d : od.Nodup
theorem Ord.get {n : Nat} {od : List Int} (h : Ord n od) {k : Nat} (hk : k < n) : ∃ x, od[k]? = some x ∧ od.getD k 0 = x ∧ (0 ≤ x ∧ x < n) ∧ od.idxOf x = k := by
  have hk' : k < od.length := by rw [h.l]; exact hk
  refine ⟨od[k], List.getElem?_eq_getElem hk', ?_, (h.m _).mp (List.getElem_mem hk'), h.d.idxOf_getElem k hk'⟩
  rw [List.getD_eq_getElem?_getD, List.getElem?_eq_getElem hk']
  rfl
theorem Ord.inv {n : Nat} {od : List Int} (h : Ord n od) {j : Nat} (hj : j < n) : od.idxOf (j : Int) < n ∧ od[od.idxOf (j : Int)]? = some (j : Int) := by
  have hm : (j : Int) ∈ od := (h.m _).mpr ⟨by omega, by omega⟩
  have hl := List.idxOf_lt_length_iff.mpr hm
  refine ⟨by rw [← h.l]; exact hl, ?_⟩
  rw [List.getElem?_eq_getElem hl, List.getElem_idxOf]
/-- the mask of a set below n -/
def mkM (n : Nat) (F : St_) : Nat := msk ((List.range n).filter F)
section
variable {ar : Ar_} {p : Nat}
end
theorem not_emp {n : Nat} {F : St_} (h : ¬ emp n F = true) : ∃ p, p < n ∧ F p = true := by
  rw [emp_iff] at h
  obtain ⟨p, hp⟩ := Classical.not_forall.mp h
  obtain ⟨h1, h2⟩ := Classical.not_imp.mp hp
  exact ⟨p, h1, by simpa using h2⟩
/-- some place has the greatest number -/
theorem top_mem {nu : List Int} {n : Nat} {W : St_} {p : Nat} (hp : p < n) (h : W p = true) : ∃ q, q < n ∧ W q = true ∧ nu.getD q 0 = topN nu n W := by
  have hm : p ∈ (List.range n).filter W := by simp [hp, h]
  have hl : 0 < (((List.range n).filter W).map fun p => nu.getD p 0).length := by
    rw [List.length_map]; exact List.length_pos_of_mem hm
  have := maxL_mem hl
  obtain ⟨q, hq, e⟩ := List.mem_map.mp this
  simp only [List.mem_filter, List.mem_range] at hq
  exact ⟨q, hq.1, hq.2, e⟩
theorem top_ge {nu : List Int} {n : Nat} {W : St_} {p : Nat} (hp : p < n) (h : W p = true) : nu.getD p 0 ≤ topN nu n W :=
  maxL_ge (List.mem_map.mpr ⟨p, by simp [hp, h], rfl⟩)
/-- a list that is a value, or lent -/
def sl (b : Bool) (d : D) : Sl := if b = true then .ow true d else .fz d
def cs (l : List Nat) : List Int := l.map fun i : Nat => (i : Int)
section
variable {n : Nat} {inv : Nat → Nat}
def tr (inv : Nat → Nat) (n : Nat) (F : St_) : St_ := fun j => decide (j < n) && F (inv j)
structure Bij (n : Nat) (inv : Nat → Nat) : Prop where
  i : ∀ j, j < n → inv j < n
  s : ∀ k, k < n → ∃ j, j < n ∧ inv j = k
/-- an arena with its places in another order -/
structure Ren (ar ar' : Ar_) (inv : Nat → Nat) : Prop where
  l : ar'.length = ar.length
  b : Bij ar.length inv
  o : ∀ j, j < ar.length → ownr ar' j = ownr ar (inv j)
  m : ∀ j, j < ar.length → ∀ x, x ∈ mvs ar' j ↔ (x < ar.length ∧ inv x ∈ mvs ar (inv j))
theorem any_mem {l r : List Nat} {p q : Nat → Bool} (h : ∀ x, x ∈ l → p x = true → ∃ y, y ∈ r ∧ q y = true) (h2 : ∀ x, x ∈ r → q x = true → ∃ y, y ∈ l ∧ p y = true) : l.any p = r.any q := by
  rw [Bool.eq_iff_iff, List.any_eq_true, List.any_eq_true]
  exact ⟨fun ⟨x, a, b⟩ => h x a b, fun ⟨x, a, b⟩ => h2 x a b⟩
variable {ar ar' : Ar_}
theorem Ren.cf (r : Ren ar ar' inv) (hm : ∀ p m, m ∈ mvs ar p → m < ar.length) (s : Int) (W F : St_) (j : Nat) (hj : j < ar.length) : cf ar' s (tr inv ar.length W) (tr inv ar.length F) j = cf ar s W F (inv j) := by
  unfold G.cf
  rw [r.o j hj]
  have key : ∀ (p : Nat → Bool), ((mvs ar' j).any fun x => p (inv x)) = (mvs ar (inv j)).any p := fun p => by
    refine any_mem (fun x h1 h2 => ⟨inv x, ((r.m j hj x).mp h1).2, h2⟩) fun k h1 h2 => ?_
    obtain ⟨x, hx, rfl⟩ := r.b.s k (hm _ _ h1)
    exact ⟨x, (r.m j hj x).mpr ⟨hx, h1⟩, h2⟩
  split
  · rw [← key fun m => W m && F m]
    refine any_mem (fun x h1 h2 => ⟨x, h1, ?_⟩) fun x h1 h2 => ⟨x, h1, ?_⟩
    · have := ((r.m j hj x).mp h1).1
      simpa [tr, this] using h2
    · have := ((r.m j hj x).mp h1).1
      simpa [tr, this] using h2
  · have k2 := key fun m => !(!W m || F m)
    have e1 : ((mvs ar (inv j)).all fun m => !W m || F m) = !((mvs ar (inv j)).any fun m => !(!W m || F m)) := by rw [List.all_eq_not_any_not]
    have e2 : ((mvs ar' j).all fun m => !tr inv ar.length W m || tr inv ar.length F m) = !((mvs ar' j).any fun m => !(!tr inv ar.length W m || tr inv ar.length F m)) := by rw [List.all_eq_not_any_not]
    rw [e1, e2, ← k2]
    congr 1
    refine any_mem (fun x h1 h2 => ⟨x, h1, ?_⟩) fun x h1 h2 => ⟨x, h1, ?_⟩
    · have := ((r.m j hj x).mp h1).1
      simpa [tr, this] using h2
    · have := ((r.m j hj x).mp h1).1
      simpa [tr, this] using h2
theorem Ren.top (r : Ren ar ar' inv) {nu nu' : List Int} (hn : ∀ j, j < ar.length → nu'.getD j 0 = nu.getD (inv j) 0) {W : St_} (he : ¬ emp ar.length W = true) : topN nu' ar.length (tr inv ar.length W) = topN nu ar.length W := by
  obtain ⟨p, hp, hw⟩ := not_emp he
  obtain ⟨q, hq, hqw, e⟩ := top_mem (nu := nu) hp hw
  obtain ⟨j, hj, rfl⟩ := r.b.s q hq
  have h1 : tr inv ar.length W j = true := by simp [tr, hj, hqw]
  obtain ⟨q', hq', hqw', e'⟩ := top_mem (nu := nu') hj h1
  apply Int.le_antisymm
  · rw [← e', hn q' hq']
    exact top_ge (r.b.i q' hq') (by simpa [tr, hq'] using hqw')
  · rw [← e, ← hn j hj]
    exact top_ge hj h1
end
/-- each place of the set has a move into it -/
def Sub (ar : Ar_) (W : St_) : Prop := ∀ p, W p = true → ∃ m ∈ mvs ar p, W m = true
section
variable {ar : Ar_} {W : St_} {s : Int}
end
/-- at least one step -/
inductive Rp (R : Nat → Nat → Prop) : Nat → Nat → Prop
  | one {a b : Nat} : R a b → Rp R a b
  | cons {a b c : Nat} : R a b → Rp R b c → Rp R a c
theorem Rp.trans {R : Nat → Nat → Prop} {a b c : Nat} (h : Rp R a b) (g : Rp R b c) : Rp R a c := by
  induction h with
  | one h => exact .cons h g
  | cons h _ ih => exact .cons h (ih g)
theorem Rp.mono {R R' : Nat → Nat → Prop} (h : ∀ a b, R a b → R' a b) {a b : Nat} (r : Rp R a b) : Rp R' a b := by
  induction r with
  | one r => exact .one (h _ _ r)
  | cons r _ ih => exact .cons (h _ _ r) ih
theorem Rp.last {R : Nat → Nat → Prop} {a b : Nat} (r : Rp R a b) : ∃ z, R z b := by
  induction r with
  | one r => exact ⟨_, r⟩
  | cons _ _ ih => exact ih
/-- a closed set -/
theorem Rp.stay {R : Nat → Nat → Prop} {C : Nat → Prop} (h : ∀ a b, C a → R a b → C b) {a b : Nat} (r : Rp R a b) : C a → C b ∧ Rp (fun x y => C x ∧ C y ∧ R x y) a b := by
  induction r with
  | one r => exact fun c => ⟨h _ _ c r, .one ⟨c, h _ _ c r, r⟩⟩
  | cons r _ ih => exact fun c => ⟨(ih (h _ _ c r)).1, .cons ⟨c, h _ _ c r, r⟩ (ih (h _ _ c r)).2⟩
def On (R : Nat → Nat → Prop) (p x : Nat) : Prop := Rp R p x ∧ Rp R x p
theorem On.step {R : Nat → Nat → Prop} {p x : Nat} (r : Rp R p p) (h : On R p x) : ∃ b, R x b ∧ On R p b := by
  obtain ⟨h1, h2⟩ := h
  cases h2 with
  | one g => exact ⟨p, g, r, r⟩
  | cons g t => exact ⟨_, g, h1.trans (.one g), t⟩
/-- a move by the rule -/
def Eg (ar : Ar_) (s : Int) (W : St_) (σ : Nat → Nat) (x y : Nat) : Prop := (ownr ar x = s ∧ y = σ x) ∨ (ownr ar x ≠ s ∧ y ∈ mvs ar x ∧ W y = true)
def Rg (ar : Ar_) (nu : List Int) (s : Int) (W : St_) (U : Nat → Prop) (σ : Nat → Nat) (p x y : Nat) : Prop := U x ∧ U y ∧ nu.getD y 0 ≤ nu.getD p 0 ∧ Eg ar s W σ x y
/-- a rule that wins U for s, inside W -/
structure Crt (ar : Ar_) (nu : List Int) (s : Int) (W : St_) (U : Nat → Prop) (σ : Nat → Nat) : Prop where
  i : ∀ p, U p → W p = true
  c : ∀ p, U p → ownr ar p = s → σ p ∈ mvs ar p ∧ U (σ p)
  o : ∀ p, U p → ownr ar p ≠ s → ∀ m ∈ mvs ar p, W m = true → U m
  r : ∀ p, U p → nu.getD p 0 % 2 ≠ s → ¬ Rp (Rg ar nu s W U σ p) p p
section
variable {ar : Ar_} {nu : List Int} {s : Int} {W : St_}
end
theorem Crt.congr {ar : Ar_} {nu : List Int} {s : Int} {W : St_} {U V : Nat → Prop} {σ : Nat → Nat} (h : ∀ p, U p ↔ V p) (c : Crt ar nu s W U σ) : Crt ar nu s W V σ := by
  have : U = V := funext fun p => propext (h p)
  rw [← this]; exact c
section
variable {ar : Ar_} {nu : List Int} {s : Int} {p m : Nat}
end
theorem Crt.rule {ar : Ar_} {nu : List Int} {s : Int} {W : St_} {U : Nat → Prop} {σ ρ : Nat → Nat} (c : Crt ar nu s W U σ) (h : ∀ q, U q → ownr ar q = s → ρ q = σ q) : Crt ar nu s W U ρ := by
  refine ⟨c.i, fun q hq o => by rw [h q hq o]; exact c.c q hq o, c.o, fun q hq hn r => c.r q hq hn (r.mono fun a b e => ?_)⟩
  obtain ⟨ua, ub, le, eg⟩ := e
  refine ⟨ua, ub, le, eg.imp (fun ⟨o, e⟩ => ⟨o, by rw [e, h a ua o]⟩) id⟩
theorem eq_tints {a b : List Int} : cmpS .Eq (tupI a) (tupI b) = some (decide (a = b)) := by
  have h : ∀ {a b : List Int}, PyData.eqvAll (toPs (a.map .int)) (toPs (b.map .int)) = (a == b) := by
    intro a
    induction a with
    | nil => intro b; cases b <;> simp [toPs, PyData.eqvAll]
    | cons x a ih =>
      intro b
      cases b with
      | nil => simp [toPs, PyData.eqvAll]
      | cons y b =>
        simp only [List.map_cons, toPs, PyData.eqvAll, ih, D.toP, PyData.eqv]
        rw [Bool.eq_iff_iff]
        simp
  have ok : ∀ a : List Int, okD (tupI a) = true := fun a => by
    exact okD_of (by unfold tupI; simp only [lay]; exact lays_map (fun _ => rfl) a) (by unfold tupI; simp only [dep]; have := deps_map (f := D.int) (n := 0) (fun _ => Nat.le_refl _) a; omega)
  simp only [cmpS, ok, Bool.and_self, if_true]
  unfold deq tupI
  simp only [D.toP, PyData.eqv, h]
  congr 1
  rw [Bool.eq_iff_iff]
  simp
set_option exponentiation.threshold 10000
def ChOk (W : Int) (ps : List (Nat × (Int × Int))) : Prop := ∃ as : List Int, as.length = ps.length ∧ as.sum = W ∧ ∀ (k : Nat) q a, ps[k]? = some q → as[k]? = some a → 0 ≤ a ∧ Val W q.2 a
set_option exponentiation.threshold 10000
theorem erase_perm {α : Type} : ∀ {l : List α} {j : Nat} (h : j < l.length), l.Perm (l[j] :: l.eraseIdx j)
  | x :: l, 0, _ => List.Perm.refl _
  | x :: l, j + 1, h => by
    have := erase_perm (l := l) (j := j) (by simpa using h)
    exact (List.Perm.cons x this).trans (List.Perm.swap ..)
structure PT (n : Nat) (go : Nat → List Nat) (par : Nat → Nat) : Prop where
  nd : ∀ i, i < n → (go i).Nodup
  g : ∀ i, i < n → ∀ x, x ∈ go i ↔ (1 ≤ x ∧ x < n ∧ par x = i)
  lt : ∀ x, 1 ≤ x → x < n → par x < x
structure OR (n : Nat) (go : Nat → List Nat) (par : Nat → Nat) (od rd : List Nat) : Prop where
  nd : (od ++ rd).Nodup
  m : ∀ x, x ∈ od ++ rd ↔ x = 0 ∨ (1 ≤ x ∧ x < n ∧ par x ∈ od)
  z : 0 ∈ od
  p : ∀ x, x ∈ od → 1 ≤ x → par x ∈ od ∧ od.idxOf (par x) < od.idxOf x
theorem OR.lt {n : Nat} {go : Nat → List Nat} {par : Nat → Nat} {od rd : List Nat} (h : OR n go par od rd) (hn : 0 < n) : ∀ x ∈ od ++ rd, x < n := fun x hx => by
  rcases (h.m x).mp hx with h | h <;> omega
theorem OR.start {n : Nat} {go : Nat → List Nat} {par : Nat → Nat} (h : PT n go par) (hn : 0 < n) : OR n go par [0] (go 0) where
  nd := by
    rw [List.singleton_append, List.nodup_cons]
    exact ⟨fun hx => by have := (h.g 0 hn 0).mp hx; omega, h.nd 0 hn⟩
  m := fun x => by
    rw [List.singleton_append, List.mem_cons, h.g 0 hn]
    simp
  z := by simp
  p := fun x hx h1 => by simp at hx; omega
theorem OR.step {n : Nat} {go : Nat → List Nat} {par : Nat → Nat} (h : PT n go par) (hn : 0 < n) {od rd : List Nat} (o : OR n go par od rd) {j c : Nat} (hj : rd[j]? = some c) : OR n go par (od ++ [c]) (rd.eraseIdx j ++ go c) := by
  obtain ⟨hl, hc⟩ := List.getElem?_eq_some_iff.mp hj
  have hperm : rd.Perm (c :: rd.eraseIdx j) := by
    have := erase_perm hl
    rwa [hc] at this
  have hcr : c ∈ rd := by rw [← hc]; exact List.getElem_mem hl
  have hcn : c < n := o.lt hn c (by simp [hcr])
  have nd0 := List.nodup_append.mp o.nd
  have hcd : c ∉ od := fun hx => nd0.2.2 c hx c hcr rfl
  have hc0 : c ≠ 0 := fun e => hcd (e ▸ o.z)
  have hpc : par c ∈ od := by
    rcases (o.m c).mp (by simp [hcr]) with h | h
    · exact absurd h hc0
    · exact h.2.2
  have P1 : ((od ++ [c]) ++ (rd.eraseIdx j ++ go c)).Perm ((od ++ rd) ++ go c) := by
    rw [List.append_assoc, List.append_assoc]
    refine List.Perm.append_left od ?_
    rw [← List.append_assoc]
    exact List.Perm.append_right _ hperm.symm
  have hdis : ∀ x ∈ go c, x ∉ od ++ rd := fun x hx hm => by
    have h1 := (h.g c hcn x).mp hx
    rcases (o.m x).mp hm with h2 | h2
    · omega
    · rw [h1.2.2] at h2; exact hcd h2.2.2
  refine ⟨?_, fun x => ?_, by simp [o.z], fun x hx h1 => ?_⟩
  · rw [P1.nodup_iff]
    refine List.nodup_append.mpr ⟨o.nd, h.nd c hcn, fun a ha b hb e => ?_⟩
    subst e
    exact hdis a hb ha
  · rw [P1.mem_iff, List.mem_append, o.m, h.g c hcn, List.mem_append, List.mem_singleton]
    constructor
    · rintro ((h | h) | h)
      · exact Or.inl h
      · exact Or.inr ⟨h.1, h.2.1, Or.inl h.2.2⟩
      · exact Or.inr ⟨h.1, h.2.1, Or.inr h.2.2⟩
    · rintro (h | ⟨h1, h2, h3 | h3⟩)
      · exact Or.inl (Or.inl h)
      · exact Or.inl (Or.inr ⟨h1, h2, h3⟩)
      · exact Or.inr ⟨h1, h2, h3⟩
  · rcases List.mem_append.mp hx with hx | hx
    · obtain ⟨a, b⟩ := o.p x hx h1
      refine ⟨by simp [a], ?_⟩
      rw [List.idxOf_append, if_pos a, List.idxOf_append, if_pos hx]
      exact b
    · simp at hx
      subst hx
      refine ⟨by simp [hpc], ?_⟩
      rw [List.idxOf_append, if_pos hpc, List.idxOf_append, if_neg hcd]
      have := List.idxOf_lt_length_iff.mpr hpc
      omega
set_option exponentiation.threshold 10000
set_option exponentiation.threshold 10000
def NC (W : Int) (m : Nat) : Nd → Prop
  | .fin zs => zs.length = m ∧ ∀ z ∈ zs, Bd 140 z
  | .mov p gs => 0 < gs.length ∧ 0 ≤ p ∧ p < (m : Int) ∧ gs.length ≤ 3
  | .cha ps => 0 < ps.length ∧ ps.length ≤ 3 ∧ ChOk W ps
def goO (t : List (Option Nd)) (i : Nat) : List Nat := ((t.getD i none).getD (.fin [])).goals
structure Gr (t : List (Option Nd)) (Ws : List Int) (m c : Nat) : Prop where
  len : Ws.length = t.length
  sz : t.length ≤ 1 + 3 * c
  msz : m ≤ 1000
  one : ∀ w ∈ Ws, 1 ≤ w
  bd : prodI Ws ≤ 8589934592 ^ c
  nd : ∀ (i : Nat) x, t[i]? = some (some x) → NC (Ws.getD i 1) m x
  op : ∀ i : Nat, t[i]? = some none → Ws.getD i 1 = 1
  pt : ∃ par, PT t.length (goO t) par
theorem Gr.more {t : List (Option Nd)} {Ws : List Int} {m c : Nat} (g : Gr t Ws m c) : Gr t Ws m (c + 1) where
  len := g.len
  sz := by have := g.sz; omega
  msz := g.msz
  one := g.one
  bd := by
    have := g.bd
    have h1 : (1 : Int) ≤ 8589934592 ^ c := by have := prodI_one Ws g.one; omega
    rw [Int.pow_succ]
    omega
  nd := g.nd
  op := g.op
  pt := g.pt
theorem Gr.to {t : List (Option Nd)} {Ws : List Int} {m c d : Nat} (g : Gr t Ws m c) (h : c ≤ d) : Gr t Ws m d := by
  induction d with
  | zero => have : c = 0 := by omega
            subst this; exact g
  | succ d ih =>
    by_cases e : c = d + 1
    · subst e; exact g
    · exact (ih (by omega)).more
set_option exponentiation.threshold 10000
/-- a value of a shape that == may be asked of -/
def Sh (n : Nat) (d : D) : Prop := d.toP.canLay0 = true ∧ d.toP.depth ≤ n
theorem Sh.ok {d : D} (h : Sh 64 d) : okD d = true := by
  unfold okD SeqAt.shaped
  rw [h.1]
  simp [h.2]
theorem Sh.up {d : D} {a b : Nat} (h : Sh a d) (hab : a ≤ b) : Sh b d := ⟨h.1, Nat.le_trans h.2 hab⟩
theorem Sh.int (i : Int) (n : Nat) : Sh n (.int i) := ⟨rfl, by simp [D.toP, PyData.depth]⟩
theorem sh_all {n : Nat} : ∀ {xs : List D}, (∀ x ∈ xs, Sh n x) → PyData.canLayAll0 (toPs xs) = true ∧ PyData.depthAll (toPs xs) ≤ n
  | [], _ => by simp [toPs, PyData.canLayAll0, PyData.depthAll]
  | x :: xs, h => by
    obtain ⟨h1, h2⟩ := h x (by simp)
    obtain ⟨h3, h4⟩ := sh_all (xs := xs) fun y hy => h y (by simp [hy])
    simp only [toPs, PyData.canLayAll0, PyData.depthAll, h1, h3, Bool.and_self, true_and]
    omega
theorem Sh.tup {n : Nat} {xs : List D} (h : ∀ x ∈ xs, Sh n x) : Sh (n + 1) (.tup xs) := by
  obtain ⟨h3, h4⟩ := sh_all h
  refine ⟨by simp only [D.toP, PyData.canLay0]; exact h3, ?_⟩
  simp only [D.toP, PyData.depth]
  omega
theorem Sh.mapt {α : Type} {n : Nat} {f : α → D} {l : List α} (h : ∀ x, Sh n (f x)) : Sh (n + 1) (.tup (l.map f)) := Sh.tup fun x hx => by
  obtain ⟨y, _, rfl⟩ := List.mem_map.mp hx
  exact h y
theorem sh_mov : Sh 0 (.str "move") := ⟨by decide +kernel, by decide +kernel⟩
theorem sh_end : Sh 0 (.str "end") := ⟨by decide +kernel, by decide +kernel⟩
theorem sh_cha : Sh 0 (.str "chance") := ⟨by decide +kernel, by decide +kernel⟩
theorem Sh.fr (f : Int × Int) : Sh 1 (frD f) := Sh.tup fun x hx => by
  simp at hx
  rcases hx with rfl | rfl <;> exact Sh.int _ _
theorem Sh.nd : ∀ x : Nd, Sh 5 (ndD x)
  | .fin zs => Sh.tup fun d hd => by
    simp at hd
    rcases hd with rfl | rfl
    · exact sh_end.up (by omega)
    · exact (Sh.mapt (n := 0) fun z => Sh.int z 0).up (by omega)
  | .mov p gs => Sh.tup fun d hd => by
    simp at hd
    rcases hd with rfl | rfl | rfl
    · exact sh_mov.up (by omega)
    · exact Sh.int _ _
    · exact (Sh.mapt (n := 0) fun z => Sh.int _ 0).up (by omega)
  | .cha ps => Sh.tup fun d hd => by
    simp at hd
    rcases hd with rfl | rfl
    · exact sh_cha.up (by omega)
    · refine (Sh.mapt (n := 2) fun q => Sh.tup fun d hd => ?_).up (by omega)
      simp at hd
      rcases hd with rfl | rfl
      · exact Sh.int _ _
      · exact Sh.fr _
set_option exponentiation.threshold 10000
def ltF (f g : Int × Int) : Bool := decide (f.1 * g.2 < g.1 * f.2)
def b130_0 : Ss := .cons (.ret (.lit (.int 0))) .nil
def b130_1 : Ss := .cons (.ret (.ifx (.cmp .Lt (.nm 2) (.nm 3)) (.un .USub (.lit (.int 1))) (.lit (.int 1)))) .nil
def b130_2 : Ss := .cons (.ifs (.cmp .Eq (.nm 2) (.nm 3)) b130_0 .nil) b130_1
def b130_3 : Ss := .cons (.set 3 (.bin .Mult (.idx (.nm 1) (.lit (.int 0))) (.idx (.nm 0) (.lit (.int 1))))) b130_2
def b130_4 : Ss := .cons (.set 2 (.bin .Mult (.idx (.nm 0) (.lit (.int 0))) (.idx (.nm 1) (.lit (.int 1))))) b130_3
/-- compare_fractions -/
def b130 : Ss := b130_4
def b131_0 : Ss := .cons (.ret (.lit (.bl false))) .nil
def b131_1 : Ss := .cons (.ifs (.val (.blt .any (.cons (.lc [8] (.cmp .Eq (.call 130 (.cons (.idx (.idx (.nm 2) (.nm 8)) (.nm 6)) (.cons (.idx (.idx (.nm 2) (.nm 3)) (.nm 6)) .nil))) (.lit (.int 1))) (.nm 8) (.seq (.nm 7)) .no) .nil))) b131_0 .nil) .nil
def b131_2 : Ss := .cons (.unp (.tup (.cons (.nm 5) (.cons (.nm 6) (.cons (.nm 7) .nil)))) (.nm 4)) b131_1
def b131_3 : Ss := .cons (.ifs (.cmp .Eq (.idx (.nm 4) (.lit (.int 0))) (.glo "MOVE" (.str "move"))) b131_2 .nil) .nil
def b131_4 : Ss := .cons (.ret (.lit (.bl true))) .nil
def b131_5 : Ss := .cons (.fo (.tup (.cons (.nm 3) (.cons (.nm 4) .nil))) (.enum (.nm 0)) b131_3) b131_4
def b131_6 : Ss := .cons (.set 2 (.call 118 (.cons (.nm 0) (.cons (.nm 1) .nil)))) b131_5
/-- are_good -/
def b131 : Ss := b131_6
def b132_0 : Ss := .cons (.ret (.lit .non)) .nil
def b132_1 : Ss := .cons (.set 5 (.nm 6)) .nil
def b132_2 : Ss := .cons (.ifs (.cmp .Eq (.call 130 (.cons (.idx (.idx (.nm 1) (.idx (.nm 4) (.nm 6))) (.nm 3)) (.cons (.idx (.idx (.nm 1) (.idx (.nm 4) (.nm 5))) (.nm 3)) .nil))) (.lit (.int 1))) b132_1 .nil) .nil
def b132_3 : Ss := .cons (.ret (.nm 5)) .nil
def b132_4 : Ss := .cons (.fo (.nm 6) (.rng2 (.lit (.int 1)) (.blt .len (.cons (.nm 4) .nil))) b132_2) b132_3
def b132_5 : Ss := .cons (.set 5 (.lit (.int 0))) b132_4
def b132_6 : Ss := .cons (.unp (.tup (.cons (.nm 2) (.cons (.nm 3) (.cons (.nm 4) .nil)))) (.nm 0)) b132_5
def b132_7 : Ss := .cons (.ifs (.cmp .NotEq (.idx (.nm 0) (.lit (.int 0))) (.glo "MOVE" (.str "move"))) b132_0 .nil) b132_6
/-- first_best -/
def b132 : Ss := b132_7
def b133_0 : Ss := .cons (.put 1 (.nm 3) (.call 117 (.cons (.idx (.nm 0) (.nm 3)) (.cons (.idx (.nm 2) (.nm 3)) (.cons (.nm 1) .nil))))) .nil
def b133_1 : Ss := .cons (.put 2 (.nm 3) (.call 132 (.cons (.idx (.nm 0) (.nm 3)) (.cons (.nm 1) .nil)))) b133_0
def b133_2 : Ss := .cons (.ret (.blt .tuple (.cons (.nm 2) .nil))) .nil
def b133_3 : Ss := .cons (.fo (.nm 3) (.rng3 (.bin .Sub (.blt .len (.cons (.nm 0) .nil)) (.lit (.int 1))) (.un .USub (.lit (.int 1))) (.un .USub (.lit (.int 1)))) b133_1) b133_2
def b133_4 : Ss := .cons (.set 2 (.lc [4] (.lit .non) (.nm 4) (.seq (.nm 0)) .no)) b133_3
def b133_5 : Ss := .cons (.set 1 (.lc [4] (.lit .non) (.nm 4) (.seq (.nm 0)) .no)) b133_4
/-- first_good -/
def b133 : Ss := b133_5
def b134_0 : Ss := .cons (.ret (.cmp .Lt (.bin .Mult (.idx (.nm 0) (.lit (.int 0))) (.idx (.nm 1) (.lit (.int 1)))) (.bin .Mult (.idx (.nm 1) (.lit (.int 0))) (.idx (.nm 0) (.lit (.int 1)))))) .nil
/-- _law_less -/
def b134 : Ss := b134_0
def b135_0 : Ss := .cons (.set 1 (.nm 2)) .nil
def b135_1 : Ss := .cons (.ifs (.val (.call 134 (.cons (.nm 1) (.cons (.nm 2) .nil)))) b135_0 .nil) .nil
def b135_2 : Ss := .cons (.ret (.lc [3] (.nm 3) (.nm 3) (.rng1 (.blt .len (.cons (.nm 0) .nil))) (.so (.cmp .Eq (.idx (.nm 0) (.nm 3)) (.nm 1))))) .nil
def b135_3 : Ss := .cons (.fo (.nm 2) (.seq (.nm 0)) b135_1) b135_2
def b135_4 : Ss := .cons (.set 1 (.idx (.nm 0) (.lit (.int 0)))) b135_3
/-- _law_best_ones -/
def b135 : Ss := b135_4
def b136_0 : Ss := .cons (.ret (.lc [2] (.idx (.idx (.nm 1) (.nm 2)) (.idx (.nm 0) (.lit (.int 1)))) (.nm 2) (.seq (.idx (.nm 0) (.lit (.int 2)))) .no)) .nil
/-- _law_gains_at -/
def b136 : Ss := b136_0
def b137_0 : Ss := .cons (.put 3 (.nm 4) (.idx (.nm 5) (.bin .Sub (.lit (.int 0)) (.nm 1)))) .nil
def b137_1 : Ss := .cons (.set 5 (.call 135 (.cons (.call 136 (.cons (.idx (.nm 0) (.nm 4)) (.cons (.nm 2) .nil))) .nil))) b137_0
def b137_2 : Ss := .cons (.put 2 (.nm 4) (.call 125 (.cons (.idx (.nm 0) (.nm 4)) (.cons (.idx (.nm 3) (.nm 4)) (.cons (.nm 2) .nil))))) .nil
def b137_3 : Ss := .cons (.ifs (.cmp .Eq (.idx (.idx (.nm 0) (.nm 4)) (.lit (.int 0))) (.lit (.str "move"))) b137_1 .nil) b137_2
def b137_4 : Ss := .cons (.ret (.blt .tuple (.cons (.nm 3) .nil))) .nil
def b137_5 : Ss := .cons (.fo (.nm 4) (.revr (.blt .len (.cons (.nm 0) .nil))) b137_3) b137_4
def b137_6 : Ss := .cons (.set 3 (.bin .Mult (.lst (.cons (.lit .non) .nil)) (.blt .len (.cons (.nm 0) .nil)))) b137_5
def b137_7 : Ss := .cons (.set 2 (.bin .Mult (.lst (.cons (.tup .nil) .nil)) (.blt .len (.cons (.nm 0) .nil)))) b137_6
/-- _law_good_choices -/
def b137 : Ss := b137_7
def b138_0 : Ss := .cons (.set 2 (.tup (.cons (.lit (.str "end")) (.cons (.tup (.cons (.idx (.idx (.nm 2) (.lit (.int 1))) (.lit (.int 0))) (.cons (.bin .Sub (.lit (.int 0)) (.idx (.idx (.nm 2) (.lit (.int 1))) (.lit (.int 0)))) .nil))) .nil)))) .nil
def b138_1 : Ss := .cons (.expr (.mth .append 1 (.cons (.nm 2) .nil))) .nil
def b138_2 : Ss := .cons (.ifs (.cmp .Eq (.idx (.nm 2) (.lit (.int 0))) (.lit (.str "end"))) b138_0 .nil) b138_1
def b138_3 : Ss := .cons (.ret (.blt .tuple (.cons (.nm 1) .nil))) .nil
def b138_4 : Ss := .cons (.fo (.nm 2) (.seq (.nm 0)) b138_2) b138_3
def b138_5 : Ss := .cons (.set 1 (.lst .nil)) b138_4
/-- _law_opposed -/
def b138 : Ss := b138_5
def b139_0 : Ss := .cons (.ret (.lit (.bl false))) .nil
def b139_1 : Ss := .cons (.ifs (.and (.cons (.cmp .Eq (.idx (.idx (.nm 0) (.nm 3)) (.lit (.int 0))) (.lit (.str "move"))) (.cons (.cmp .NotIn (.idx (.nm 1) (.nm 3)) (.call 135 (.cons (.call 136 (.cons (.idx (.nm 0) (.nm 3)) (.cons (.nm 2) .nil))) .nil))) .nil))) b139_0 .nil) .nil
def b139_2 : Ss := .cons (.ret (.lit (.bl true))) .nil
def b139_3 : Ss := .cons (.fo (.nm 3) (.rng1 (.blt .len (.cons (.nm 0) .nil))) b139_1) b139_2
def b139_4 : Ss := .cons (.set 2 (.call 126 (.cons (.nm 0) (.cons (.nm 1) .nil)))) b139_3
/-- _law_is_good -/
def b139 : Ss := b139_4
def b140_0 : Ss := .cons (.set 4 (.tup (.cons (.lit (.str "end")) (.cons (.blt .tuple (.cons (.lc [5] (.call 5 (.cons (.nm 0) (.cons (.nm 2) .nil))) (.nm 5) (.seq (.idx (.nm 4) (.lit (.int 1)))) .no) .nil)) .nil)))) .nil
def b140_1 : Ss := .cons (.expr (.mth .append 3 (.cons (.nm 4) .nil))) .nil
def b140_2 : Ss := .cons (.ifs (.cmp .Eq (.idx (.nm 4) (.lit (.int 0))) (.lit (.str "end"))) b140_0 .nil) b140_1
def b140_3 : Ss := .cons (.ret (.blt .tuple (.cons (.nm 3) .nil))) .nil
def b140_4 : Ss := .cons (.fo (.nm 4) (.seq (.nm 1)) b140_2) b140_3
def b140_5 : Ss := .cons (.set 3 (.lst .nil)) b140_4
def b140_6 : Ss := .cons (.set 2 (.bin .Add (.lit (.int 2)) (.call 5 (.cons (.nm 0) (.cons (.lit (.int 2)) .nil))))) b140_5
/-- _law_levelled -/
def b140 : Ss := b140_6
def b141_0 : Ss := .cons (.expr (.mth .append 3 (.cons (.call 119 (.cons (.nm 2) (.cons (.nm 6) (.cons (.call 5 (.cons (.nm 0) (.cons (.blt .len (.cons (.idx (.idx (.nm 1) (.nm 6)) (.lit (.int 2))) .nil)) .nil))) .nil)))) .nil))) .nil
def b141_1 : Ss := .cons (.set 6 (.call 6 (.cons (.nm 0) (.cons (.nm 4) .nil)))) b141_0
def b141_2 : Ss := .cons (.ret (.nm 3)) .nil
def b141_3 : Ss := .cons (.fo (.nm 5) (.rng1 (.bin .Mult (.lit (.int 4)) (.blt .int (.cons (.cmp .Gt (.blt .len (.cons (.nm 4) .nil)) (.lit (.int 0))) .nil)))) b141_1) b141_2
def b141_4 : Ss := .cons (.set 4 (.lc [6] (.nm 6) (.nm 6) (.rng1 (.blt .len (.cons (.nm 1) .nil))) (.so (.cmp .Eq (.idx (.idx (.nm 1) (.nm 6)) (.lit (.int 0))) (.lit (.str "move")))))) b141_3
def b141_5 : Ss := .cons (.set 3 (.lst (.cons (.nm 2) (.cons (.call 137 (.cons (.nm 1) (.cons (.lit (.int 1)) .nil))) (.cons (.call 127 (.cons (.nm 0) (.cons (.nm 1) .nil))) .nil))))) b141_4
def b141_6 : Ss := .cons (.set 2 (.call 137 (.cons (.nm 1) (.cons (.lit (.int 0)) .nil)))) b141_5
/-- _law_choices_near -/
def b141 : Ss := b141_6
def b142_0 : Ss := .cons (.ret (.lit (.bl false))) .nil
def b142_1 : Ss := .cons (.ret (.lit (.bl false))) .nil
def b142_2 : Ss := .cons (.ifs (.not (.val (.call 7 (.cons (.call 131 (.cons (.nm 1) (.cons (.nm 2) .nil))) (.cons (.call 139 (.cons (.nm 1) (.cons (.nm 2) .nil))) .nil))))) b142_1 .nil) .nil
def b142_3 : Ss := .cons (.ret (.cmp .Is (.call 131 (.cons (.nm 1) (.cons (.call 133 (.cons (.nm 1) .nil)) .nil))) (.lit (.bl true)))) .nil
def b142_4 : Ss := .cons (.fo (.nm 2) (.seq (.call 141 (.cons (.nm 0) (.cons (.nm 1) .nil)))) b142_2) b142_3
def b142_5 : Ss := .cons (.ifs (.not (.val (.call 7 (.cons (.call 133 (.cons (.nm 1) .nil)) (.cons (.call 137 (.cons (.nm 1) (.cons (.lit (.int 0)) .nil))) .nil))))) b142_0 .nil) b142_4
/-- _law_choices_go -/
def b142 : Ss := b142_5
def T10 : Tb := fun i => match i with
  | 130 => some ⟨["f", "g"], ["f", "g", "left", "right"], b130⟩
  | 131 => some ⟨["tree", "choices"], ["tree", "choices", "worths", "place", "node", "kind", "player", "goals", "goal"], b131⟩
  | 132 => some ⟨["node", "worths"], ["node", "worths", "kind", "player", "goals", "best", "choice"], b132⟩
  | 133 => some ⟨["tree"], ["tree", "worths", "choices", "place", "node"], b133⟩
  | 134 => some ⟨["one", "other"], ["one", "other"], b134⟩
  | 135 => some ⟨["numbers"], ["numbers", "top", "number", "k"], b135⟩
  | 136 => some ⟨["node", "known"], ["node", "known", "one"], b136⟩
  | 137 => some ⟨["tree", "last"], ["tree", "last", "known", "choices", "k", "best"], b137⟩
  | 138 => some ⟨["tree"], ["tree", "told", "node"], b138⟩
  | 139 => some ⟨["tree", "choices"], ["tree", "choices", "known", "k"], b139⟩
  | 140 => some ⟨["draws", "tree"], ["draws", "tree", "most", "told", "node", "n"], b140⟩
  | 141 => some ⟨["draws", "tree"], ["draws", "tree", "first", "told", "places", "turn", "k"], b141⟩
  | 142 => some ⟨["draws", "tree"], ["draws", "tree", "choices"], b142⟩
  | _ => none
class A10 (Δ : Tb) : Prop where
  h : ∀ i, 130 ≤ i → i < 143 → Δ i = T10 i
theorem fn134 (Δ : Tb) [A10 Δ] (k : Nat) : callN Δ (k + 1) 134 = runDef (callN Δ k) ⟨["one", "other"], ["one", "other"], b134⟩ := by
  show (fun args => (Δ 134).bind fun d => runDef (callN Δ k) d args) = _
  rw [show Δ 134 = T10 134 from A10.h 134 (by decide) (by decide)]
  rfl
theorem fr_i0 (f : Int × Int) : idxS (frD f) (.int 0) = some (.int f.1) := rfl
theorem fr_i1 (f : Int × Int) : idxS (frD f) (.int 1) = some (.int f.2) := rfl
theorem less_ok (Δ : Tb) [A10 Δ] (k : Nat) (f g : Int × Int) (hf : Fr 4000 f) (hg : Fr 4000 g) : callN Δ (k + 1) 134 [.fz (frD f), .fz (frD g)] = some (.v (.bl (ltF f g)), [.fz (frD f), .fz (frD g)]) := by
  refine eq_of ?_
  rw [fn134]
  generalize callN Δ k = cl
  have m1 := ml_ok hf.n hg.d (by omega)
  have m2 := ml_ok hg.n hf.d (by omega)
  walk_at "in"
  refine kt ?_
  simp_arith! [fr_i0, fr_i1, m1, m2]
  rfl
theorem eq_fr (f g : Int × Int) : cmpS .Eq (frD f) (frD g) = some (decide (f = g)) := by
  have := eq_tints (a := [f.1, f.2]) (b := [g.1, g.2])
  have e : decide ([f.1, f.2] = [g.1, g.2]) = decide (f = g) := by
    rw [Bool.eq_iff_iff, decide_eq_true_iff, decide_eq_true_iff]
    constructor
    · intro h
      simp at h
      exact Prod.ext h.1 h.2
    · rintro rfl
      rfl
  rw [e] at this
  exact this
set_option exponentiation.threshold 10000
theorem idxOf_nW (od : List Nat) (a : Nat) : (od.map fun x : Nat => (x : Int)).idxOf (a : Int) = od.idxOf a := by
  induction od with
  | nil => rfl
  | cons x l ih =>
    rw [List.map_cons, List.idxOf_cons, List.idxOf_cons, ih]
    by_cases e : x = a
    · subst e; simp
    · have : ((x : Int) == (a : Int)) = false := by simp; omega
      have h2 : (x == a) = false := by simp [e]
      rw [this, h2]
theorem ix_natW {z : List D} {l : List Nat} {a : Nat} (h : a ∈ l) : ixS (.lst z) (.lst (l.map nI)) (nI a) = some ((l.idxOf a : Nat) : Int) := by
  have := ix_mem (z := z) (l := l.map fun x : Nat => (x : Int)) (a := (a : Int)) (List.mem_map.mpr ⟨a, h, rfl⟩)
  rw [List.map_map, idxOf_nW] at this
  exact this
theorem sub_int (x y : Int) : subF (x, 1) (y, 1) = (x - y, 1) := ((Val.int x).sub (Val.int y)).uniq (by decide) (Val.int (x - y))
theorem add_int (x y : Int) : addF (x, 1) (y, 1) = (x + y, 1) := ((Val.int x).add (Val.int y)).uniq (by decide) (Val.int (x + y))
theorem mul_one (x : Int) : mulF (1, 1) (x, 1) = (x, 1) := by
  have := ((Val.int 1).mul (Val.int x)).uniq (by decide) (by simpa using Val.int x)
  exact this
theorem div_int (x c : Int) : divF (x, 1) (c, 1) = nz x c := by
  unfold divF
  simp
theorem ltF_int (x c : Int) : ltF (x, 1) (c, 1) = decide (x < c) := by
  unfold ltF
  simp
theorem sub11 : subF (1, 1) (1, 1) = (0, 1) := by rw [sub_int]; rfl
theorem sub10 : subF (1, 1) (0, 1) = (1, 1) := by rw [sub_int]; rfl
theorem sub_back {D N : Int} {f : Int × Int} (hD : 0 < D) (h : Val D f N) : subF (1, 1) (subF (1, 1) f) = f := by
  have := (Val.unit.sub (Val.unit.sub h)).uniq hD (by rw [show D - (D - N) = N by omega]; exact h)
  exact this
theorem val0 {D : Int} {f : Int × Int} (hD : 0 < D) (h : Val D f 0) : f.1 = 0 := by
  have := h.e
  rw [Int.zero_mul] at this
  rcases Int.mul_eq_zero.mp this with z | z
  · exact z
  · omega
theorem list_bd {B : Int} (w : Nat → Int) : ∀ (l : List Nat), (∀ k ∈ l, 0 ≤ w k ∧ w k ≤ B) → 0 ≤ (l.map w).sum ∧ (l.map w).sum ≤ l.length * B
  | [], _ => by simp
  | x :: l, h => by
    have ih := list_bd w l fun k hk => h k (List.mem_cons_of_mem _ hk)
    have h1 := h x List.mem_cons_self
    rw [List.map_cons, List.sum_cons, List.length_cons]
    refine ⟨by omega, ?_⟩
    have : ((l.length + 1 : Nat) : Int) * B = l.length * B + B := by rw [Int.natCast_add, Int.add_mul]; simp
    omega
/-- the first one's part of what the giver has -/
def fs (r : Nat) (x : Int × Int) : Int × Int := if r = 0 then x else subF (1, 1) x
def gst (held mv : List Nat) (k : Nat) : Int × Int := if k ∈ held then (if k ∈ mv then (0, 1) else (1, 1)) else (0, 1)
def sumsL (r : Nat) (x y : Int × Int) : List D := if r = 0 then [frD x, frD y] else [frD y, frD x]
def gR (n : Nat) (f g : List Int) : Nat := if rich n f g = true then 0 else 1
def gLa (n : Nat) (f g : List Int) : List Int := if rich n f g = true then f else g
def gLb (n : Nat) (f g : List Int) : List Int := if rich n f g = true then g else f
section
variable {n : Nat} {f g : List Int} {T : Int}
theorem gLa_A : fA (gLa n f g) = gA n f g := by unfold gLa gA; split <;> rfl
theorem gLb_B : fA (gLb n f g) = gB n f g := by unfold gLb gB; split <;> rfl
theorem gLa_pt (hf : Pt n f) (hg : Pt n g) : Pt n (gLa n f g) := by unfold gLa; split <;> assumption
theorem gLb_pt (hf : Pt n f) (hg : Pt n g) : Pt n (gLb n f g) := by unfold gLb; split <;> assumption
theorem gR_le : gR n f g = 0 ∨ gR n f g = 1 := by unfold gR; split; exact .inl rfl; exact .inr rfl
theorem pts_r : idxS (.lst [tupI f, tupI g]) (.int (gR n f g : Nat)) = some (tupI (gLa n f g)) ∧ idxS (.lst [tupI f, tupI g]) (.int (1 - (gR n f g : Nat))) = some (tupI (gLb n f g)) := by
  unfold gR gLa gLb
  split <;> exact ⟨rfl, rfl⟩
theorem sums_r (x y : Int × Int) : idxS (.lst (sumsL (gR n f g) x y)) (.int (gR n f g : Nat)) = some (frD x) ∧ idxS (.lst (sumsL (gR n f g) x y)) (.int (1 - (gR n f g : Nat))) = some (frD y) := by
  unfold gR sumsL
  split <;> exact ⟨rfl, rfl⟩
theorem sums_set (x y z : Int × Int) : (∃ j, L2.ixN (sumsL (gR n f g) x y).length ((gR n f g : Nat) : Int) = some j ∧ (sumsL (gR n f g) x y).set j (frD z) = sumsL (gR n f g) z y) ∧ (∃ j, L2.ixN (sumsL (gR n f g) x y).length (1 - ((gR n f g : Nat) : Int)) = some j ∧ (sumsL (gR n f g) x y).set j (frD z) = sumsL (gR n f g) x z) := by
  unfold gR sumsL
  split <;> exact ⟨⟨_, rfl, rfl⟩, ⟨_, rfl, rfl⟩⟩
theorem mvd_r (p q : Int × Int) : idxS (.lst [frD p, frD q]) (.int (gR n f g : Nat)) = some (frD (if gR n f g = 0 then p else q)) := by
  unfold gR
  split <;> rfl
theorem eH_fs (k : Nat) : eH n f g k = fs (gR n f g) (gQ n f g k) := by
  unfold eH fs gR
  by_cases h : rich n f g = true <;> simp [h]
/-- what both have, of gM parts -/
def gS (n : Nat) (f g : List Int) : Int := gM n f g * (((gH n f g).map (gA n f g)).sum - ((gF n f g).1.map (gA n f g)).sum) - pY (gA n f g) (gF n f g).2
theorem eFairS (hf : Pt n f) (hg : Pt n g) (h1 : sm n (fA f) = T) (h2 : sm n (fA g) = T) : Fair n (fA f) (fA g) (gM n f g) (eP n f g) (gS n f g) := by
  have s := (gSh hf hg h1 h2).fair
  have s' : Fair n (gA n f g) (gB n f g) (gM n f g) (gQP n f g) (gS n f g) := s
  obtain ⟨S, hS⟩ := eFair hf hg h1 h2
  have e : S = gS n f g := by
    by_cases h : rich n f g = true
    · have e1 : gA n f g = fA f := if_pos h
      have e2 : eP n f g = gQP n f g := funext fun k => if_pos h
      rw [← hS.s1, ← s'.s1, e1, e2]
    · have e1 : gB n f g = fA f := if_neg h
      have e2 : eP n f g = fun k => gM n f g - gQP n f g k := funext fun k => if_neg h
      rw [← hS.s1, ← s'.s2, e1, e2]
  rw [← e]
  exact hS
theorem gS_bd (hf : Pt n f) (hg : Pt n g) (hn : n ≤ 1000) (h1 : sm n (fA f) = T) (h2 : sm n (fA g) = T) : Bd 3000 (gS n f g) := by
  have s := eFairS hf hg h1 h2
  have pr := ePr hf hg h1 h2
  have := sm_bd (B := 2 ^ 80 * 2 ^ 90) n (fun k => fA f k * eP n f g k) fun k hk => by
    have h1 := hf.nn k
    have h2 := hf.bd k
    have h3 := pr.p k (by omega)
    have h4 := pr.b
    unfold Bd at h2 h4
    refine ⟨Int.mul_nonneg h1 h3.1, ?_⟩
    exact Int.mul_le_mul (by omega) (by omega) h3.1 (by decide)
  have h5 : (n : Int) * (2 ^ 80 * 2 ^ 90) ≤ 1000 * (2 ^ 80 * 2 ^ 90) := Int.mul_le_mul_of_nonneg_right (by omega) (by decide)
  rw [s.s1] at this
  have h6 : Bd 200 (gS n f g) := by
    unfold Bd
    omega
  exact h6.mono (by omega)
end
set_option exponentiation.threshold 10000
section
variable (n : Nat) (f g : List Int) (i : Nat) (h : Nat → Int × Int) (x y : Int)
/-- so far all went over wholly -/
structure PhA : Prop where
  il : i ≤ (gP n f g).length
  hx : x = ((gH n f g).map (gA n f g)).sum - (((gP n f g).take i).map (gA n f g)).sum
  hd : x - y = gG n f g - (((gP n f g).take i).map fun k => gA n f g k + gB n f g k).sum
  h0 : 0 ≤ x - y
  hh : ∀ k, k < n → h k = fs (gR n f g) (gst (gH n f g) ((gP n f g).take i) k)
  hf : gF n f g = ((gP n f g).take i ++ (fin_ (gA n f g) (gB n f g) ((gP n f g).drop i) (x - y)).1, (fin_ (gA n f g) (gB n f g) ((gP n f g).drop i) (x - y)).2)
  bx : x.natAbs ≤ 2 ^ 80 * (200 + i)
  by_ : y.natAbs ≤ 2 ^ 80 * (200 + i)
end
/-- it is done -/
structure PhB (n : Nat) (f g : List Int) (h : Nat → Int × Int) (u v : Int × Int) : Prop where
  hh : ∀ k, k < n → h k = eH n f g k
  u : Val (gM n f g) u (gS n f g)
  v : Val (gM n f g) v (gS n f g)
section
variable {n : Nat} {f g : List Int} {T : Int} {i : Nat} {h : Nat → Int × Int} {x y : Int}
theorem phA_end (hf : Pt n f) (hg : Pt n g) (h1 : sm n (fA f) = T) (h2 : sm n (fA g) = T) (p : PhA n f g i h x y) (e : x - y ≤ 0 ∨ i = (gP n f g).length) : PhB n f g h (x, 1) (y, 1) ∧ x = y := by
  have sh := gSh hf hg h1 h2
  have pb : ∀ k ∈ gP n f g, 0 < gA n f g k + gB n f g k := fun k hk => by
    have := sh.posb hk
    have := sh.a0 k this.2.2
    omega
  by_cases hi : i = (gP n f g).length
  · -- all went over: there was nothing
    have hF := p.hf
    rw [hi, List.drop_length, List.take_length] at hF
    unfold fin_ at hF
    rw [List.append_nil] at hF
    have ho : (gF n f g).2 = none := by rw [hF]
    obtain ⟨q1, q2, q3⟩ := sh.none_ ho
    have hd := p.hd
    have hxy : x = y := by
      rw [q1] at hd
      simp at hd
      omega
    refine ⟨⟨fun k hk => ?_, ?_, ?_⟩, hxy⟩
    · rw [p.hh k hk, eH_fs]
      congr 1
      unfold gst gQ pF
      rw [ho, q2, q1]
      simp
    · have hx := p.hx
      rw [q1] at hx
      simp at hx
      have : gS n f g = x * gM n f g := by
        unfold gS
        rw [ho, q2]
        simp [pY, hx, Int.mul_comm]
      rw [this]
      exact Val.intD _ _
    · have hx := p.hx
      rw [q1] at hx
      simp at hx
      have : gS n f g = y * gM n f g := by
        unfold gS
        rw [ho, q2, ← hxy]
        simp [pY, hx, Int.mul_comm]
      rw [this]
      exact Val.intD _ _
  · have hlt : i < (gP n f g).length := by have := p.il; omega
    have hxy : x = y := by
      rcases e with e | e
      · have := p.h0; omega
      · exact absurd e hi
    obtain ⟨t, ht⟩ : ∃ t, (gP n f g)[i]? = some t := ⟨_, List.getElem?_eq_getElem hlt⟩
    have htm := List.mem_of_getElem? ht
    have hF := p.hf
    rw [List.drop_eq_getElem_cons hlt, show (gP n f g)[i] = t from (List.getElem?_eq_some_iff.mp ht).2] at hF
    unfold fin_ at hF
    rw [if_pos (by have := pb t htm; omega), List.append_nil] at hF
    have e1 : (gF n f g).1 = (gP n f g).take i := by rw [hF]
    have e2 : (gF n f g).2 = some (t, 0) := by rw [hF]; simp [hxy]
    refine ⟨⟨fun k hk => ?_, ?_, ?_⟩, hxy⟩
    · rw [p.hh k hk, eH_fs]
      congr 1
      unfold gst gQ pF
      rw [e1, e2]
      have hz := nz_zero (c := gA n f g t + gB n f g t) (by have := pb t htm; omega)
      by_cases z1 : k ∈ gH n f g
      · by_cases z2 : k ∈ (gP n f g).take i
        · simp [z1, z2]
        · by_cases z3 : k = t
          · subst z3
            simp [z1, z2, hz, sub10]
          · simp [z1, z2, z3]
      · simp [z1]
    · have : gS n f g = x * gM n f g := by
        unfold gS
        rw [e1, e2, ← p.hx]
        simp [pY, Int.mul_comm]
      rw [this]
      exact Val.intD _ _
    · have : gS n f g = y * gM n f g := by
        unfold gS
        rw [e1, e2, ← p.hx]
        simp [pY, Int.mul_comm, hxy]
      rw [this]
      exact Val.intD _ _
theorem phA_lt (hf : Pt n f) (hg : Pt n g) (h1 : sm n (fA f) = T) (h2 : sm n (fA g) = T) (p : PhA n f g i h x y) (e : 0 < x - y) : i < (gP n f g).length := by
  rcases Nat.lt_or_eq_of_le p.il with z | z
  · exact z
  · have := (phA_end hf hg h1 h2 p (.inr z)).2
    omega
variable {t : Nat}
/-- the last one goes over, wholly or in part -/
theorem phA_part (hf : Pt n f) (hg : Pt n g) (h1 : sm n (fA f) = T) (h2 : sm n (fA g) = T) (p : PhA n f g i h x y) (ht : (gP n f g)[i]? = some t) (e : x - y ≤ gA n f g t + gB n f g t) :
    PhB n f g (fun k => if k = t then fs (gR n f g) (subF (1, 1) (nz (x - y) (gA n f g t + gB n f g t))) else h k) (subF (x, 1) (mulF (nz (x - y) (gA n f g t + gB n f g t)) (gA n f g t, 1))) (addF (y, 1) (mulF (nz (x - y) (gA n f g t + gB n f g t)) (gB n f g t, 1))) := by
  have sh := gSh hf hg h1 h2
  obtain ⟨hlt, ht'⟩ := List.getElem?_eq_some_iff.mp ht
  have htm := List.mem_of_getElem? ht
  obtain ⟨t1, t2, t3⟩ := sh.posb htm
  have ha := sh.a0 t t3
  have hF := p.hf
  rw [List.drop_eq_getElem_cons hlt, ht'] at hF
  unfold fin_ at hF
  rw [if_pos e, List.append_nil] at hF
  have e1 : (gF n f g).1 = (gP n f g).take i := by rw [hF]
  have e2 : (gF n f g).2 = some (t, x - y) := by rw [hF]
  have eM : gM n f g = gA n f g t + gB n f g t := by unfold gM; rw [e2]; rfl
  have eS : gS n f g = gM n f g * x - (x - y) * gA n f g t := by
    unfold gS
    rw [e1, e2, ← p.hx]
    rfl
  have tni : t ∉ (gP n f g).take i := fun z => by
    have := sh.posn
    rw [← List.take_append_drop i (gP n f g), List.drop_eq_getElem_cons hlt, ht'] at this
    exact (List.nodup_append.mp this).2.2 t z t List.mem_cons_self rfl
  have hM : 0 < gM n f g := by rw [eM]; omega
  have vq : Val (gM n f g) (nz (x - y) (gA n f g t + gB n f g t)) (x - y) := by rw [eM]; exact Val.nz (by omega)
  refine ⟨fun k hk => ?_, ?_, ?_⟩
  · show (if k = t then _ else h k) = _
    rw [eH_fs]
    by_cases z3 : k = t
    · subst z3
      rw [if_pos rfl]
      congr 1
      unfold gQ pF
      rw [e1, e2]
      simp [t1, tni]
    · rw [if_neg z3, p.hh k hk]
      congr 1
      unfold gst gQ pF
      rw [e1, e2]
      by_cases z1 : k ∈ gH n f g
      · by_cases z2 : k ∈ (gP n f g).take i <;> simp [z1, z2, z3]
      · simp [z1]
  · have := (Val.intD (gM n f g) x).sub (vq.mulI (n := gA n f g t))
    rw [eS, Int.mul_comm (gM n f g)]
    exact this
  · have := (Val.intD (gM n f g) y).add (vq.mulI (n := gB n f g t))
    have e3 : gS n f g = y * gM n f g + (x - y) * gB n f g t := by
      rw [eS, eM]
      have k1 : (x - y) * (gA n f g t + gB n f g t) = (x - y) * gA n f g t + (x - y) * gB n f g t := Int.mul_add _ _ _
      have k2 : (x - y) * (gA n f g t + gB n f g t) = (gA n f g t + gB n f g t) * x - y * (gA n f g t + gB n f g t) := by rw [Int.sub_mul, Int.mul_comm x]
      omega
    rw [e3]
    exact this
/-- one more goes over wholly -/
theorem phA_next (hf : Pt n f) (hg : Pt n g) (h1 : sm n (fA f) = T) (h2 : sm n (fA g) = T) (p : PhA n f g i h x y) (ht : (gP n f g)[i]? = some t) (e : gA n f g t + gB n f g t < x - y) :
    PhA n f g (i + 1) (fun k => if k = t then fs (gR n f g) (0, 1) else h k) (x - gA n f g t) (y + gB n f g t) := by
  have sh := gSh hf hg h1 h2
  obtain ⟨hlt, ht'⟩ := List.getElem?_eq_some_iff.mp ht
  have htm := List.mem_of_getElem? ht
  obtain ⟨t1, t2, t3⟩ := sh.posb htm
  have ha := sh.a0 t t3
  have htk : (gP n f g).take (i + 1) = (gP n f g).take i ++ [t] := by rw [List.take_add_one, ht]; rfl
  have ba : Bd 80 (gA n f g t) := by rw [← gLa_A]; exact (gLa_pt hf hg).bd t
  have bb : Bd 80 (gB n f g t) := by rw [← gLb_B]; exact (gLb_pt hf hg).bd t
  have hF := p.hf
  rw [List.drop_eq_getElem_cons hlt, ht'] at hF
  unfold fin_ at hF
  rw [if_neg (by omega)] at hF
  have p1 := p.hx
  have p2 := p.hd
  have p3 := p.bx
  have p4 := p.by_
  unfold Bd at ba bb
  refine ⟨hlt, ?_, ?_, by omega, fun k hk => ?_, ?_, by omega, by omega⟩
  · rw [htk]; simp only [List.map_append, List.sum_append, List.map_cons, List.map_nil, List.sum_cons, List.sum_nil]; omega
  · rw [htk]; simp only [List.map_append, List.sum_append, List.map_cons, List.map_nil, List.sum_cons, List.sum_nil]; omega
  · show (if k = t then _ else h k) = _
    by_cases z3 : k = t
    · subst z3
      rw [if_pos rfl]
      congr 1
      unfold gst
      rw [htk]
      simp [t1]
    · rw [if_neg z3, p.hh k hk]
      congr 1
      unfold gst
      rw [htk]
      simp [z3]
  · rw [hF, htk, show x - gA n f g t - (y + gB n f g t) = x - y - (gA n f g t + gB n f g t) by omega]
    simp
end
set_option exponentiation.threshold 10000
theorem idx_atW {l : List Nat} (nd : l.Nodup) {i t : Nat} (h : l[i]? = some t) : l.idxOf t = i := by
  obtain ⟨hi, e⟩ := List.getElem?_eq_some_iff.mp h
  subst e
  exact nd.idxOf_getElem i hi
theorem idx_rl {n k : Nat} (h : Nat → D) (hk : k < n) : idxS (.lst ((List.range n).map h)) (nI k) = some (h k) := by
  have e : ((List.range n).map h)[k]? = some (h k) := by simp [hk]
  exact (idx_tupD e)
def owI (f g : List Int) (k : Nat) : Int := if fA f k < fA g k then 1 else 0
theorem Val.fw {D N : Int} {q : Int × Int} (hD : 0 < D) (b1 : Bd 90 D) (b2 : Bd 3000 N) (h : Val D q N) : Fw q := by
  obtain ⟨q1, q2⟩ := h.bd hD
  have q3 := h.p
  unfold Bd at b1 b2
  refine ⟨h.p, ?_, ?_⟩
  · unfold Bd; omega
  · have : Bd 90 q.2 := by unfold Bd; omega
    exact this.mono (by omega)
theorem nz_self {c : Int} (h : c ≠ 0) : nz c c = (1, 1) := by
  have := nz_mul (f := (1, 1)) (by decide) (by decide) h
  simpa using this
theorem set_rl {n t : Nat} (h : Nat → D) (d : D) : ((List.range n).map h).set t d = (List.range n).map fun k => if k = t then d else h k := by
  refine List.ext_getElem? fun i => ?_
  by_cases e : t = i
  · subst e
    by_cases hi : t < n
    · rw [List.getElem?_set_self (by simpa using hi), List.getElem?_map, List.getElem?_range hi]; simp
    · rw [List.getElem?_eq_none (by simp; omega), List.getElem?_eq_none (by simp; omega)]
  · rw [List.getElem?_set_ne e, List.getElem?_map, List.getElem?_map]
    by_cases hi : i < n
    · rw [List.getElem?_range hi]
      have e2 : ¬ i = t := fun z => e z.symm
      simp [e2]
    · rw [List.getElem?_eq_none (by simp; omega)]; rfl
theorem init_h {n : Nat} {f g : List Int} {k : Nat} (hk : k < n) : (1 - owI f g k, 1) = fs (gR n f g) (gst (gH n f g) [] k) := by
  unfold gR gH gst fs
  by_cases hr : rich n f g = true
  · simp only [if_pos hr]
    by_cases z : fA f k < fA g k
    · have : k ∉ hdA n f g := fun y => by have := (hdA_mem.mp y).2; omega
      simp [this, owI, z]
    · have : k ∈ hdA n f g := hdA_mem.mpr ⟨hk, by omega⟩
      simp [this, owI, z]
  · simp only [if_neg hr]
    by_cases z : fA f k < fA g k
    · have : k ∈ hdB n f g := hdB_mem.mpr ⟨hk, z⟩
      simp [this, owI, z, sub11]
    · have : k ∉ hdB n f g := fun y => z (hdB_mem.mp y).2
      simp [this, owI, z, sub10]
theorem init_s {n : Nat} {f g : List Int} : ([D.tup [.int ((hdA n f g).map (fA f)).sum, .int 1], D.tup [.int ((hdB n f g).map (fA g)).sum, .int 1]] : List D) = sumsL (gR n f g) (((gH n f g).map (gA n f g)).sum, 1) ((((List.range n).filter fun t => !decide (t ∈ gH n f g)).map (gB n f g)).sum, 1) := by
  unfold gR gH gA gB sumsL
  by_cases hr : rich n f g = true
  · simp only [if_pos hr, notA]
    rfl
  · simp only [if_neg hr, notB]
    rfl
theorem ordL_perm {a b : Nat → Int} {ks : List Nat} (hb : ∀ t ∈ ks, 0 ≤ b t) (hp : ks.Pairwise (· < ·)) : (ordL a b ks).Perm ks := by
  obtain ⟨zs, e, hz⟩ := ordL_eq (a := a) (b := b) hb hp
  obtain ⟨s1, _⟩ := selL_ok (a := a) (b := b) ks.length (ks.filter fun k => decide (0 < b k)) (List.length_filter_le _ _) (fun t ht => by simpa using (List.mem_filter.mp ht).2) (hp.sublist List.filter_sublist)
  rw [e]
  exact (s1.append hz).trans (List.filter_append_perm _ ks)
theorem ins_LN {l : List Nat} {p t : Nat} (hp : p ≤ l.length) (hl : l.length ≤ 1000) : mthS .insert (l.map nI) [nI p, nI t] = some (.non, (l.take p ++ [t] ++ l.drop p).map nI) := by
  unfold mthS
  simp only
  rw [if_pos]
  · simp [List.map_take, List.map_drop]
  · refine ⟨by omega, by omega, ?_⟩
    rw [List.length_map]
    have : sizeLine = 16777216 := rfl
    omega
theorem lastP_le (p : Nat → Bool) (l : List Nat) : lastP p l ≤ l.length := by
  have : ∀ l : List Nat, lastP p l.reverse ≤ l.reverse.length := by
    intro l
    induction l with
    | nil => simp [lastP_nil]
    | cons x l ih =>
      rw [List.reverse_cons, lastP_snoc]
      split <;> simp <;> simp at ih <;> omega
  have := this l.reverse
  rwa [List.reverse_reverse] at this
theorem ow_0 {n : Nat} {f g : List Int} : ((List.range n).filter fun k => decide (owI f g k = 0)) = hdA n f g := by
  unfold hdA owI
  refine List.filter_congr fun k _ => ?_
  by_cases z : fA f k < fA g k
  · simp [z]
  · simp [z]; omega
theorem ow_1 {n : Nat} {f g : List Int} : ((List.range n).filter fun k => decide (owI f g k = 1)) = hdB n f g := by
  unfold hdB owI
  refine List.filter_congr fun k _ => ?_
  by_cases z : fA f k < fA g k
  · simp [z]
  · simp [z]
set_option maxHeartbeats 0 in
theorem levened_ok (Δ : Tb) [A8 Δ] [A10 Δ] [A11 Δ] [A14 Δ] (k n : Nat) (hn : n ≤ 100) (f g : List Int) (T : Int) (hf : Pt n f) (hg : Pt n g) (h1 : sm n (fA f) = T) (h2 : sm n (fA g) = T) :
    Ev (callN Δ (k + 4) 227 [.fz (tupI f), .fz (tupI g)]) fun z => ∃ u v, z = (.nw (.lst [ptD n (eH n f g), frD u, frD v]), [.fz (tupI f), .fz (tupI g)]) ∧ Val (gM n f g) u (gS n f g) ∧ Val (gM n f g) v (gS n f g) := by
  rw [fn227]
  have h134 := fun a b ha hb => less_ok Δ (k + 2) a b ha hb
  have h158 := fun a b ha hb => wlplus_ok Δ k a b ha hb
  have h159 := fun a b ha hb => wlminus_ok Δ k a b ha hb
  have h160 := fun a b ha hb => wlprod_ok Δ k a b ha hb
  have h161 := fun a b ha hb h0 h1 => wlquot_ok Δ k a b ha hb h0 h1
  generalize callN Δ (k + 3) = cl at h134 h158 h159 h160 h161
  have tl : bltS .len [tupI f] = some (.v (.int (n : Nat))) := by rw [← hf.l]; simp [tupI, bltS]
  have ml := fun i j => (gLa_pt hf hg).ml (gLb_pt hf hg) i j
  walk_at "in"
  refine kt ?_
  simp_arith! []
  refine kt ?_
  simp_arith! [tl]
  refine lcG (f := fun k => D.int ((k : Nat) : Int)) (fun k => .int (owI f g k)) (fun i hi => ?_) ?_
  · have hi : i < n := by simpa using hi
    have i1 := hf.ix hi
    have i2 := hg.ix hi
    simp_arith! [i1, i2]
    rfl
  have ow_ : ∀ t : Nat, t < n → idxS (.lst ((List.range n).map fun k => D.int (owI f g k))) (nI t) = some (.int (owI f g t)) := fun t ht => idx_rl (fun k => D.int (owI f g k)) ht
  simp_arith! []
  refine ⟨by omega, ?_⟩
  refine kt ?_
  simp_arith! [tl]
  refine lcG (f := fun k => D.int ((k : Nat) : Int)) (fun k => frD (1 - owI f g k, 1)) (fun i hi => ?_) ?_
  · have hi : i < n := by simpa using hi
    simp_arith! [ow_ i hi]
    rfl
  simp_arith! []
  refine ⟨by omega, ?_⟩
  refine kt ?_
  simp_arith! []
  refine lcG (f := fun k => D.int ((k : Nat) : Int)) (fun p => .int (if p = 0 then ((hdA n f g).map (fA f)).sum else ((hdB n f g).map (fA g)).sum)) (fun p hp => ?_) ?_
  · have hp : p = 0 ∨ p = 1 := by
      have : p < 2 := by simpa using hp
      omega
    rcases hp with rfl | rfl
    · simp_arith! [tl]
      refine lcF (f := fun k => D.int ((k : Nat) : Int)) (fun k => .int (fA f k)) (fun k => decide (owI f g k = 0)) (fun i hi => ?_) ?_
      · have hi : i < n := by simpa using hi
        have i1 := hf.ix hi
        have p0 : idxS (.lst [tupI f, tupI g]) (.int ((0 : Nat) : Int)) = some (tupI f) := rfl
        simp_arith! [ow_ i hi, p0, i1]
        rfl
      rw [ow_0, show (hdA n f g).map (fun t => D.int (fA f t)) = ((hdA n f g).map (fA f)).map D.int by rw [List.map_map]; rfl]
      have lA : (hdA n f g).length ≤ n := Nat.le_trans (List.length_filter_le _ _) (by simp)
      simp_arith! []
      omega
    · simp_arith! [tl]
      refine lcF (f := fun k => D.int ((k : Nat) : Int)) (fun k => .int (fA g k)) (fun k => decide (owI f g k = 1)) (fun i hi => ?_) ?_
      · have hi : i < n := by simpa using hi
        have i1 := hg.ix hi
        have p0 : idxS (.lst [tupI f, tupI g]) (.int ((1 : Nat) : Int)) = some (tupI g) := rfl
        simp_arith! [ow_ i hi, p0, i1]
        rfl
      rw [ow_1, show (hdB n f g).map (fun t => D.int (fA g t)) = ((hdB n f g).map (fA g)).map D.int by rw [List.map_map]; rfl]
      have lA : (hdB n f g).length ≤ n := Nat.le_trans (List.length_filter_le _ _) (by simp)
      simp_arith! []
      omega
  have e2 : (List.range (2 : Int).toNat).map (fun p => D.int (if p = 0 then ((hdA n f g).map (fA f)).sum else ((hdB n f g).map (fA g)).sum)) = [.int ((hdA n f g).map (fA f)).sum, .int ((hdB n f g).map (fA g)).sum] := rfl
  rw [e2]
  simp_arith! []
  refine kt ?_
  have s0 : ∀ a b : D, idxS (.lst [a, b]) (.int 0) = some a := fun _ _ => rfl
  have s1 : ∀ a b : D, idxS (.lst [a, b]) (.int 1) = some b := fun _ _ => rfl
  have er : (if ((hdA n f g).map (fA f)).sum < ((hdB n f g).map (fA g)).sum then (1 : Int) else 0) = ((gR n f g : Nat) : Int) := by
    unfold gR rich
    by_cases z : ((hdA n f g).map (fA f)).sum < ((hdB n f g).map (fA g)).sum
    · rw [if_pos z, if_neg (by simp; omega)]; rfl
    · rw [if_neg z, if_pos (by simp; omega)]; rfl
  simp_arith! [s0, s1, er]
  refine kt ?_
  simp_arith! [s0, s1]
  refine kt ?_
  simp_arith! [tl]
  refine lcF (f := fun k => D.int ((k : Nat) : Int)) nI (fun k => decide (owI f g k = (gR n f g : Nat))) (fun i hi => ?_) ?_
  · have hi : i < n := by simpa using hi
    simp_arith! [ow_ i hi]
    rfl
  have e3 : ((List.range n).filter fun k => decide (owI f g k = (gR n f g : Nat))) = gH n f g := by
    unfold gH gR
    by_cases z : rich n f g = true
    · simp only [if_pos z]; exact ow_0
    · simp only [if_neg z]; exact ow_1
  have lH := gH_len (n := n) (f := f) (g := g)
  rw [e3]
  simp_arith! []
  refine ⟨by omega, ?_⟩
  refine kt ?_
  simp_arith! []
  refine kt ?_
  simp_arith! []
  have ia : ∀ t : Nat, t < n → idxS (tupI (gLa n f g)) (nI t) = some (.int (gA n f g t)) := fun t ht => by rw [← gLa_A]; exact (gLa_pt hf hg).ix ht
  have ib : ∀ t : Nat, t < n → idxS (tupI (gLb n f g)) (nI t) = some (.int (gB n f g t)) := fun t ht => by rw [← gLb_B]; exact (gLb_pt hf hg).ix ht
  have ml : ∀ i j : Nat, binS .Mult (.int (gA n f g i)) (.int (gB n f g j)) = some (.v (.int (gA n f g i * gB n f g j))) := fun i j => by rw [← gLa_A, ← gLb_B]; exact ml i j
  obtain ⟨pr0, pr1⟩ := pts_r (n := n) (f := f) (g := g)
  have hb0 : ∀ t : Nat, 0 ≤ gB n f g t := fun t => by rw [← gLb_B]; exact (gLb_pt hf hg).nn t
  have hpw := gH_pw (n := n) (f := f) (g := g)
  refine foM (f := nI) (P := fun i e => ∃ s9 s10 s11 s12, e = [.fz (tupI f), .fz (tupI g), .ow false (.lst [tupI f, tupI g]), .ow false (.lst ((List.range n).map fun k => D.int (owI f g k))), .ow false (.lst ((List.range n).map fun k => frD (1 - owI f g k, 1))),
    .ow false (.lst [.tup [.int ((hdA n f g).map (fA f)).sum, .int 1], .tup [.int ((hdB n f g).map (fA g)).sum, .int 1]]), .fz (.int (gR n f g : Nat)), .lk false (.lst ((gH n f g).map nI)), .ow false (.lst ((ordL (gA n f g) (gB n f g) ((gH n f g).take i)).map nI)), s9, s10, s11, s12, .un, .un, .un, .un] ∧ fr s9 = true ∧ fr s10 = true ∧ fr s11 = true ∧ fr s12 = true)
    ⟨_, _, _, _, rfl, rfl, rfl, rfl, rfl⟩ (fun i t hit e he => ?_) fun e he => ?_
  · obtain ⟨s9, s10, s11, s12, rfl, f9, f10, f11, f12⟩ := he
    have ht := gH_lt (List.mem_of_getElem? hit)
    have hti : (gH n f g).take (i + 1) = (gH n f g).take i ++ [t] := by rw [List.take_add_one, hit]; rfl
    have hst := ordL_snoc (a := gA n f g) (b := gB n f g) ((gH n f g).take i) t
    rw [← hti] at hst
    have hop := ordL_perm (a := gA n f g) (b := gB n f g) (ks := (gH n f g).take i) (fun t _ => hb0 t) (hpw.sublist (List.take_sublist _ _))
    rw [hst]
    generalize ordL (gA n f g) (gB n f g) ((gH n f g).take i) = od at hop ⊢
    have odn : od.Nodup := hop.nodup_iff.mpr ((hpw.imp fun h => by omega : (gH n f g).Nodup).sublist (List.take_sublist _ _))
    have odl : ∀ j ∈ od, j < n := fun j hj => gH_lt (List.mem_of_mem_take (hop.mem_iff.mp hj))
    have odz : od.length ≤ 1000 := by rw [hop.length_eq, List.length_take]; omega
    simp_arith! [f9]
    refine kt ?_
    simp_arith! [f10]
    refine kt ?_
    simp_arith! []
    refine foM (f := nI) (P := fun i' e => ∃ s11 s12, e = [.fz (tupI f), .fz (tupI g), .ow false (.lst [tupI f, tupI g]), .ow false (.lst ((List.range n).map fun k => D.int (owI f g k))), .ow false (.lst ((List.range n).map fun k => frD (1 - owI f g k, 1))),
      .ow false (.lst [.tup [.int ((hdA n f g).map (fA f)).sum, .int 1], .tup [.int ((hdB n f g).map (fA g)).sum, .int 1]]), .fz (.int (gR n f g : Nat)), .lk false (.lst ((gH n f g).map nI)), .lk false (.lst (od.map nI)), .fz (nI t), .fz (nI (lastP (ahd (gA n f g) (gB n f g) t) (od.take i'))), s11, s12, .un, .un, .un, .un] ∧ fr s11 = true ∧ fr s12 = true)
      ⟨_, _, rfl, f11, f12⟩ (fun i' j hij e he => ?_) fun e he => ?_
    · obtain ⟨s11, s12, rfl, f11, f12⟩ := he
      have hjm := List.mem_of_getElem? hij
      have hj := odl j hjm
      have hji : od.take (i' + 1) = od.take i' ++ [j] := by rw [List.take_add_one, hij]; rfl
      have hil : i' < od.length := (List.getElem?_eq_some_iff.mp hij).1
      have hls := lastP_snoc (ahd (gA n f g) (gB n f g) t) (od.take i') j
      rw [← hji, List.length_take, Nat.min_eq_left (by omega)] at hls
      have hix := ix_natW (z := od.map nI) hjm
      rw [idx_atW odn hij] at hix
      simp_arith! [f11]
      refine kt ?_
      simp_arith! [pr0, pr1, ia t ht, ib t ht, ia j hj, ib j hj, ml, f12]
      refine kt ?_
      simp_arith! [pr0, pr1, ia t ht, ib t ht, ia j hj, ib j hj]
      refine ⟨fun q => ?_, fun q => ?_⟩
      · have hc : ahd (gA n f g) (gB n f g) t j = true := by simpa [ahd] using q
        rw [if_pos hc] at hls
        refine kt ?_
        simp_arith! [hix]
        exact ⟨_, _, by rw [hls]; rfl, rfl, rfl⟩
      · have hc : ¬ ahd (gA n f g) (gB n f g) t j = true := by
          intro z
          have z : gB n f g t = 0 ∨ 0 < gB n f g j ∧ gA n f g j * gB n f g t ≤ gA n f g t * gB n f g j := by simpa [ahd] using z
          rcases z with z | ⟨z1, z2⟩
          · exact q.1 z
          · exact q.2.elim (fun w => w z1) fun w => w z2
        rw [if_neg hc] at hls
        exact ⟨_, _, by rw [hls], rfl, rfl⟩
    · obtain ⟨s11, s12, rfl, f11, f12⟩ := he
      rw [List.take_length]
      have hin := ins_LN (t := t) (lastP_le (ahd (gA n f g) (gB n f g) t) od) odz
      simp_arith! []
      refine kt ?_
      simp_arith! [hin]
      refine ⟨_, _, _, _, rfl, rfl, rfl, f11, f12⟩
  · obtain ⟨s9, s10, s11, s12, rfl, f9, f10, f11, f12⟩ := he
    rw [List.take_length]
    refine kt ?_
    simp_arith! []
    have sh := gSh hf hg h1 h2
    have pr := ePr hf hg h1 h2
    have hM := pr.m
    have hMb := pr.b
    have hSb := gS_bd hf hg (by omega) h1 h2
    have fwV : ∀ u : Int × Int, Val (gM n f g) u (gS n f g) → Fw u := fun u hu => by
      obtain ⟨q1, q2⟩ := hu.bd hM
      have q3 := hu.p
      unfold Bd at hMb hSb
      refine ⟨hu.p, ?_, ?_⟩
      · unfold Bd; omega
      · have : Bd 90 u.2 := by unfold Bd; omega
        exact this.mono (by omega)
    obtain ⟨zs, eo, hz⟩ := ordL_eq (a := gA n f g) (b := gB n f g) (ks := gH n f g) (fun t _ => hb0 t) hpw
    have eo : ordL (gA n f g) (gB n f g) (gH n f g) = gP n f g ++ zs := eo
    have hop := ordL_perm (a := gA n f g) (b := gB n f g) (ks := gH n f g) (fun t _ => hb0 t) hpw
    have odl : ∀ j ∈ ordL (gA n f g) (gB n f g) (gH n f g), j < n := fun j hj => gH_lt (hop.mem_iff.mp hj)
    have odz : (ordL (gA n f g) (gB n f g) (gH n f g)).length ≤ n := by rw [hop.length_eq]; exact lH
    have ba : ∀ t : Nat, Bd 80 (gA n f g t) := fun t => by rw [← gLa_A]; exact (gLa_pt hf hg).bd t
    have bb : ∀ t : Nat, Bd 80 (gB n f g t) := fun t => by rw [← gLb_B]; exact (gLb_pt hf hg).bd t
    have na : ∀ t : Nat, 0 ≤ gA n f g t := fun t => by rw [← gLa_A]; exact (gLa_pt hf hg).nn t
    rw [init_s]
    have eh0 : (List.range n).map (fun k => frD (1 - owI f g k, 1)) = (List.range n).map fun k => frD (fs (gR n f g) (gst (gH n f g) [] k)) := List.map_congr_left fun k hk => by rw [init_h (by simpa using hk)]
    rw [eh0]
    have pa0 : PhA n f g 0 (fun k => fs (gR n f g) (gst (gH n f g) [] k)) ((gH n f g).map (gA n f g)).sum (((List.range n).filter fun t => !decide (t ∈ gH n f g)).map (gB n f g)).sum := by
      have l1 := list_bd (B := 2 ^ 80) (gA n f g) (gH n f g) fun k _ => by have := ba k; have := na k; unfold Bd at *; omega
      have l2 := list_bd (B := 2 ^ 80) (gB n f g) ((List.range n).filter fun t => !decide (t ∈ gH n f g)) fun k _ => by have := bb k; have := hb0 k; unfold Bd at *; omega
      have l3 : ((List.range n).filter fun t => !decide (t ∈ gH n f g)).length ≤ n := Nat.le_trans (List.length_filter_le _ _) (by simp)
      have l4 : ((gH n f g).length : Int) * 2 ^ 80 ≤ 200 * 2 ^ 80 := Int.mul_le_mul_of_nonneg_right (by omega) (by decide)
      have l5 : ((((List.range n).filter fun t => !decide (t ∈ gH n f g)).length : Nat) : Int) * 2 ^ 80 ≤ 200 * 2 ^ 80 := Int.mul_le_mul_of_nonneg_right (by omega) (by decide)
      refine ⟨Nat.zero_le _, by simp, ?_, gG_nn, fun k _ => by simp, rfl, by omega, by omega⟩
      rw [List.take_zero]
      simp only [List.map_nil, List.sum_nil, Int.sub_zero]
      rfl
    have fin : ∀ (h : Nat → Int × Int) (u v : Int × Int) (s9 s10 s11 s12 s13 s14 s15 s16 : Sl), PhB n f g h u v →
        Ev (evSs cl b227_16 [.fz (tupI f), .fz (tupI g), .ow false (.lst [tupI f, tupI g]), .ow false (.lst ((List.range n).map fun k => D.int (owI f g k))), .ow false (.lst ((List.range n).map fun k => frD (h k))), .ow false (.lst (sumsL (gR n f g) u v)), .fz (.int (gR n f g : Nat)), .ow false (.lst ((gH n f g).map nI)), .ow false (.lst ((ordL (gA n f g) (gB n f g) (gH n f g)).map nI)), s9, s10, s11, s12, s13, s14, s15, s16])
          (Ed [.fz (tupI f), .fz (tupI g)] fun z => ∃ u v, z = (.nw (.lst [ptD n (eH n f g), frD u, frD v]), [.fz (tupI f), .fz (tupI g)]) ∧ Val (gM n f g) u (gS n f g) ∧ Val (gM n f g) v (gS n f g)) := fun h u v s9 s10 s11 s12 s13 s14 s15 s16 pb => by
      have e1 : (List.range n).map (fun k => frD (h k)) = (List.range n).map fun k => frD (eH n f g k) := List.map_congr_left fun k hk => by rw [pb.hh k (by simpa using hk)]
      rw [e1]
      rcases gR_le (n := n) (f := f) (g := g) with hr | hr
      · have e2 : sumsL (gR n f g) u v = [frD u, frD v] := by unfold sumsL; rw [if_pos hr]
        rw [e2]
        refine kt ?_
        simp_arith! [s0, s1]
        exact ⟨u, v, rfl, pb.u, pb.v⟩
      · have e2 : sumsL (gR n f g) u v = [frD v, frD u] := by unfold sumsL; rw [if_neg (by omega)]
        rw [e2]
        refine kt ?_
        simp_arith! [s0, s1]
        exact ⟨v, u, rfl, pb.v, pb.u⟩
    refine foM (f := nI) (P := fun i e => ∃ (h : Nat → Int × Int) (u v : Int × Int) (s9 s10 s11 s12 s13 s14 s15 : Sl), e = [.fz (tupI f), .fz (tupI g), .ow false (.lst [tupI f, tupI g]), .ow false (.lst ((List.range n).map fun k => D.int (owI f g k))), .ow false (.lst ((List.range n).map fun k => frD (h k))), .ow false (.lst (sumsL (gR n f g) u v)), .fz (.int (gR n f g : Nat)), .ow false (.lst ((gH n f g).map nI)), .lk false (.lst ((ordL (gA n f g) (gB n f g) (gH n f g)).map nI)), s9, s10, s11, s12, s13, s14, s15, .un] ∧ fr s9 = true ∧ fr s13 = true ∧ fr s14 = true ∧ fr s15 = true ∧
      ((∃ x y, u = (x, 1) ∧ v = (y, 1) ∧ PhA n f g i h x y) ∨ PhB n f g h u v)) ⟨_, _, _, _, _, _, _, _, _, _, rfl, f9, rfl, rfl, rfl, .inl ⟨_, _, rfl, rfl, pa0⟩⟩ (fun i t hit e he => ?_) fun e he => ?_
    · obtain ⟨h, u, v, s9, s10, s11, s12, s13, s14, s15, rfl, f9, f13, f14, f15, ph⟩ := he
      have ht := odl t (List.mem_of_getElem? hit)
      obtain ⟨r0, r1⟩ := sums_r (n := n) (f := f) (g := g) u v
      rcases ph with ⟨x, y, rfl, rfl, pa⟩ | pb
      · have hil : i ≤ 100 := by have := pa.il; have : (gP n f g).length ≤ n := by rw [eo] at odz; simp at odz; omega
                                 omega
        have bx : Bd 90 x := by have := pa.bx; unfold Bd; omega
        have by_ : Bd 90 y := by have := pa.by_; unfold Bd; omega
        have fx : Fw (x, 1) := fw_int (bx.mono (by omega))
        have fy : Fw (y, 1) := fw_int (by_.mono (by omega))
        have e1 := h159 (x, 1) (y, 1) fx fy
        rw [sub_int] at e1
        have z0 : idxS (frD (x - y, 1)) (.int 0) = some (.int (x - y)) := rfl
        simp_arith! [f9]
        refine kt ?_
        simp_arith! [r0, r1, e1, f13]
        refine kt ?_
        simp_arith! [z0]
        refine ⟨fun q => ?_, fun q => ?_⟩
        · refine kt ?_
          simp_arith! []
          exact fin h (x, 1) (y, 1) _ _ _ _ _ _ _ _ (phA_end hf hg h1 h2 pa (.inl q)).1
        · have hlt := phA_lt hf hg h1 h2 pa (by omega)
          have hpt : (gP n f g)[i]? = some t := by
            rw [eo, List.getElem?_append_left hlt] at hit
            exact hit
          obtain ⟨t1, t2, t3⟩ := sh.posb (List.mem_of_getElem? hpt)
          have e2 : fA f t + fA g t = gA n f g t + gB n f g t := by
            unfold gA gB
            by_cases hr : rich n f g = true
            · simp only [if_pos hr]
            · simp only [if_neg hr]; omega
          have hc0 : 0 < gA n f g t + gB n f g t := by have := na t; omega
          have bc : Bd 90 (gA n f g t + gB n f g t) := ((ba t).sum2 (bb t)).mono (by omega)
          have i1 := hf.ix ht
          have i2 := hg.ix ht
          refine kt ?_
          simp_arith! [s0, s1, i1, i2, f14]
          refine kt ?_
          simp_arith! [f15]
          rw [e2]
          have a3 : ∀ z : Int, D.tup [D.int z, D.int 1] = frD (z, 1) := fun _ => rfl
          have fa : Fw (gA n f g t, 1) := fw_int ((ba t).mono (by omega))
          have fb : Fw (gB n f g t, 1) := fw_int ((bb t).mono (by omega))
          have fc : Fw (gA n f g t + gB n f g t, 1) := fw_int (bc.mono (by omega))
          have bd_ : Bd 100 (x - y) := by unfold Bd at *; omega
          have fd : Fw (x - y, 1) := fw_int (bd_.mono (by omega))
          have tail : ∀ q : Int × Int, Fw q → Fw (mulF q (gA n f g t, 1)) → Fw (mulF q (gB n f g t, 1)) → (if gR n f g = 0 then subF (1, 1) q else q) = fs (gR n f g) (subF (1, 1) q) →
              Ev (evSs cl b227_10 [.fz (tupI f), .fz (tupI g), .ow false (.lst [tupI f, tupI g]), .ow false (.lst ((List.range n).map fun k => D.int (owI f g k))), .ow false (.lst ((List.range n).map fun k => frD (h k))), .ow false (.lst (sumsL (gR n f g) (x, 1) (y, 1))), .fz (.int (gR n f g : Nat)), .ow false (.lst ((gH n f g).map nI)), .lk false (.lst ((ordL (gA n f g) (gB n f g) (gH n f g)).map nI)), .fz (nI t), s10, s11, s12, .fz (frD (x - y, 1)), .fz (.int (gA n f g t + gB n f g t)), .fz (frD q), .un])
                fun fl => fl = .nx [.fz (tupI f), .fz (tupI g), .ow false (.lst [tupI f, tupI g]), .ow false (.lst ((List.range n).map fun k => D.int (owI f g k))), .ow false (.lst ((List.range n).map fun k => frD (if k = t then fs (gR n f g) (subF (1, 1) q) else h k))), .ow false (.lst (sumsL (gR n f g) (subF (x, 1) (mulF q (gA n f g t, 1))) (addF (y, 1) (mulF q (gB n f g t, 1))))), .fz (.int (gR n f g : Nat)), .ow false (.lst ((gH n f g).map nI)), .lk false (.lst ((ordL (gA n f g) (gB n f g) (gH n f g)).map nI)), .fz (nI t), s10, s11, s12, .fz (frD (x - y, 1)), .fz (.int (gA n f g t + gB n f g t)), .fz (frD q), .un] := fun q fq fqa fqb eq => by
            have e5 := h160 q (gA n f g t, 1) fq fa
            have e6 := h159 (x, 1) (mulF q (gA n f g t, 1)) fx fqa
            have e7 := h160 q (gB n f g t, 1) fq fb
            have e8 := h158 (y, 1) (mulF q (gB n f g t, 1)) fy fqb
            have e9 := h159 (1, 1) q fw_one fq
            obtain ⟨⟨j0, j1, j2⟩, _⟩ := sums_set (n := n) (f := f) (g := g) (x, 1) (y, 1) (subF (x, 1) (mulF q (gA n f g t, 1)))
            obtain ⟨_, ⟨l0, l1, l2⟩⟩ := sums_set (n := n) (f := f) (g := g) (subF (x, 1) (mulF q (gA n f g t, 1))) (y, 1) (addF (y, 1) (mulF q (gB n f g t, 1)))
            obtain ⟨_, r2⟩ := sums_r (n := n) (f := f) (g := g) (subF (x, 1) (mulF q (gA n f g t, 1))) (y, 1)
            have m9 := mvd_r (n := n) (f := f) (g := g) (subF (1, 1) q) q
            rw [eq] at m9
            have st := set_rl (n := n) (t := t) (fun k => frD (h k)) (frD (fs (gR n f g) (subF (1, 1) q)))
            have sc : (List.range n).map (fun k => if k = t then frD (fs (gR n f g) (subF (1, 1) q)) else frD (h k)) = (List.range n).map fun k => frD (if k = t then fs (gR n f g) (subF (1, 1) q) else h k) := List.map_congr_left fun k _ => by split <;> rfl
            rw [sc] at st
            refine kt ?_
            simp_arith! [r0, pr0, ia t ht, a3, e5, e6, j1]
            rw [j2]
            refine kt ?_
            simp_arith! [r2, pr1, ib t ht, a3, e7, e8, l1]
            rw [l2]
            refine kt ?_
            simp_arith! [a3, e9, m9, st]
          by_cases c1 : x - y < gA n f g t + gB n f g t
          · have e3 := h134 (x - y, 1) (gA n f g t + gB n f g t, 1) fd.fr fc.fr
            rw [ltF_int, decide_eq_true c1] at e3
            have e4 := h161 (x - y, 1) (gA n f g t + gB n f g t, 1) fd fc (by show gA n f g t + gB n f g t ≠ 0; omega) (bc.mono (by omega))
            rw [div_int] at e4
            have vq : Val (gA n f g t + gB n f g t) (nz (x - y) (gA n f g t + gB n f g t)) (x - y) := Val.nz hc0
            refine kt ?_
            simp_arith! [a3, e3]
            refine kt ?_
            simp_arith! [a3, e4]
            refine ev_mono (tail (nz (x - y) (gA n f g t + gB n f g t)) (fw_nz hc0 pa.h0 (by omega) bc) (vq.mulI.fw hc0 bc ((bd_.mul (ba t)).mono (by omega))) (vq.mulI.fw hc0 bc ((bd_.mul (bb t)).mono (by omega))) ?_) ?_
            · unfold fs
              rw [sub_back hc0 vq]
            · rintro _ rfl
              exact ⟨_, _, _, _, _, _, _, _, _, _, rfl, rfl, rfl, rfl, rfl, .inr (phA_part hf hg h1 h2 pa hpt (by omega))⟩
          · have e3 := h134 (x - y, 1) (gA n f g t + gB n f g t, 1) fd.fr fc.fr
            rw [ltF_int, decide_eq_false c1] at e3
            refine kt ?_
            simp_arith! [a3, e3]
            refine ev_mono (tail (1, 1) fw_one (by rw [mul_one]; exact fa) (by rw [mul_one]; exact fb) ?_) ?_
            · unfold fs
              rw [sub11, sub10]
            · rintro _ rfl
              refine ⟨_, _, _, _, _, _, _, _, _, _, rfl, rfl, rfl, rfl, rfl, ?_⟩
              by_cases c2 : x - y = gA n f g t + gB n f g t
              · have := phA_part hf hg h1 h2 pa hpt (by omega)
                rw [show nz (x - y) (gA n f g t + gB n f g t) = (1, 1) by rw [c2]; exact nz_self (by omega)] at this
                exact .inr this
              · have := phA_next hf hg h1 h2 pa hpt (by omega)
                refine .inl ⟨x - gA n f g t, y + gB n f g t, by rw [mul_one, sub_int], by rw [mul_one, add_int], ?_⟩
                rw [sub11]
                exact this
      · have fu := fwV u pb.u
        have fv := fwV v pb.v
        have e1 := h159 u v fu fv
        have vz := pb.u.sub pb.v
        rw [Int.sub_self] at vz
        have z0 : idxS (frD (subF u v)) (.int 0) = some (.int 0) := by
          show some (D.int (subF u v).1) = _
          rw [val0 hM vz]
        simp_arith! [f9]
        refine kt ?_
        simp_arith! [r0, r1, e1, f13]
        refine kt ?_
        simp_arith! [z0]
        refine kt ?_
        simp_arith! []
        exact fin h u v _ _ _ _ _ _ _ _ pb
    · obtain ⟨h, u, v, s9, s10, s11, s12, s13, s14, s15, rfl, f9, f13, f14, f15, ph⟩ := he
      have pb : PhB n f g h u v := by
        rcases ph with ⟨x, y, rfl, rfl, pa⟩ | pb
        · refine (phA_end hf hg h1 h2 pa (.inr ?_)).1
          have := pa.il
          rw [eo, List.length_append] at this ⊢
          omega
        · exact pb
      simp_arith! []
      exact fin h u v _ _ _ _ _ _ _ _ pb
set_option exponentiation.threshold 10000
def ptA (cs : List Int) (T : Int) (k : Nat) : Int := (cs ++ [T]).getD k 0 - (0 :: cs).getD k 0
theorem gd_in {l : List Int} {k : Nat} (h : k < l.length) : l.getD k 0 = l[k] := by rw [List.getD_eq_getElem?_getD, List.getElem?_eq_getElem h]; rfl
theorem ptA_sum (cs : List Int) (T : Int) : sm (cs.length + 1) (ptA cs T) = T := by
  have key : ∀ j, j ≤ cs.length → sm j (ptA cs T) = (0 :: cs).getD j 0 := by
    intro j
    induction j with
    | zero => intro _; rfl
    | succ j ih =>
      intro hj
      rw [sm_succ, ih (by omega)]
      unfold ptA
      have e1 : (cs ++ [T]).getD j 0 = cs.getD j 0 := by
        rw [List.getD_eq_getElem?_getD, List.getD_eq_getElem?_getD, List.getElem?_append_left (by omega)]
      have e2 : (0 :: cs).getD (j + 1) 0 = cs.getD j 0 := by simp [List.getD_eq_getElem?_getD]
      rw [e1, e2]; omega
  rw [sm_succ, key _ (Nat.le_refl _)]
  unfold ptA
  have : (cs ++ [T]).getD cs.length 0 = T := by rw [List.getD_eq_getElem?_getD]; simp
  rw [this]; omega
theorem ptA_nn {cs : List Int} {T : Int} (hs : cs.Pairwise (· ≤ ·)) (hb : ∀ c ∈ cs, 0 ≤ c ∧ c ≤ T) (hT : 0 ≤ T) {k : Nat} (hk : k < cs.length + 1) : 0 ≤ ptA cs T k := by
  unfold ptA
  by_cases h : k = cs.length
  · subst h
    have : (cs ++ [T]).getD cs.length 0 = T := by rw [List.getD_eq_getElem?_getD]; simp
    rw [this]
    by_cases z : cs.length = 0
    · rw [z]; simp; omega
    · have e : (0 :: cs).getD cs.length 0 = cs.getD (cs.length - 1) 0 := by
        obtain ⟨j, hj⟩ : ∃ j, cs.length = j + 1 := ⟨cs.length - 1, by omega⟩
        rw [hj]; simp [List.getD_eq_getElem?_getD]
      rw [e, gd_in (by omega)]
      have := (hb _ (List.getElem_mem (show cs.length - 1 < cs.length by omega))).2
      omega
  · have hk' : k < cs.length := by omega
    have e1 : (cs ++ [T]).getD k 0 = cs[k] := by
      rw [List.getD_eq_getElem?_getD, List.getElem?_append_left hk', List.getElem?_eq_getElem hk']; rfl
    rw [e1]
    cases k with
    | zero =>
      have := (hb _ (List.getElem_mem hk')).1
      simp; omega
    | succ k =>
      have e2 : (0 :: cs).getD (k + 1) 0 = cs[k] := by
        have : k < cs.length := by omega
        simp [List.getD_eq_getElem?_getD, this]
      rw [e2]
      have := List.pairwise_iff_getElem.mp hs k (k + 1) (by omega) hk' (by omega)
      omega
theorem lpoints_ok (Δ : Tb) [A0 Δ] [A14 Δ] (k : Nat) (ds : List Int) (many : Nat) (T : Int) (h1 : 0 < many) (h2 : many ≤ 100) (hT : 0 ≤ T) :
    Ev (callN Δ (k + 2) 228 [.ow true (LI ds), .fz (nI many), .fz (.int T)]) fun z => ∃ cs ds', z = (.v (.tup ((List.range many).map fun k => .int (ptA cs T k))), [.ow true (LI ds'), .fz (nI many), .fz (.int T)]) ∧ cs.length + 1 = many ∧ cs.Pairwise (· ≤ ·) ∧ ∀ c ∈ cs, 0 ≤ c ∧ c ≤ T := by
  rw [fn228]
  have ht := fun ds => take_ok Δ k ds (T + 1) (by omega)
  generalize callN Δ (k + 1) = cl at ht
  unfold LI at *
  walk_at "in"
  refine kt ?_
  simp_arith! []
  have em : ((many : Int) - 1).toNat = many - 1 := by omega
  rw [em]
  refine lcR (f := fun k => D.int ((k : Nat) : Int)) (P := fun i acc e => ∃ (cs ds : List Int), acc = cs.map D.int ∧ cs.length = i ∧ (∀ c ∈ cs, 0 ≤ c ∧ c ≤ T) ∧ e = [.ow true (.lst (ds.map .int)), .fz (nI many), .fz (.int T), .un, .un]) ⟨[], ds, rfl, rfl, by simp, rfl⟩ (fun i hi acc e he => ?_) fun acc e he => ?_
  · obtain ⟨cs, ds, rfl, hl, hc, rfl⟩ := he
    simp_arith! []
    refine ev_mono (ht ds) ?_
    rintro _ ⟨r, ds', rfl, r0, r1⟩
    simp_arith! []
    refine ⟨cs ++ [r], ds', by simp, by simp [hl], fun c hc' => ?_, rfl⟩
    rcases List.mem_append.mp hc' with z | z
    · exact hc c z
    · rw [List.mem_singleton.mp z]; omega
  · obtain ⟨cs, ds, rfl, hl, hc, rfl⟩ := he
    simp_arith! []
    refine ⟨by omega, ?_⟩
    have hsp := sort_perm cs
    have hsw := sort_pw cs
    have hsl := hsp.length_eq
    have hsc : ∀ c ∈ cs.mergeSort (· ≤ ·), 0 ≤ c ∧ c ≤ T := fun c h => hc c (hsp.mem_iff.mp h)
    generalize cs.mergeSort (· ≤ ·) = sc at hsp hsw hsl hsc
    unfold LI
    refine kt ?_
    simp_arith! []
    have a1 : binS .Add (.lst (sc.map D.int)) (.lst [.int T]) = some (.nw (.lst ((sc ++ [T]).map D.int))) := by
      rw [add_lst1 (by simp; omega)]; simp
    have a2 : binS .Add (.lst [.int 0]) (.lst (sc.map D.int)) = some (.nw (.lst ((0 :: sc).map D.int))) := by
      rw [add_lst1 (by simp; omega)]; simp
    refine lcG (f := fun k => D.int ((k : Nat) : Int)) (fun k => .int (ptA sc T k)) (fun i hi => ?_) ?_
    · have hi : i < many := by simpa using hi
      have i1 : idxS (.lst ((sc ++ [T]).map D.int)) (nI i) = some (.int ((sc ++ [T]).getD i 0)) := num_atN (by simp; omega)
      have i2 : idxS (.lst ((0 :: sc).map D.int)) (nI i) = some (.int ((0 :: sc).getD i 0)) := num_atN (by simp; omega)
      simp_arith! [a1, a2, i1, i2]
      rfl
    simp_arith! []
    refine ⟨by omega, sc, ds, ?_, by omega, hsw, hsc⟩
    rfl
/-- the law's look at two equal values, one step deeper -/
theorem same_step (Δ : Tb) [A0 Δ] (k : Nat) (ds : List D) (hl : ds.length ≤ 1000) (h : ∀ d ∈ ds, callN Δ (k + 1) 7 [.fz d, .fz d] = some (.v (.bl true), [.fz d, .fz d])) : callN Δ (k + 2) 7 [.fz (.tup ds), .fz (.tup ds)] = some (.v (.bl true), [.fz (.tup ds), .fz (.tup ds)]) := by
  refine eq_of ?_
  rw [fn7]
  generalize callN Δ (k + 1) = cl at h
  walk_at "in"
  unfold b7
  refine kt ?_
  simp_arith! []
  refine kt ?_
  simp_arith! []
  refine kt ?_
  simp_arith! []
  refine kt ?_
  simp_arith! []
  refine lcR (fun i acc e => acc = (List.range i).map (fun _ => D.bl true) ∧ e = [.fz (.tup ds), .fz (.tup ds), .un]) ⟨rfl, rfl⟩ ?_ ?_
  · rintro j hj acc e ⟨rfl, rfl⟩
    have hj : j < ds.length := by simpa using hj
    have i0 : idxS (.tup ds) (nI j) = some ds[j] := by
      have := atI_map (f := fun x : D => x) (List.getElem?_eq_getElem hj)
      rw [List.map_id'] at this
      exact this
    simp_arith! [i0, h _ (List.getElem_mem hj)]
    rw [List.range_succ, List.map_append]
    rfl
  · rintro acc e ⟨rfl, rfl⟩
    refine ⟨by simp; omega, ?_⟩
    simp_arith! [notin_trues]
theorem same_int (Δ : Tb) [A0 Δ] (k : Nat) (i : Int) : callN Δ (k + 1) 7 [.fz (.int i), .fz (.int i)] = some (.v (.bl true), [.fz (.int i), .fz (.int i)]) := same_flat Δ k (some i)
theorem same_fr (Δ : Tb) [A0 Δ] (k : Nat) (f : Int × Int) : callN Δ (k + 2) 7 [.fz (frD f), .fz (frD f)] = some (.v (.bl true), [.fz (frD f), .fz (frD f)]) :=
  same_step Δ k _ (by simp) fun d hd => by
    simp at hd
    rcases hd with rfl | rfl <;> exact same_int Δ k _
def b229_0 : Ss := .cons (.expr (.mth .append 2 (.cons (.nm 7) .nil))) .nil
def b229_1 : Ss := .cons (.set 7 (.lc [15] (.blt .tuple (.cons (.lc [16] (.bin .Mult (.nm 6) (.nm 16)) (.nm 16) (.seq (.call 228 (.cons (.nm 1) (.cons (.nm 4) (.cons (.nm 5) .nil))))) .no) .nil)) (.nm 15) (.rng1 (.lit (.int 2))) .no)) b229_0
def b229_2 : Ss := .cons (.set 6 (.call 6 (.cons (.nm 1) (.cons (.lst (.cons (.lit (.int 1)) (.cons (.lit (.int 1)) (.cons (.bin .Add (.bin .Pow (.lit (.int 10)) (.lit (.int 20))) (.lit (.int 39))) .nil)))) .nil)))) b229_1
def b229_3 : Ss := .cons (.set 5 (.call 6 (.cons (.nm 1) (.cons (.lst (.cons (.lit (.int 6)) (.cons (.lit (.int 10)) (.cons (.lit (.int 100)) (.cons (.lit (.int 1)) .nil))))) .nil)))) b229_2
def b229_4 : Ss := .cons (.set 4 (.bin .Add (.lit (.int 1)) (.call 5 (.cons (.nm 1) (.cons (.lit (.int 8)) .nil))))) b229_3
def b229_5 : Ss := .cons (.ret (.lit (.bl false))) .nil
def b229_6 : Ss := .cons (.set 13 (.call 158 (.cons (.nm 13) (.cons (.call 160 (.cons (.idx (.idx (.nm 11) (.lit (.int 0))) (.nm 14)) (.cons (.tup (.cons (.idx (.nm 9) (.nm 14)) (.cons (.lit (.int 1)) .nil))) .nil))) .nil)))) .nil
def b229_7 : Ss := .cons (.ret (.lit (.bl false))) .nil
def b229_8 : Ss := .cons (.ifs (.or (.cons (.cmp .NotEq (.nm 13) (.idx (.nm 12) (.lit (.int 1)))) (.cons (.not (.val (.call 7 (.cons (.sli (.call 226 (.cons (.nm 10) (.cons (.nm 9) .nil))) (.so (.lit (.int 1))) .no) (.cons (.sli (.nm 12) (.so (.lit (.int 1))) .no) .nil))))) .nil))) b229_7 .nil) .nil
def b229_9 : Ss := .cons (.fo (.nm 14) (.rng1 (.blt .len (.cons (.nm 9) .nil))) b229_6) b229_8
def b229_10 : Ss := .cons (.set 13 (.tup (.cons (.lit (.int 0)) (.cons (.lit (.int 1)) .nil)))) b229_9
def b229_11 : Ss := .cons (.ifs (.or (.cons (.not (.val (.call 7 (.cons (.nm 12) (.cons (.blt .tuple (.cons (.nm 11) .nil)) .nil))))) (.cons (.cmp .NotEq (.idx (.nm 11) (.lit (.int 1))) (.idx (.nm 11) (.lit (.int 2)))) (.cons (.val (.call 134 (.cons (.idx (.nm 11) (.lit (.int 1))) (.cons (.call 157 (.cons (.blt .sum (.cons (.nm 9) .nil)) (.cons (.lit (.int 2)) .nil))) .nil)))) .nil)))) b229_5 .nil) b229_10
def b229_12 : Ss := .cons (.set 12 (.call 226 (.cons (.nm 9) (.cons (.nm 10) .nil)))) b229_11
def b229_13 : Ss := .cons (.set 11 (.call 227 (.cons (.nm 9) (.cons (.nm 10) .nil)))) b229_12
def b229_14 : Ss := .cons (.set 10 (.idx (.nm 8) (.lit (.int 1)))) b229_13
def b229_15 : Ss := .cons (.set 9 (.idx (.nm 8) (.lit (.int 0)))) b229_14
def b229_16 : Ss := .cons (.ret (.lit (.bl true))) .nil
def b229_17 : Ss := .cons (.fo (.nm 8) (.seq (.nm 2)) b229_15) b229_16
def b229_18 : Ss := .cons (.set 2 (.bin .Add (.nm 2) (.lst (.cons (.lst (.cons (.tup (.cons (.lit (.int 5)) (.cons (.lit (.int 5)) .nil))) (.cons (.tup (.cons (.lit (.int 5)) (.cons (.lit (.int 5)) .nil))) .nil))) (.cons (.lst (.cons (.tup (.cons (.lit (.int 6)) (.cons (.lit (.int 4)) (.cons (.lit (.int 0)) (.cons (.lit (.int 0)) .nil))))) (.cons (.tup (.cons (.lit (.int 0)) (.cons (.lit (.int 0)) (.cons (.lit (.int 10)) (.cons (.lit (.int 0)) .nil))))) .nil))) .nil))))) b229_17
def b229_19 : Ss := .cons (.fo (.nm 3) (.rng1 (.lit (.int 12))) b229_4) b229_18
def b229_20 : Ss := .cons (.set 2 (.lst .nil)) b229_19
def b229_21 : Ss := .cons (.set 1 (.call 4 (.cons (.nm 0) (.cons (.lit (.int 500)) .nil)))) b229_20
/-- law -/
def b229 : Ss := b229_21
def TK52 : Tb := fun i => match i with
  | 229 => some ⟨["script"], ["script", "draws", "pairs", "turn", "many", "total", "scale", "rows", "pair", "first", "second", "due", "told", "brought", "k", "p", "n"], b229⟩
  | _ => none
class AK52 (Δ : Tb) : Prop where
  h : ∀ i, 229 ≤ i → i < 230 → Δ i = TK52 i
theorem fn229 (Δ : Tb) [AK52 Δ] (k : Nat) : callN Δ (k + 1) 229 = runDef (callN Δ k) ⟨["script"], ["script", "draws", "pairs", "turn", "many", "total", "scale", "rows", "pair", "first", "second", "due", "told", "brought", "k", "p", "n"], b229⟩ := by
  show (fun args => (Δ 229).bind fun d => runDef (callN Δ k) d args) = _
  rw [show Δ 229 = TK52 229 from AK52.h 229 (by decide) (by decide)]
  rfl
set_option exponentiation.threshold 10000
theorem Val.cmp {D E N K : Int} {f g : Int × Int} (hD : 0 < D) (hE : 0 < E) (h : Val D f N) (k : Val E g K) (e : K * D ≤ N * E) : ltF f g = false := by
  unfold ltF
  refine decide_eq_false fun z => ?_
  have hDE := Int.mul_pos hD hE
  have z2 := Int.mul_lt_mul_of_pos_right z hDE
  have a1 : f.1 * g.2 * (D * E) = N * E * (f.2 * g.2) := by
    have : f.1 * g.2 * (D * E) = (f.1 * D) * (g.2 * E) := by simp [Int.mul_comm, Int.mul_left_comm]
    rw [this, h.e]; simp [Int.mul_comm, Int.mul_left_comm]
  have a2 : g.1 * f.2 * (D * E) = K * D * (f.2 * g.2) := by
    have : g.1 * f.2 * (D * E) = (g.1 * E) * (f.2 * D) := by simp [Int.mul_comm, Int.mul_left_comm]
    rw [this, k.e]; simp [Int.mul_comm, Int.mul_left_comm]
  have a3 := Int.mul_le_mul_of_nonneg_right e (Int.le_of_lt (Int.mul_pos h.p k.p))
  omega
theorem Val.eq2 {D E N K : Int} {f g : Int × Int} (hD : 0 < D) (hE : 0 < E) (h : Val D f N) (k : Val E g K) (e : K * D = N * E) : f = g := by
  have k' : Val (D * E) g (N * E) := ⟨k.p, k.c, by
    have : g.1 * (D * E) = (g.1 * E) * D := by simp [Int.mul_comm, Int.mul_left_comm]
    rw [this, k.e, ← e]; simp [Int.mul_comm, Int.mul_left_comm]⟩
  have h' : Val (D * E) f (N * E) := ⟨h.p, h.c, by
    rw [← Int.mul_assoc, h.e]; simp [Int.mul_comm, Int.mul_left_comm]⟩
  exact h'.uniq (Int.mul_pos hD hE) k'
theorem ne_of_eqS {x y : D} {b : Bool} (h : cmpS .Eq x y = some b) : cmpS .NotEq x y = some (!b) := by
  have h : (if (okD x && okD y) = true then some (deq x y) else none) = some b := h
  show (if (okD x && okD y) = true then some (!deq x y) else none) = some (!b)
  split at h
  · rename_i q
    rw [if_pos q]
    cases h; rfl
  · cases h
theorem ne_fr (f : Int × Int) : cmpS .NotEq (frD f) (frD f) = some false := by
  have := ne_of_eqS (eq_fr f f)
  simpa using this
theorem pow_20w : binS .Pow (.int 10) (.int 20) = some (.v (.int 100000000000000000000)) := by
  rw [pow_c (show L2.CPow 10 20 by unfold L2.CPow; decide)]
  rfl
theorem pick_ev52 (Δ : Tb) [A0 Δ] (k : Nat) (ds : List Int) (xs : List D) (hx : 0 < xs.length) :
    Ev (callN Δ (k + 2) 6 [.ow true (LI ds), .fz (.lst xs)]) fun z => ∃ d ds', z = (.v d, [.ow true (LI ds'), .fz (.lst xs)]) ∧ d ∈ xs := by
  obtain ⟨d, ds', h, hd⟩ := pick_ok Δ k ds xs hx
  exact ⟨_, h, d, ds', rfl, hd⟩
/-- two rows of points with one sum -/
structure Prs (n : Nat) (f g : List Int) (T : Int) : Prop where
  n1 : n ≤ 100
  pf : Pt n f
  pg : Pt n g
  s1 : sm n (fA f) = T
  s2 : sm n (fA g) = T
  bT : Bd 3000 T
def PairOk (p : List Int × List Int) : Prop := ∃ n T, Prs n p.1 p.2 T
def pr52 (p : List Int × List Int) : D := .lst [tupI p.1, tupI p.2]
theorem sm_list (f : List Int) : sm f.length (fA f) = f.sum := by
  have : (List.range f.length).map (fA f) = f := by
    refine List.ext_getElem? fun i => ?_
    by_cases h : i < f.length
    · rw [List.getElem?_map, List.getElem?_range h, List.getElem?_eq_getElem h]
      simp [fA, List.getD_eq_getElem?_getD, List.getElem?_eq_getElem h]
    · rw [List.getElem?_eq_none (by simp; omega), List.getElem?_eq_none (by omega)]
  unfold sm
  rw [this]
def rowF (many : Nat) (sc T : Int) (cs : List Int) : List Int := (List.range many).map fun k => sc * ptA cs T k
theorem rowF_A {many : Nat} {sc T : Int} {cs : List Int} (k : Nat) : fA (rowF many sc T cs) k = if k < many then sc * ptA cs T k else 0 := by
  unfold fA rowF
  rw [List.getD_eq_getElem?_getD, List.getElem?_map]
  by_cases h : k < many
  · rw [List.getElem?_range h, if_pos h]; rfl
  · rw [List.getElem?_eq_none (by simp; omega), if_neg h]; rfl
theorem rowF_pt {many : Nat} {sc T : Int} {cs : List Int} (hs : 0 ≤ sc ∧ sc ≤ 2 ^ 70) (hT : 0 ≤ T ∧ T ≤ 1000) (hl : cs.length + 1 = many) (hp : cs.Pairwise (· ≤ ·)) (hb : ∀ c ∈ cs, 0 ≤ c ∧ c ≤ T) : Pt many (rowF many sc T cs) ∧ sm many (fA (rowF many sc T cs)) = sc * T := by
  have nn : ∀ k, k < many → 0 ≤ ptA cs T k := fun k hk => ptA_nn hp hb hT.1 (by omega)
  have le : ∀ k, k < many → ptA cs T k ≤ T := fun k hk => by
    have h1 : ∀ m, m ≤ many → 0 ≤ sm m (ptA cs T) := fun m hm => (sm_bd (B := 2000) m (ptA cs T) fun j hj => by
      refine ⟨nn j (by omega), ?_⟩
      have a1 : (cs ++ [T]).getD j 0 ≤ 1000 := by
        rw [gd_in (by simp; omega)]
        have := List.getElem_mem (l := cs ++ [T]) (n := j) (by simp; omega)
        rcases List.mem_append.mp this with z | z
        · have := (hb _ z).2; omega
        · rw [List.mem_singleton.mp z]; exact hT.2
      have a2 : 0 ≤ (0 :: cs).getD j 0 := by
        rw [gd_in (by simp; omega)]
        have := List.getElem_mem (l := 0 :: cs) (n := j) (by simp; omega)
        rcases List.mem_cons.mp this with z | z
        · rw [z]; exact Int.le_refl 0
        · exact (hb _ z).1
      unfold ptA
      omega).1
    -- a part is no more than the sum
    have mono : ∀ m, k < m → m ≤ many → ptA cs T k ≤ sm m (ptA cs T) := by
      intro m
      induction m with
      | zero => intro h; omega
      | succ m ih =>
        intro h1' h2'
        rw [sm_succ]
        by_cases e : k = m
        · subst e
          have := h1 k (by omega); omega
        · have := ih (by omega) (by omega)
          have := nn m (by omega); omega
    have := mono many hk (Nat.le_refl _)
    rw [← hl, ptA_sum] at this
    exact this
  refine ⟨⟨by simp [rowF], fun k => ?_, fun k => ?_⟩, ?_⟩
  · rw [rowF_A]
    split
    · rename_i h; exact Int.mul_nonneg hs.1 (nn k h)
    · exact Int.le_refl _
  · rw [rowF_A]
    split
    · rename_i h
      have h1 := nn k h
      have h2 := le k h
      have : sc * ptA cs T k ≤ 2 ^ 70 * 1000 := Int.mul_le_mul hs.2 (by omega) h1 (by decide)
      have h3 := Int.mul_nonneg hs.1 h1
      unfold Bd
      omega
    · unfold Bd; decide
  · have : sm many (fA (rowF many sc T cs)) = sm many (fun k => sc * ptA cs T k) := sm_congr fun k hk => by rw [rowF_A, if_pos hk]
    rw [this, sm_mul, ← hl, ptA_sum]
theorem same_frs (Δ : Tb) [A0 Δ] (k n : Nat) (hn : n ≤ 1000) (h : Nat → Int × Int) : callN Δ (k + 3) 7 [.fz (ptD n h), .fz (ptD n h)] = some (.v (.bl true), [.fz (ptD n h), .fz (ptD n h)]) :=
  same_step Δ (k + 1) _ (by simpa using hn) fun d hd => by
    obtain ⟨j, _, rfl⟩ := List.mem_map.mp hd
    exact same_fr Δ k _
theorem fr_three (Δ : Tb) [A0 Δ] (k n : Nat) (hn : n ≤ 1000) (h : Nat → Int × Int) (u v : Int × Int) : callN Δ (k + 4) 7 [.fz (.tup [ptD n h, frD u, frD v]), .fz (.tup [ptD n h, frD u, frD v])] = some (.v (.bl true), [.fz (.tup [ptD n h, frD u, frD v]), .fz (.tup [ptD n h, frD u, frD v])]) :=
  same_step Δ (k + 2) _ (by simp) fun d hd => by
    simp only [List.mem_cons, List.not_mem_nil, or_false] at hd
    rcases hd with rfl | rfl | rfl
    · exact same_frs Δ k n hn h
    · exact same_fr Δ (k + 1) _
    · exact same_fr Δ (k + 1) _
theorem fr_two (Δ : Tb) [A0 Δ] (k : Nat) (u v : Int × Int) : callN Δ (k + 4) 7 [.fz (.tup [frD u, frD v]), .fz (.tup [frD u, frD v])] = some (.v (.bl true), [.fz (.tup [frD u, frD v]), .fz (.tup [frD u, frD v])]) :=
  same_step Δ (k + 2) _ (by simp) fun d hd => by
    simp only [List.mem_cons, List.not_mem_nil, or_false] at hd
    rcases hd with rfl | rfl
    · exact same_fr Δ (k + 1) _
    · exact same_fr Δ (k + 1) _
set_option maxHeartbeats 0 in
/-- one pair -/
theorem turn52 (Δ : Tb) [A0 Δ] [A8 Δ] [A10 Δ] [A11 Δ] [A14 Δ] (k : Nat) (p : List Int × List Int) (hp : PairOk p) (x0 x1 x2 x3 x4 x5 x6 x7 s9 s10 s11 s12 s13 s14 x15 x16 : Sl) (f9 : fr s9 = true) (f10 : fr s10 = true) (f11 : fr s11 = true) (f12 : fr s12 = true) (f13 : fr s13 = true) (f14 : fr s14 = true) :
    Ev (evSs (callN Δ (k + 5)) b229_15 [x0, x1, x2, x3, x4, x5, x6, x7, .fz (pr52 p), s9, s10, s11, s12, s13, s14, x15, x16]) fun fl => ∃ s9 s10 s11 s12 s13 s14, fl = .nx [x0, x1, x2, x3, x4, x5, x6, x7, .fz (pr52 p), s9, s10, s11, s12, s13, s14, x15, x16] ∧ fr s9 = true ∧ fr s10 = true ∧ fr s11 = true ∧ fr s12 = true ∧ fr s13 = true ∧ fr s14 = true := by
  obtain ⟨f, g⟩ := p
  obtain ⟨n, T, h⟩ := hp
  have hf : Pt n f := h.pf
  have hg : Pt n g := h.pg
  have h1 : sm n (fA f) = T := h.s1
  have h2 : sm n (fA g) = T := h.s2
  have hn := h.n1
  obtain ⟨q0, q1, S, e226, fair, v0, v1⟩ := evened_ok Δ (k + 1) n hn f g T hf hg h1 h2
  obtain ⟨p0, p1, S', e226', fair', w0, w1⟩ := evened_ok Δ (k + 1) n hn g f T hg hf h2 h1
  have h227 := levened_ok Δ (k + 1) n hn f g T hf hg h1 h2
  have hfS := eFairS hf hg h1 h2
  have eS : S = gS n f g := by rw [← fair.s1]; exact hfS.s1
  have hM := fair.m
  have pr := ePr hf hg h1 h2
  have hMb := pr.b
  have hSb := gS_bd hf hg (by omega) h1 h2
  rw [← eS] at hSb h227
  have e01 : q1 = q0 := v1.uniq hM v0
  subst e01
  have hsame : S' * gM n f g = S * gM n g f := fair.same fair'.swap
  have ep0 : p0 = q1 := (v0.eq2 hM fair'.m w0 hsame).symm
  have ep1 : p1 = q1 := (v0.eq2 hM fair'.m w1 hsame).symm
  subst ep0
  subst ep1
  have h7a := fun u v => fr_three Δ (k + 1) n (by omega) (eH n f g) u v
  have h7b := fun u v => fr_two Δ (k + 1) u v
  have h134 := fun a b ha hb => less_ok Δ (k + 4) a b ha hb
  have h157 := lfrac_ok Δ (k + 3) T 2 (by decide) (by unfold Bd; decide)
  have h158 := fun a b ha hb => wlplus_ok Δ (k + 2) a b ha hb
  have h160 := fun a b ha hb => wlprod_ok Δ (k + 2) a b ha hb
  have hhalf := fair.half h1 h2
  generalize callN Δ (k + 5) = cl at e226 e226' h227 h7a h7b h134 h157 h158 h160
  have z0 : idxS (pr52 (f, g)) (.int 0) = some (tupI f) := rfl
  have z1 : idxS (pr52 (f, g)) (.int 1) = some (tupI g) := rfl
  have tl : bltS .len [tupI f] = some (.v (.int (n : Nat))) := by rw [← hf.l]; simp [tupI, bltS]
  have ts : bltS .sum [tupI f] = some (.v (.int T)) := by
    have := sm_list f
    rw [hf.l, h1] at this
    rw [this]
    exact sum_t
  refine kt ?_
  simp_arith! [z0, f9]
  refine kt ?_
  simp_arith! [z1, f10]
  refine kt ?_
  simp_arith! []
  refine ev_mono h227 ?_
  rintro _ ⟨u, v, rfl, vu, vv⟩
  have eu : u = p1 := vu.uniq hM v0
  have ev_ : v = p1 := vv.uniq hM v0
  subst eu
  subst ev_
  have fu : Fw v := v0.fw hM hMb hSb
  have l0 : ∀ a b c : D, idxS (.lst [a, b, c]) (.int 0) = some a := fun _ _ _ => rfl
  have l1 : ∀ a b c : D, idxS (.lst [a, b, c]) (.int 1) = some b := fun _ _ _ => rfl
  have l2 : ∀ a b c : D, idxS (.lst [a, b, c]) (.int 2) = some c := fun _ _ _ => rfl
  have t1 : ∀ a b c : D, idxS (.tup [a, b, c]) (.int 1) = some b := fun _ _ _ => rfl
  have sl1 : ∀ a b c : D, slS (.tup [a, b, c]) (some 1) none = some (.v (.tup [b, c])) := fun _ _ _ => rfl
  have hz2 : Val 2 (nz T 2) T := Val.nz (by decide)
  have fz2 : Fw (nz T 2) := hz2.fw (by decide) (by unfold Bd; decide) h.bT
  have e134 := h134 v (nz T 2) fu.fr fz2.fr
  rw [v0.cmp hM (by decide) hz2 (by omega)] at e134
  simp_arith! [f11]
  refine kt ?_
  simp_arith! [e226, f12]
  refine kt ?_
  simp_arith! [h7a, l1, l2, ne_fr, ts, h157, e134]
  refine kt ?_
  simp_arith! [f13]
  refine kt ?_
  simp_arith! [tl]
  have hsb : ∀ i, i ≤ n → Bd 3000 (sm i fun k => fA f k * eP n f g k) := fun i hi => by
    have := sm_bd (B := 2 ^ 80 * 2 ^ 90) i (fun k => fA f k * eP n f g k) fun k hk => by
      have h1 := hf.nn k
      have h2 := hf.bd k
      have h3 := pr.p k (by omega)
      unfold Bd at h2 hMb
      refine ⟨Int.mul_nonneg h1 h3.1, ?_⟩
      exact Int.mul_le_mul (by omega) (by omega) h3.1 (by decide)
    have h5 : (i : Int) * (2 ^ 80 * 2 ^ 90) ≤ 1000 * (2 ^ 80 * 2 ^ 90) := Int.mul_le_mul_of_nonneg_right (by omega) (by decide)
    have h6 : Bd 200 (sm i fun k => fA f k * eP n f g k) := by
      unfold Bd
      omega
    exact h6.mono (by omega)
  refine foR (f := fun k => D.int ((k : Nat) : Int)) (P := fun i e => ∃ q s14, e = [x0, x1, x2, x3, x4, x5, x6, x7, .fz (pr52 (f, g)), .fz (tupI f), .fz (tupI g), .ow false (.lst [ptD n (eH n f g), frD v, frD v]), .fz (.tup [ptD n (eH n f g), frD v, frD v]), .fz (frD q), s14, x15, x16] ∧ fr s14 = true ∧ Val (gM n f g) q (sm i fun k => fA f k * eP n f g k)) ⟨(0, 1), _, rfl, f14, Val.zero⟩ (fun i hi e he => ?_) fun e he => ?_
  · obtain ⟨q, s14, rfl, f14, hv⟩ := he
    have i1 := hf.ix hi
    have i2 : idxS (ptD n (eH n f g)) (nI i) = some (frD (eH n f g i)) := idx_rl (fun k => frD (eH n f g k)) hi
    have a3 : D.tup [D.int (fA f i), D.int 1] = frD (fA f i, 1) := rfl
    have vi := (pr.v i hi).mulI (n := fA f i)
    have bP : Bd 90 (eP n f g i) := Bd.of_le hMb (pr.p i hi).1 (pr.p i hi).2
    have fi := vi.fw hM hMb ((bP.mul (hf.bd i)).mono (by omega))
    have c1 := h160 (eH n f g i) (fA f i, 1) (pr.fw hi) (fw_int ((hf.bd i).mono (by omega)))
    have c2 := h158 q (mulF (eH n f g i) (fA f i, 1)) (hv.fw hM hMb (hsb i (by omega))) fi
    simp_arith! [f14]
    refine kt ?_
    simp_arith! [l0, i1, i2, a3, c1, c2]
    refine ⟨_, _, rfl, rfl, ?_⟩
    rw [sm_succ, Int.mul_comm (fA f i)]
    exact hv.add vi
  · obtain ⟨q, s14, rfl, f14, hv⟩ := he
    rw [fair.s1] at hv
    have eq := hv.uniq hM v0
    subst eq
    have sl2 := sl1 (ptD n (eH n f g)) (frD q) (frD q)
    have sl3 := sl1 (ptD n (eH n g f)) (frD q) (frD q)
    simp_arith! []
    refine kt ?_
    simp_arith! [t1, ne_fr, e226', sl2, sl3, h7b]
    exact ⟨_, _, _, _, _, _, rfl, rfl, rfl, rfl, rfl, rfl, f14⟩
theorem law52_ (Δ : Tb) [A0 Δ] [A8 Δ] [A10 Δ] [A11 Δ] [A14 Δ] [AK52 Δ] (ns : List Int) (hns : ns.length ≤ 63) : Ev (callN Δ 40 229 [.fz (.scr ns)]) fun z => z = (.v (.bl true), [.fz (.scr ns)]) := by
  have h4 : ∀ m : Int, 0 ≤ m ∧ m ≤ 2 ^ 24 → Ev (callN Δ 39 4 [.fz (.scr ns), .fz (.int m)]) _ := fun m hm => draws_ok Δ 38 ns m hns hm
  have h5 := fun ds m hm => take_ok Δ 38 ds m hm
  have h6 := fun ds xs hx => pick_ev52 Δ 37 ds xs hx
  have h228 := fun ds many T a b c => lpoints_ok Δ 37 ds many T a b c
  have ht := fun p hp => turn52 Δ 34 p hp
  rw [fn229]
  generalize callN Δ 39 = cl at h4 h5 h6 h228 ht
  walk_at "in"
  refine kt ?_
  simp_arith! []
  refine ev_mono (h4 500 (by omega)) ?_
  rintro _ ⟨ds0, rfl⟩
  simp_arith! []
  refine kt ?_
  simp_arith! []
  refine kt ?_
  simp_arith! []
  refine foR (f := fun k => D.int ((k : Nat) : Int)) (P := fun i e => ∃ (ps : List (List Int × List Int)) (ds : List Int) (s3 s4 s5 s6 s7 : Sl), e = [.fz (.scr ns), .ow false (LI ds), .ow false (.lst (ps.map pr52)), s3, s4, s5, s6, s7, .un, .un, .un, .un, .un, .un, .un, .un, .un] ∧ ps.length = i ∧ (∀ p ∈ ps, PairOk p) ∧ fr s3 = true ∧ fr s4 = true ∧ fr s5 = true ∧ fr s6 = true ∧ fr s7 = true)
    ⟨[], ds0, _, _, _, _, _, rfl, rfl, by simp, rfl, rfl, rfl, rfl, rfl⟩ (fun i hi e he => ?_) fun e he => ?_
  · obtain ⟨ps, ds, s3, s4, s5, s6, s7, rfl, hl, hps, f3, f4, f5, f6, f7⟩ := he
    have hi : i < 12 := hi
    simp_arith! [f3]
    refine kt ?_
    simp_arith! []
    refine ev_mono (h5 ds 8 (by omega)) ?_
    rintro _ ⟨r, ds1, rfl, r0, r1⟩
    obtain ⟨m, hm, hm1, hm8⟩ : ∃ m : Nat, 1 + r = (m : Int) ∧ 1 ≤ m ∧ m ≤ 8 := ⟨(1 + r).toNat, by omega, by omega, by omega⟩
    simp_arith! [f4, hm]
    refine kt ?_
    simp_arith! []
    refine ev_mono (h6 ds1 [.int 6, .int 10, .int 100, .int 1] (by simp)) ?_
    rintro _ ⟨d, ds2, rfl, hd⟩
    obtain ⟨T, rfl, T0, T1⟩ : ∃ T, d = .int T ∧ 0 ≤ T ∧ T ≤ 1000 := by
      simp only [List.mem_cons, List.not_mem_nil, or_false] at hd
      rcases hd with rfl | rfl | rfl | rfl <;> exact ⟨_, rfl, by decide, by decide⟩
    simp_arith! [f5]
    refine kt ?_
    simp_arith! [pow_20w]
    refine ev_mono (h6 ds2 [.int 1, .int 1, .int 100000000000000000039] (by simp)) ?_
    rintro _ ⟨d, ds3, rfl, hd⟩
    obtain ⟨sc, rfl, c0, c1⟩ : ∃ sc, d = .int sc ∧ 0 ≤ sc ∧ sc ≤ 2 ^ 70 := by
      simp only [List.mem_cons, List.not_mem_nil, or_false] at hd
      rcases hd with rfl | rfl | rfl <;> exact ⟨_, rfl, by decide, by decide⟩
    simp_arith! [f6]
    refine kt ?_
    simp_arith! []
    refine lcR (f := fun k => D.int ((k : Nat) : Int)) (P := fun j acc e => ∃ (fs_ : List (List Int)) (ds : List Int) (s15 s16 : Sl), acc = fs_.map tupI ∧ fs_.length = j ∧ (∀ f ∈ fs_, Pt m f ∧ sm m (fA f) = sc * T) ∧ e = [.fz (.scr ns), .ow false (LI ds), .ow false (.lst (ps.map pr52)), .fz (.int i), .fz (nI m), .fz (.int T), .fz (.int sc), s7, .un, .un, .un, .un, .un, .un, .un, .un, .un]) ⟨[], ds3, .un, .un, rfl, rfl, by simp, rfl⟩ (fun j hj acc e he => ?_) fun acc e he => ?_
    · obtain ⟨fs_, ds4, _, _, rfl, hfl, hfo, rfl⟩ := he
      simp_arith! []
      refine ev_mono (h228 ds4 m T (by omega) (by omega) T0) ?_
      rintro _ ⟨cs, ds5, rfl, hcl, hcp, hcb⟩
      simp_arith! []
      refine lcG (f := fun k => D.int (ptA cs T k)) (fun k => .int (sc * ptA cs T k)) (fun k hk => ?_) ?_
      · have c2 : Bd 71 sc := by unfold Bd; omega
        have hk : k < m := by simpa using hk
        have c3 : Bd 3000 (ptA cs T k) := by
          have q1 : -1000 ≤ ptA cs T k ∧ ptA cs T k ≤ 1000 := by
            have a1 : 0 ≤ (cs ++ [T]).getD k 0 ∧ (cs ++ [T]).getD k 0 ≤ 1000 := by
              rw [gd_in (by simp; omega)]
              have := List.getElem_mem (l := cs ++ [T]) (n := k) (by simp; omega)
              rcases List.mem_append.mp this with z | z
              · have := hcb _ z; omega
              · rw [List.mem_singleton.mp z]; omega
            have a2 : 0 ≤ (0 :: cs).getD k 0 ∧ (0 :: cs).getD k 0 ≤ 1000 := by
              rw [gd_in (by simp; omega)]
              have := List.getElem_mem (l := 0 :: cs) (n := k) (by simp; omega)
              rcases List.mem_cons.mp this with z | z
              · rw [z]; omega
              · have := hcb _ z; omega
            unfold ptA
            omega
          have : Bd 20 (ptA cs T k) := by unfold Bd; omega
          exact this.mono (by omega)
        have mm := ml_ok c2 c3 (by omega)
        simp_arith! [mm]
      simp_arith! []
      refine ⟨by omega, fs_ ++ [rowF m sc T cs], ds5, .un, .un, ?_, by simp [hfl], fun f hf => ?_, rfl⟩
      · rw [List.map_append]
        congr 1
        show [_] = [D.tup ((rowF m sc T cs).map D.int)]
        unfold rowF
        rw [List.map_map]
        rfl
      · rcases List.mem_append.mp hf with z | z
        · exact hfo f z
        · rw [List.mem_singleton.mp z]
          exact rowF_pt ⟨c0, c1⟩ ⟨T0, T1⟩ hcl hcp hcb
    · obtain ⟨fs_, ds4, _, _, rfl, hfl, hfo, rfl⟩ := he
      have hfl : fs_.length = 2 := hfl
      obtain ⟨fa, fb, rfl⟩ : ∃ a b, fs_ = [a, b] := by
        match fs_, hfl with
        | [a, b], _ => exact ⟨a, b, rfl⟩
      simp_arith! []
      refine ⟨by omega, ?_⟩
      refine kt ?_
      simp_arith! []
      refine ⟨ps ++ [(fa, fb)], ds4, _, _, _, _, _, by rw [List.map_append]; rfl, by simp [hl], fun p hp => ?_, rfl, rfl, rfl, rfl, rfl⟩
      rcases List.mem_append.mp hp with z | z
      · exact hps p z
      · rw [List.mem_singleton.mp z]
        obtain ⟨a1, a2⟩ := hfo fa (by simp)
        obtain ⟨b1, b2⟩ := hfo fb (by simp)
        refine ⟨m, sc * T, by omega, a1, b1, a2, b2, ?_⟩
        have k1 := Int.mul_nonneg c0 T0
        have k2 : sc * T ≤ 2 ^ 70 * 1000 := Int.mul_le_mul c1 T1 T0 (by decide)
        have : Bd 100 (sc * T) := by unfold Bd; omega
        exact this.mono (by omega)
  · obtain ⟨ps, ds, s3, s4, s5, s6, s7, rfl, hl, hps, f3, f4, f5, f6, f7⟩ := he
    have hl : ps.length = 12 := hl
    have e1 : (ps.map pr52 ++ [D.lst [.tup [.int 5, .int 5], .tup [.int 5, .int 5]], .lst [.tup [.int 6, .int 4, .int 0, .int 0], .tup [.int 0, .int 0, .int 10, .int 0]]]) = (ps ++ [([5, 5], [5, 5]), ([6, 4, 0, 0], [0, 0, 10, 0])]).map pr52 := by rw [List.map_append]; rfl
    have sm_pt : ∀ l : List Int, (∀ x ∈ l, 0 ≤ x ∧ x ≤ 1000) → Pt l.length l := fun l h => by
      have hk : ∀ k, 0 ≤ fA l k ∧ fA l k ≤ 1000 := fun k => by
        unfold fA
        by_cases z : k < l.length
        · rw [gd_in z]; exact h _ (List.getElem_mem z)
        · rw [List.getD_eq_getElem?_getD, List.getElem?_eq_none (by omega)]; exact ⟨Int.le_refl _, by decide⟩
      exact ⟨rfl, fun k => (hk k).1, fun k => by have := hk k; unfold Bd; omega⟩
    have hall : ∀ p ∈ ps ++ [([5, 5], [5, 5]), ([6, 4, 0, 0], [0, 0, 10, 0])], PairOk p := fun p hp => by
      rcases List.mem_append.mp hp with z | z
      · exact hps p z
      · simp only [List.mem_cons, List.not_mem_nil, or_false] at z
        rcases z with rfl | rfl
        · exact ⟨2, 10, by decide, sm_pt [5, 5] (by decide), sm_pt [5, 5] (by decide), rfl, rfl, by unfold Bd; decide⟩
        · exact ⟨4, 10, by decide, sm_pt [6, 4, 0, 0] (by decide), sm_pt [0, 0, 10, 0] (by decide), rfl, rfl, by unfold Bd; decide⟩
    have hal : (ps ++ [(([5, 5], [5, 5]) : List Int × List Int), ([6, 4, 0, 0], [0, 0, 10, 0])]).length = 14 := by simp [hl]
    refine kt ?_
    simp_arith! [e1]
    generalize ps ++ [([5, 5], [5, 5]), ([6, 4, 0, 0], [0, 0, 10, 0])] = al at hall hal
    refine kt ?_
    simp_arith! []
    refine foM (f := pr52) (P := fun i e => ∃ (s8 s9 s10 s11 s12 s13 s14 : Sl), e = [.fz (.scr ns), .ow false (LI ds), .lk false (.lst (al.map pr52)), s3, s4, s5, s6, s7, s8, s9, s10, s11, s12, s13, s14, .un, .un] ∧ fr s8 = true ∧ fr s9 = true ∧ fr s10 = true ∧ fr s11 = true ∧ fr s12 = true ∧ fr s13 = true ∧ fr s14 = true) ⟨_, _, _, _, _, _, _, rfl, rfl, rfl, rfl, rfl, rfl, rfl, rfl⟩ (fun i p hp e he => ?_) fun e he => ?_
    · obtain ⟨s8, s9, s10, s11, s12, s13, s14, rfl, f8, f9, f10, f11, f12, f13, f14⟩ := he
      simp_arith! [f8]
      refine ev_mono (ht p (hall p (List.mem_of_getElem? hp)) _ _ _ _ _ _ _ _ s9 s10 s11 s12 s13 s14 _ _ f9 f10 f11 f12 f13 f14) ?_
      rintro _ ⟨s9, s10, s11, s12, s13, s14, rfl, f9, f10, f11, f12, f13, f14⟩
      exact ⟨_, _, _, _, _, _, _, rfl, rfl, f9, f10, f11, f12, f13, f14⟩
    · obtain ⟨s8, s9, s10, s11, s12, s13, s14, rfl, f8, f9, f10, f11, f12, f13, f14⟩ := he
      simp_arith! []
      refine kt ?_
      simp_arith! []
theorem law52 (Δ : Tb) [A0 Δ] [A8 Δ] [A10 Δ] [A11 Δ] [A14 Δ] [AK52 Δ] (ns : List Int) (hns : ns.length ≤ 63) : ∃ fin, callN Δ 40 229 [.fz (.scr ns)] = some (.v (.bl true), fin) := by
  obtain ⟨z, h, rfl⟩ := law52_ Δ ns hns
  exact ⟨_, h⟩
def ΔL : Tb := fun i => if 0 ≤ i ∧ i < 16 then T0 i else if 106 ≤ i ∧ i < 116 then T8 i else if 130 ≤ i ∧ i < 143 then T10 i else if 144 ≤ i ∧ i < 164 then T11 i else if 222 ≤ i ∧ i < 229 then T14 i else if 229 ≤ i ∧ i < 230 then TK52 i else none
instance iA0 : A0 ΔL := ⟨fun i h1 h2 => by unfold ΔL; rw [if_pos ⟨h1, h2⟩]⟩
instance iA8 : A8 ΔL := ⟨fun i h1 h2 => by unfold ΔL; rw [if_neg (show ¬ (0 ≤ i ∧ i < 16) by omega), if_pos ⟨h1, h2⟩]⟩
instance iA10 : A10 ΔL := ⟨fun i h1 h2 => by unfold ΔL; rw [if_neg (show ¬ (0 ≤ i ∧ i < 16) by omega), if_neg (show ¬ (106 ≤ i ∧ i < 116) by omega), if_pos ⟨h1, h2⟩]⟩
instance iA11 : A11 ΔL := ⟨fun i h1 h2 => by unfold ΔL; rw [if_neg (show ¬ (0 ≤ i ∧ i < 16) by omega), if_neg (show ¬ (106 ≤ i ∧ i < 116) by omega), if_neg (show ¬ (130 ≤ i ∧ i < 143) by omega), if_pos ⟨h1, h2⟩]⟩
instance iA14 : A14 ΔL := ⟨fun i h1 h2 => by unfold ΔL; rw [if_neg (show ¬ (0 ≤ i ∧ i < 16) by omega), if_neg (show ¬ (106 ≤ i ∧ i < 116) by omega), if_neg (show ¬ (130 ≤ i ∧ i < 143) by omega), if_neg (show ¬ (144 ≤ i ∧ i < 164) by omega), if_pos ⟨h1, h2⟩]⟩
instance iAK52 : AK52 ΔL := ⟨fun i h1 h2 => by unfold ΔL; rw [if_neg (show ¬ (0 ≤ i ∧ i < 16) by omega), if_neg (show ¬ (106 ≤ i ∧ i < 116) by omega), if_neg (show ¬ (130 ≤ i ∧ i < 143) by omega), if_neg (show ¬ (144 ≤ i ∧ i < 164) by omega), if_neg (show ¬ (222 ≤ i ∧ i < 229) by omega), if_pos ⟨h1, h2⟩]⟩
def topL (i : Nat) : Stmt := PySem.Challenge.pw_eachsmove_k52_things_evened_out.main.body.getD i (.Pass ⟨0, 0, 0, 0⟩)
def tpL : Nat → Stmt := fun i => match i with
  | 106 => topL 2
  | 107 => topL 3
  | 150 => topL 4
  | 108 => topL 5
  | 222 => topL 9
  | 223 => topL 10
  | 224 => topL 11
  | 225 => topL 12
  | 226 => topL 13
  | 4 => topL 15
  | 5 => topL 16
  | 6 => topL 17
  | 7 => topL 18
  | 156 => topL 19
  | 157 => topL 20
  | 158 => topL 21
  | 159 => topL 22
  | 160 => topL 23
  | 161 => topL 24
  | 134 => topL 25
  | 227 => topL 26
  | 228 => topL 27
  | 229 => topL 28
  | _ => .Pass ⟨0, 0, 0, 0⟩
def namesL : List (Str × Nat) := ([("fraction", 106), ("add", 107), ("subtract", 150), ("multiply", 108), ("points_of", 222), ("going_over", 223), ("parts_left", 224), ("others_parts", 225), ("evened_out", 226), ("_law_draws", 4), ("_law_take", 5), ("_law_pick", 6), ("_law_same", 7), ("_law_gcd", 156), ("_law_frac", 157), ("_law_plus", 158), ("_law_minus", 159), ("_law_product", 160), ("_law_quotient", 161), ("_law_less", 134)] : List (Str × Nat)) ++ ([("_law_evened", 227), ("_law_points", 228), ("law", 229)] : List (Str × Nat))
def freesL : List Str := (["abs", "bool", "int", "isinstance", "len", "list", "max", "range", "sorted", "str", "sum", "tuple", "zip"] : List Str)
def clsL : List CD := ([] : List CD)
def consL : List (Str × D) := ([("ALL", (.tup [(.int 1), (.int 1)])), ("NONE", (.tup [(.int 0), (.int 1)]))] : List (Str × D))
abbrev gmx : Gm := gmL namesL freesL true clsL consL
theorem okL0 : OkAt ΔL tpL gmx ("fraction", 106) := ⟨_, rfl, fun _ _ _ _ _ _ _ _ us hl => match us, hl with | [_, _], _ => rfl, by decide +kernel⟩
theorem okL1 : OkAt ΔL tpL gmx ("add", 107) := ⟨_, rfl, fun _ _ _ _ _ _ _ _ us hl => match us, hl with | [_, _], _ => rfl, by decide +kernel⟩
theorem okL2 : OkAt ΔL tpL gmx ("subtract", 150) := ⟨_, rfl, fun _ _ _ _ _ _ _ _ us hl => match us, hl with | [_, _], _ => rfl, by decide +kernel⟩
theorem okL3 : OkAt ΔL tpL gmx ("multiply", 108) := ⟨_, rfl, fun _ _ _ _ _ _ _ _ us hl => match us, hl with | [_, _], _ => rfl, by decide +kernel⟩
theorem okL4 : OkAt ΔL tpL gmx ("points_of", 222) := ⟨_, rfl, fun _ _ _ _ _ _ _ _ us hl => match us, hl with | [_, _], _ => rfl, by decide +kernel⟩
theorem okL5 : OkAt ΔL tpL gmx ("going_over", 223) := ⟨_, rfl, fun _ _ _ _ _ _ _ _ us hl => match us, hl with | [_, _, _], _ => rfl, by decide +kernel⟩
theorem okL6 : OkAt ΔL tpL gmx ("parts_left", 224) := ⟨_, rfl, fun _ _ _ _ _ _ _ _ us hl => match us, hl with | [_, _, _], _ => rfl, by decide +kernel⟩
theorem okL7 : OkAt ΔL tpL gmx ("others_parts", 225) := ⟨_, rfl, fun _ _ _ _ _ _ _ _ us hl => match us, hl with | [_], _ => rfl, by decide +kernel⟩
theorem okL8 : OkAt ΔL tpL gmx ("evened_out", 226) := ⟨_, rfl, fun _ _ _ _ _ _ _ _ us hl => match us, hl with | [_, _], _ => rfl, by decide +kernel⟩
theorem okL9 : OkAt ΔL tpL gmx ("_law_draws", 4) := ⟨_, rfl, fun _ _ _ _ _ _ _ _ us hl => match us, hl with | [_, _], _ => rfl, by decide +kernel⟩
theorem okL10 : OkAt ΔL tpL gmx ("_law_take", 5) := ⟨_, rfl, fun _ _ _ _ _ _ _ _ us hl => match us, hl with | [_, _], _ => rfl, by decide +kernel⟩
theorem okL11 : OkAt ΔL tpL gmx ("_law_pick", 6) := ⟨_, rfl, fun _ _ _ _ _ _ _ _ us hl => match us, hl with | [_, _], _ => rfl, by decide +kernel⟩
theorem okL12 : OkAt ΔL tpL gmx ("_law_same", 7) := ⟨_, rfl, fun _ _ _ _ _ _ _ _ us hl => match us, hl with | [_, _], _ => rfl, by decide +kernel⟩
theorem okL13 : OkAt ΔL tpL gmx ("_law_gcd", 156) := ⟨_, rfl, fun _ _ _ _ _ _ _ _ us hl => match us, hl with | [_, _], _ => rfl, by decide +kernel⟩
theorem okL14 : OkAt ΔL tpL gmx ("_law_frac", 157) := ⟨_, rfl, fun _ _ _ _ _ _ _ _ us hl => match us, hl with | [_, _], _ => rfl, by decide +kernel⟩
theorem okL15 : OkAt ΔL tpL gmx ("_law_plus", 158) := ⟨_, rfl, fun _ _ _ _ _ _ _ _ us hl => match us, hl with | [_, _], _ => rfl, by decide +kernel⟩
theorem okL16 : OkAt ΔL tpL gmx ("_law_minus", 159) := ⟨_, rfl, fun _ _ _ _ _ _ _ _ us hl => match us, hl with | [_, _], _ => rfl, by decide +kernel⟩
theorem okL17 : OkAt ΔL tpL gmx ("_law_product", 160) := ⟨_, rfl, fun _ _ _ _ _ _ _ _ us hl => match us, hl with | [_, _], _ => rfl, by decide +kernel⟩
theorem okL18 : OkAt ΔL tpL gmx ("_law_quotient", 161) := ⟨_, rfl, fun _ _ _ _ _ _ _ _ us hl => match us, hl with | [_, _], _ => rfl, by decide +kernel⟩
theorem okL19 : OkAt ΔL tpL gmx ("_law_less", 134) := ⟨_, rfl, fun _ _ _ _ _ _ _ _ us hl => match us, hl with | [_, _], _ => rfl, by decide +kernel⟩
theorem okL20 : OkAt ΔL tpL gmx ("_law_evened", 227) := ⟨_, rfl, fun _ _ _ _ _ _ _ _ us hl => match us, hl with | [_, _], _ => rfl, by decide +kernel⟩
theorem okL21 : OkAt ΔL tpL gmx ("_law_points", 228) := ⟨_, rfl, fun _ _ _ _ _ _ _ _ us hl => match us, hl with | [_, _, _], _ => rfl, by decide +kernel⟩
theorem okL22 : OkAt ΔL tpL gmx ("law", 229) := ⟨_, rfl, fun _ _ _ _ _ _ _ _ us hl => match us, hl with | [_], _ => rfl, by decide +kernel⟩
theorem okL : ∀ p ∈ namesL, OkAt ΔL tpL gmx p := by
  intro p hp
  simp only [namesL, List.cons_append, List.nil_append, List.mem_cons, List.not_mem_nil, or_false] at hp
  rcases hp with rfl | rfl | rfl | rfl | rfl | rfl | rfl | rfl | rfl | rfl | rfl | rfl | rfl | rfl | rfl | rfl | rfl | rfl | rfl | rfl | rfl | rfl | rfl
  · exact okL0
  · exact okL1
  · exact okL2
  · exact okL3
  · exact okL4
  · exact okL5
  · exact okL6
  · exact okL7
  · exact okL8
  · exact okL9
  · exact okL10
  · exact okL11
  · exact okL12
  · exact okL13
  · exact okL14
  · exact okL15
  · exact okL16
  · exact okL17
  · exact okL18
  · exact okL19
  · exact okL20
  · exact okL21
  · exact okL22
theorem okC : ∀ d ∈ clsL, ∀ p ∈ d.ms, OkAt ΔL tpL gmx p := by
  intro d hd
  simp [clsL] at hd
end G
set_option maxHeartbeats 0
namespace HdL
open PySem PySem.Spec PyProof.Rows L2
abbrev R : PySem.W.OpenRow := PySem.W.OpenLaw.row PySem.Challenge.rw_eachsmove_k52_things_evened_out
abbrev hk : PySem.W.Hook := VI.hookV 5 (VI.faL G.namesL G.freesL G.clsL) (VI.fnL G.namesL G.clsL G.tpL) (VI.exL true G.clsL G.consL)
def ob (s : PySem.W.SharedT) : VI.AlV := VI.obsV 5 (VI.faL G.namesL G.freesL G.clsL) (VI.fnL G.namesL G.clsL G.tpL) (VI.exL true G.clsL G.consL) (HandSHeadRun.getT s)
theorem ob_eq (s : PySem.W.SharedT) : ob s = hk.obs s.abs := VI.obsV_eq (HandSHeadRun.getT_eq s)
def loose : List PySem.Str := (["gcd", "fraction", "add", "subtract", "multiply", "ALL", "NONE", "points_of", "going_over", "parts_left", "others_parts", "evened_out", "_law_draws", "_law_take", "_law_pick", "_law_same", "_law_gcd", "_law_frac", "_law_plus", "_law_minus"] : List PySem.Str) ++ (["_law_product", "_law_quotient", "_law_less", "_law_evened", "_law_points"] : List PySem.Str)
theorem run (w : World) : HandSHeadRun.RunEqI R (PySem.W.view R.prog [28]) hk ob 4000 loose w := by
  unfold HandSHeadRun.RunEqI
  kernel_rfl
end HdL
open PySem PySem.W PySem.Calls PyProof.Rows
theorem PySem.Challenge.cw_eachsmove_k52_things_evened_out_holds : PySem.Challenge.rw_eachsmove_k52_things_evened_out.Holds := by
  w_on; o_law
  refine HandSHeadRun.head_imp (r := HdL.R) (q := view HdL.R.prog [28]) (H := HdL.hk) (ob := HdL.ob) (M := 4000) (loose := HdL.loose) (d := HandSHeadRun.topDef HdL.R.prog 28) (kwd := []) HdL.ob_eq
    HdL.run (by kernel_rfl) (by kernel_rfl) (by kernel_rfl) (by rfl) (by first | assumption | decide +kernel) (by decide +kernel) ⟨rfl, rfl, rfl, rfl, rfl, by decide +kernel⟩ ?hw ?hc
  case hw => w_witness2
  case hc =>
    refine L2.walk_ofE (l := PySem.Challenge.rw_eachsmove_k52_things_evened_out) (n := 63) (k := 80) (x := "script") (CX := L2.CX0) rfl (by decide) (by kernel_rfl) ⟨rfl, by decide, by decide⟩ ?F (fun _ _ _ _ z => z)
    intro w mg fa h Y Gh hmg0
    obtain ⟨K, KX, c⟩ := Y
    have hmg : mg ("law" : PySem.Str) = some (.ref fa) := by
      have e : (HandSHeadRun.topDef HdL.R.prog 28).name = ("law" : PySem.Str) := by kernel_rfl
      rw [← e]
      exact hmg0
    obtain ⟨fd, sp, hb, hs, hF⟩ := VI.law_F (gc := true) (cls := G.clsL) (cons := G.consL) (P := (PySem.Challenge.rw_eachsmove_k52_things_evened_out).prog) (w := w) (n := 63) (k := 40) (i := 229) KX Gh c hmg G.okL G.okC (by simp [G.namesL]) (fun d hd => by cases hd; rfl) (fun ns hns => G.law52 G.ΔL ns hns)
    exact ⟨K, fd, sp, KX, hb, fun H a ns hl _ hS => hs H a ns hl hS, hF⟩
