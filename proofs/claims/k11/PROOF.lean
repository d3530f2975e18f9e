import PyProof.Rows.All
import Wide.All
import OpenK.AllK
import Wide.FinOn
import KE.KStateDown
import Lean
import HandS.ForMost
import HandS.WordsExc
import HandS.Defaults
import HandS.Head0
import HandS.Head1
import HandS.Head2
import HandS.HeadEnd
import HandS.HeadHook1
import HandS.HeadHook2
import HandS.Wide
import HandS.Zip
import HandS.SetFor
import HandS.Set
import HandS.Strs
import HandS.SortKw
import PyProof.MinMaxWalk
import PyProof.WalkInts
import HandS.TupLe
import HandS.SortRule
import HandS.NoneIn
import HandS.Deep
import HandS.SortInts
import HandS.TupMul
import HandS.Conv
import HandS.TupAny
import HandS.IsInst
import KE.GoesEnum
import KE.GoesMore
import HandS.Gcd
import HandS.WideBits
import HandS.Codes
import PySem.Challenge.RW_eachsmove_k11_judge_of_credits
set_option Elab.async false
set_option linter.all false
set_option maxRecDepth 100000
/-! VIS: sorted(set(a list of ints)). -/
namespace VIS
open PySem PySem.Spec PyProof.Rows L2
section
variable {P : Program} {w : World} {A : Around} {E : Value → Shared → Prop} {s : Shared}
set_option maxRecDepth 100000 in
set_option maxHeartbeats 3200000 in
theorem call_set_listI {l : Addr} {items : Array Value} (ns : List Int) {Q : Value → Shared → Prop} (hh : A.handled = none) (hl : s.heap.IsList l items) (hit : IntsAre items.toList ns) (hb : ns.length + 1 < scanBound)
    (h : ∀ (h' : Heap) (tk c : Nat), SetR w h' s.heap.objs.size (fun j => decide (j ∈ ns)) c → c ≤ ns.length → (∀ b o, s.heap.get? b = some o → h'.get? b = some o) → Q (.ref s.heap.objs.size) { s with heap := h', toks := tk }) :
    wpAny (model P w) A (call (.type "set") [.ref l]) Q E s := by
  have hisz : items.size = ns.length := by
    have q := IntsAre.length hit
    rw [Array.length_toList] at q
    exact q
  obtain ⟨c, tl, hmro⟩ := F.called_set.mro
  have hmade := F.called_set.made
  have hsub := F.called_set.sub
  refine wpAny_call (codeAny_of_tree ?_)
  show wpAny _ _ (callAny (.type "set") _) _ _ _
  refine wpAny_pure ⟨Code.quiet_builtin _ (by decide +kernel), codeAny_builtin F.entry_type_call ?_⟩
  rw [Around.under_plain (weight_type_call_type "set" [.ref l] []) rfl]
  have h1 := F.called_set.notType
  have h2 := F.called_set.canCreate
  have hct := F.typeCall_set_1 (.ref l)
  repeat (any_goals (first | assumption | wp_step))

  refine codeAny_mono (code_set_led1 (.ref l) (E := E) (Q₁ := fun obj s₁ => obj = .ref s.heap.objs.size ∧ s₁ = { s with heap := s.heap.push { cls := .type "set", dict := none, data := .set #[] 0 (.fresh 0 0 (!w.params.followText "set-order")) } }) ⟨rfl, rfl⟩) fun r s₁ hr => ?_
  cases r with
  | error e => exact hr
  | ok fl =>
    cases fl with
    | ret obj =>
      obtain ⟨rfl, rfl⟩ := hr
      have hS : (s.heap.push { cls := .type "set", dict := none, data := .set #[] 0 (.fresh 0 0 (!w.params.followText "set-order")) }).get? s.heap.objs.size = some { cls := .type "set", dict := none, data := .set #[] 0 (.fresh 0 0 (!w.params.followText "set-order")) } := Heap.get?_push_size _ rfl
      have hT : Shared.TypeIs { s with heap := s.heap.push { cls := .type "set", dict := none, data := .set #[] 0 (.fresh 0 0 (!w.params.followText "set-order")) } } (.ref s.heap.objs.size) "set" := ⟨_, hS, rfl⟩
      have hli := F.called_set.init.lookup
      have hbi := F.called_set.init.bind (.ref s.heap.objs.size)
      repeat (any_goals (first | assumption | wp_step))

      refine codeAny_mono (codeAny_call_builtin (R := wants (fun r s₂ => r = .none ∧ ∃ h' tk c, s₂ = { s with heap := h', toks := tk } ∧ SetR w h' s.heap.objs.size (fun j => decide (j ∈ ns)) c ∧ c ≤ ns.length ∧
          (∀ b o, s.heap.get? b = some o → h'.get? b = some o)) E) F.called_set.init.plain F.entry_set_init (check_set_init_1 hT ?_)) fun r₂ s₂ hr₂ => ?_
      · obtain ⟨ol, hol, hcl, nl, hdl⟩ := hl
        obtain ⟨ocls, odict, odata, oslots⟩ := ol
        simp only at hcl hdl
        subst hcl; subst hdl
        have hol' : (s.heap.push { cls := .type "set", dict := none, data := .set #[] 0 (.fresh 0 0 (!w.params.followText "set-order")) }).get? l = some { cls := .type "list", dict := odict, data := .seq items nl, slots := oslots } := Heap.get?_push_of_some _ hol
        have hsls := F.sub_list_set
        have hslf := F.sub_list_frozenset
        have hne : (Value.type "list" == Value.type "dict") = false := by decide
        have hl1 : (s.heap.push { cls := .type "set", dict := none, data := .set #[] 0 (.fresh 0 0 (!w.params.followText "set-order")) }).IsList l items := ⟨_, hol', rfl, nl, rfl⟩
        unfold Builtin.«set.__init__» noKeywords Builtin.Frozenset.updateFrom
        generalize hPI : pyIter = PI
        wp_walk
        subst hPI

        refine wpAny_pyIter_list hl1 ?_
        refine wpAny_bind (wpAny_runValue ?_)
        have hlS : l < s.heap.objs.size := Heap.lt_size hol
        have hh3 : A.in1.in1.in1.handled = none := by simp [hh]
        have hz1 : (s.heap.push { cls := .type "set", dict := none, data := .set #[] 0 (.fresh 0 0 (!w.params.followText "set-order")) }).objs.size = s.heap.objs.size + 1 := Heap.size_push ..
        have hneI : l ≠ (s.heap.push { cls := .type "set", dict := none, data := .set #[] 0 (.fresh 0 0 (!w.params.followText "set-order")) }).objs.size := by
          rw [Heap.size_push]; exact Nat.ne_of_lt (Nat.lt_succ_of_lt hlS)
        have hSf : s.heap.objs.size ∉ [(s.heap.push { cls := .type "set", dict := none, data := .set #[] 0 (.fresh 0 0 (!w.params.followText "set-order")) }).objs.size, l] := by
          rw [Heap.size_push]; simp only [List.mem_cons, List.mem_singleton, List.not_mem_nil, or_false, not_or]
          exact ⟨Nat.ne_of_lt (Nat.lt_succ_self _), Nat.ne_of_gt hlS⟩
        have hval : ∀ (i : Nat) (v : Value), items[i]? = some v → ∃ k t, ns[i]? = some k ∧ v = .int k t := fun i v hv => by
          have hi : i < ns.length := by rw [← hisz]; exact (Array.getElem?_eq_some_iff.mp hv).1
          obtain ⟨t, e⟩ := PyProof.Rows.IntsAre.int_at hit i v (by rw [Array.getElem?_toList]; exact hv)
          refine ⟨ns[i], t, List.getElem?_eq_getElem hi, ?_⟩
          rw [e, List.getD_eq_getElem?_getD, List.getElem?_eq_getElem hi] <;> rfl
        refine set_update_ints ((Walks.list hh3 _ l hneI items).toS) s.heap.objs.size
          hSf ns hisz hb hval (items.size - 0) 0 _ (by omega) (Nat.zero_le _)
          ⟨⟨_, Heap.get?_push_size _ rfl, rfl, rfl⟩, (hl1.push _)⟩ ?hS0 ?hR
        case hS0 =>
          have hget : ((s.heap.push { cls := .type "set", dict := none, data := .set #[] 0 (.fresh 0 0 (!w.params.followText "set-order")) }).push { cls := .type "list_iterator", data := .fields #[.ref l, .int 0 0] }).get? s.heap.objs.size
              = some { cls := .type "set", dict := none, data := .set #[] 0 (.fresh 0 0 (!w.params.followText "set-order")) } := Heap.get?_push_of_some _ hS
          exact ⟨0, Nat.le_refl 0, setR_new_at hget⟩
        case hR =>
          intro s' c' hm hc' hS'
          obtain ⟨h', g2, d', tk', os'⟩ := s'
          have eg : g2 = s.gens := hm.gens
          have ed : d' = s.drawn := hm.drawn
          have eo : os' = s.os := hm.os
          subst eg; subst ed; subst eo
          show wpAny _ _ _ _ _ _
          refine wpAny_pure ?_
          show wpAny _ _ (ret Value.none) _ _ _
          rw [hisz] at hc'
          refine wpAny_pure ⟨rfl, h', tk', c', rfl, hS', hc', fun b o e => ?_⟩
          have hb0 : b < s.heap.objs.size := Heap.lt_size e
          have hb1 : b ≠ s.heap.objs.size := Nat.ne_of_lt hb0
          have hb2 : b ≠ (s.heap.push { cls := .type "set", dict := none, data := .set #[] 0 (.fresh 0 0 (!w.params.followText "set-order")) }).objs.size := by
            rw [Heap.size_push]; exact Nat.ne_of_lt (Nat.lt_succ_of_lt hb0)
          exact hm.heap b o (by simp only [List.mem_cons, List.mem_singleton, List.not_mem_nil, or_false, not_or]; exact ⟨hb1, hb2⟩) (Heap.get?_push_of_some _ (Heap.get?_push_of_some _ e))

      · cases r₂ with
        | error e => exact hr₂
        | ok fl₂ =>
          cases fl₂ with
          | ret r =>
            obtain ⟨rfl, h', tk, c', rfl, hS', hc', hk'⟩ := hr₂
            repeat (any_goals (first | assumption | wp_step))
            exact h _ _ _ hS' hc' hk'
          | _ => exact hr₂.elim
    | _ => exact hr.elim

end
end VIS
/-! VIS: sorted(set(a list of ints)). -/
namespace VIS
open PySem PySem.Spec PyProof.Rows L2
def insU (x : Int) : List Int → List Int
  | [] => [x]
  | y :: r => if x < y then x :: y :: r else if x = y then y :: r else y :: insU x r
def srtU : List Int → List Int
  | [] => []
  | x :: r => insU x (srtU r)
theorem mem_insU {x k : Int} : ∀ {l : List Int}, k ∈ insU x l ↔ k = x ∨ k ∈ l
  | [] => by simp [insU]
  | y :: r => by
    unfold insU
    split
    · simp
    · split
      · rename_i h; subst h; simp
      · simp only [List.mem_cons, mem_insU (l := r)]
        constructor
        · rintro (h | h | h)
          · exact .inr (.inl h)
          · exact .inl h
          · exact .inr (.inr h)
        · rintro (h | h | h)
          · exact .inr (.inl h)
          · exact .inl h
          · exact .inr (.inr h)
theorem mem_srtU {k : Int} : ∀ {l : List Int}, k ∈ srtU l ↔ k ∈ l
  | [] => by simp [srtU]
  | y :: r => by simp only [srtU, mem_insU, mem_srtU (l := r), List.mem_cons]
theorem insU_srt {x : Int} : ∀ {l : List Int}, l.Pairwise (· < ·) → (insU x l).Pairwise (· < ·)
  | [], _ => by simp [insU]
  | y :: r, h => by
    rw [List.pairwise_cons] at h
    unfold insU
    split
    · rename_i q
      refine List.pairwise_cons.mpr ⟨fun z hz => ?_, List.pairwise_cons.mpr h⟩
      rcases List.mem_cons.mp hz with rfl | hz
      · exact q
      · have := h.1 z hz; omega
    · split
      · exact List.pairwise_cons.mpr h
      · rename_i q1 q2
        refine List.pairwise_cons.mpr ⟨fun z hz => ?_, insU_srt h.2⟩
        rcases mem_insU.mp hz with rfl | hz
        · omega
        · exact h.1 z hz
theorem srtU_srt : ∀ {l : List Int}, (srtU l).Pairwise (· < ·)
  | [] => by simp [srtU]
  | x :: r => insU_srt srtU_srt
theorem srt_uniq : ∀ {a b : List Int}, a.Pairwise (· < ·) → b.Pairwise (· < ·) → (∀ k, k ∈ a ↔ k ∈ b) → a = b
  | [], [], _, _, _ => rfl
  | [], y :: b, _, _, h => absurd ((h y).mpr (List.mem_cons_self ..)) (by simp)
  | x :: a, [], _, _, h => absurd ((h x).mp (List.mem_cons_self ..)) (by simp)
  | x :: a, y :: b, ha, hb, h => by
    rw [List.pairwise_cons] at ha hb
    have e : x = y := by
      rcases List.mem_cons.mp ((h x).mp (List.mem_cons_self ..)) with e | h1
      · exact e
      · rcases List.mem_cons.mp ((h y).mpr (List.mem_cons_self ..)) with e | h2
        · exact e.symm
        · have := hb.1 x h1
          have := ha.1 y h2
          omega
    subst e
    congr 1
    refine srt_uniq ha.2 hb.2 fun k => ?_
    constructor
    · intro hk
      rcases List.mem_cons.mp ((h k).mp (List.mem_cons_of_mem _ hk)) with e | h1
      · have := ha.1 k hk; omega
      · exact h1
    · intro hk
      rcases List.mem_cons.mp ((h k).mpr (List.mem_cons_of_mem _ hk)) with e | h1
      · have := hb.1 k hk; omega
      · exact h1
def tSrtSet (K : PySem.W.Frag) (ta : TE) : TE := fun σ H Q => ta σ H fun x H1 => ∃ (l : Addr) (ns : List Int), x = .ref l ∧ (SqL K H1 l (ns.map V.int) ∨ SqT K H1 l (ns.map V.int)) ∧ ns.length < 64 ∧ ∀ p, H1 p = none → Q (.ref p) (upd H1 p (.lst ((srtU ns).map V.int)))
theorem pe_srtSet {X : Cx} {a : Expr} {ta : TE} {p p2 q pos : Pos} (hg : Gl X "sorted") (hm : X.mg "sorted" = none) (hg2 : Gl X "set") (hm2 : X.mg "set" = none) (ha : PE X a ta) (hc : X.calm = true)
    (na : starEach [a] X.env = (false, eval a X.env) :: starEach [] X.env) : PE X (.Call (.Name "sorted" p) [.Call (.Name "set" p2) [a] [] q] [] pos) (tSrtSet X.K ta) := by
  refine ⟨fun pins s σ H Q I h => ?_⟩
  refine PyProof.Rows.Call_ (ld_blt I hg hm boot_sorted ?_)
  refine PyProof.Rows.callWith_builtin1 (PyProof.Rows.args_cons ?_ rfl) rfl rfl
  refine PyProof.Rows.Call_ (ld_blt I hg2 hm2 boot_set ?_)
  refine PyProof.Rows.callWith_type1 (PyProof.Rows.args_cons (thn (ha.run pins s σ H _ I h) fun v s1 ⟨x, H1, I1, r1, q1⟩ => PyProof.Rows.args_nil ?_) na) na rfl
  obtain ⟨l, ns, rfl, hq, hl, q1⟩ := q1
  cases r1
  rcases hq with hq | hq
  · obtain ⟨its, r, pl, hz⟩ := I1.list hq
    refine call_set_listI ns (I1.ok.hd hc) pl.isList (by simpa using RZ.intsAre_vals r) (by unfold scanBound; omega) fun h' tk c hS hcl hk => ?_
    refine PyProof.Rows.args_nil ?_
    have I2 : Inv X pins σ H1 { s1 with heap := h', toks := tk } := I1.kept fun b o e => hk b o e
    refine sorted_set hS (I1.ok.hd hc) (by omega) fun s' p out c2 ns2 k g o hp hgt hi hs hm hl2 => ?_
    have e2 : ns2 = srtU ns := srt_uniq hs srtU_srt fun k => by rw [hm, mem_srtU]; simp
    subst e2
    have hlen : ((srtU ns).map V.int).length ≤ sizeLine := by rw [List.length_map, hl2, sizeLine_eq]; omega
    have hn : H1 p = none := I2.hok.fresh hp
    have J : Inv X pins σ (upd H1 p (.lst ((srtU ns).map V.int))) { ({ s1 with heap := h', toks := tk } : Shared) with heap := s'.heap, gens := s'.gens, drawn := s'.drawn, toks := s'.toks } :=
      I2.call (ch := []) (Un.laid k hp hn) (I2.hok.laid k hp ⟨hlen, out.toList, c2, vals_of_ints hi, hgt⟩) (by rw [g]; exact I2.bare) (fun _ z => nomatch z)
    have e : s' = { ({ s1 with heap := h', toks := tk } : Shared) with heap := s'.heap, gens := s'.gens, drawn := s'.drawn, toks := s'.toks } := by
      cases s'
      cases s1
      cases o
      rfl
    rw [e]
    exact ⟨.ref p, _, J, rfl, q1 p hn⟩
  · obtain ⟨its, r, pl, hz⟩ := I1.tuple hq
    refine call_set_tupI ns (I1.ok.hd hc) (show s1.heap.IsTuple l its.toArray from pl) (by simpa using RZ.intsAre_vals r) (by unfold scanBound; omega) fun h' tk c hS hcl hk => ?_
    refine PyProof.Rows.args_nil ?_
    have I2 : Inv X pins σ H1 { s1 with heap := h', toks := tk } := I1.kept fun b o e => hk b o e
    refine sorted_set hS (I1.ok.hd hc) (by omega) fun s' p out c2 ns2 k g o hp hgt hi hs hm hl2 => ?_
    have e2 : ns2 = srtU ns := srt_uniq hs srtU_srt fun k => by rw [hm, mem_srtU]; simp
    subst e2
    have hlen : ((srtU ns).map V.int).length ≤ sizeLine := by rw [List.length_map, hl2, sizeLine_eq]; omega
    have hn : H1 p = none := I2.hok.fresh hp
    have J : Inv X pins σ (upd H1 p (.lst ((srtU ns).map V.int))) { ({ s1 with heap := h', toks := tk } : Shared) with heap := s'.heap, gens := s'.gens, drawn := s'.drawn, toks := s'.toks } :=
      I2.call (ch := []) (Un.laid k hp hn) (I2.hok.laid k hp ⟨hlen, out.toList, c2, vals_of_ints hi, hgt⟩) (by rw [g]; exact I2.bare) (fun _ z => nomatch z)
    have e : s' = { ({ s1 with heap := h', toks := tk } : Shared) with heap := s'.heap, gens := s'.gens, drawn := s'.drawn, toks := s'.toks } := by
      cases s'
      cases s1
      cases o
      rfl
    rw [e]
    exact ⟨.ref p, _, J, rfl, q1 p hn⟩
end VIS
/-! VIM: min and max with a default. -/
namespace VIM
open PySem
section
variable {prog : Program} {w : World} {A : Around} {R : Result → Shared → Prop} {I : Addr} {fp wr : List Addr} {n : Nat} {P : Nat → Value → Prop} {St : Nat → Heap → Prop} {dv : Value}
theorem loop_min (W : Walks prog w A.in1 I fp wr n P St) (bt : Nat → Nat → Bool) (hcmp : CmpOf prog w A.in1 .Lt P bt) (S : Addr) (hSf : S ∉ fp) :
    ∀ (k j : Nat) (s : Shared) (vb : Value) (c : Nat), n - (j + 1) = k → j + 1 ≤ n → St (j + 1) s.heap → P (argBest bt j) vb →
    s.heap.get? S = some { cls := .type "list", dict := none, data := .seq #[vb, vb] c, slots := #[] } →
    (∀ v h' tk, P (argBest bt (n - 1)) v → (∀ b o, b ∉ wr → b ≠ S → s.heap.get? b = some o → h'.get? b = some o) → R (.ok (.ret v)) { s with heap := h', toks := tk }) →
    codeAny (model prog w) A (.builtin "min.loop" ⟨[.ref I, .none, .ref S], [("default", dv)]⟩) R s := by
  have hSw : S ∉ wr := fun h => hSf (W.sub _ h)
  have hname : (toString "min" ++ toString ".loop" : String) = "min.loop" := by decide
  intro k
  induction k with
  | zero =>
    intro j s vb c hk hj hst hPb hS hR
    have hin : j + 1 = n := by omega
    refine codeAny_builtin F.entry_min_loop ?_
    rw [Around.under_plainId F.plain_min_loop _]
    show wpAny _ A.in1 (seqItems? (.ref S) >>= _) _ _ s
    refine wpAny_bind (wpAny_seqItems hS rfl ?_)
    show wpAny _ A.in1 (tryCatch (pyNext (.ref I)) _ >>= _) _ _ s
    refine wpAny_bind (wpAny_tryCatch (W.done s _ _ (hin ▸ hst) fun h' tk hk' => ?_))
    have hS' := hk' S _ hSw hS
    show wpAny _ A.in1 (updateSeq S (fun _ => #[]) >>= _) _ _ _
    refine wpAny_bind ?_
    refine wpAny_updateSeq hS' rfl (wpAny_bind (wpAny_letGo (wpAny_pure ?_)))
    refine hR vb _ tk (by rw [← hin]; exact hPb) fun b o hbw hbS e => (Heap.get?_update_other _ _ (Ne.symm hbS)).trans (hk' b o hbw e)
  | succ k ih =>
    intro j s vb c hk hj hst hPb hS hR
    have hlt : j + 1 < n := by omega
    refine codeAny_builtin F.entry_min_loop ?_
    rw [Around.under_plainId F.plain_min_loop _]
    show wpAny _ A.in1 (seqItems? (.ref S) >>= _) _ _ s
    refine wpAny_bind (wpAny_seqItems hS rfl ?_)
    show wpAny _ A.in1 (tryCatch (pyNext (.ref I)) _ >>= _) _ _ s
    refine wpAny_bind (wpAny_tryCatch (W.item (j + 1) s _ _ hlt hst fun v h' tk hP hst' hk' => ?_))
    have hS' := hk' S _ hSw hS
    show wpAny _ A.in1 (tryCatch (holding [v, v] (richCompare .Lt v vb >>= _)) _ >>= _) _ _ _
    refine wpAny_bind (wpAny_tryCatch (wpAny_holding (wpAny_bind (hcmp (j + 1) (argBest bt j) v vb _ _ _ hP hPb ?_))))
    refine wpAny_bind (wpAny_holding (wpAny_truthy_bool ?_))
    refine wpAny_bind (wpAny_letGo (wpAny_pure ?_))
    cases hb : bt (j + 1) (argBest bt j) with
    | true =>
      simp only [if_true]
      refine wpAny_bind ?_
      refine wpAny_updateSeq hS' rfl (wpAny_bind (wpAny_letGo ?_))
      rw [hname]
      refine wpAny_pure ⟨plainId_quiet F.plain_min_loop _, ih (j + 1) _ v _ (by omega) hlt (W.frame _ _ _ hst' fun b hbf o e => ?_) (by simp only [argBest, hb, if_true]; exact hP) (Heap.get?_update_self _ hS' rfl)
        fun v' h'' tk'' hP' hk'' => ?_⟩
      · exact (Heap.get?_update_other _ _ (fun h : S = b => hSf (by rw [h]; exact hbf))).trans e
      · exact hR v' h'' tk'' hP' fun b o hbw hbS e => hk'' b o hbw hbS ((Heap.get?_update_other _ _ (Ne.symm hbS)).trans (hk' b o hbw e))
    | false =>
      simp only [Bool.false_eq_true, if_false]
      refine wpAny_bind (wpAny_letGo ?_)
      rw [hname]
      refine wpAny_pure ⟨plainId_quiet F.plain_min_loop _, ih (j + 1) _ vb c (by omega) hlt hst' (by simp only [argBest, hb, Bool.false_eq_true, if_false]; exact hPb) hS' fun v' h'' tk'' hP' hk'' => ?_⟩
      exact hR v' h'' tk'' hP' fun b o hbw hbS e => hk'' b o hbw hbS (hk' b o hbw e)
theorem first_min (W : Walks prog w A.in1 I fp wr n P St) (bt : Nat → Nat → Bool) (hcmp : CmpOf prog w A.in1 .Lt P bt) (S : Addr) (hSf : S ∉ fp) (hn : 0 < n) {s : Shared} {c : Nat} (hst : St 0 s.heap)
    (hS : s.heap.get? S = some { cls := .type "list", dict := none, data := .seq #[] c, slots := #[] })
    (hR : ∀ v h' tk, P (argBest bt (n - 1)) v → (∀ b o, b ∉ wr → b ≠ S → s.heap.get? b = some o → h'.get? b = some o) → R (.ok (.ret v)) { s with heap := h', toks := tk }) :
    codeAny (model prog w) A (.builtin "min.loop" ⟨[.ref I, .none, .ref S], [("default", dv)]⟩) R s := by
  have hSw : S ∉ wr := fun h => hSf (W.sub _ h)
  have hname : (toString "min" ++ toString ".loop" : String) = "min.loop" := by decide
  refine codeAny_builtin F.entry_min_loop ?_
  rw [Around.under_plainId F.plain_min_loop _]
  show wpAny _ A.in1 (seqItems? (.ref S) >>= _) _ _ s
  refine wpAny_bind (wpAny_seqItems hS rfl ?_)
  show wpAny _ A.in1 (tryCatch (pyNext (.ref I)) _ >>= _) _ _ s
  refine wpAny_bind (wpAny_tryCatch (W.item 0 s _ _ hn hst fun v h' tk hP hst' hk' => ?_))
  have hS' := hk' S _ hSw hS
  show wpAny _ A.in1 (updateSeq S (fun _ => #[v, v]) >>= _) _ _ _
  refine wpAny_bind ?_
  refine wpAny_updateSeq hS' rfl ?_
  rw [hname]
  refine wpAny_pure ⟨plainId_quiet F.plain_min_loop _, loop_min W bt hcmp S hSf _ 0 _ v _ rfl hn (W.frame _ _ _ hst' fun b hbf o e => ?_) hP (Heap.get?_update_self _ hS' rfl) fun v' h'' tk'' hP' hk'' => ?_⟩
  · exact (Heap.get?_update_other _ _ (fun h : S = b => hSf (by rw [h]; exact hbf))).trans e
  · exact hR v' h'' tk'' hP' fun b o hbw hbS e => hk'' b o hbw hbS ((Heap.get?_update_other _ _ (Ne.symm hbS)).trans (hk' b o hbw e))
theorem none_min (W : Walks prog w A.in1 I fp wr n P St) (S : Addr) (hn : n = 0) {s : Shared} {c : Nat} (hst : St 0 s.heap)
    (hS : s.heap.get? S = some { cls := .type "list", dict := none, data := .seq #[] c, slots := #[] })
    (hR : ∀ h' tk, (∀ b o, b ∉ wr → s.heap.get? b = some o → h'.get? b = some o) → R (.ok (.ret dv)) { s with heap := h', toks := tk }) :
    codeAny (model prog w) A (.builtin "min.loop" ⟨[.ref I, .none, .ref S], [("default", dv)]⟩) R s := by
  subst hn
  refine codeAny_builtin F.entry_min_loop ?_
  rw [Around.under_plainId F.plain_min_loop _]
  show wpAny _ A.in1 (seqItems? (.ref S) >>= _) _ _ s
  refine wpAny_bind (wpAny_seqItems hS rfl ?_)
  show wpAny _ A.in1 (tryCatch (pyNext (.ref I)) _ >>= _) _ _ s
  refine wpAny_bind (wpAny_tryCatch (W.done s _ _ hst fun h' tk hk' => ?_))
  show wpAny _ A.in1 (rule _ >>= fun _ => ret dv) _ _ _
  exact wpAny_bind (wpAny_rule (wpAny_pure (hR h' tk hk')))
theorem loop_max (W : Walks prog w A.in1 I fp wr n P St) (bt : Nat → Nat → Bool) (hcmp : CmpOf prog w A.in1 .Gt P bt) (S : Addr) (hSf : S ∉ fp) :
    ∀ (k j : Nat) (s : Shared) (vb : Value) (c : Nat), n - (j + 1) = k → j + 1 ≤ n → St (j + 1) s.heap → P (argBest bt j) vb →
    s.heap.get? S = some { cls := .type "list", dict := none, data := .seq #[vb, vb] c, slots := #[] } →
    (∀ v h' tk, P (argBest bt (n - 1)) v → (∀ b o, b ∉ wr → b ≠ S → s.heap.get? b = some o → h'.get? b = some o) → R (.ok (.ret v)) { s with heap := h', toks := tk }) →
    codeAny (model prog w) A (.builtin "max.loop" ⟨[.ref I, .none, .ref S], [("default", dv)]⟩) R s := by
  have hSw : S ∉ wr := fun h => hSf (W.sub _ h)
  have hname : (toString "max" ++ toString ".loop" : String) = "max.loop" := by decide
  intro k
  induction k with
  | zero =>
    intro j s vb c hk hj hst hPb hS hR
    have hin : j + 1 = n := by omega
    refine codeAny_builtin F.entry_max_loop ?_
    rw [Around.under_plainId F.plain_max_loop _]
    show wpAny _ A.in1 (seqItems? (.ref S) >>= _) _ _ s
    refine wpAny_bind (wpAny_seqItems hS rfl ?_)
    show wpAny _ A.in1 (tryCatch (pyNext (.ref I)) _ >>= _) _ _ s
    refine wpAny_bind (wpAny_tryCatch (W.done s _ _ (hin ▸ hst) fun h' tk hk' => ?_))
    have hS' := hk' S _ hSw hS
    show wpAny _ A.in1 (updateSeq S (fun _ => #[]) >>= _) _ _ _
    refine wpAny_bind ?_
    refine wpAny_updateSeq hS' rfl (wpAny_bind (wpAny_letGo (wpAny_pure ?_)))
    refine hR vb _ tk (by rw [← hin]; exact hPb) fun b o hbw hbS e => (Heap.get?_update_other _ _ (Ne.symm hbS)).trans (hk' b o hbw e)
  | succ k ih =>
    intro j s vb c hk hj hst hPb hS hR
    have hlt : j + 1 < n := by omega
    refine codeAny_builtin F.entry_max_loop ?_
    rw [Around.under_plainId F.plain_max_loop _]
    show wpAny _ A.in1 (seqItems? (.ref S) >>= _) _ _ s
    refine wpAny_bind (wpAny_seqItems hS rfl ?_)
    show wpAny _ A.in1 (tryCatch (pyNext (.ref I)) _ >>= _) _ _ s
    refine wpAny_bind (wpAny_tryCatch (W.item (j + 1) s _ _ hlt hst fun v h' tk hP hst' hk' => ?_))
    have hS' := hk' S _ hSw hS
    show wpAny _ A.in1 (tryCatch (holding [v, v] (richCompare .Gt v vb >>= _)) _ >>= _) _ _ _
    refine wpAny_bind (wpAny_tryCatch (wpAny_holding (wpAny_bind (hcmp (j + 1) (argBest bt j) v vb _ _ _ hP hPb ?_))))
    refine wpAny_bind (wpAny_holding (wpAny_truthy_bool ?_))
    refine wpAny_bind (wpAny_letGo (wpAny_pure ?_))
    cases hb : bt (j + 1) (argBest bt j) with
    | true =>
      simp only [if_true]
      refine wpAny_bind ?_
      refine wpAny_updateSeq hS' rfl (wpAny_bind (wpAny_letGo ?_))
      rw [hname]
      refine wpAny_pure ⟨plainId_quiet F.plain_max_loop _, ih (j + 1) _ v _ (by omega) hlt (W.frame _ _ _ hst' fun b hbf o e => ?_) (by simp only [argBest, hb, if_true]; exact hP) (Heap.get?_update_self _ hS' rfl)
        fun v' h'' tk'' hP' hk'' => ?_⟩
      · exact (Heap.get?_update_other _ _ (fun h : S = b => hSf (by rw [h]; exact hbf))).trans e
      · exact hR v' h'' tk'' hP' fun b o hbw hbS e => hk'' b o hbw hbS ((Heap.get?_update_other _ _ (Ne.symm hbS)).trans (hk' b o hbw e))
    | false =>
      simp only [Bool.false_eq_true, if_false]
      refine wpAny_bind (wpAny_letGo ?_)
      rw [hname]
      refine wpAny_pure ⟨plainId_quiet F.plain_max_loop _, ih (j + 1) _ vb c (by omega) hlt hst' (by simp only [argBest, hb, Bool.false_eq_true, if_false]; exact hPb) hS' fun v' h'' tk'' hP' hk'' => ?_⟩
      exact hR v' h'' tk'' hP' fun b o hbw hbS e => hk'' b o hbw hbS (hk' b o hbw e)
theorem first_max (W : Walks prog w A.in1 I fp wr n P St) (bt : Nat → Nat → Bool) (hcmp : CmpOf prog w A.in1 .Gt P bt) (S : Addr) (hSf : S ∉ fp) (hn : 0 < n) {s : Shared} {c : Nat} (hst : St 0 s.heap)
    (hS : s.heap.get? S = some { cls := .type "list", dict := none, data := .seq #[] c, slots := #[] })
    (hR : ∀ v h' tk, P (argBest bt (n - 1)) v → (∀ b o, b ∉ wr → b ≠ S → s.heap.get? b = some o → h'.get? b = some o) → R (.ok (.ret v)) { s with heap := h', toks := tk }) :
    codeAny (model prog w) A (.builtin "max.loop" ⟨[.ref I, .none, .ref S], [("default", dv)]⟩) R s := by
  have hSw : S ∉ wr := fun h => hSf (W.sub _ h)
  have hname : (toString "max" ++ toString ".loop" : String) = "max.loop" := by decide
  refine codeAny_builtin F.entry_max_loop ?_
  rw [Around.under_plainId F.plain_max_loop _]
  show wpAny _ A.in1 (seqItems? (.ref S) >>= _) _ _ s
  refine wpAny_bind (wpAny_seqItems hS rfl ?_)
  show wpAny _ A.in1 (tryCatch (pyNext (.ref I)) _ >>= _) _ _ s
  refine wpAny_bind (wpAny_tryCatch (W.item 0 s _ _ hn hst fun v h' tk hP hst' hk' => ?_))
  have hS' := hk' S _ hSw hS
  show wpAny _ A.in1 (updateSeq S (fun _ => #[v, v]) >>= _) _ _ _
  refine wpAny_bind ?_
  refine wpAny_updateSeq hS' rfl ?_
  rw [hname]
  refine wpAny_pure ⟨plainId_quiet F.plain_max_loop _, loop_max W bt hcmp S hSf _ 0 _ v _ rfl hn (W.frame _ _ _ hst' fun b hbf o e => ?_) hP (Heap.get?_update_self _ hS' rfl) fun v' h'' tk'' hP' hk'' => ?_⟩
  · exact (Heap.get?_update_other _ _ (fun h : S = b => hSf (by rw [h]; exact hbf))).trans e
  · exact hR v' h'' tk'' hP' fun b o hbw hbS e => hk'' b o hbw hbS ((Heap.get?_update_other _ _ (Ne.symm hbS)).trans (hk' b o hbw e))
theorem none_max (W : Walks prog w A.in1 I fp wr n P St) (S : Addr) (hn : n = 0) {s : Shared} {c : Nat} (hst : St 0 s.heap)
    (hS : s.heap.get? S = some { cls := .type "list", dict := none, data := .seq #[] c, slots := #[] })
    (hR : ∀ h' tk, (∀ b o, b ∉ wr → s.heap.get? b = some o → h'.get? b = some o) → R (.ok (.ret dv)) { s with heap := h', toks := tk }) :
    codeAny (model prog w) A (.builtin "max.loop" ⟨[.ref I, .none, .ref S], [("default", dv)]⟩) R s := by
  subst hn
  refine codeAny_builtin F.entry_max_loop ?_
  rw [Around.under_plainId F.plain_max_loop _]
  show wpAny _ A.in1 (seqItems? (.ref S) >>= _) _ _ s
  refine wpAny_bind (wpAny_seqItems hS rfl ?_)
  show wpAny _ A.in1 (tryCatch (pyNext (.ref I)) _ >>= _) _ _ s
  refine wpAny_bind (wpAny_tryCatch (W.done s _ _ hst fun h' tk hk' => ?_))
  show wpAny _ A.in1 (rule _ >>= fun _ => ret dv) _ _ _
  exact wpAny_bind (wpAny_rule (wpAny_pure (hR h' tk hk')))
end
section
variable {prog : Program} {w : World} {A : Around} {E : Value → Shared → Prop} {s : Shared} {dv : Value}
theorem call_tree_kw {id : String} {b : Builtin} {args : List Value} {kw : List (Str × Value)} {Q : Value → Shared → Prop} (hk : builtinKind id = none) (hp : plainId id = true)
    (hb : entryFor table id = some b) (ha : argsOk id ⟨args, kw⟩)
    (hc : wpAny (model prog w) A.in1 (b ⟨args, kw⟩) (fun fin s' => match fin with
      | .done f => (match (Except.ok f : Result) with | .ok (.ret v) => Q v s' | .ok _ => False | .error e => E e s')
      | .again c' => c'.quiet = true ∧ codeAny (model prog w) A c' (fun r s' => match r with | .ok (.ret v) => Q v s' | .ok _ => False | .error e => E e s') s') E s) :
    wpAny (model prog w) A (call (.builtin id) args kw) Q E s := by
  refine wpAny_call (codeAny_call_builtin hp hb ?_)
  simp only [checkBuiltinCall, hk]
  cases hsig : Manifest.signature? id with
  | none => exact wpAny_pure hc
  | some sig =>
    simp only [argsOk, hsig] at ha
    have h2 : Bind.checkArgs id sig ⟨args, kw⟩ = pure () := ha
    show wpAny _ A.in1 (Bind.checkArgs id sig ⟨args, kw⟩) _ _ s
    rw [h2]; exact wpAny_pure hc
theorem args_min (a : Value) : argsOk "min" ⟨[a], [("default", dv)]⟩ := by unfold argsOk; kernel_rfl
theorem call_min {x : Value} {Q : Value → Shared → Prop}
    (h : wpAny (model prog w) A.in1 (pyIter x) (fun it s₂ => ∃ I fp wr n P St bt, it = .ref I ∧ Walks prog w A.in1 I fp wr n P St ∧ St 0 s₂.heap ∧ (∀ b ∈ fp, b < s₂.heap.objs.size) ∧ CmpOf prog w A.in1 .Lt P bt ∧
      (0 < n → ∀ v h' tk, P (argBest bt (n - 1)) v → (∀ b o, b ∉ wr → s₂.heap.get? b = some o → h'.get? b = some o) → Q v { s₂ with heap := h', toks := tk }) ∧
      (n = 0 → ∀ h' tk, (∀ b o, b ∉ wr → s₂.heap.get? b = some o → h'.get? b = some o) → Q dv { s₂ with heap := h', toks := tk })) E s) :
    wpAny (model prog w) A (call (.builtin "min") [x] [("default", dv)]) Q E s := by
  have hname : (toString "min" ++ toString ".loop" : String) = "min.loop" := by decide
  refine call_tree_kw F.kind_min F.plain_min F.entry_min (args_min _) ?_
  show wpAny _ A.in1 (Builtin.Builtins.bindParams "min" ["key", "default"] 0 ⟨[], [("default", dv)]⟩ >>= _) _ _ s
  refine wpAny_bind (wpAny_of_eq (show Builtin.Builtins.bindParams "min" ["key", "default"] 0 ⟨[], [("default", dv)]⟩ = pure [none, some dv] from by kernel_rfl) ?_)
  refine wpAny_bind (wpAny_pure ?_)
  refine wpAny_bind (wpAny_mono h (fun it s₂ h₂ => ?_) fun _ _ e => e)
  obtain ⟨I, fp, wr, n, P, St, bt, rfl, W, hst, hfp, hcmp, hQ, hQ0⟩ := h₂
  refine wpAny_bind (wpAny_newObj_type ?_)
  have hSf : s₂.heap.objs.size ∉ fp := fun hm => Nat.lt_irrefl _ (hfp _ hm)
  rw [hname]
  rcases Nat.eq_zero_or_pos n with hn | hn
  · refine wpAny_pure ⟨plainId_quiet F.plain_min_loop _, none_min W s₂.heap.objs.size hn (W.frame _ _ _ hst fun b _ o e => Heap.get?_push_of_some _ e) (Heap.get?_push_size _ rfl) fun h' tk hk => ?_⟩
    exact hQ0 hn h' tk fun b o hbw e => hk b o hbw (Heap.get?_push_of_some _ e)
  · refine wpAny_pure ⟨plainId_quiet F.plain_min_loop _, first_min W bt hcmp s₂.heap.objs.size hSf hn (W.frame _ _ _ hst fun b _ o e => Heap.get?_push_of_some _ e) (Heap.get?_push_size _ rfl) fun v h' tk hP hk => ?_⟩
    exact hQ hn v h' tk hP fun b o hbw e => hk b o hbw (Nat.ne_of_lt (Heap.lt_size e)) (Heap.get?_push_of_some _ e)
theorem args_max (a : Value) : argsOk "max" ⟨[a], [("default", dv)]⟩ := by unfold argsOk; kernel_rfl
theorem call_max {x : Value} {Q : Value → Shared → Prop}
    (h : wpAny (model prog w) A.in1 (pyIter x) (fun it s₂ => ∃ I fp wr n P St bt, it = .ref I ∧ Walks prog w A.in1 I fp wr n P St ∧ St 0 s₂.heap ∧ (∀ b ∈ fp, b < s₂.heap.objs.size) ∧ CmpOf prog w A.in1 .Gt P bt ∧
      (0 < n → ∀ v h' tk, P (argBest bt (n - 1)) v → (∀ b o, b ∉ wr → s₂.heap.get? b = some o → h'.get? b = some o) → Q v { s₂ with heap := h', toks := tk }) ∧
      (n = 0 → ∀ h' tk, (∀ b o, b ∉ wr → s₂.heap.get? b = some o → h'.get? b = some o) → Q dv { s₂ with heap := h', toks := tk })) E s) :
    wpAny (model prog w) A (call (.builtin "max") [x] [("default", dv)]) Q E s := by
  have hname : (toString "max" ++ toString ".loop" : String) = "max.loop" := by decide
  refine call_tree_kw F.kind_max F.plain_max F.entry_max (args_max _) ?_
  show wpAny _ A.in1 (Builtin.Builtins.bindParams "max" ["key", "default"] 0 ⟨[], [("default", dv)]⟩ >>= _) _ _ s
  refine wpAny_bind (wpAny_of_eq (show Builtin.Builtins.bindParams "max" ["key", "default"] 0 ⟨[], [("default", dv)]⟩ = pure [none, some dv] from by kernel_rfl) ?_)
  refine wpAny_bind (wpAny_pure ?_)
  refine wpAny_bind (wpAny_mono h (fun it s₂ h₂ => ?_) fun _ _ e => e)
  obtain ⟨I, fp, wr, n, P, St, bt, rfl, W, hst, hfp, hcmp, hQ, hQ0⟩ := h₂
  refine wpAny_bind (wpAny_newObj_type ?_)
  have hSf : s₂.heap.objs.size ∉ fp := fun hm => Nat.lt_irrefl _ (hfp _ hm)
  rw [hname]
  rcases Nat.eq_zero_or_pos n with hn | hn
  · refine wpAny_pure ⟨plainId_quiet F.plain_max_loop _, none_max W s₂.heap.objs.size hn (W.frame _ _ _ hst fun b _ o e => Heap.get?_push_of_some _ e) (Heap.get?_push_size _ rfl) fun h' tk hk => ?_⟩
    exact hQ0 hn h' tk fun b o hbw e => hk b o hbw (Heap.get?_push_of_some _ e)
  · refine wpAny_pure ⟨plainId_quiet F.plain_max_loop _, first_max W bt hcmp s₂.heap.objs.size hSf hn (W.frame _ _ _ hst fun b _ o e => Heap.get?_push_of_some _ e) (Heap.get?_push_size _ rfl) fun v h' tk hP hk => ?_⟩
    exact hQ hn v h' tk hP fun b o hbw e => hk b o hbw (Nat.ne_of_lt (Heap.lt_size e)) (Heap.get?_push_of_some _ e)
end
end VIM

namespace VIM
open PySem PySem.Spec PyProof.Rows L2
section
variable {prog : Program} {w : World} {A : Around} {E : Value → Shared → Prop} {s : Shared} {l : Addr} {its : List Value} {ns : List Int} {dv : Value} {Q : Value → Shared → Prop}
theorem min_raw (hh : A.handled = none) (hl : s.heap.IsList l its.toArray) (hi : IntsAre its ns)
    (h0 : ns = [] → ∀ h' tk, (∀ b o, s.heap.get? b = some o → h'.get? b = some o) → Q dv { s with heap := h', toks := tk })
    (h : ∀ h' tk M t', (∀ b o, s.heap.get? b = some o → h'.get? b = some o) → M ∈ ns → (∀ a, a ∈ ns → M ≤ a) → Q (.int M t') { s with heap := h', toks := tk }) : wpAny (model prog w) A (call (.builtin "min") [.ref l] [("default", dv)]) Q E s := by
  obtain ⟨xs, e⟩ := hi.allInts.items
  have hn : numsOf (intItems xs).toList = ns := by rw [← e]; exact hi.numsOf
  rw [nums_intItems] at hn
  subst hn
  rw [e] at hl
  refine call_min (iter_intList hl fun s₂ e st hfp hlI => ?_)
  subst e
  refine ⟨_, _, _, _, _, _, _, rfl, Walks.list (A := A.in1) hh _ l hlI (intItems xs), st, hfp, CmpOf.ints_lt (numAt xs) (fun _ _ => intItems_at), fun hne v h' tk hP hk => ?_, fun he h' tk hk => ?_⟩
  · have hsz : 0 < xs.size := by simpa [intItems] using hne
    have hv : (intItems xs)[argBest (fun i j => decide (numAt xs i < numAt xs j)) (xs.size - 1)]? = some v := by simpa [intItems] using hP
    obtain ⟨t, rfl⟩ := intItems_at hv
    obtain ⟨h1, h2⟩ := argBest_lt (numAt xs) (xs.size - 1)
    refine h h' tk _ t (old_kept hk) ?_ fun a ha => ?_
    · rw [numAt_eq]; exact PySem.getD_mem (by rw [List.length_map, Array.length_toList]; omega)
    · obtain ⟨j, hj, rfl⟩ := mem_getD ha
      rw [List.length_map, Array.length_toList] at hj
      rw [← numAt_eq]; exact h2 j (by omega)
  · have hsz : xs.size = 0 := by simpa [intItems] using he
    refine h0 ?_ h' tk (old_kept hk)
    have : xs.toList = [] := by rw [← List.length_eq_zero_iff, Array.length_toList]; exact hsz
    rw [this] <;> rfl
theorem max_raw (hh : A.handled = none) (hl : s.heap.IsList l its.toArray) (hi : IntsAre its ns)
    (h0 : ns = [] → ∀ h' tk, (∀ b o, s.heap.get? b = some o → h'.get? b = some o) → Q dv { s with heap := h', toks := tk })
    (h : ∀ h' tk M t', (∀ b o, s.heap.get? b = some o → h'.get? b = some o) → M ∈ ns → (∀ a, a ∈ ns → a ≤ M) → Q (.int M t') { s with heap := h', toks := tk }) : wpAny (model prog w) A (call (.builtin "max") [.ref l] [("default", dv)]) Q E s := by
  obtain ⟨xs, e⟩ := hi.allInts.items
  have hn : numsOf (intItems xs).toList = ns := by rw [← e]; exact hi.numsOf
  rw [nums_intItems] at hn
  subst hn
  rw [e] at hl
  refine call_max (iter_intList hl fun s₂ e st hfp hlI => ?_)
  subst e
  refine ⟨_, _, _, _, _, _, _, rfl, Walks.list (A := A.in1) hh _ l hlI (intItems xs), st, hfp, CmpOf.ints_gt (numAt xs) (fun _ _ => intItems_at), fun hne v h' tk hP hk => ?_, fun he h' tk hk => ?_⟩
  · have hsz : 0 < xs.size := by simpa [intItems] using hne
    have hv : (intItems xs)[argBest (fun i j => decide (numAt xs i > numAt xs j)) (xs.size - 1)]? = some v := by simpa [intItems] using hP
    obtain ⟨t, rfl⟩ := intItems_at hv
    obtain ⟨h1, h2⟩ := argBest_gt (numAt xs) (xs.size - 1)
    refine h h' tk _ t (old_kept hk) ?_ fun a ha => ?_
    · rw [numAt_eq]; exact PySem.getD_mem (by rw [List.length_map, Array.length_toList]; omega)
    · obtain ⟨j, hj, rfl⟩ := mem_getD ha
      rw [List.length_map, Array.length_toList] at hj
      rw [← numAt_eq]; exact h2 j (by omega)
  · have hsz : xs.size = 0 := by simpa [intItems] using he
    refine h0 ?_ h' tk (old_kept hk)
    have : xs.toList = [] := by rw [← List.length_eq_zero_iff, Array.length_toList]; exact hsz
    rw [this] <;> rfl
end
def rDfl (K : PySem.W.Frag) (mx : Bool) : List V → List V → Hp → VK → Prop := fun vs zs H Q => ∃ (a : Addr) (ns : List Int) (d : V), vs = [V.ref a] ∧ zs = [d] ∧ SqL K H a (ns.map V.int) ∧ (ns = [] → Q d H) ∧ ∀ m, m ∈ ns → (∀ y, y ∈ ns → if mx = true then y ≤ m else m ≤ y) → Q (.int m) H
section
variable {X : Cx}
theorem cr_dfl (mx : Bool) (hc : X.calm = true) : CallRK X (.builtin (if mx = true then "max" else "min")) [Str.ofString "default"] (rDfl X.K mx) := by
  intro pins s σ H vs zs us ws Q I r rz h
  obtain ⟨a, ns, d, rfl, rfl, hs, q0, q⟩ := h
  obtain rfl := Vals.ref1 r
  obtain ⟨w1, rfl, e1⟩ := vals1 rz
  obtain ⟨its, rv, hl, _⟩ := I.list hs
  cases mx with
  | false => exact min_raw (I.ok.hd hc) hl.isList rv.ints (fun e h' tk hk => ⟨d, H, I.kept hk, e1, q0 e⟩) fun h' tk m t' hk h1 h2 => ⟨.int _, H, I.kept hk, ⟨_, rfl⟩, q m h1 (by simpa using h2)⟩
  | true => exact max_raw (I.ok.hd hc) hl.isList rv.ints (fun e h' tk hk => ⟨d, H, I.kept hk, e1, q0 e⟩) fun h' tk m t' hk h1 h2 => ⟨.int _, H, I.kept hk, ⟨_, rfl⟩, q m h1 (by simpa using h2)⟩
end
end VIM
/-! VIP: min of a list of pairs of ints. -/
namespace VIP
open PySem
section
variable {prog : Program} {w : World} {A : Around} {R : Result → Shared → Prop} {I : Addr} {fp wr : List Addr} {n : Nat} {P : Nat → Value → Prop} {St : Nat → Heap → Prop} {T : Heap → Prop}
theorem loop_p (W : Walks prog w A.in1 I fp wr n P St) (bt : Nat → Nat → Bool) (hcmp : ∀ i j vi vj (s : Shared) (Q : Value → Shared → Prop) (E : Value → Shared → Prop), T s.heap → P i vi → P j vj → Q (.bool (bt i j)) s → wpAny (model prog w) A.in1 (richCompare .Lt vi vj) Q E s) (S : Addr) (hSf : S ∉ fp) (hT : ∀ h h', T h → (∀ b o, b ∉ wr → b ≠ S → h.get? b = some o → h'.get? b = some o) → T h') :
    ∀ (k j : Nat) (s : Shared) (vb : Value) (c : Nat), n - (j + 1) = k → j + 1 ≤ n → St (j + 1) s.heap → T s.heap → P (argBest bt j) vb →
    s.heap.get? S = some { cls := .type "list", dict := none, data := .seq #[vb, vb] c, slots := #[] } →
    (∀ v h' tk, P (argBest bt (n - 1)) v → (∀ b o, b ∉ wr → b ≠ S → s.heap.get? b = some o → h'.get? b = some o) → R (.ok (.ret v)) { s with heap := h', toks := tk }) →
    codeAny (model prog w) A (.builtin "min.loop" ⟨[.ref I, .none, .ref S], []⟩) R s := by
  have hSw : S ∉ wr := fun h => hSf (W.sub _ h)
  have hname : (toString "min" ++ toString ".loop" : String) = "min.loop" := by decide
  intro k
  induction k with
  | zero =>
    intro j s vb c hk hj hst hTs hPb hS hR
    have hin : j + 1 = n := by omega
    refine codeAny_builtin F.entry_min_loop ?_
    rw [Around.under_plainId F.plain_min_loop _]
    show wpAny _ A.in1 (seqItems? (.ref S) >>= _) _ _ s
    refine wpAny_bind (wpAny_seqItems hS rfl ?_)
    show wpAny _ A.in1 (tryCatch (pyNext (.ref I)) _ >>= _) _ _ s
    refine wpAny_bind (wpAny_tryCatch (W.done s _ _ (hin ▸ hst) fun h' tk hk' => ?_))
    have hS' := hk' S _ hSw hS
    show wpAny _ A.in1 (updateSeq S (fun _ => #[]) >>= _) _ _ _
    refine wpAny_bind ?_
    refine wpAny_updateSeq hS' rfl (wpAny_bind (wpAny_letGo (wpAny_pure ?_)))
    refine hR vb _ tk (by rw [← hin]; exact hPb) fun b o hbw hbS e => (Heap.get?_update_other _ _ (Ne.symm hbS)).trans (hk' b o hbw e)
  | succ k ih =>
    intro j s vb c hk hj hst hTs hPb hS hR
    have hlt : j + 1 < n := by omega
    refine codeAny_builtin F.entry_min_loop ?_
    rw [Around.under_plainId F.plain_min_loop _]
    show wpAny _ A.in1 (seqItems? (.ref S) >>= _) _ _ s
    refine wpAny_bind (wpAny_seqItems hS rfl ?_)
    show wpAny _ A.in1 (tryCatch (pyNext (.ref I)) _ >>= _) _ _ s
    refine wpAny_bind (wpAny_tryCatch (W.item (j + 1) s _ _ hlt hst fun v h' tk hP hst' hk' => ?_))
    have hS' := hk' S _ hSw hS
    have hT1 := hT _ _ hTs fun b o hb _ e => hk' b o hb e
    show wpAny _ A.in1 (tryCatch (holding [v, v] (richCompare .Lt v vb >>= _)) _ >>= _) _ _ _
    refine wpAny_bind (wpAny_tryCatch (wpAny_holding (wpAny_bind (hcmp (j + 1) (argBest bt j) v vb _ _ _ hT1 hP hPb ?_))))
    refine wpAny_bind (wpAny_holding (wpAny_truthy_bool ?_))
    refine wpAny_bind (wpAny_letGo (wpAny_pure ?_))
    cases hb : bt (j + 1) (argBest bt j) with
    | true =>
      simp only [if_true]
      refine wpAny_bind ?_
      refine wpAny_updateSeq hS' rfl (wpAny_bind (wpAny_letGo ?_))
      rw [hname]
      refine wpAny_pure ⟨plainId_quiet F.plain_min_loop _, ih (j + 1) _ v _ (by omega) hlt (W.frame _ _ _ hst' fun b hbf o e => ?_) (hT _ _ hT1 fun b o _ hb e => (Heap.get?_update_other _ _ (Ne.symm hb)).trans e) (by simp only [argBest, hb, if_true]; exact hP) (Heap.get?_update_self _ hS' rfl)
        fun v' h'' tk'' hP' hk'' => ?_⟩
      · exact (Heap.get?_update_other _ _ (fun h : S = b => hSf (by rw [h]; exact hbf))).trans e
      · exact hR v' h'' tk'' hP' fun b o hbw hbS e => hk'' b o hbw hbS ((Heap.get?_update_other _ _ (Ne.symm hbS)).trans (hk' b o hbw e))
    | false =>
      simp only [Bool.false_eq_true, if_false]
      refine wpAny_bind (wpAny_letGo ?_)
      rw [hname]
      refine wpAny_pure ⟨plainId_quiet F.plain_min_loop _, ih (j + 1) _ vb c (by omega) hlt hst' hT1 (by simp only [argBest, hb, Bool.false_eq_true, if_false]; exact hPb) hS' fun v' h'' tk'' hP' hk'' => ?_⟩
      exact hR v' h'' tk'' hP' fun b o hbw hbS e => hk'' b o hbw hbS (hk' b o hbw e)
theorem first_p (W : Walks prog w A.in1 I fp wr n P St) (bt : Nat → Nat → Bool) (hcmp : ∀ i j vi vj (s : Shared) (Q : Value → Shared → Prop) (E : Value → Shared → Prop), T s.heap → P i vi → P j vj → Q (.bool (bt i j)) s → wpAny (model prog w) A.in1 (richCompare .Lt vi vj) Q E s) (S : Addr) (hSf : S ∉ fp) (hT : ∀ h h', T h → (∀ b o, b ∉ wr → b ≠ S → h.get? b = some o → h'.get? b = some o) → T h') (hn : 0 < n) {s : Shared} {c : Nat} (hst : St 0 s.heap) (hTs : T s.heap)
    (hS : s.heap.get? S = some { cls := .type "list", dict := none, data := .seq #[] c, slots := #[] })
    (hR : ∀ v h' tk, P (argBest bt (n - 1)) v → (∀ b o, b ∉ wr → b ≠ S → s.heap.get? b = some o → h'.get? b = some o) → R (.ok (.ret v)) { s with heap := h', toks := tk }) :
    codeAny (model prog w) A (.builtin "min.loop" ⟨[.ref I, .none, .ref S], []⟩) R s := by
  have hSw : S ∉ wr := fun h => hSf (W.sub _ h)
  have hname : (toString "min" ++ toString ".loop" : String) = "min.loop" := by decide
  refine codeAny_builtin F.entry_min_loop ?_
  rw [Around.under_plainId F.plain_min_loop _]
  show wpAny _ A.in1 (seqItems? (.ref S) >>= _) _ _ s
  refine wpAny_bind (wpAny_seqItems hS rfl ?_)
  show wpAny _ A.in1 (tryCatch (pyNext (.ref I)) _ >>= _) _ _ s
  refine wpAny_bind (wpAny_tryCatch (W.item 0 s _ _ hn hst fun v h' tk hP hst' hk' => ?_))
  have hS' := hk' S _ hSw hS
  have hT1 := hT _ _ hTs fun b o hb _ e => hk' b o hb e
  show wpAny _ A.in1 (updateSeq S (fun _ => #[v, v]) >>= _) _ _ _
  refine wpAny_bind ?_
  refine wpAny_updateSeq hS' rfl ?_
  rw [hname]
  refine wpAny_pure ⟨plainId_quiet F.plain_min_loop _, loop_p W bt hcmp S hSf hT _ 0 _ v _ rfl hn (W.frame _ _ _ hst' fun b hbf o e => ?_) (hT _ _ hT1 fun b o _ hb e => (Heap.get?_update_other _ _ (Ne.symm hb)).trans e) hP (Heap.get?_update_self _ hS' rfl) fun v' h'' tk'' hP' hk'' => ?_⟩
  · exact (Heap.get?_update_other _ _ (fun h : S = b => hSf (by rw [h]; exact hbf))).trans e
  · exact hR v' h'' tk'' hP' fun b o hbw hbS e => hk'' b o hbw hbS ((Heap.get?_update_other _ _ (Ne.symm hbS)).trans (hk' b o hbw e))
end
section
variable {prog : Program} {w : World} {A : Around} {E : Value → Shared → Prop} {s : Shared} {T : Heap → Prop}
theorem call_p {x : Value} {Q : Value → Shared → Prop}
    (h : wpAny (model prog w) A.in1 (pyIter x) (fun it s₂ => ∃ I fp wr n P St bt, it = .ref I ∧ Walks prog w A.in1 I fp wr n P St ∧ St 0 s₂.heap ∧ (∀ b ∈ fp, b < s₂.heap.objs.size) ∧ 0 < n ∧ (∀ i j vi vj (s : Shared) (Q : Value → Shared → Prop) (E : Value → Shared → Prop), T s.heap → P i vi → P j vj → Q (.bool (bt i j)) s → wpAny (model prog w) A.in1 (richCompare .Lt vi vj) Q E s) ∧ T (s₂.heap.push { cls := .type "list", data := .seq #[] }) ∧ (∀ h h', T h → (∀ b o, b ∉ wr → b ≠ s₂.heap.objs.size → h.get? b = some o → h'.get? b = some o) → T h') ∧
      ∀ v h' tk, P (argBest bt (n - 1)) v → (∀ b o, b ∉ wr → s₂.heap.get? b = some o → h'.get? b = some o) → Q v { s₂ with heap := h', toks := tk }) E s) :
    wpAny (model prog w) A (call (.builtin "min") [x]) Q E s := by
  have hname : (toString "min" ++ toString ".loop" : String) = "min.loop" := by decide
  refine call_function_tree F.kind_min F.plain_min F.entry_min (F.args_min1 _) ?_
  show wpAny _ A.in1 (Builtin.Builtins.bindParams "min" ["key", "default"] 0 ⟨[], []⟩ >>= _) _ _ s
  refine wpAny_bind (wpAny_of_eq (show Builtin.Builtins.bindParams "min" ["key", "default"] 0 ⟨[], []⟩ = pure [none, none] from rfl) ?_)
  refine wpAny_bind (wpAny_pure ?_)
  refine wpAny_bind (wpAny_mono h (fun it s₂ h₂ => ?_) fun _ _ e => e)
  obtain ⟨I, fp, wr, n, P, St, bt, rfl, W, hst, hfp, hn, hcmp, hT0, hTf, hQ⟩ := h₂
  refine wpAny_bind (wpAny_newObj_type ?_)
  have hSf : s₂.heap.objs.size ∉ fp := fun hm => Nat.lt_irrefl _ (hfp _ hm)
  rw [hname]
  refine wpAny_pure ⟨plainId_quiet F.plain_min_loop _, first_p W bt hcmp s₂.heap.objs.size hSf hTf hn (W.frame _ _ _ hst fun b _ o e => Heap.get?_push_of_some _ e) hT0 (Heap.get?_push_size _ rfl) fun v h' tk hP hk => ?_⟩
  exact hQ v h' tk hP fun b o hbw e => hk b o hbw (Nat.ne_of_lt (Heap.lt_size e)) (Heap.get?_push_of_some _ e)
end
end VIP
/-! VIP2: min of a list of pairs of ints, as a rule. -/
namespace VIP
open PySem PySem.Spec PyProof.Rows L2
theorem argBest_lex (num : Nat → Int × Int) : ∀ k, argBest (fun i j => SrtO.lexB (num i) (num j)) k ≤ k ∧ ∀ j, j ≤ k → SrtO.lexB (num j) (num (argBest (fun i j => SrtO.lexB (num i) (num j)) k)) = false
  | 0 => ⟨Nat.le_refl _, fun j hj => by
    have : j = 0 := by omega
    subst this
    exact SrtO.lexB_no.mpr (by simp [argBest])⟩
  | k + 1 => by
    obtain ⟨h1, h2⟩ := argBest_lex num k
    cases hb : SrtO.lexB (num (k + 1)) (num (argBest (fun i j => SrtO.lexB (num i) (num j)) k)) with
    | true =>
      have e : argBest (fun i j => SrtO.lexB (num i) (num j)) (k + 1) = k + 1 := by simp only [argBest, hb, if_true]
      rw [e]
      refine ⟨Nat.le_refl _, fun j hj => ?_⟩
      rcases Nat.lt_or_ge j (k + 1) with q | q
      · have a := SrtO.lexB_no.mp (h2 j (by omega))
        have b := SrtO.lexB_iff.mp hb
        exact SrtO.lexB_no.mpr (by omega)
      · have : j = k + 1 := by omega
        subst this
        exact SrtO.lexB_no.mpr (by omega)
    | false =>
      have e : argBest (fun i j => SrtO.lexB (num i) (num j)) (k + 1) = argBest (fun i j => SrtO.lexB (num i) (num j)) k := by simp only [argBest, hb, Bool.false_eq_true, if_false]
      rw [e]
      refine ⟨by omega, fun j hj => ?_⟩
      rcases Nat.lt_or_ge j (k + 1) with q | q
      · exact h2 j (by omega)
      · have : j = k + 1 := by omega
        subst this
        exact hb
def rMinP (K : PySem.W.Frag) : List V → Hp → VK → Prop := fun vs H Q => ∃ (a : Addr) (xs : List V) (k : Nat → Int × Int), vs = [V.ref a] ∧ SqL K H a xs ∧ 0 < xs.length ∧ (∀ i x, xs[i]? = some x → ∃ t, x = V.ref t ∧ SqT K H t [.int (k i).1, .int (k i).2]) ∧
  ∀ i x, xs[i]? = some x → (∀ j, j < xs.length → SrtO.lexB (k j) (k i) = false) → Q x H
theorem cr_minP {X : Cx} (hc : X.calm = true) (hu : X.A.units + 10 < cLine) : CallR X (.builtin "min") (rMinP X.K) := by
  intro pins s σ H vs us Q I r h
  obtain ⟨a, xs, k, rfl, hs, hne, hk, q⟩ := h
  obtain ⟨its, rv, hl, hz⟩ := I.list hs
  rw [Vals.ref1 r]
  have hlen : xs.length = its.length := rv.length
  -- the items are pairs
  have tp : ∀ (i : Nat) (v : Value), its.toArray[i]? = some v → ∃ (t : Addr) (t1 t2 : Tok), v = .ref t ∧ s.heap.IsTuple t #[.int (k i).1 t1, .int (k i).2 t2] ∧ xs[i]? = some (V.ref t) := fun i v hv => by
    have hv' : its[i]? = some v := by simpa using hv
    have hi : i < xs.length := by rw [hlen]; exact (List.getElem?_eq_some_iff.mp hv').1
    obtain ⟨u, e1, e2⟩ := rv.get (List.getElem?_eq_getElem hi)
    rw [hv'] at e1
    cases e1
    obtain ⟨t, e3, ht⟩ := hk i _ (List.getElem?_eq_getElem hi)
    rw [e3] at e2
    have e2 : v = Value.ref t := e2
    subst e2
    obtain ⟨its2, r2, p2, _⟩ := I.tuple ht
    obtain ⟨u1, u2, rfl, ⟨t1, rfl⟩, ⟨t2, rfl⟩⟩ := vals2 r2
    exact ⟨t, t1, t2, rfl, p2, by rw [List.getElem?_eq_getElem hi, e3]⟩
  have hla : a < s.heap.objs.size := by obtain ⟨_, e, _⟩ := hl.isList; exact Heap.lt_size e
  refine call_p (T := fun h => ∀ (t : Addr) (o : Obj), t < s.heap.objs.size → s.heap.get? t = some o → h.get? t = some o) (wpAny_pyIter_list hl.isList ?_)
  have hlI : a ≠ s.heap.objs.size := Nat.ne_of_lt hla
  refine ⟨_, _, _, _, _, _, fun i j => SrtO.lexB (k i) (k j), rfl, Walks.list (A := X.A.in1) (I.ok.hd hc) _ a hlI its.toArray, ⟨⟨_, Heap.get?_push_size _ rfl, rfl, rfl⟩, hl.isList.push _⟩, ?_, ?_, ?_, ?_, ?_, ?_⟩
  · intro b hb
    show b < (s.heap.push _).objs.size
    rw [Heap.size_push]
    rcases List.mem_cons.mp hb with rfl | hb
    · exact Nat.lt_succ_self _
    · rcases List.mem_cons.mp hb with rfl | hb
      · exact Nat.lt_succ_of_lt hla
      · cases hb
  · simp; omega
  · intro i j vi vj s' Q' E' hT hPi hPj hQ
    obtain ⟨ti, t1, t2, rfl, h1, _⟩ := tp i vi hPi
    obtain ⟨tj, t3, t4, rfl, h2, _⟩ := tp j vj hPj
    have up : ∀ {t : Addr} {items : Array Value}, s.heap.IsTuple t items → s'.heap.IsTuple t items := fun {t items} ⟨o, e, z⟩ => ⟨o, hT t o (Heap.lt_size e) e, z⟩
    have R := Ob.RcOp.tuples_lt (A := X.A.in1) (s := s') (e := fun m => if m = 0 then (k i).1 == (k j).1 else (k i).2 == (k j).2) (r := fun m => if m = 0 then decide ((k i).1 < (k j).1) else decide ((k i).2 < (k j).2)) (up h1) (up h2)
      (by show X.A.units + 1 < cLine; omega) (fun m g1 g2 => by
        match m, g1, g2 with
        | 0, _, _ => exact SeqAt.EqAt.int_int _ _ _ _
        | 1, _, _ => exact SeqAt.EqAt.int_int _ _ _ _
        | m + 2, g1, _ => exact absurd g1 (by simp)) (fun m g1 g2 _ => by
        match m, g1, g2 with
        | 0, _, _ => exact Ob.RcOp.lt_int _ _ _ _
        | 1, _, _ => exact Ob.RcOp.lt_int _ _ _ _
        | m + 2, g1, _ => exact absurd g1 (by simp))
    refine R X.prog X.w E' Q' ?_
    have e : Ob.lexAt (fun m => if m = 0 then (k i).1 == (k j).1 else (k i).2 == (k j).2) (fun m => if m = 0 then decide ((k i).1 < (k j).1) else decide ((k i).2 < (k j).2)) (decide (2 < 2)) 0 2 = SrtO.lexB (k i) (k j) := by
      unfold SrtO.lexB
      by_cases q1 : (k i).1 = (k j).1
      · rw [if_pos q1]
        simp only [Ob.lexAt, q1]
        by_cases q2 : (k i).2 = (k j).2
        · simp [q2]
        · simp [q2]
      · rw [if_neg q1]
        simp [Ob.lexAt, q1]
    have hQ' : Q' (.bool (Ob.lexAt (fun m => if m = 0 then (k i).1 == (k j).1 else (k i).2 == (k j).2) (fun m => if m = 0 then decide ((k i).1 < (k j).1) else decide ((k i).2 < (k j).2)) (decide (2 < 2)) 0 2)) s' := by rw [e]; exact hQ
    exact hQ'
  · intro t o _ e
    exact Heap.get?_push_of_some _ (Heap.get?_push_of_some _ e)
  · intro h h' hT hkp t o ht e
    refine hkp t o ?_ ?_ (hT t o ht e)
    · simp only [List.mem_cons, List.mem_singleton, List.not_mem_nil, or_false]
      exact Nat.ne_of_lt ht
    · show t ≠ (s.heap.push _).objs.size
      rw [Heap.size_push]
      exact Nat.ne_of_lt (Nat.lt_succ_of_lt ht)
  · intro v h' tk hP hkp
    have hP : its.toArray[argBest (fun i j => SrtO.lexB (k i) (k j)) (its.toArray.size - 1)]? = some v := hP
    obtain ⟨t, t1, t2, rfl, h1, h2⟩ := tp _ v hP
    obtain ⟨b1, b2⟩ := argBest_lex k (its.toArray.size - 1)
    refine ⟨.ref t, H, I.kept (fun b o e => ?_), rfl, q _ _ h2 fun j hj => b2 j (by simp; omega)⟩
    refine hkp b o (fun z => ?_) (Heap.get?_push_of_some _ e)
    rcases List.mem_cons.mp z with e1 | z
    · exact absurd (e1 ▸ Heap.lt_size e) (Nat.lt_irrefl _)
    · cases z
end VIP
/-! VI1: plain data, slots, the small language and its evaluation. -/
namespace VI
open PySem L2

/-- plain data -/
inductive D where
  | non | bl (b : Bool) | int (i : Int) | str (s : Str) | tup (xs : List D) | lst (xs : List D)
  /-- the script: a list of ints that is only read -/
  | scr (ns : List Int)

/-- a slot of a def: nothing, a value that never changes again, a list held by this slot alone (io: lent by the caller), the same while it is walked -/
inductive Sl where
  | un | fz (d : D) | ow (io : Bool) (d : D) | lk (io : Bool) (d : D)
abbrev En := List Sl

/-- what an expression gives: a value, a new list that nothing else holds, the list of a slot -/
inductive Op where
  | v (d : D) | nw (d : D) | p (i : Nat)

def rd (env : En) : Op → Option D
  | .v d => some d
  | .nw d => some d
  | .p i => match env[i]? with
    | some (.fz d) => some d
    | some (.ow _ d) => some d
    | some (.lk _ d) => some d
    | _ => none
def rds (env : En) : List Op → Option (List D)
  | [] => some []
  | o :: os => (rd env o).bind fun d => (rds env os).map fun ds => d :: ds
/-- the value is kept somewhere else, too: it never changes again -/
def esc (env : En) : Op → Option (D × En)
  | .v d => some (d, env)
  | .nw d => some (d, env)
  | .p i => match env[i]? with
    | some (.fz d) => some (d, env)
    | some (.ow false d) => some (d, env.set i (.fz d))
    | _ => none
def Op.frz : Op → Op
  | .nw d => .v d
  | o => o

inductive Ty where | int | bool | str | tuple | list | none
/-- built-in functions -/
inductive Bf where | len | int | abs | tuple | list | sorted | sum | max | min | any | all | str | bool | minp
  deriving DecidableEq
/-- methods that change a list -/
inductive Mf where | append | pop | reverse | extend | insert | remove | clear | sort
  deriving DecidableEq
/-- other methods -/
inductive Ms where | index | count | join
  deriving DecidableEq

/-! targets -/
mutual
inductive T where | nm (i : Nat) | tup (ts : Ts)
inductive Ts where | nil | cons (t : T) (ts : Ts)
end

mutual
inductive E where
  | nm (i : Nat) | lit (d : D)
  | bin (op : Operator) (a b : E) | un (op : UnaryOp) (a : E)
  | cmp (op : CmpOp) (a b : E) | cmp2 (op op' : CmpOp) (a b c : E)
  | and (es : Es) | or (es : Es)
  | ifx (c : C) (a b : E) | tup (es : Es) | lst (es : Es)
  | idx (a b : E) | sli (a : E) (lo hi : OE)
  | call (f : Nat) (es : Es) | blt (b : Bf) (es : Es) | rng (tp : Bool) (a : E) (b : OE)
  | isi (a : E) (ts : List Ty)
  | mth (m : Mf) (i : Nat) (es : Es)
  | mt (m : Ms) (a : E) (es : Es)
  | lc (vs : List Nat) (el : E) (t : T) (it : I) (c : OC)
  | lc2 (vs vs1 : List Nat) (el : E) (t : T) (it : I) (c : OC) (t1 : T) (it1 : I) (c1 : OC)
  /-- what the run never comes to -/
  | never
  /-- sorted(set(..)), ints -/
  | srtset (e : E)
  /-- min(.., default=..), max -/
  | dfl (mx : Bool) (a d : E)
  /-- a.bit_length(), gcd(a, b), a.index(b) -/
  | bits (a : E) | gcd (a b : E) | ixof (a b : E)
inductive Es where | nil | cons (e : E) (es : Es)
inductive OE where | no | so (e : E)
inductive C where
  | val (e : E) | and (cs : Cs) | or (cs : Cs) | not (c : C) | ifc (c : C) (a b : E) | cmp (op : CmpOp) (a b : E) | cmp2 (op op' : CmpOp) (a b c : E)
inductive Cs where | nil | cons (c : C) (cs : Cs)
inductive OC where | no | so (c : C)
inductive I where | seq (e : E) | rng1 (a : E) | rng2 (a b : E) | rng3 (a b c : E) | enum (e : E) | zip (a b : E) | zip3 (a b c : E) | rev (e : E)
end
end VI
/-! VI2: operations on plain data, evaluation. -/
namespace VI
open PySem L2

mutual
def D.toP : D → PyData
  | .non => .none | .bl b => .bool b | .int i => .int i | .str s => .str s | .tup xs => .tuple (toPs xs) | .lst xs => .list (toPs xs) | .scr _ => .dict []
def toPs : List D → List PyData
  | [] => [] | x :: xs => x.toP :: toPs xs
end
/-- a value that == may be asked of -/
def okD (d : D) : Bool := SeqAt.shaped d.toP
def deq (d e : D) : Bool := PyData.eqv d.toP e.toP
def flatD : D → Bool
  | .non => true | .bl _ => true | .int _ => true | .str _ => true | _ => false

instance (i j : Int) : Decidable (CMul i j) := by unfold CMul; infer_instance
instance (i j : Int) : Decidable (CMulW i j) := by unfold CMulW; infer_instance
instance (i j : Int) : Decidable (CDiv i j) := by unfold CDiv; infer_instance
instance (i j : Int) : Decidable (CDivW i j) := by unfold CDivW; infer_instance
def mulOk (i j : Int) : Bool := decide (CMul i j) || decide (CMulW i j)
def divOk (i j : Int) : Bool := decide (CDiv i j) || decide (CDivW i j)
instance (i j : Int) : Decidable (CPow i j) := by unfold CPow; infer_instance

def binS : Operator → D → D → Option Op
  | .Add, .int i, .int j => some (.v (.int (i + j)))
  | .Add, .str x, .str y => if x.length + y.length ≤ sizeLine then some (.v (.str (x ++ y))) else none
  | .Add, .lst xs, .lst ys => if xs.length + ys.length ≤ sizeLine then some (.nw (.lst (xs ++ ys))) else none
  | .Add, .tup xs, .tup ys => if xs.length + ys.length ≤ sizeLine then some (.v (.tup (xs ++ ys))) else none
  | .Sub, .int i, .int j => some (.v (.int (i - j)))
  | .Mult, .int i, .int j => if mulOk i j then some (.v (.int (i * j))) else none
  | .Mult, .lst xs, .int k => if -(2 ^ 63) ≤ k ∧ k < 2 ^ 63 ∧ xs.length * k.toNat ≤ sizeLine then some (.nw (.lst (List.replicate k.toNat xs).flatten)) else none
  | .Mult, .tup xs, .int k => if 0 < xs.length ∧ 0 ≤ k ∧ k ≤ 1000 ∧ xs.length ≤ 1000 then some (.v (.tup (List.replicate k.toNat xs).flatten)) else none
  | .FloorDiv, .int i, .int j => if divOk i j then some (.v (.int (i / j))) else none
  | .Mod, .int i, .int j => if 0 < j then some (.v (.int (i % j))) else none
  | .Pow, .int i, .int j => if CPow i j then some (.v (.int (i ^ j.toNat))) else none
  | .LShift, .int i, .int j => if CPow i j then some (.v (.int (i * 2 ^ j.toNat))) else none
  | .RShift, .int i, .int j => if 0 ≤ j then some (.v (.int (i / 2 ^ j.toNat))) else none
  | .BitAnd, .int i, .int j => some (.v (.int (Builtin.bitAnd i j)))
  | .BitOr, .int i, .int j => some (.v (.int (Builtin.bitOr i j)))
  | .BitXor, .int i, .int j => some (.v (.int (Builtin.bitXor i j)))
  | _, _, _ => none
def unS : UnaryOp → D → Option D
  | .USub, .int i => some (.int (-i))
  | .Invert, .int i => some (.int (Builtin.bitNot i))
  | .Not, .bl b => some (.bl (!b))
  | _, _ => none
def isNon : D → Bool
  | .non => true
  | _ => false
def inS (x : D) : D → Option Bool
  | .lst ds => if okD x && okD (.lst ds) then some (ds.any fun z => deq z x) else none
  | .tup ds => if flatD x && ds.all flatD then some (ds.any fun z => deq z x) else none
  | _ => none
def cmpS : CmpOp → D → D → Option Bool
  | .Lt, .int i, .int j => some (decide (i < j))
  | .LtE, .int i, .int j => some (decide (i ≤ j))
  | .Gt, .int i, .int j => some (decide (j < i))
  | .GtE, .int i, .int j => some (decide (j ≤ i))
  | .Eq, x, y => if okD x && okD y then some (deq x y) else none
  | .NotEq, x, y => if okD x && okD y then some (!deq x y) else none
  | .Is, x, .non => some (isNon x)
  | .IsNot, x, .non => some (!isNon x)
  | .Is, .bl a, .bl b => some (a == b)
  | .IsNot, .bl a, .bl b => some (!(a == b))
  | .In, x, y => inS x y
  | .NotIn, x, y => (inS x y).map (!·)
  | _, _, _ => none
def idxS : D → D → Option D
  | .lst xs, .int i => atI xs i
  | .tup xs, .int i => atI xs i
  | .str z, .int i => if z.length ≤ sizeLine then (atI z.cps.toList i).map fun c => .str ⟨#[c]⟩ else none
  | _, _ => none
def cutD (xs : List D) (lo hi : Option Int) : List D := (xs.drop (HT.sIx xs.length 0 lo)).take (HT.sIx xs.length xs.length hi - HT.sIx xs.length 0 lo)
def slS : D → Option Int → Option Int → Option Op
  | .lst xs, lo, hi => some (.nw (.lst (cutD xs lo hi)))
  | .tup xs, lo, hi => some (.v (.tup (cutD xs lo hi)))
  | _, _, _ => none
def intD : D → Option Int
  | .int i => some i
  | _ => none
def blD : D → Option Bool
  | .bl b => some b
  | _ => none
def strD : D → Option Str
  | .str s => some s
  | _ => none
def intsD : List D → Option (List Int)
  | [] => some []
  | .int i :: r => (intsD r).map (i :: ·)
  | _ :: _ => none
def blsD : List D → Option (List Bool)
  | [] => some []
  | .bl i :: r => (blsD r).map (i :: ·)
  | _ :: _ => none
def maxL : List Int → Int
  | [] => 0
  | [x] => x
  | x :: y :: r => max x (maxL (y :: r))
def minL : List Int → Int
  | [] => 0
  | [x] => x
  | x :: y :: r => min x (minL (y :: r))
def pairsD : List D → Option (List (Int × Int))
  | [] => some []
  | .tup [.int a, .int b] :: r => (pairsD r).map ((a, b) :: ·)
  | _ :: _ => none
def minPr : List (Int × Int) → Int × Int
  | [] => (0, 0)
  | [p] => p
  | p :: q :: r => if SrtO.lexB (minPr (q :: r)) p = true then minPr (q :: r) else p
def itemsOf : D → Option (List D)
  | .lst xs => some xs
  | .tup xs => some xs
  | .scr ns => some (ns.map .int)
  | _ => none
def bltS : Bf → List D → Option Op
  | .len, [.lst xs] => some (.v (.int xs.length))
  | .len, [.tup xs] => some (.v (.int xs.length))
  | .len, [.scr xs] => some (.v (.int xs.length))
  | .len, [.str z] => if z.length ≤ sizeLine then some (.v (.int z.length)) else none
  | .int, [.int i] => some (.v (.int i))
  | .int, [.bl b] => some (.v (.int (if b then 1 else 0)))
  | .abs, [.int i] => some (.v (.int (if i < 0 then -i else i)))
  | .tuple, [.lst xs] => some (.v (.tup xs))
  | .tuple, [.tup xs] => some (.v (.tup xs))
  | .list, [.lst xs] => some (.nw (.lst xs))
  | .list, [.tup xs] => some (.nw (.lst xs))
  | .sorted, [.lst xs] => (intsD xs).map fun ns => .nw (.lst ((ns.mergeSort (· ≤ ·)).map .int))
  | .sum, [.lst xs] => (intsD xs).map fun ns => .v (.int ns.sum)
  | .max, [.lst xs] => (intsD xs).bind fun ns => if 0 < ns.length then some (.v (.int (maxL ns))) else none
  | .min, [.lst xs] => (intsD xs).bind fun ns => if 0 < ns.length then some (.v (.int (minL ns))) else none
  | .minp, [.lst xs] => (pairsD xs).bind fun ps => if 0 < ps.length then some (.v (.tup [.int (minPr ps).1, .int (minPr ps).2])) else none
  | .max, [.int i, .int j] => some (.v (.int (if j > i then j else i)))
  | .min, [.int i, .int j] => some (.v (.int (if j < i then j else i)))
  | .any, [.lst xs] => (blsD xs).map fun bs => .v (.bl (bs.any id))
  | .all, [.lst xs] => (blsD xs).map fun bs => .v (.bl (bs.all id))
  | _, _ => none
def Ty.has : Ty → D → Bool
  | .int, .int _ => true | .int, .bl _ => true | .bool, .bl _ => true | .str, .str _ => true | .tuple, .tup _ => true | .list, .lst _ => true | .list, .scr _ => true
  | _, _ => false
/-- a method that changes the list xs: its value, the list behind it -/
def mthS : Mf → List D → List D → Option (D × List D)
  | .append, xs, [d] => if xs.length < sizeLine then some (.non, xs ++ [d]) else none
  | .pop, xs, [] => match xs.getLast? with
    | some d => some (d, xs.dropLast)
    | none => none
  | .pop, xs, [.int i] => match ixN xs.length i with
    | some k => match xs[k]? with
      | some d => if -(2 ^ 63) ≤ i ∧ i < 2 ^ 63 then some (d, xs.eraseIdx k) else none
      | none => none
    | none => none
  | .reverse, xs, [] => some (.non, xs.reverse)
  | .extend, xs, [.lst ys] => if xs.length + ys.length ≤ sizeLine then some (.non, xs ++ ys) else none
  | .clear, _, [] => some (.non, [])
  | _, _, _ => none
def msS : Ms → D → List D → Option Op
  | _, _, _ => none
def enumD (k : Int) : List D → List D
  | [] => []
  | d :: ds => .tup [.int k, d] :: enumD (k + 1) ds
def zipD : List D → List D → List D
  | d :: ds, e :: es => .tup [d, e] :: zipD ds es
  | _, _ => []
def zip3D : List D → List D → List D → List D
  | d :: ds, e :: es, f :: fs => .tup [d, e, f] :: zip3D ds es fs
  | _, _, _ => []
def zip3S : D → D → D → Option (List D)
  | .lst xs, .lst ys, .lst zs => some (zip3D xs ys zs)
  | .tup xs, .tup ys, .tup zs => some (zip3D xs ys zs)
  | _, _, _ => none
def zipS : D → D → Option (List D)
  | .lst xs, .lst ys => some (zipD xs ys)
  | .tup xs, .tup ys => some (zipD xs ys)
  | _, _ => none
def rngS (i j : Int) : Option (List D) :=
  if -(2 ^ 62) ≤ i ∧ i < 2 ^ 62 ∧ -(2 ^ 62) ≤ j ∧ j < 2 ^ 62 then some ((List.range (j - i).toNat).map fun k => .int (i + (k : Nat))) else none

def rgS (i j : Int) : Option (List D) :=
  if -(2 ^ 62) ≤ i ∧ i < 2 ^ 62 ∧ -(2 ^ 62) ≤ j ∧ j < 2 ^ 62 ∧ (j - i).toNat ≤ 2 ^ 24 then some ((List.range (j - i).toNat).map fun k => .int (i + (k : Nat))) else none

def seqD : D → Option (List D)
  | .lst xs => some xs
  | .tup xs => some xs
  | _ => none
/-- the first place of an equal one -/
def ixS : D → D → D → Option Int
  | .lst _, .lst xs, d => if okD (.lst xs) && okD d then Option.map (fun j : Nat => (j : Int)) (xs.findIdx? fun z => deq z d) else none
  | _, _, _ => none
/-! ### slots -/
def wipeE (env : En) : List Nat → En
  | [] => env
  | v :: vs => (wipeE env vs).set v .un
def putS (env : En) (i : Nat) (s : Sl) : Option En := match env[i]? with
  | some .un => some (env.set i s)
  | some (.fz _) => some (env.set i s)
  | some (.ow false _) => some (env.set i s)
  | _ => none
mutual
def T.put : T → En → D → Option En
  | .nm i, env, d => putS env i (.fz d)
  | .tup ts, env, d => match d with
    | .tup ds => ts.put env ds
    | .lst ds => ts.put env ds
    | _ => none
def Ts.put : Ts → En → List D → Option En
  | .nil, env, ds => match ds with
    | [] => some env
    | _ => none
  | .cons t ts, env, ds => match ds with
    | d :: ds => (t.put env d).bind fun e => ts.put e ds
    | [] => none
end
/-- an argument as the callee has it -/
def toArg (env : En) : Op → Option Sl
  | .v d => some (.fz d)
  | .nw d => some (.fz d)
  | .p i => match env[i]? with
    | some (.fz d) => some (.fz d)
    | some (.ow _ d) => some (.ow true d)
    | some (.lk _ d) => some (.lk true d)
    | _ => none
def toArgs (env : En) : List Op → Option (List Sl)
  | [] => some []
  | o :: os => (toArg env o).bind fun a => (toArgs env os).map (a :: ·)
/-- the lists that were lent, as they are behind the call -/
def backArgs (env : En) : List Op → List Sl → En
  | .p i :: os, .ow _ d :: fs => match env[i]? with
    | some (.ow io _) => backArgs (env.set i (.ow io d)) os fs
    | _ => backArgs env os fs
  | _ :: os, _ :: fs => backArgs env os fs
  | _, _ => env
/-- the places that are lent -/
def lent (env : En) : List Op → List Nat
  | [] => []
  | .p i :: os => match env[i]? with
    | some (.ow _ _) => i :: lent env os
    | some (.lk _ _) => i :: lent env os
    | _ => lent env os
  | _ :: os => lent env os
abbrev CallF := Nat → List Sl → Option (Op × List Sl)

/-- what is walked: its items, the slots that are locked meanwhile (false: one that was locked ahead) -/
def lockS (env : En) : Op → En × List (Nat × Bool)
  | .p i => match env[i]? with
    | some (.ow io d) => (env.set i (.lk io d), [(i, true)])
    | some (.lk _ _) => (env, [(i, false)])
    | _ => (env, [])
  | _ => (env, [])
def unlock (env : En) : List (Nat × Bool) → En
  | [] => env
  | (i, true) :: is => match env[i]? with
    | some (.lk io d) => unlock (env.set i (.ow io d)) is
    | _ => unlock env is
  | (_, false) :: is => unlock env is
def restE (env env0 : En) : List Nat → En
  | [] => env
  | v :: vs => match env0[v]? with
    | some s => (restE env env0 vs).set v s
    | none => restE env env0 vs

def lcLoop (c : En → Option (Bool × En)) (el : En → Option (D × En)) (t : T) (vs : List Nat) : List D → En → Option (List D × En)
  | [], env => some ([], env)
  | d :: ds, env => do
    let env ← t.put env d
    let (b, env) ← c env
    if b then do
      let (y, env) ← el env
      let (ys, env) ← lcLoop c el t vs ds (wipeE env vs)
      return (y :: ys, env)
    else lcLoop c el t vs ds (wipeE env vs)
def lcLoop2 (c : En → Option (Bool × En)) (inner : En → Option (List D × En)) (t : T) (vs : List Nat) : List D → En → Option (List D × En)
  | [], env => some ([], env)
  | d :: ds, env => do
    let env ← t.put env d
    let (b, env) ← c env
    if b then do
      let (ys, env) ← inner env
      let (zs, env) ← lcLoop2 c inner t vs ds (wipeE env vs)
      return (ys ++ zs, env)
    else lcLoop2 c inner t vs ds (wipeE env vs)
def isOwL (env : En) (i : Nat) : Bool := match env[i]? with
  | some (.ow _ (.lst _)) => true
  | _ => false
/-! ### evaluation -/
section
variable (cl : CallF)
mutual
def evE : E → En → Option (Op × En)
  | .nm i, env => match env[i]? with
    | some (.fz d) => some (.v d, env)
    | some (.ow _ _) => some (.p i, env)
    | some (.lk _ _) => some (.p i, env)
    | _ => none
  | .lit d, env => some (.v d, env)
  | .bin op a b, env => do
    let (x, env) ← evB a env
    let (y, env) ← evB b env
    let dx ← rd env x
    let dy ← rd env y
    let r ← binS op dx dy
    return (r, env)
  | .un op a, env => do
    let (x, env) ← evB a env
    let dx ← rd env x
    let r ← unS op dx
    return (.v r, env)
  | .cmp op a b, env => do
    let (x, env) ← evB a env
    let (y, env) ← evB b env
    let dx ← rd env x
    let dy ← rd env y
    let r ← cmpS op dx dy
    return (.v (.bl r), env)
  | .cmp2 op op' a b c, env => do
    let (x, env) ← evB a env
    let (y, env) ← evB b env
    let dx ← rd env x
    let dy ← rd env y
    let r ← cmpS op dx dy
    if r then do
      let (z, env) ← evB c env
      let dy ← rd env y
      let dz ← rd env z
      let r ← cmpS op' dy dz
      return (.v (.bl r), env)
    else return (.v (.bl false), env)
  | .and es, env => evAnd es env
  | .or es, env => evOr es env
  | .ifx c a b, env => do
    let (r, env) ← evC c env
    if r then evE a env else evE b env
  | .tup es, env => do
    let (ds, env) ← evDs es env
    if ds.length ≤ sizeLine then return (.v (.tup ds), env) else none
  | .lst es, env => do
    let (ds, env) ← evDs es env
    if ds.length ≤ sizeLine then return (.nw (.lst ds), env) else none
  | .idx a b, env => do
    let (x, env) ← evB a env
    let (y, env) ← evB b env
    let dx ← rd env x
    let dy ← rd env y
    let r ← idxS dx dy
    return (.v r, env)
  | .sli a lo hi, env => do
    let (x, env) ← evB a env
    let (l, env) ← evO lo env
    let (h, env) ← evO hi env
    let dx ← rd env x
    let r ← slS dx l h
    return (r, env)
  | .call f es, env => do
    let (os, env) ← evBs es env
    let args ← toArgs env os
    if (lent env os).Nodup then do
      let (r, fin) ← cl f args
      return (r, backArgs env os fin)
    else none
  | .blt b es, env => do
    let (os, env) ← evBs es env
    let ds ← rds env os
    let r ← bltS b ds
    return (r, env)
  | .rng tp a b, env => do
    let (x, env) ← evB a env
    let (h, env) ← evO b env
    let dx ← rd env x
    let i ← intD dx
    let ds ← match h with
      | none => rgS 0 i
      | some j => rgS i j
    return (if tp then .v (.tup ds) else .nw (.lst ds), env)
  | .isi a ts, env => do
    let (x, env) ← evB a env
    let dx ← rd env x
    return (.v (.bl (ts.any fun t => t.has dx)), env)
  | .mth m i es, env => do
    if !isOwL env i then none
    let (ds, env) ← evDs es env
    match env[i]? with
    | some (.ow io (.lst xs)) => do
      let (r, ys) ← mthS m xs ds
      return (.v r, env.set i (.ow io (.lst ys)))
    | _ => none
  | .mt m a es, env => do
    let (x, env) ← evB a env
    let (os, env) ← evBs es env
    let dx ← rd env x
    let ds ← rds env os
    let r ← msS m dx ds
    return (r, env)
  | .lc vs el t it c, env => do
    let (items, lk, env1) ← evI it env
    if !(lk.all fun j => !vs.contains j.1) then none
    let (outs, env2) ← lcLoop (fun env => evOC c env) (fun env => do let (o, env) ← evE el env; esc env o) t vs items (wipeE env1 vs)
    if outs.length ≤ sizeLine then return (.nw (.lst outs), unlock (restE env2 env1 vs) lk) else none
  | .lc2 vs vs1 el t it c t1 it1 c1, env => do
    let (items, lk, env1) ← evI it env
    if !(lk.all fun j => !vs.contains j.1) then none
    let (outs, env2) ← lcLoop2 (fun env => evOC c env) (fun env => do
      let (items1, lk1, env1) ← evI it1 env
      if !(lk1.all fun j => !vs1.contains j.1) then none
      let (ys, env2) ← lcLoop (fun env => evOC c1 env) (fun env => do let (o, env) ← evE el env; esc env o) t1 vs1 items1 (wipeE env1 vs1)
      return (ys, unlock (restE env2 env1 vs1) lk1)) t vs items (wipeE env1 vs)
    if outs.length ≤ sizeLine then return (.nw (.lst outs), unlock (restE env2 env1 vs) lk) else none
  | .never, _ => none
  | .srtset e, env => do
    let (x, env) ← evB e env
    let dx ← rd env x
    let xs ← seqD dx
    let ns ← intsD xs
    if ns.length < 64 then return (.nw (.lst ((VIS.srtU ns).map .int)), env) else none
  | .dfl mx a d, env => do
    let (x, env) ← evB a env
    let (y, env) ← evB d env
    let dx ← rd env x
    let dy ← rd env y
    if !flatD dy then none
    match dx with
    | .lst xs => do
      let ns ← intsD xs
      return (.v (if ns.length = 0 then dy else .int (if mx = true then maxL ns else minL ns)), env)
    | _ => none
  | .bits a, env => do
    let (x, env) ← evB a env
    let dx ← rd env x
    let i ← intD dx
    return (.v (.int (Builtin.Int.intBits i : Nat)), env)
  | .gcd a b, env => do
    let (x, env) ← evB a env
    let (y, env) ← evB b env
    let dx ← rd env x
    let dy ← rd env y
    let i ← intD dx
    let j ← intD dy
    return (.v (.int (Nat.gcd i.natAbs j.natAbs : Nat)), env)
  | .ixof a b, env => do
    let (x, env) ← evB a env
    let d0 ← rd env x
    let (y, env) ← evB b env
    let dx ← rd env x
    let dy ← rd env y
    let r ← ixS d0 dx dy
    return (.v (.int r), env)
def evB : E → En → Option (Op × En)
  | e, env => do
    let (o, env) ← evE e env
    return (o.frz, env)
def evAnd : Es → En → Option (Op × En)
  | .nil, _ => none
  | .cons e .nil, env => evE e env
  | .cons e es, env => do
    let (x, env) ← evB e env
    let dx ← rd env x
    let b ← blD dx
    if b then evAnd es env else return (.v (.bl false), env)
def evOr : Es → En → Option (Op × En)
  | .nil, _ => none
  | .cons e .nil, env => evE e env
  | .cons e es, env => do
    let (x, env) ← evB e env
    let dx ← rd env x
    let b ← blD dx
    if b then return (.v (.bl true), env) else evOr es env
def evBs : Es → En → Option (List Op × En)
  | .nil, env => some ([], env)
  | .cons e es, env => do
    let (o, env) ← evB e env
    let (os, env) ← evBs es env
    return (o :: os, env)
def evDs : Es → En → Option (List D × En)
  | .nil, env => some ([], env)
  | .cons e es, env => do
    let (o, env) ← evE e env
    let (d, env) ← esc env o
    let (ds, env) ← evDs es env
    return (d :: ds, env)
def evO : OE → En → Option (Option Int × En)
  | .no, env => some (none, env)
  | .so e, env => do
    let (o, env) ← evB e env
    let d ← rd env o
    let i ← intD d
    return (some i, env)
def evC : C → En → Option (Bool × En)
  | .val e, env => do
    let (o, env) ← evB e env
    let d ← rd env o
    let b ← blD d
    return (b, env)
  | .ifc c a b, env => do
    let (r, env) ← evC c env
    let (o, env) ← if r then evB a env else evB b env
    let d ← rd env o
    let k ← blD d
    return (k, env)
  | .and cs, env => evCand cs env
  | .or cs, env => evCor cs env
  | .not c, env => do
    let (b, env) ← evC c env
    return (!b, env)
  | .cmp op a b, env => do
    let (x, env) ← evB a env
    let (y, env) ← evB b env
    let dx ← rd env x
    let dy ← rd env y
    let r ← cmpS op dx dy
    return (r, env)
  | .cmp2 op op' a b c, env => do
    let (x, env) ← evB a env
    let (y, env) ← evB b env
    let dx ← rd env x
    let dy ← rd env y
    let r ← cmpS op dx dy
    if r then do
      let (z, env) ← evB c env
      let dy ← rd env y
      let dz ← rd env z
      let r ← cmpS op' dy dz
      return (r, env)
    else return (false, env)
def evCand : Cs → En → Option (Bool × En)
  | .nil, _ => none
  | .cons c .nil, env => evC c env
  | .cons c cs, env => do
    let (b, env) ← evC c env
    if b then evCand cs env else return (false, env)
def evCor : Cs → En → Option (Bool × En)
  | .nil, _ => none
  | .cons c .nil, env => evC c env
  | .cons c cs, env => do
    let (b, env) ← evC c env
    if b then return (true, env) else evCor cs env
def evOC : OC → En → Option (Bool × En)
  | .no, env => some (true, env)
  | .so c, env => evC c env
def evI : I → En → Option (List D × List (Nat × Bool) × En)
  | .seq e, env => do
    let (o, env) ← evB e env
    let d ← rd env o
    let ds ← itemsOf d
    let (env, lk) := lockS env o
    return (ds, lk, env)
  | .rng1 a, env => do
    let (x, env) ← evB a env
    let dx ← rd env x
    let i ← intD dx
    let ds ← rngS 0 i
    return (ds, [], env)
  | .rng2 a b, env => do
    let (x, env) ← evB a env
    let (y, env) ← evB b env
    let dx ← rd env x
    let dy ← rd env y
    let i ← intD dx
    let j ← intD dy
    let ds ← rngS i j
    return (ds, [], env)
  | .enum e, env => do
    let (o, env) ← evB e env
    let d ← rd env o
    let ds ← itemsOf d
    let (env, lk) := lockS env o
    return (enumD 0 ds, lk, env)
  | .zip a b, env => do
    let (x, env) ← evB a env
    let (y, env) ← evB b env
    let dx ← rd env x
    let dy ← rd env y
    let ds ← zipS dx dy
    let (env, lk) := lockS env x
    let (env, lk1) := lockS env y
    return (ds, lk1 ++ lk, env)
  | .zip3 a b c, env => do
    let (x, env) ← evB a env
    let (y, env) ← evB b env
    let (z, env) ← evB c env
    let dx ← rd env x
    let dy ← rd env y
    let dz ← rd env z
    let ds ← zip3S dx dy dz
    let (env, lk) := lockS env x
    let (env, lk1) := lockS env y
    let (env, lk2) := lockS env z
    return (ds, lk2 ++ (lk1 ++ lk), env)
  | .rev e, env => do
    let (o, env) ← evB e env
    let d ← rd env o
    let ds ← itemsOf d
    let (env, lk) := lockS env o
    return (ds.reverse, lk, env)
  | .rng3 a b c, env => none
end
end
end VI
/-! VI3: how plain data stands in the hand layer's abstract heap. -/
namespace VI
open PySem PySem.Spec L2

abbrev FS := Addr → Prop
abbrev Slots := List (Option V)
def KL (K : PySem.W.Frag) (a : Addr) (xs : List V) : Prop :=
  ∃ (o : Obj) (its : Array Value) (n : Nat), K.lookup a = some o ∧ o.cls = .type "list" ∧ o.dict = none ∧ o.data = .seq its n ∧ its.size ≤ sizeLine ∧ Vals xs its.toList
def KT (K : PySem.W.Frag) (a : Addr) (xs : List V) : Prop :=
  ∃ (o : Obj) (its : Array Value) (n : Nat), K.lookup a = some o ∧ o.cls = .type "tuple" ∧ o.data = .seq its n ∧ its.size ≤ sizeLine ∧ Vals xs its.toList
def FL (F : FS) (H : Hp) (a : Addr) (xs : List V) : Prop := F a ∧ H a = some (.lst xs)
def FS_ (K : PySem.W.Frag) (F : FS) (H : Hp) (a : Addr) (xs : List V) : Prop := (F a ∧ Rd H a (.lst xs)) ∨ KL K a xs
def FT (K : PySem.W.Frag) (F : FS) (H : Hp) (a : Addr) (xs : List V) : Prop := (F a ∧ Rd H a (.tup xs)) ∨ KT K a xs
theorem FS_.seq {K F H a xs} (h : FS_ K F H a xs) : SqL K H a xs := h.elim (fun z => .inl z.2) .inr
theorem FT.seq {K F H a xs} (h : FT K F H a xs) : SqT K H a xs := h.elim (fun z => .inl z.2) .inr

mutual
def Is (K : PySem.W.Frag) (F : FS) (H : Hp) : D → V → Prop
  | .non, v => v = .non
  | .bl b, v => v = .bl b
  | .int i, v => v = .int i
  | .str s, v => v = .str s
  | .tup xs, v => ∃ a vs, v = .ref a ∧ FT K F H a vs ∧ IsL K F H xs vs
  | .lst xs, v => ∃ a vs, v = .ref a ∧ FL F H a vs ∧ IsL K F H xs vs
  | .scr ns, v => ∃ a, v = .ref a ∧ FS_ K F H a (ns.map .int)
def IsL (K : PySem.W.Frag) (F : FS) (H : Hp) : List D → List V → Prop
  | [], vs => vs = []
  | x :: xs, vs => ∃ w ws, vs = w :: ws ∧ Is K F H x w ∧ IsL K F H xs ws
end
/-- the list at a is held by one slot alone -/
def OwnAt (K : PySem.W.Frag) (F : FS) (H : Hp) : D → Addr → Prop
  | .lst xs, a => ¬ F a ∧ ∃ vs, H a = some (.lst vs) ∧ IsL K F H xs vs
  | _, _ => False
def Has (K : PySem.W.Frag) (F : FS) (H : Hp) (d : D) (v : V) : Prop := Is K F H d v ∨ ∃ a, v = .ref a ∧ OwnAt K F H d a

section
variable {K : PySem.W.Frag} {F F' : FS} {H H' : Hp}
theorem FL.mono {a xs} (sub : ∀ a, F a → F' a) (agr : ∀ a, F a → H' a = H a) (h : FL F H a xs) : FL F' H' a xs := ⟨sub a h.1, (agr a h.1).trans h.2⟩
theorem FS_.mono {a xs} (sub : ∀ a, F a → F' a) (agr : ∀ a, F a → H' a = H a) (h : FS_ K F H a xs) : FS_ K F' H' a xs := by
  rcases h with ⟨f, h⟩ | h
  · refine .inl ⟨sub a f, ?_⟩
    unfold Rd at h ⊢
    rw [agr a f]; exact h
  · exact .inr h
theorem FT.mono {a xs} (sub : ∀ a, F a → F' a) (agr : ∀ a, F a → H' a = H a) (h : FT K F H a xs) : FT K F' H' a xs := by
  rcases h with ⟨f, h⟩ | h
  · refine .inl ⟨sub a f, ?_⟩
    unfold Rd at h ⊢
    rw [agr a f]; exact h
  · exact .inr h
mutual
theorem Is.mono (sub : ∀ a, F a → F' a) (agr : ∀ a, F a → H' a = H a) : ∀ {d : D} {v : V}, Is K F H d v → Is K F' H' d v
  | .non, _, h => h
  | .bl _, _, h => h
  | .int _, _, h => h
  | .str _, _, h => h
  | .tup xs, v, h => by
    simp only [Is] at h ⊢
    obtain ⟨a, vs, e, h1, h2⟩ := h
    exact ⟨a, vs, e, h1.mono sub agr, IsL.mono sub agr h2⟩
  | .lst xs, v, h => by
    simp only [Is] at h ⊢
    obtain ⟨a, vs, e, h1, h2⟩ := h
    exact ⟨a, vs, e, h1.mono sub agr, IsL.mono sub agr h2⟩
  | .scr xs, v, h => by
    simp only [Is] at h ⊢
    obtain ⟨a, e, h1⟩ := h
    exact ⟨a, e, h1.mono sub agr⟩
theorem IsL.mono (sub : ∀ a, F a → F' a) (agr : ∀ a, F a → H' a = H a) : ∀ {ds : List D} {vs : List V}, IsL K F H ds vs → IsL K F' H' ds vs
  | [], _, h => h
  | x :: xs, vs, h => by
    simp only [IsL] at h ⊢
    obtain ⟨w, ws, e, h1, h2⟩ := h
    exact ⟨w, ws, e, Is.mono sub agr h1, IsL.mono sub agr h2⟩
end
theorem IsL.nil : IsL K F H [] [] := by simp [IsL]
theorem IsL.cons {x w xs ws} (h1 : Is K F H x w) (h2 : IsL K F H xs ws) : IsL K F H (x :: xs) (w :: ws) := by
  simp only [IsL]; exact ⟨w, ws, rfl, h1, h2⟩
theorem IsL.length : ∀ {ds : List D} {vs : List V}, IsL K F H ds vs → ds.length = vs.length
  | [], _, h => by simp only [IsL] at h; subst h; rfl
  | x :: xs, _, h => by
    simp only [IsL] at h
    obtain ⟨w, ws, rfl, _, h2⟩ := h
    rw [List.length_cons, List.length_cons, IsL.length h2]
theorem IsL.get : ∀ {ds : List D} {vs : List V} {i : Nat} {d : D}, IsL K F H ds vs → ds[i]? = some d → ∃ v, vs[i]? = some v ∧ Is K F H d v
  | [], _, _, _, _, e => by simp at e
  | x :: xs, _, 0, d, h, e => by
    simp only [IsL] at h
    obtain ⟨w, ws, rfl, h1, h2⟩ := h
    simp at e; subst e
    exact ⟨w, rfl, h1⟩
  | x :: xs, _, i + 1, d, h, e => by
    simp only [IsL] at h
    obtain ⟨w, ws, rfl, h1, h2⟩ := h
    obtain ⟨v, e1, e2⟩ := IsL.get (i := i) h2 (by simpa using e)
    exact ⟨v, by simpa using e1, e2⟩
theorem IsL.append : ∀ {xs ys : List D} {us ws : List V}, IsL K F H xs us → IsL K F H ys ws → IsL K F H (xs ++ ys) (us ++ ws)
  | [], _, _, _, h, h' => by simp only [IsL] at h; subst h; exact h'
  | x :: xs, _, _, _, h, h' => by
    simp only [IsL] at h
    obtain ⟨w, ws, rfl, h1, h2⟩ := h
    exact IsL.cons h1 (IsL.append h2 h')
theorem IsL.snoc {xs : List D} {us : List V} {d v} (h : IsL K F H xs us) (h' : Is K F H d v) : IsL K F H (xs ++ [d]) (us ++ [v]) := h.append (.cons h' .nil)
theorem IsL.take : ∀ {xs : List D} {us : List V} (n : Nat), IsL K F H xs us → IsL K F H (xs.take n) (us.take n)
  | _, _, 0, _ => by simp [IsL]
  | [], _, n + 1, h => by simp only [IsL] at h; subst h; simp [IsL]
  | x :: xs, _, n + 1, h => by
    simp only [IsL] at h
    obtain ⟨w, ws, rfl, h1, h2⟩ := h
    exact IsL.cons h1 (IsL.take n h2)
theorem IsL.drop : ∀ {xs : List D} {us : List V} (n : Nat), IsL K F H xs us → IsL K F H (xs.drop n) (us.drop n)
  | _, _, 0, h => h
  | [], _, n + 1, h => by simp only [IsL] at h; subst h; simp [IsL]
  | x :: xs, _, n + 1, h => by
    simp only [IsL] at h
    obtain ⟨w, ws, rfl, h1, h2⟩ := h
    exact IsL.drop n h2
theorem IsL.set : ∀ {xs : List D} {us : List V} {d v} (i : Nat), IsL K F H xs us → Is K F H d v → IsL K F H (xs.set i d) (us.set i v)
  | [], _, _, _, _, h, _ => by simp only [IsL] at h; subst h; simp [IsL]
  | x :: xs, _, _, _, 0, h, h' => by
    simp only [IsL] at h
    obtain ⟨w, ws, rfl, h1, h2⟩ := h
    exact IsL.cons h' h2
  | x :: xs, _, _, _, i + 1, h, h' => by
    simp only [IsL] at h
    obtain ⟨w, ws, rfl, h1, h2⟩ := h
    exact IsL.cons h1 (IsL.set i h2 h')
theorem IsL.reverse : ∀ {xs : List D} {us : List V}, IsL K F H xs us → IsL K F H xs.reverse us.reverse
  | [], _, h => by simp only [IsL] at h; subst h; simp [IsL]
  | x :: xs, _, h => by
    simp only [IsL] at h
    obtain ⟨w, ws, rfl, h1, h2⟩ := h
    rw [List.reverse_cons, List.reverse_cons]
    exact IsL.append (IsL.reverse h2) (.cons h1 .nil)
theorem IsL.eraseIdx : ∀ {xs : List D} {us : List V} (i : Nat), IsL K F H xs us → IsL K F H (xs.eraseIdx i) (us.eraseIdx i)
  | [], _, _, h => by simp only [IsL] at h; subst h; simp [IsL]
  | x :: xs, _, 0, h => by
    simp only [IsL] at h
    obtain ⟨w, ws, rfl, h1, h2⟩ := h
    exact h2
  | x :: xs, _, i + 1, h => by
    simp only [IsL] at h
    obtain ⟨w, ws, rfl, h1, h2⟩ := h
    exact IsL.cons h1 (IsL.eraseIdx i h2)
theorem IsL.rep {xs : List D} {us : List V} (h : IsL K F H xs us) : ∀ k : Nat, IsL K F H (List.replicate k xs).flatten (List.replicate k us).flatten
  | 0 => by simp [IsL]
  | k + 1 => by
    rw [List.replicate_succ, List.replicate_succ, List.flatten_cons, List.flatten_cons]
    exact h.append (IsL.rep h k)
theorem IsL.dropLast {xs : List D} {us : List V} (h : IsL K F H xs us) : IsL K F H xs.dropLast us.dropLast := by
  rw [List.dropLast_eq_take, List.dropLast_eq_take, h.length]; exact h.take _

/-! ### what a value reads as -/
theorem Has.lst {xs : List D} {v : V} (h : Has K F H (.lst xs) v) : ∃ a vs, v = .ref a ∧ H a = some (.lst vs) ∧ IsL K F H xs vs := by
  rcases h with h | ⟨a, e, h⟩
  · simp only [Is] at h
    obtain ⟨a, vs, e, h1, h2⟩ := h
    exact ⟨a, vs, e, h1.2, h2⟩
  · obtain ⟨_, vs, h1, h2⟩ := h
    exact ⟨a, vs, e, h1, h2⟩
theorem Has.scr {ns : List Int} {v : V} (h : Has K F H (.scr ns) v) : ∃ a, v = .ref a ∧ SqL K H a (ns.map .int) := by
  rcases h with h | ⟨a, e, h⟩
  · simp only [Is] at h
    obtain ⟨a, e, h1⟩ := h
    exact ⟨a, e, h1.seq⟩
  · exact h.elim
theorem Has.tup {xs : List D} {v : V} (h : Has K F H (.tup xs) v) : ∃ a vs, v = .ref a ∧ SqT K H a vs ∧ IsL K F H xs vs := by
  rcases h with h | ⟨a, e, h⟩
  · simp only [Is] at h
    obtain ⟨a, vs, e, h1, h2⟩ := h
    exact ⟨a, vs, e, h1.seq, h2⟩
  · exact h.elim
theorem Has.int {i : Int} {v : V} (h : Has K F H (.int i) v) : v = .int i := by
  rcases h with h | ⟨_, _, h⟩
  · simpa only [Is] using h
  · exact h.elim
theorem Has.bl {i : Bool} {v : V} (h : Has K F H (.bl i) v) : v = .bl i := by
  rcases h with h | ⟨_, _, h⟩
  · simpa only [Is] using h
  · exact h.elim
theorem Has.str {i : Str} {v : V} (h : Has K F H (.str i) v) : v = .str i := by
  rcases h with h | ⟨_, _, h⟩
  · simpa only [Is] using h
  · exact h.elim
theorem Has.non {v : V} (h : Has K F H .non v) : v = .non := by
  rcases h with h | ⟨_, _, h⟩
  · simpa only [Is] using h
  · exact h.elim
mutual
theorem Is.dp : ∀ {d : D} {v : V}, d.toP.canLay0 = true → Is K F H d v → Dp K H v d.toP
  | .non, _, _, h => by simp only [Is] at h; subst h; exact .non
  | .bl _, _, _, h => by simp only [Is] at h; subst h; exact .bl _
  | .int _, _, _, h => by simp only [Is] at h; subst h; exact .int _
  | .str _, _, _, h => by simp only [Is] at h; subst h; exact .str _
  | .tup xs, v, c, h => by
    simp only [Is] at h
    obtain ⟨a, vs, rfl, h1, h2⟩ := h
    exact .tup h1.seq (IsL.dp c h2)
  | .lst xs, v, c, h => by
    simp only [Is] at h
    obtain ⟨a, vs, rfl, h1, h2⟩ := h
    exact .lst (.of h1.2) (IsL.dp c h2)
  | .scr _, _, c, _ => nomatch c
theorem IsL.dp : ∀ {ds : List D} {vs : List V}, PyData.canLayAll0 (toPs ds) = true → IsL K F H ds vs → DpAll K H vs (toPs ds)
  | [], _, _, h => by simp only [IsL] at h; subst h; exact .nil
  | x :: xs, _, c, h => by
    simp only [IsL] at h
    obtain ⟨w, ws, rfl, h1, h2⟩ := h
    have c : (x.toP.canLay0 && PyData.canLayAll0 (toPs xs)) = true := c
    rw [Bool.and_eq_true] at c
    exact .cons (Is.dp c.1 h1) (IsL.dp c.2 h2)
end
theorem Has.dp {d : D} {v : V} (o : okD d = true) (h : Has K F H d v) : Dp K H v d.toP := by
  have c : d.toP.canLay0 = true := SeqAt.canLay_of_shaped o
  rcases h with h | ⟨a, rfl, h⟩
  · exact h.dp c
  · cases d with
    | lst xs =>
      obtain ⟨_, vs, h1, h2⟩ := h
      exact .lst (.of h1) (IsL.dp c h2)
    | _ => exact h.elim
theorem IsL.ints : ∀ {ds : List D} {vs : List V} {ns : List Int}, IsL K F H ds vs → intsD ds = some ns → vs = ns.map V.int
  | [], _, _, h, e => by simp only [IsL] at h; subst h; simp [intsD] at e; subst e; rfl
  | x :: xs, _, _, h, e => by
    simp only [IsL] at h
    obtain ⟨w, ws, rfl, h1, h2⟩ := h
    cases x with
    | int i =>
      simp only [intsD, Option.map_eq_some_iff] at e
      obtain ⟨ms, e1, rfl⟩ := e
      simp only [Is] at h1
      rw [h1, h2.ints e1]; rfl
    | _ => simp [intsD] at e
theorem IsL.bls : ∀ {ds : List D} {vs : List V} {ns : List Bool}, IsL K F H ds vs → blsD ds = some ns → vs = ns.map V.bl
  | [], _, _, h, e => by simp only [IsL] at h; subst h; simp [blsD] at e; subst e; rfl
  | x :: xs, _, _, h, e => by
    simp only [IsL] at h
    obtain ⟨w, ws, rfl, h1, h2⟩ := h
    cases x with
    | bl i =>
      simp only [blsD, Option.map_eq_some_iff] at e
      obtain ⟨ms, e1, rfl⟩ := e
      simp only [Is] at h1
      rw [h1, h2.bls e1]; rfl
    | _ => simp [blsD] at e
theorem IsL.of_ints (ns : List Int) : IsL K F H (ns.map D.int) (ns.map V.int) := by
  induction ns with
  | nil => simp [IsL]
  | cons n r ih => exact IsL.cons (by simp [Is]) ih
end

/-! ### slots -/
def Sl.own : Sl → Option D
  | .ow _ d => some d
  | .lk _ d => some d
  | _ => none
def OA (env : En) (σ : Slots) (a : Addr) : Prop := ∃ (i : Nat) (s : Sl) (d : D), env[i]? = some s ∧ s.own = some d ∧ σ[i]? = some (some (.ref a))
structure RelE (K : PySem.W.Frag) (F : FS) (H : Hp) (env : En) (σ : Slots) : Prop where
  len : env.length = σ.length
  fz : ∀ (i : Nat) (d : D), env[i]? = some (.fz d) → ∃ v, σ[i]? = some (some v) ∧ Is K F H d v
  ow : ∀ (i : Nat) (s : Sl) (d : D), env[i]? = some s → s.own = some d → ∃ a : Addr, σ[i]? = some (some (.ref a)) ∧ OwnAt K F H d a
  ne : ∀ (i j : Nat) (s t : Sl) (d e : D) (a : Addr), env[i]? = some s → s.own = some d → env[j]? = some t → t.own = some e → σ[i]? = some (some (.ref a)) → σ[j]? = some (some (.ref a)) → i = j
  fdm : ∀ a, F a → H a ≠ none
/-- from one state of the memory to a later one; oa: the lists that the code at hand may change -/
structure Ste (F : FS) (H : Hp) (oa : Addr → Prop) (F' : FS) (H' : Hp) : Prop where
  sub : ∀ a, F a → F' a
  agr : ∀ a, F a → H' a = H a
  dom : ∀ a, H a ≠ none → H' a ≠ none
  oth : ∀ a, H a ≠ none → ¬ F a → ¬ oa a → H' a = H a ∧ ¬ F' a
structure Pst (K : PySem.W.Frag) (F : FS) (H : Hp) (env : En) (σ : Slots) (F' : FS) (H' : Hp) (env' : En) (σ' : Slots) : Prop where
  st : Ste F H (OA env σ) F' H'
  rel : RelE K F' H' env' σ'
  own : ∀ a, OA env' σ' a → OA env σ a ∨ H a = none
  io : ∀ (i : Nat) (d : D), env[i]? = some (.ow true d) → (∃ d', env'[i]? = some (.ow true d')) ∧ σ'[i]? = σ[i]?
  lk : ∀ (i : Nat) (io : Bool) (d : D), env[i]? = some (.lk io d) → env'[i]? = some (.lk io d) ∧ σ'[i]? = σ[i]?
section
variable {K : PySem.W.Frag} {F F1 F2 : FS} {H H1 H2 : Hp} {env env1 env2 : En} {σ σ1 σ2 : Slots}
theorem Ste.refl {oa} : Ste F H oa F H := ⟨fun _ h => h, fun _ _ => rfl, fun _ h => h, fun _ _ h _ => ⟨rfl, h⟩⟩
theorem Ste.trans {oa oa1 : Addr → Prop} (a : Ste F H oa F1 H1) (b : Ste F1 H1 oa1 F2 H2) (h : ∀ c, oa1 c → oa c ∨ H c = none) : Ste F H oa F2 H2 where
  sub := fun c h => b.sub c (a.sub c h)
  agr := fun c h => (b.agr c (a.sub c h)).trans (a.agr c h)
  dom := fun c h => b.dom c (a.dom c h)
  oth := fun c h1 h2 h3 => by
    obtain ⟨e1, e2⟩ := a.oth c h1 h2 h3
    obtain ⟨e3, e4⟩ := b.oth c (a.dom c h1) e2 fun z => by
      rcases h c z with z | z
      · exact h3 z
      · exact h1 z
    exact ⟨e3.trans e1, e4⟩
theorem Pst.refl (r : RelE K F H env σ) : Pst K F H env σ F H env σ := ⟨.refl, r, fun _ h => .inl h, fun i d h => ⟨⟨d, h⟩, rfl⟩, fun _ _ _ h => ⟨h, rfl⟩⟩
theorem Pst.trans (a : Pst K F H env σ F1 H1 env1 σ1) (b : Pst K F1 H1 env1 σ1 F2 H2 env2 σ2) : Pst K F H env σ F2 H2 env2 σ2 where
  st := a.st.trans b.st a.own
  rel := b.rel
  own := fun c h => by
    rcases b.own c h with h | h
    · exact a.own c h
    · refine .inr ?_
      cases q : H c with
      | none => rfl
      | some o => exact absurd h (a.st.dom c (by rw [q]; simp))
  io := fun i d h => by
    obtain ⟨⟨d1, e1⟩, e2⟩ := a.io i d h
    obtain ⟨⟨d3, e3⟩, e4⟩ := b.io i d1 e1
    exact ⟨⟨d3, e3⟩, e4.trans e2⟩
  lk := fun i io d h => by
    obtain ⟨e1, e2⟩ := a.lk i io d h
    obtain ⟨e3, e4⟩ := b.lk i io d e1
    exact ⟨e3, e4.trans e2⟩
theorem OwnAt.some {d a} (h : OwnAt K F H d a) : H a ≠ none := by
  cases d with
  | lst xs => obtain ⟨_, vs, e, _⟩ := h; rw [e]; simp
  | _ => exact h.elim
theorem OwnAt.nF {d a} (h : OwnAt K F H d a) : ¬ F a := by
  cases d with
  | lst xs => exact h.1
  | _ => exact h.elim
theorem OwnAt.mono {d a} (sub : ∀ a, F a → F1 a) (agr : ∀ a, F a → H1 a = H a) (e : H1 a = H a) (n : ¬ F1 a) (h : OwnAt K F H d a) : OwnAt K F1 H1 d a := by
  cases d with
  | lst xs =>
    obtain ⟨_, vs, e1, e2⟩ := h
    exact ⟨n, vs, e.trans e1, e2.mono sub agr⟩
  | _ => exact h.elim
/-- the list as a value that stays -/
theorem OwnAt.is {d a} (h : OwnAt K F H d a) : Is K (fun b => F b ∨ b = a) H d (.ref a) := by
  cases d with
  | lst xs =>
    obtain ⟨n, vs, e1, e2⟩ := h
    simp only [Is]
    exact ⟨a, vs, rfl, ⟨.inr rfl, e1⟩, e2.mono (fun _ => .inl) fun _ _ => rfl⟩
  | _ => exact h.elim
theorem RelE.oa_some (r : RelE K F H env σ) {a} (h : OA env σ a) : H a ≠ none ∧ ¬ F a := by
  obtain ⟨i, s, d, e1, e2, e3⟩ := h
  obtain ⟨b, e4, o⟩ := r.ow i s d e1 e2
  rw [e3] at e4; cases e4
  exact ⟨o.some, o.nF⟩
/-- the memory grows, the slots' lists stay -/
theorem RelE.move (r : RelE K F H env σ) (sub : ∀ a, F a → F1 a) (agr : ∀ a, F a → H1 a = H a) (ho : ∀ a, OA env σ a → H1 a = H a ∧ ¬ F1 a) (fd : ∀ a, F1 a → H1 a ≠ none) : RelE K F1 H1 env σ where
  len := r.len
  fz := fun i d e => let ⟨v, e1, e2⟩ := r.fz i d e; ⟨v, e1, e2.mono sub agr⟩
  ow := fun i s d e1 e2 => by
    obtain ⟨a, e3, o⟩ := r.ow i s d e1 e2
    obtain ⟨h1, h2⟩ := ho a ⟨i, s, d, e1, e2, e3⟩
    exact ⟨a, e3, o.mono sub agr h1 h2⟩
  ne := r.ne
  fdm := fd
/-- a pure operation: new things at most -/
structure Nst (F : FS) (H : Hp) (F' : FS) (H' : Hp) : Prop where
  sub : ∀ a, F a → F' a
  old : ∀ a, H a ≠ none → H' a = H a ∧ (F' a → F a)
  fdm : (∀ a, F a → H a ≠ none) → ∀ a, F' a → H' a ≠ none
theorem Nst.refl : Nst F H F H := ⟨fun _ h => h, fun _ _ => ⟨rfl, fun h => h⟩, fun h => h⟩
theorem Nst.rel (n : Nst F H F1 H1) (r : RelE K F H env σ) : RelE K F1 H1 env σ :=
  r.move n.sub (fun a h => (n.old a (r.fdm a h)).1) (fun a h => by
    obtain ⟨h1, h2⟩ := r.oa_some h
    obtain ⟨e1, e2⟩ := n.old a h1
    exact ⟨e1, fun z => h2 (e2 z)⟩) (n.fdm r.fdm)
theorem Nst.pst (n : Nst F H F1 H1) (r : RelE K F H env σ) : Pst K F H env σ F1 H1 env σ where
  st := ⟨n.sub, fun a h => (n.old a (r.fdm a h)).1, fun a h => by rw [(n.old a h).1]; exact h, fun a h1 h2 _ => ⟨(n.old a h1).1, fun z => h2 ((n.old a h1).2 z)⟩⟩
  rel := n.rel r
  own := fun _ h => .inl h
  io := fun i d h => ⟨⟨d, h⟩, rfl⟩
  lk := fun _ _ _ h => ⟨h, rfl⟩
/-- a new object, frozen or not -/
theorem Nst.new {p : Addr} {o : HO} (h : H p = none) : Nst F H F (upd H p o) :=
  ⟨fun _ h => h, fun a q => ⟨upd_ne fun z => q (z ▸ h), fun h => h⟩, fun hd a f => by
    by_cases e : a = p
    · subst e; rw [upd_same]; simp
    · rw [upd_ne e]; exact hd a f⟩
theorem Nst.newF {p : Addr} {o : HO} (h : H p = none) : Nst F H (fun b => F b ∨ b = p) (upd H p o) :=
  ⟨fun _ h => .inl h, fun a q => ⟨upd_ne fun z => q (z ▸ h), fun f => f.elim id fun z => absurd (z ▸ h) q⟩, fun hd a f => by
    by_cases e : a = p
    · subst e; rw [upd_same]; simp
    · rw [upd_ne e]
      exact f.elim (hd a) fun z => absurd z e⟩
/-- a value of an operation -/
def RelOp (K : PySem.W.Frag) (F : FS) (H : Hp) (σ : Slots) : Op → V → Prop
  | .v d, x => Is K F H d x
  | .nw d, x => ∃ a, x = .ref a ∧ OwnAt K F H d a
  | .p i, x => σ[i]? = some (some x)
def Op.fresh (H : Hp) : Op → V → Prop
  | .nw _, x => ∀ a, x = .ref a → H a = none
  | _, _ => True
theorem rd_has {o : Op} {v : V} {d : D} (r : RelE K F H env σ) (h : RelOp K F H σ o v) (e : rd env o = some d) : Has K F H d v := by
  cases o with
  | v x => simp only [rd, Option.some.injEq] at e; subst e; exact .inl h
  | nw x => simp only [rd, Option.some.injEq] at e; subst e; exact .inr h
  | p i =>
    have h : σ[i]? = some (some v) := h
    simp only [rd] at e
    split at e
    · rename_i q; cases e
      obtain ⟨w, e1, e2⟩ := r.fz i _ q
      rw [h] at e1; cases e1; exact .inl e2
    · rename_i q; cases e
      obtain ⟨a, e1, e2⟩ := r.ow i _ _ q rfl
      rw [h] at e1; cases e1; exact .inr ⟨a, rfl, e2⟩
    · rename_i q; cases e
      obtain ⟨a, e1, e2⟩ := r.ow i _ _ q rfl
      rw [h] at e1; cases e1; exact .inr ⟨a, rfl, e2⟩
    · cases e
/-- a value that is no new list stays -/
theorem RelOp.stay {o : Op} {v : V} (h : RelOp K F H σ o v) (hn : ∀ d, o ≠ .nw d) (p : Ste F H (OA env σ) F1 H1) : RelOp K F1 H1 σ o v := by
  cases o with
  | v d => exact Is.mono p.sub p.agr h
  | nw d => exact absurd rfl (hn d)
  | p i => exact h
theorem frz_ne (o : Op) : ∀ d, o.frz ≠ .nw d := by
  intro d; cases o <;> simp [Op.frz]
/-- a new list is frozen -/
theorem Pst.freeze {a : Addr} {d : D} (p : Pst K F H env σ F1 H1 env1 σ) (ho : OwnAt K F1 H1 d a) (hn : H a = none) (hf : ¬ OA env1 σ a) : Pst K F H env σ (fun b => F1 b ∨ b = a) H1 env1 σ where
  st := ⟨fun c h => .inl (p.st.sub c h), p.st.agr, p.st.dom, fun c h1 h2 h3 => by
    obtain ⟨e1, e2⟩ := p.st.oth c h1 h2 h3
    exact ⟨e1, fun z => z.elim e2 fun z => h1 (z ▸ hn)⟩⟩
  rel := p.rel.move (fun _ => .inl) (fun _ _ => rfl) (fun c h => ⟨rfl, fun z => z.elim (p.rel.oa_some h).2 fun z => hf (z ▸ h)⟩) fun c z => z.elim (p.rel.fdm c) fun z => z ▸ ho.some
  own := p.own
  io := p.io
  lk := p.lk
end
end VI
/-! VIT: tuple * 1 is the tuple itself. -/
namespace VIT
open PySem PySem.Spec PyProof.Rows L2
set_option maxHeartbeats 4000000 in
theorem tuple_mul1 (l : Addr) (items : Array Value) (n : Nat) (dd : Option Addr) (sl : Array (Option Value)) (x : Int) (u : Tok) (c0 : (decide (x < -(2 ^ 63)) || decide (x ≥ 2 ^ 63)) = false) (c1 : (items.isEmpty || x == 1) = true) :
    Meets (Builtin.«tuple.__mul__» ⟨[.ref l, .int x u], []⟩) (fun _ R s => s.heap.get? l = some { cls := .type "tuple", dict := dd, data := .seq items n, slots := sl } ∧ R (.ok (.ret (Value.ref l))) s) :=
  .of_wp fun prog w A R s h => by
    obtain ⟨hp, g, d, tk, os⟩ := s
    obtain ⟨hl, h⟩ := h
    have f1 := AutoSeq1.idx_int
    wp_walk using wpAny_loadPart' hl
    repeat (first
      | (refine wpAny_ite_false (decide_eq_false (by rw [c0]; exact Bool.false_ne_true)) ?_; wp_walk using wpAny_loadPart' hl)
      | (refine wpAny_ite_true (decide_eq_true c1) ?_; wp_walk using wpAny_loadPart' hl))
    exact ⟨_, rfl, h⟩
def rRep1 (K : PySem.W.Frag) : R2 := fun x y H Q => ∃ l xs, x = .ref l ∧ y = .int 1 ∧ SqT K H l xs ∧ Q (.ref l) H
theorem op_rep1 {X : Cx} : OpR X (binaryOp .Mult) (rRep1 X.K) := by
  intro pins s σ H x y v u Q I rx ry h
  obtain ⟨l, xs, rfl, rfl, hT, q⟩ := h
  cases rx
  obtain ⟨t, rfl⟩ := ry
  obtain ⟨its, r, ⟨⟨cls, dd, data, sl⟩, ho, hc, n, hd⟩, hs⟩ := I.tuple hT
  simp only at hc hd
  subst hc hd
  refine wpAny_binaryOp_repeat_ref (T := "tuple") (U := "int") (by decide) ⟨_, ho, rfl⟩ (fun s' => typeIs_int s' 1 t) noFill_tuple_mul F.fills_int_mul F.slot_int_rmul repeat_tuple F.slot_int_index.lookup
    (call_meets F.slot_int_rmul (typeIs_int s 1 t) F.entry_int_rmul (F.args_int_rmul_2 _ _) (int_rmul_tuple 1 t l its.toArray n dd sl)
      ⟨ho, rfl, ⟨_, ho, rfl⟩, call_meets F.slot_tuple_mul ⟨_, ho, rfl⟩ F.entry_tuple_mul (F.args_tuple_mul_2 _ _) (tuple_mul1 l its.toArray n dd sl 1 t (by decide) (by simp)) ⟨ho, ?_⟩⟩)
  exact ⟨.ref l, H, I, rfl, q⟩
set_option maxHeartbeats 4000000 in
theorem tuple_mul0 (l : Addr) (items : Array Value) (n : Nat) (dd : Option Addr) (sl : Array (Option Value)) (x : Int) (u : Tok) (c0 : (decide (x < -(2 ^ 63)) || decide (x ≥ 2 ^ 63)) = false) (c1 : (items.isEmpty || x == 1) = false) (c2 : (decide (x ≤ 0) || items.isEmpty) = true) :
    Meets (Builtin.«tuple.__mul__» ⟨[.ref l, .int x u], []⟩) (fun _ R s => s.heap.get? l = some { cls := .type "tuple", dict := dd, data := .seq items n, slots := sl } ∧
      R (.ok (.ret (Value.ref s.heap.objs.size))) { s with heap := s.heap.push { cls := Value.type "tuple", data := Data.seq #[] }, toks := s.toks }) :=
  .of_wp fun prog w A R s h => by
    obtain ⟨hp, g, d, tk, os⟩ := s
    obtain ⟨hl, h⟩ := h
    have f1 := AutoSeq1.idx_int
    wp_walk using wpAny_loadPart' hl
    repeat (first
      | (refine wpAny_ite_false (decide_eq_false (by rw [c0]; exact Bool.false_ne_true)) ?_; wp_walk using wpAny_loadPart' hl)
      | (refine wpAny_ite_false (decide_eq_false (by rw [c1]; exact Bool.false_ne_true)) ?_; wp_walk using wpAny_loadPart' hl)
      | (refine wpAny_ite_true (decide_eq_true c2) ?_; wp_walk using wpAny_loadPart' hl))
    exact ⟨_, rfl, h⟩
def rRep0 (K : PySem.W.Frag) : R2 := fun x y H Q => ∃ l xs, x = .ref l ∧ y = .int 0 ∧ SqT K H l xs ∧ xs ≠ [] ∧ ∀ p, H p = none → Q (.ref p) (upd H p (.tup []))
theorem op_rep0 {X : Cx} : OpR X (binaryOp .Mult) (rRep0 X.K) := by
  intro pins s σ H x y v u Q I rx ry h
  obtain ⟨l, xs, rfl, rfl, hT, hne, q⟩ := h
  cases rx
  obtain ⟨t, rfl⟩ := ry
  obtain ⟨its, r, ⟨⟨cls, dd, data, sl⟩, ho, hc, n, hd⟩, hs⟩ := I.tuple hT
  simp only at hc hd
  subst hc hd
  have hi : its.toArray.isEmpty = false := by
    cases its with
    | nil =>
      have := r.length
      exact absurd (List.eq_nil_of_length_eq_zero this) hne
    | cons a b => rfl
  have c1 : (its.toArray.isEmpty || (0 : Int) == 1) = false := by rw [hi]; rfl
  refine wpAny_binaryOp_repeat_ref (T := "tuple") (U := "int") (by decide) ⟨_, ho, rfl⟩ (fun s' => typeIs_int s' 0 t) noFill_tuple_mul F.fills_int_mul F.slot_int_rmul repeat_tuple F.slot_int_index.lookup
    (call_meets F.slot_int_rmul (typeIs_int s 0 t) F.entry_int_rmul (F.args_int_rmul_2 _ _) (int_rmul_tuple 0 t l its.toArray n dd sl)
      ⟨ho, rfl, ⟨_, ho, rfl⟩, call_meets F.slot_tuple_mul ⟨_, ho, rfl⟩ F.entry_tuple_mul (F.args_tuple_mul_2 _ _) (tuple_mul0 l its.toArray n dd sl 0 t (by decide) c1 rfl) ⟨ho, ?_⟩⟩)
  refine ⟨.ref s.heap.objs.size, _, I.laid (t' := s.toks) (o := .tup []) (fun b ob q => Heap.get?_push_of_some _ q) (Nat.le_refl _) ?_, rfl, q _ (I.hok.fresh (Nat.le_refl _))⟩
  exact ⟨Nat.zero_le _, [], .nil, IsTup.new _ _⟩
end VIT
/-! VI4: judgements by meaning; the operations are right. -/
namespace VI
open PySem PySem.Spec L2

/-! ### judgements by meaning -/
section
variable (X : Cx)
def WE (e : Expr) : TE := fun σ H Q => ∀ (pins : List (Addr × Obj)) (s : Shared), Inv X pins σ H s → wpAny (model X.prog X.w) X.A (eval e X.env) (EP X pins σ Q) X.xe s
def WT (e : Expr) : TT := fun σ H Q => ∀ (pins : List (Addr × Obj)) (s : Shared), Inv X pins σ H s → wpAny (model X.prog X.w) X.A (isTrue e X.env (eval e X.env)) (TP X pins σ Q) X.xe s
def WW (e : Expr) : TT := fun σ H Q => ∀ (whole : Sem Value) (pins : List (Addr × Obj)) (s : Shared), Inv X pins σ H s → wpAny (model X.prog X.w) X.A (isTrue e X.env whole) (TP X pins σ Q) X.xe s
def WA (es : List Expr) : TA := fun σ H Q => ∀ (pos : Pos) (pins : List (Addr × Obj)) (s : Shared), Inv X pins σ H s → wpAny (model X.prog X.w) X.A (spliced (backTo pos (starEach es X.env))) (AP X pins σ Q) X.xe s
def WO (e : Option Expr) : TO := fun σ H Q => ∀ (pins : List (Addr × Obj)) (s : Shared), Inv X pins σ H s → wpAny (model X.prog X.w) X.A (evalPart e X.env) (fun u s' => ∃ o H', Inv X pins σ H' s' ∧ IsPart u o ∧ Q o H') X.xe s
def WG (tg : Expr) : TG := fun v σ H Q => ∀ (pins : List (Addr × Obj)) (s : Shared) (u : Value), Inv X pins σ H s → RelV v u → wpAny (model X.prog X.w) X.A (assign tg X.env u) (fun _ s' => ∃ σ' H', Inv X pins σ' H' s' ∧ Q σ' H') X.xe s
def WS (st : Stmt) : TS := fun D σ H => ∀ (pins : List (Addr × Obj)) (s : Shared), Inv X pins σ H s → wpAny (model X.prog X.w) X.A (exec st X.env) (SP X pins D) X.xe s
def WSs (st : List Stmt) : TS := fun D σ H => ∀ (pins : List (Addr × Obj)) (s : Shared), Inv X pins σ H s → wpAny (model X.prog X.w) X.A (execs st X.env) (SP X pins D) X.xe s
def WI (tg it : Expr) : TI := fun σ H R => ∀ (pins : List (Addr × Obj)) (s : Shared), Inv X pins σ H s → wpAny (model X.prog X.w) X.A (eval it X.env) (fun v s1 => wpAny (model X.prog X.w) X.A (pyIter v) (PIE X pins σ tg R) X.xe s1) X.xe s
theorem pE (e : Expr) : PE X e (WE X e) := ⟨fun pins s σ H Q I h => h pins s I⟩
theorem pT (e : Expr) : PT X e (WT X e) := ⟨fun pins s σ H Q I h => h pins s I⟩
theorem pW (e : Expr) : PW X e (WW X e) := ⟨fun w pins s σ H Q I h => h w pins s I⟩
theorem pA (es : List Expr) : PA X es (WA X es) := ⟨fun pos pins s σ H Q I h => h pos pins s I⟩
theorem pO (e : Option Expr) : PO X e (WO X e) := ⟨fun pins s σ H Q I h => h pins s I⟩
theorem pG (e : Expr) : PG X e (WG X e) := ⟨fun pins s σ H v u Q I r h => h pins s u I r⟩
theorem pS (st : Stmt) : PS X st (WS X st) := ⟨fun pins s σ H D I h => h pins s I⟩
theorem pSs (st : List Stmt) : PSs X st (WSs X st) := ⟨fun pins s σ H D I h => h pins s I⟩
theorem pI (tg it : Expr) : PI X tg it (WI X tg it) := ⟨fun pins s σ H R I h => h pins s I⟩
variable {X}
theorem WE.of {e : Expr} {t : TE} {σ H Q} (p : PE X e t) (h : t σ H Q) : WE X e σ H Q := fun pins s I => p.run pins s σ H Q I h
theorem WT.of {e : Expr} {t : TT} {σ H Q} (p : PT X e t) (h : t σ H Q) : WT X e σ H Q := fun pins s I => p.run pins s σ H Q I h
theorem WW.of {e : Expr} {t : TT} {σ H Q} (p : PW X e t) (h : t σ H Q) : WW X e σ H Q := fun w pins s I => p.run w pins s σ H Q I h
theorem WA.of {es : List Expr} {t : TA} {σ H Q} (p : PA X es t) (h : t σ H Q) : WA X es σ H Q := fun pos pins s I => p.run pos pins s σ H Q I h
theorem WO.of {e : Option Expr} {t : TO} {σ H Q} (p : PO X e t) (h : t σ H Q) : WO X e σ H Q := fun pins s I => p.run pins s σ H Q I h
theorem WG.of {e : Expr} {t : TG} {v σ H Q} (p : PG X e t) (h : t v σ H Q) : WG X e v σ H Q := fun pins s u I r => p.run pins s σ H v u Q I r h
theorem WS.of {st : Stmt} {t : TS} {D σ H} (p : PS X st t) (h : t D σ H) : WS X st D σ H := fun pins s I => p.run pins s σ H D I h
theorem WSs.of {st : List Stmt} {t : TS} {D σ H} (p : PSs X st t) (h : t D σ H) : WSs X st D σ H := fun pins s I => p.run pins s σ H D I h
theorem WI.of {tg it : Expr} {t : TI} {σ H R} (p : PI X tg it t) (h : t σ H R) : WI X tg it σ H R := fun pins s I => p.run pins s σ H R I h
theorem WW.wt {e : Expr} {σ H Q} (h : WW X e σ H Q) : WT X e σ H Q := fun pins s I => h _ pins s I
end

/-! ### operations -/
def ResOp (K : PySem.W.Frag) (H : Hp) (F' : FS) (H' : Hp) : Op → V → Prop
  | .v d, x => Is K F' H' d x
  | .nw d, x => ∃ a, x = .ref a ∧ OwnAt K F' H' d a ∧ H a = none
  | .p _, _ => False
section
variable {X : Cx} {F : FS} {H : Hp} {x y : V} {dx dy : D} {r : Op} {Q : VK}
def rB (X : Cx) (f : Value → Value → Sem Value) : R2 := fun x y H Q => ∀ (pins : List (Addr × Obj)) (s : Shared) (σ : Slots) (v u : Value), Inv X pins σ H s → RelV x v → RelV y u → wpAny (model X.prog X.w) X.A (f v u) (EP X pins σ Q) X.xe s
theorem opB (f : Value → Value → Sem Value) : OpR X f (rB X f) := fun pins s σ H x y v u Q I rx ry h => h pins s σ v u I rx ry
theorem rB.of {f : Value → Value → Sem Value} {rr : R2} (h : OpR X f rr) (q : rr x y H Q) : rB X f x y H Q := fun pins s σ v u I rx ry => h pins s σ H x y v u Q I rx ry q
/-- what follows an operation -/
def Fol (K : PySem.W.Frag) (F : FS) (H : Hp) (r : Op) (Q : VK) : Prop := ∀ v F' H', Nst F H F' H' → ResOp K H F' H' r v → Q v H'
theorem Fol.val {K} {d : D} {v : V} (h : Fol K F H (.v d) Q) (i : Is K F H d v) : Q v H := h v F H .refl i
theorem Fol.int {K} {i : Int} (h : Fol K F H (.v (.int i)) Q) : Q (.int i) H := h.val (by simp [Is])
theorem Fol.bl {K} {i : Bool} (h : Fol K F H (.v (.bl i)) Q) : Q (.bl i) H := h.val (by simp [Is])
theorem Fol.str {K} {i : Str} (h : Fol K F H (.v (.str i)) Q) : Q (.str i) H := h.val (by simp [Is])
theorem Fol.newL {K} {ds : List D} {vs : List V} (h : Fol K F H (.nw (.lst ds)) Q) (hd : ∀ a, F a → H a ≠ none) (i : IsL K F H ds vs) {p : Addr} (hp : H p = none) : Q (.ref p) (upd H p (.lst vs)) := by
  refine h _ F _ (.new hp) ⟨p, rfl, ⟨fun f => hd p f hp, vs, upd_same, i.mono (fun _ h => h) fun a f => ?_⟩, hp⟩
  exact upd_ne fun z => hd a f (by rw [z]; exact hp)
theorem Fol.newT {K} {ds : List D} {vs : List V} (h : Fol K F H (.v (.tup ds)) Q) (hd : ∀ a, F a → H a ≠ none) (i : IsL K F H ds vs) {p : Addr} (hp : H p = none) : Q (.ref p) (upd H p (.tup vs)) := by
  refine h _ _ _ (.newF hp) ?_
  simp only [ResOp, Is]
  exact ⟨p, vs, rfl, .inl ⟨.inr rfl, .inl upd_same⟩, i.mono (fun _ => .inl) fun a f => upd_ne fun z => hd a f (by rw [z]; exact hp)⟩
theorem IsL.cut {K} {ds : List D} {vs : List V} (i : IsL K F H ds vs) (lo hi : Option Int) : IsL K F H (cutD ds lo hi) (cutV vs lo hi) := by
  unfold cutD cutV
  rw [i.length]
  exact (i.drop _).take _
theorem mulOk_iff {i j : Int} (h : mulOk i j = true) : CMul i j ∨ CMulW i j := by simpa [mulOk] using h
theorem divOk_iff {i j : Int} (h : divOk i j = true) : CDiv i j ∨ CDivW i j := by simpa [divOk] using h


theorem Has.tupI {K} {xs : List D} {v : V} (h : Has K F H (.tup xs) v) : Is K F H (.tup xs) v := by
  rcases h with h | ⟨_, _, h⟩
  · exact h
  · exact h.elim
theorem binS_ok (hd : ∀ a, F a → H a ≠ none) {op : Operator} (e : binS op dx dy = some r) (hx : Has X.K F H dx x) (hy : Has X.K F H dy y) (q : Fol X.K F H r Q) : rB X (binaryOp op) x y H Q := by
  unfold binS at e
  split at e
  · cases e; exact rB.of op_add ⟨_, _, hx.int, hy.int, q.int⟩
  · split at e
    · cases e; exact rB.of op_add_str ⟨_, _, hx.str, hy.str, by assumption, q.str⟩
    · cases e
  · split at e
    · rename_i hz
      cases e
      obtain ⟨a, vs, rfl, h1, i1⟩ := hx.lst
      obtain ⟨b, ws, rfl, h2, i2⟩ := hy.lst
      exact rB.of op_cat ⟨a, b, vs, ws, rfl, rfl, h1, h2, by rw [← i1.length, ← i2.length]; exact hz, fun p hp => q.newL hd (i1.append i2) hp⟩
    · cases e
  · split at e
    · rename_i xs ys hz
      cases e
      obtain ⟨a, vs, rfl, h1, i1⟩ := hx.tup
      obtain ⟨b, ws, rfl, h2, i2⟩ := hy.tup
      refine rB.of op_catA ⟨a, b, vs, ws, rfl, rfl, h1, h2, by rw [← i1.length, ← i2.length]; exact hz, fun z => ?_, fun _ z => ?_, fun _ _ p hp => q.newT hd (i1.append i2) hp⟩
      · subst z
        have e0 := i1.length
        cases xs with
        | nil => exact q.val (by rw [List.nil_append]; exact hy.tupI)
        | cons => cases e0
      · subst z
        have e0 := i2.length
        cases ys with
        | nil => exact q.val (by rw [List.append_nil]; exact hx.tupI)
        | cons => cases e0
    · cases e
  · cases e; exact rB.of op_sub ⟨_, _, hx.int, hy.int, q.int⟩
  · split at e
    · rename_i hm
      cases e
      rcases mulOk_iff hm with hm | hm
      · exact rB.of op_mul ⟨_, _, hx.int, hy.int, hm, q.int⟩
      · exact rB.of op_mulW ⟨_, _, hx.int, hy.int, hm, q.int⟩
    · cases e
  · split at e
    · rename_i hz
      cases e
      obtain ⟨a, vs, rfl, h1, i1⟩ := hx.lst
      exact rB.of op_rep ⟨a, _, vs, rfl, hy.int, h1, hz.1, hz.2.1, by rw [← i1.length]; exact hz.2.2, fun p hp => q.newL hd (i1.rep _) hp⟩
    · cases e
  · rename_i xs k
    split at e
    · rename_i hz
      cases e
      obtain ⟨a, vs, rfl, h1, i1⟩ := hx.tup
      have hl := i1.length
      by_cases hk : k = 1
      · subst hk
        refine rB.of VIT.op_rep1 ⟨a, vs, rfl, hy.int, h1, ?_⟩
        have e1 : (List.replicate (1 : Int).toNat xs).flatten = xs := by simp
        rw [e1] at q
        exact q.val hx.tupI
      · by_cases hk0 : k = 0
        · subst hk0
          refine rB.of VIT.op_rep0 ⟨a, vs, rfl, hy.int, h1, (by intro z; rw [z, List.length_nil] at hl; omega), fun p hp => ?_⟩
          have e1 : (List.replicate (0 : Int).toNat xs).flatten = [] := rfl
          rw [e1] at q
          exact q.newT hd IsL.nil hp
        exact rB.of op_repT ⟨a, _, vs, rfl, hy.int, h1, (by intro z; rw [z, List.length_nil] at hl; omega), by omega, hz.2.2.1, by omega, fun p hp => q.newT hd (i1.rep _) hp⟩
    · cases e
  · split at e
    · rename_i hm
      cases e
      rcases divOk_iff hm with hm | hm
      · exact rB.of op_fdiv ⟨_, _, hx.int, hy.int, hm, q.int⟩
      · exact rB.of op_fdivW ⟨_, _, hx.int, hy.int, hm, q.int⟩
    · cases e
  · split at e
    · cases e; exact rB.of op_mod ⟨_, _, hx.int, hy.int, by assumption, q.int⟩
    · cases e
  · split at e
    · cases e; exact rB.of op_pow ⟨_, _, hx.int, hy.int, by assumption, q.int⟩
    · cases e
  · split at e
    · cases e; exact rB.of op_shl ⟨_, _, hx.int, hy.int, by assumption, q.int⟩
    · cases e
  · split at e
    · cases e; exact rB.of op_shr ⟨_, _, hx.int, hy.int, by assumption, q.int⟩
    · cases e
  · cases e; exact rB.of op_and ⟨_, _, hx.int, hy.int, q.int⟩
  · cases e; exact rB.of op_or ⟨_, _, hx.int, hy.int, q.int⟩
  · cases e; exact rB.of op_xor ⟨_, _, hx.int, hy.int, q.int⟩
  · cases e

/-- one-place -/
def rU1 (X : Cx) (f : Value → Sem Value) : V → Hp → VK → Prop := fun x H Q => ∀ (pins : List (Addr × Obj)) (s : Shared) (σ : Slots) (v : Value), Inv X pins σ H s → RelV x v → wpAny (model X.prog X.w) X.A (f v) (EP X pins σ Q) X.xe s
theorem unB (f : Value → Sem Value) : UnR X f (rU1 X f) := fun pins s σ H x v Q I rx h => h pins s σ v I rx
theorem rU1.of {f : Value → Sem Value} {rr : V → Hp → VK → Prop} (h : UnR X f rr) (q : rr x H Q) : rU1 X f x H Q := fun pins s σ v I rx => h pins s σ H x v Q I rx q
theorem inS_ok {c : Bool} (hu : X.A.units + 65 < cLine) (e : inS dx dy = some c) (hx : Has X.K F H dx x) (hy : Has X.K F H dy y) : (Q (.bl c) H → rB X (compareOp .In) x y H Q) ∧ (Q (.bl (!c)) H → rB X (compareOp .NotIn) x y H Q) := by
  unfold inS at e
  split at e
  · split at e
    · rename_i ds o
      cases e
      rw [Bool.and_eq_true] at o
      have h1 := hx.dp o.1
      have h2 := hy.dp o.2
      have ea : ((toPs ds).any fun z => PyData.eqv z dx.toP) = ds.any fun z => deq z dx := by
        clear o h2 hy
        induction ds with
        | nil => rfl
        | cons d r ih => rw [List.any_cons, ← ih]; rfl
      rw [← ea]
      exact ⟨fun q => rB.of (op_inD hu) ⟨_, _, h1, h2, o.1, o.2, q⟩, fun q => rB.of (op_notInD hu) ⟨_, _, h1, h2, o.1, o.2, q⟩⟩
    · cases e
  · split at e
    · rename_i ds o
      cases e
      rw [Bool.and_eq_true] at o
      obtain ⟨a, vs, rfl, h1, i1⟩ := hy.tup
      have fl : ∀ {d : D} {v : V}, flatD d = true → Has X.K F H d v → flatV v = true := by
        intro d v f h
        cases d with
        | non => cases h.non; rfl
        | bl b => cases h.bl; rfl
        | int i => cases h.int; rfl
        | str z => cases h.str; rfl
        | _ => cases f
      have ee : ∀ {d e : D} {v w : V}, flatD d = true → flatD e = true → Has X.K F H d v → Has X.K F H e w → eqV v w = deq d e := by
        intro d e v w f1 f2 h1 h2
        cases d <;> first | (cases f1; done) | (cases e <;> first | (cases f2; done) | (first | cases h1.non | cases h1.bl | cases h1.int | cases h1.str) <;> (first | cases h2.non | cases h2.bl | cases h2.int | cases h2.str) <;> rfl)
      have fa : ∀ {ds : List D} {vs : List V}, IsL X.K F H ds vs → ds.all flatD = true → vs.all flatV = true ∧ inV x vs = ds.any fun z => deq z dx := by
        intro ds
        induction ds with
        | nil => intro vs i _; simp only [IsL] at i; subst i; exact ⟨rfl, rfl⟩
        | cons d r ih =>
          intro vs i f
          simp only [IsL] at i
          obtain ⟨w, ws, rfl, j1, j2⟩ := i
          rw [List.all_cons, Bool.and_eq_true] at f
          obtain ⟨k1, k2⟩ := ih j2 f.2
          refine ⟨by rw [List.all_cons, k1, fl f.1 (.inl j1)]; rfl, ?_⟩
          rw [List.any_cons, ← k2, ← ee f.1 o.1 (.inl j1) hx]; rfl
      obtain ⟨k1, k2⟩ := fa i1 o.2
      rw [← k2]
      exact ⟨fun q => rB.of op_in_seq ⟨a, vs, rfl, .inr h1, fl o.1 hx, k1, q⟩, fun q => rB.of op_notIn_seq ⟨a, vs, rfl, .inr h1, fl o.1 hx, k1, q⟩⟩
    · cases e
  · cases e
theorem op_isBB {X : Cx} : OpR X (compareOp .Is) (fun x y H Q => ∃ a b, x = .bl a ∧ y = .bl b ∧ Q (.bl (a == b)) H) := by
  intro pins s σ H x y v u Q I rx ry h
  obtain ⟨a, b, rfl, rfl, q⟩ := h
  cases (show v = Value.bool a from rx)
  cases (show u = Value.bool b from ry)
  exact wpAny_is_plain rfl (fin_bl I q (by cases a <;> cases b <;> rfl))
theorem op_isnotBB {X : Cx} : OpR X (compareOp .IsNot) (fun x y H Q => ∃ a b, x = .bl a ∧ y = .bl b ∧ Q (.bl (!(a == b))) H) := by
  intro pins s σ H x y v u Q I rx ry h
  obtain ⟨a, b, rfl, rfl, q⟩ := h
  cases (show v = Value.bool a from rx)
  cases (show u = Value.bool b from ry)
  exact wpAny_isNot_plain rfl (fin_bl I q (by cases a <;> cases b <;> rfl))
theorem cmpS_ok {op : CmpOp} {b : Bool} (hu : X.A.units + 65 < cLine) (e : cmpS op dx dy = some b) (hx : Has X.K F H dx x) (hy : Has X.K F H dy y) (q : Q (.bl b) H) : rB X (compareOp op) x y H Q := by
  unfold cmpS at e
  split at e
  · cases e; exact rB.of op_lt ⟨_, _, hx.int, hy.int, q⟩
  · cases e; exact rB.of op_le ⟨_, _, hx.int, hy.int, q⟩
  · cases e; exact rB.of op_gt ⟨_, _, hx.int, hy.int, q⟩
  · cases e; exact rB.of op_ge ⟨_, _, hx.int, hy.int, q⟩
  · split at e
    · rename_i o
      cases e
      rw [Bool.and_eq_true] at o
      exact rB.of (op_eqD (by omega)) ⟨_, _, hx.dp o.1, hy.dp o.2, o.1, o.2, q⟩
    · cases e
  · split at e
    · rename_i o
      cases e
      rw [Bool.and_eq_true] at o
      exact rB.of (op_neD (by omega)) ⟨_, _, hx.dp o.1, hy.dp o.2, o.1, o.2, q⟩
    · cases e
  · cases e
    cases hy.non
    refine rB.of op_isN ⟨rfl, ?_⟩
    have : decide (x = .non) = isNon dx := by
      cases dx with
      | non => cases hx.non; rfl
      | bl b => cases hx.bl; rfl
      | int i => cases hx.int; rfl
      | str z => cases hx.str; rfl
      | tup xs => obtain ⟨a, vs, rfl, _⟩ := hx.tup; rfl
      | lst xs => obtain ⟨a, vs, rfl, _⟩ := hx.lst; rfl
      | scr xs => obtain ⟨a, rfl, _⟩ := hx.scr; rfl
    rw [this]; exact q
  · cases e
    cases hy.non
    refine rB.of op_notN ⟨rfl, ?_⟩
    have : decide (x = .non) = isNon dx := by
      cases dx with
      | non => cases hx.non; rfl
      | bl b => cases hx.bl; rfl
      | int i => cases hx.int; rfl
      | str z => cases hx.str; rfl
      | tup xs => obtain ⟨a, vs, rfl, _⟩ := hx.tup; rfl
      | lst xs => obtain ⟨a, vs, rfl, _⟩ := hx.lst; rfl
      | scr xs => obtain ⟨a, rfl, _⟩ := hx.scr; rfl
    rw [this]; exact q
  · cases e
    cases hx.bl
    cases hy.bl
    exact rB.of op_isBB ⟨_, _, rfl, rfl, q⟩
  · cases e
    cases hx.bl
    cases hy.bl
    exact rB.of op_isnotBB ⟨_, _, rfl, rfl, q⟩
  · exact (inS_ok hu e hx hy).1 q
  · obtain ⟨c, e1, rfl⟩ := Option.map_eq_some_iff.mp e
    exact (inS_ok hu e1 hx hy).2 q
  · cases e
theorem unS_ok {op : UnaryOp} {d : D} (hn : op ≠ .Not) (e : unS op dx = some d) (hx : Has X.K F H dx x) (q : Fol X.K F H (.v d) Q) : rU1 X (unaryOp op) x H Q := by
  unfold unS at e
  split at e
  · cases e; exact rU1.of un_neg ⟨_, hx.int, q.int⟩
  · cases e; exact rU1.of un_inv ⟨_, hx.int, q.int⟩
  · exact absurd rfl hn
  · cases e
theorem ixD {α β : Type} {xs : List α} {ys : List β} (h : xs.length = ys.length) {i : Int} {a : α} (e : atI xs i = some a) : ∃ j : Nat, xs[j]? = some a ∧ ∀ b, ys[j]? = some b → atI ys i = some b := by
  unfold atI at e ⊢
  obtain ⟨j, e1, e2⟩ := Option.bind_eq_some_iff.mp e
  exact ⟨j, e2, fun b eb => by rw [← h, e1]; exact eb⟩
theorem idxS_ok {d : D} (e : idxS dx dy = some d) (hx : Has X.K F H dx x) (hy : Has X.K F H dy y) (q : Fol X.K F H (.v d) Q) : rIx X.K x y H Q := by
  unfold idxS at e
  split at e
  · obtain ⟨a, vs, rfl, h1, i1⟩ := hx.lst
    obtain ⟨j, e1, e2⟩ := ixD i1.length e
    obtain ⟨v, e3, e4⟩ := i1.get e1
    exact .inl ⟨a, vs, _, v, rfl, hy.int, .of h1, e2 v e3, q.val e4⟩
  · obtain ⟨a, vs, rfl, h1, i1⟩ := hx.tup
    obtain ⟨j, e1, e2⟩ := ixD i1.length e
    obtain ⟨v, e3, e4⟩ := i1.get e1
    exact .inr (.inl ⟨a, vs, _, v, rfl, hy.int, h1, e2 v e3, q.val e4⟩)
  · split at e
    · obtain ⟨c, e1, rfl⟩ := Option.map_eq_some_iff.mp e
      exact .inr (.inr ⟨_, _, c, hx.str, hy.int, by assumption, e1, q.str⟩)
    · cases e
  · cases e
def rS1 (K : PySem.W.Frag) : V → Option Int → Option Int → Hp → VK → Prop := fun x lo hi H Q => rSlL K x lo hi H Q ∨ rSlA K x lo hi H Q
theorem sl_any : SlR X (rS1 X.K) := sl_list.or sl_tupA
theorem slS_ok (hd : ∀ a, F a → H a ≠ none) {lo hi : Option Int} (e : slS dx lo hi = some r) (hx : Has X.K F H dx x) (q : Fol X.K F H r Q) : rS1 X.K x lo hi H Q := by
  unfold slS at e
  split at e
  · cases e
    obtain ⟨a, vs, rfl, h1, i1⟩ := hx.lst
    exact .inl ⟨a, vs, rfl, .of h1, fun p hp => q.newL hd (i1.cut lo hi) hp⟩
  · cases e
    rename_i xs
    obtain ⟨a, vs, rfl, h1, i1⟩ := hx.tup
    refine .inr ⟨a, vs, rfl, h1, fun z => ?_, fun _ p hp => q.newT hd (i1.cut lo hi) hp⟩
    have ec : cutD xs lo hi = xs := by
      unfold cutD
      rw [i1.length, z.1, z.2, List.drop_zero, Nat.sub_zero, ← i1.length, List.take_length]
    rw [ec] at q
    exact q.val hx.tupI
  · cases e

/-! ### built-in functions -/
def HasL (K : PySem.W.Frag) (F : FS) (H : Hp) : List D → List V → Prop
  | [], vs => vs = []
  | d :: ds, vs => ∃ w ws, vs = w :: ws ∧ Has K F H d w ∧ HasL K F H ds ws
def rC (X : Cx) (f : Value) : List V → Hp → VK → Prop := fun xs H Q => ∀ (pins : List (Addr × Obj)) (s : Shared) (σ : Slots) (us : List Value), Inv X pins σ H s → Vals xs us → wpAny (model X.prog X.w) X.A (call f us) (EP X pins σ Q) X.xe s
theorem callB (f : Value) : CallR X f (rC X f) := fun pins s σ H xs us Q I r h => h pins s σ us I r
theorem rC.of {f : Value} {rr : List V → Hp → VK → Prop} {xs : List V} (h : CallR X f rr) (q : rr xs H Q) : rC X f xs H Q := fun pins s σ us I r => h pins s σ H xs us Q I r q
def Bf.val : Bf → Value
  | .len => .builtin "len" | .int => .type "int" | .abs => .builtin "abs" | .tuple => .type "tuple" | .list => .type "list" | .sorted => .builtin "sorted"
  | .sum => .builtin "sum" | .max => .builtin "max" | .min => .builtin "min" | .any => .builtin "any" | .all => .builtin "all" | .minp => .builtin "min" | .str => .type "str" | .bool => .type "bool"
def Bf.nm : Bf → Str
  | .len => "len" | .int => "int" | .abs => "abs" | .tuple => "tuple" | .list => "list" | .sorted => "sorted"
  | .sum => "sum" | .max => "max" | .min => "min" | .any => "any" | .all => "all" | .minp => "min" | .str => "str" | .bool => "bool"
theorem HasL.one {K} {d : D} {vs : List V} (h : HasL K F H [d] vs) : ∃ v, vs = [v] ∧ Has K F H d v := by
  obtain ⟨w, ws, rfl, h1, h2⟩ := h
  cases (show ws = [] from h2)
  exact ⟨w, rfl, h1⟩
theorem HasL.two {K} {d e : D} {vs : List V} (h : HasL K F H [d, e] vs) : ∃ v w, vs = [v, w] ∧ Has K F H d v ∧ Has K F H e w := by
  obtain ⟨w, ws, rfl, h1, h2⟩ := h
  obtain ⟨w', rfl, h3⟩ := HasL.one h2
  exact ⟨w, w', rfl, h1, h3⟩
theorem maxL_ge : ∀ {ns : List Int} {y : Int}, y ∈ ns → y ≤ maxL ns
  | [x], y, h => by simp at h; subst h; exact Int.le_refl _
  | x :: z :: r, y, h => by
    simp only [maxL]
    rcases List.mem_cons.mp h with rfl | h
    · omega
    · have := maxL_ge h
      omega
theorem maxL_mem : ∀ {ns : List Int}, 0 < ns.length → maxL ns ∈ ns
  | [x], _ => by simp [maxL]
  | x :: z :: r, _ => by
    have ih := maxL_mem (ns := z :: r) (by simp)
    simp only [maxL]
    by_cases h : x ≤ maxL (z :: r)
    · rw [Int.max_eq_right h]; exact List.mem_cons_of_mem _ ih
    · rw [Int.max_eq_left (by omega)]; exact List.mem_cons_self
theorem minL_le : ∀ {ns : List Int} {y : Int}, y ∈ ns → minL ns ≤ y
  | [x], y, h => by simp at h; subst h; exact Int.le_refl _
  | x :: z :: r, y, h => by
    simp only [minL]
    rcases List.mem_cons.mp h with rfl | h
    · omega
    · have := minL_le h
      omega
theorem minL_mem : ∀ {ns : List Int}, 0 < ns.length → minL ns ∈ ns
  | [x], _ => by simp [minL]
  | x :: z :: r, _ => by
    have ih := minL_mem (ns := z :: r) (by simp)
    simp only [minL]
    by_cases h : x ≤ minL (z :: r)
    · rw [Int.min_eq_left h]; exact List.mem_cons_self
    · rw [Int.min_eq_right (by omega)]; exact List.mem_cons_of_mem _ ih
theorem sort_perm (ns : List Int) : (ns.mergeSort (· ≤ ·)).Perm ns := List.mergeSort_perm ns _
theorem sort_pw (ns : List Int) : (ns.mergeSort (· ≤ ·)).Pairwise (· ≤ ·) := by
  have h := List.pairwise_mergeSort (le := fun a b : Int => decide (a ≤ b)) (fun a b c h1 h2 => by simp at *; omega) (fun a b => by simp; omega) ns
  exact h.imp fun h => by simpa using h
theorem pairs_len : ∀ {xs : List D} {ps : List (Int × Int)}, pairsD xs = some ps → ps.length = xs.length
  | [], ps, h => by simp only [pairsD, Option.some.injEq] at h; subst h; rfl
  | d :: xs, ps, h => by
    unfold pairsD at h
    split at h
    · rename_i hh; cases hh
    · rename_i a b r hh
      cases hh
      obtain ⟨qs, h1, rfl⟩ := Option.map_eq_some_iff.mp h
      simp [pairs_len h1]
    · cases h
theorem pairs_get : ∀ {xs : List D} {ps : List (Int × Int)} {i : Nat} {d : D}, pairsD xs = some ps → xs[i]? = some d → ∃ p, ps[i]? = some p ∧ d = .tup [.int p.1, .int p.2]
  | [], ps, i, d, h, hd => by simp at hd
  | e :: xs, ps, i, d, h, hd => by
    unfold pairsD at h
    split at h
    · rename_i hh; cases hh
    · rename_i a b r hh
      cases hh
      obtain ⟨qs, h1, rfl⟩ := Option.map_eq_some_iff.mp h
      cases i with
      | zero =>
        simp only [List.getElem?_cons_zero, Option.some.injEq] at hd
        subst hd
        exact ⟨(a, b), rfl, rfl⟩
      | succ i =>
        obtain ⟨p, k1, k2⟩ := pairs_get (i := i) h1 (by simpa using hd)
        exact ⟨p, by simpa using k1, k2⟩
    · cases h
theorem minPr_mem : ∀ {ps : List (Int × Int)}, 0 < ps.length → minPr ps ∈ ps
  | [p], _ => by simp [minPr]
  | p :: q :: r, _ => by
    have ih := minPr_mem (ps := q :: r) (by simp)
    simp only [minPr]
    split
    · exact List.mem_cons_of_mem _ ih
    · exact List.mem_cons_self
theorem minPr_le : ∀ {ps : List (Int × Int)} {y : Int × Int}, y ∈ ps → SrtO.lexB y (minPr ps) = false
  | [p], y, h => by
    simp at h; subst h
    exact SrtO.lexB_no.mpr (by simp [minPr])
  | p :: q :: r, y, h => by
    simp only [minPr]
    have ih : ∀ y ∈ q :: r, SrtO.lexB y (minPr (q :: r)) = false := fun y hy => minPr_le hy
    cases hb : SrtO.lexB (minPr (q :: r)) p with
    | true =>
      simp only [if_true]
      rcases List.mem_cons.mp h with rfl | h
      · have := SrtO.lexB_iff.mp hb
        exact SrtO.lexB_no.mpr (by omega)
      · exact ih y h
    | false =>
      simp only [Bool.false_eq_true, if_false]
      rcases List.mem_cons.mp h with rfl | h
      · exact SrtO.lexB_no.mpr (by omega)
      · have a := SrtO.lexB_no.mp (ih y h)
        have b := SrtO.lexB_no.mp hb
        exact SrtO.lexB_no.mpr (by omega)
theorem bltS_ok (hc : X.calm = true) (hu : X.A.units + 10 < cLine) (hd : ∀ a, F a → H a ≠ none) {b : Bf} {ds : List D} {vs : List V} (e : bltS b ds = some r) (hx : HasL X.K F H ds vs) (q : Fol X.K F H r Q) : rC X b.val vs H Q := by
  unfold bltS at e
  split at e
  · cases e
    obtain ⟨v, rfl, h⟩ := hx.one
    obtain ⟨a, ws, rfl, h1, i1⟩ := h.lst
    exact rC.of call_len_seq ⟨a, ws, rfl, .inl (.of h1), by rw [← i1.length]; exact q.int⟩
  · cases e
    obtain ⟨v, rfl, h⟩ := hx.one
    obtain ⟨a, ws, rfl, h1, i1⟩ := h.tup
    exact rC.of call_len_seq ⟨a, ws, rfl, .inr h1, by rw [← i1.length]; exact q.int⟩
  · cases e
    obtain ⟨v, rfl, h⟩ := hx.one
    obtain ⟨a, rfl, h1⟩ := h.scr
    refine rC.of call_len_seq ⟨a, _, rfl, .inl h1, by rw [List.length_map]; exact q.int⟩
  · split at e
    · cases e
      obtain ⟨v, rfl, h⟩ := hx.one
      cases h.str
      exact rC.of call_len_str ⟨_, rfl, by assumption, q.int⟩
    · cases e
  · cases e
    obtain ⟨v, rfl, h⟩ := hx.one
    cases h.int
    exact rC.of call_int1 (.inl ⟨_, rfl, q.int⟩)
  · cases e
    obtain ⟨v, rfl, h⟩ := hx.one
    cases h.bl
    exact rC.of call_int1 (.inr ⟨_, rfl, q.int⟩)
  · cases e
    obtain ⟨v, rfl, h⟩ := hx.one
    cases h.int
    exact rC.of call_abs ⟨_, rfl, q.int⟩
  · cases e
    obtain ⟨v, rfl, h⟩ := hx.one
    obtain ⟨a, ws, rfl, h1, i1⟩ := h.lst
    exact rC.of call_tuple_of ⟨a, ws, rfl, .inl ⟨.of h1, fun p hp => q.newT hd i1 hp⟩⟩
  · cases e
    obtain ⟨v, rfl, h⟩ := hx.one
    have h0 := h.tupI
    obtain ⟨a, ws, rfl, h1, i1⟩ := h.tup
    exact rC.of call_tuple_of ⟨a, ws, rfl, .inr ⟨h1, q.val h0⟩⟩
  · cases e
    obtain ⟨v, rfl, h⟩ := hx.one
    obtain ⟨a, ws, rfl, h1, i1⟩ := h.lst
    exact rC.of call_list_of ⟨a, ws, rfl, .inl (.of h1), fun p hp => q.newL hd i1 hp⟩
  · cases e
    obtain ⟨v, rfl, h⟩ := hx.one
    obtain ⟨a, ws, rfl, h1, i1⟩ := h.tup
    exact rC.of call_list_of ⟨a, ws, rfl, .inr h1, fun p hp => q.newL hd i1 hp⟩
  · obtain ⟨ns, e1, rfl⟩ := Option.map_eq_some_iff.mp e
    obtain ⟨v, rfl, h⟩ := hx.one
    obtain ⟨a, ws, rfl, h1, i1⟩ := h.lst
    rw [i1.ints e1] at h1
    refine rC.of cr_sortedI ⟨a, ns, rfl, .of h1, fun ns' p hp hs hn => ?_⟩
    have : ns' = ns.mergeSort (· ≤ ·) := PySem.W.ksm_same (hp.trans (sort_perm ns).symm) hs (sort_pw ns)
    subst this
    exact q.newL hd (IsL.of_ints _) hn
  · obtain ⟨ns, e1, rfl⟩ := Option.map_eq_some_iff.mp e
    obtain ⟨v, rfl, h⟩ := hx.one
    obtain ⟨a, ws, rfl, h1, i1⟩ := h.lst
    rw [i1.ints e1] at h1
    exact rC.of (cr_sum hc) ⟨a, ns, rfl, .of h1, q.int⟩
  · obtain ⟨ns, e1, e2⟩ := Option.bind_eq_some_iff.mp e
    obtain ⟨v, rfl, h⟩ := hx.one
    obtain ⟨a, ws, rfl, h1, i1⟩ := h.lst
    rw [i1.ints e1] at h1
    split at e2
    · rename_i hl
      cases e2
      refine rC.of (cr_max hc) ⟨a, ns, rfl, .of h1, hl, fun m hm hy => ?_⟩
      have : m = maxL ns := Int.le_antisymm (maxL_ge hm) (hy _ (maxL_mem hl))
      subst this
      exact q.int
    · cases e2
  · obtain ⟨ns, e1, e2⟩ := Option.bind_eq_some_iff.mp e
    obtain ⟨v, rfl, h⟩ := hx.one
    obtain ⟨a, ws, rfl, h1, i1⟩ := h.lst
    rw [i1.ints e1] at h1
    split at e2
    · rename_i hl
      cases e2
      refine rC.of (cr_min hc) ⟨a, ns, rfl, .of h1, hl, fun m hm hy => ?_⟩
      have : m = minL ns := Int.le_antisymm (hy _ (minL_mem hl)) (minL_le hm)
      subst this
      exact q.int
    · cases e2
  · obtain ⟨ps, e1, e2⟩ := Option.bind_eq_some_iff.mp e
    obtain ⟨v, rfl, h⟩ := hx.one
    obtain ⟨a, ws, rfl, h1, i1⟩ := h.lst
    split at e2
    · rename_i xs hl
      cases e2
      have hlen := i1.length
      have hlp := pairs_len e1
      have at_ : ∀ (i : Nat) (x : V), ws[i]? = some x → ∃ p, ps[i]? = some p ∧ Is X.K F H (.tup [.int p.1, .int p.2]) x := fun i x hx => by
        have hi : i < ws.length := (List.getElem?_eq_some_iff.mp hx).1
        have hi' : i < xs.length := by omega
        obtain ⟨p, k1, k2⟩ := pairs_get e1 (List.getElem?_eq_getElem hi')
        obtain ⟨v, k3, k4⟩ := i1.get (List.getElem?_eq_getElem hi')
        rw [hx] at k3; cases k3
        rw [k2] at k4
        exact ⟨p, k1, k4⟩
      refine rC.of (VIP.cr_minP hc hu) ⟨a, ws, fun i => ps.getD i (0, 0), rfl, .of h1, by omega, fun i x hx => ?_, fun i x hx hm => ?_⟩
      · obtain ⟨p, k1, k2⟩ := at_ i x hx
        simp only [Is, IsL] at k2
        obtain ⟨t, vs, rfl, k3, w1, ws1, rfl, rfl, w2, ws2, rfl, rfl, rfl⟩ := k2
        have k4 : ps.getD i (0, 0) = p := by rw [List.getD_eq_getElem?_getD, k1] <;> rfl
        refine ⟨t, rfl, ?_⟩
        show SqT X.K H t [V.int (ps.getD i (0, 0)).1, V.int (ps.getD i (0, 0)).2]
        rw [k4]
        exact k3.seq
      · obtain ⟨p, k1, k2⟩ := at_ i x hx
        have k4 : ps.getD i (0, 0) = p := by rw [List.getD_eq_getElem?_getD, k1] <;> rfl
        obtain ⟨j, hj⟩ := List.mem_iff_getElem?.mp (minPr_mem hl)
        have hjl : j < ps.length := (List.getElem?_eq_some_iff.mp hj).1
        have g1 := hm j (by omega)
        simp only [k4] at g1
        rw [List.getD_eq_getElem?_getD, hj] at g1
        have g1 := SrtO.lexB_no.mp g1
        simp only [Option.getD_some] at g1
        have g2 := SrtO.lexB_no.mp (minPr_le (List.mem_of_getElem? k1))
        have e5 : p.1 = (minPr ps).1 := by omega
        have e6 : p.2 = (minPr ps).2 := by omega
        rw [e5, e6] at k2
        exact q.val k2
    · cases e2
  · cases e
    obtain ⟨v, w, rfl, h, h'⟩ := hx.two
    cases h.int
    cases h'.int
    exact rC.of (call_max2 hc) ⟨_, _, rfl, q.int⟩
  · cases e
    obtain ⟨v, w, rfl, h, h'⟩ := hx.two
    cases h.int
    cases h'.int
    exact rC.of (call_min2 hc) ⟨_, _, rfl, q.int⟩
  · obtain ⟨ns, e1, rfl⟩ := Option.map_eq_some_iff.mp e
    obtain ⟨v, rfl, h⟩ := hx.one
    obtain ⟨a, ws, rfl, h1, i1⟩ := h.lst
    rw [i1.bls e1] at h1
    exact rC.of (cr_any hc) ⟨a, ns, rfl, .of h1, q.bl⟩
  · obtain ⟨ns, e1, rfl⟩ := Option.map_eq_some_iff.mp e
    obtain ⟨v, rfl, h⟩ := hx.one
    obtain ⟨a, ws, rfl, h1, i1⟩ := h.lst
    rw [i1.bls e1] at h1
    exact rC.of (cr_all hc) ⟨a, ns, rfl, .of h1, q.bl⟩
  · cases e
/-! ### methods that change a list -/
def rM (X : Cx) (id : String) : V → List V → Hp → VK → Prop := fun x xs H Q => ∀ (pins : List (Addr × Obj)) (s : Shared) (σ : Slots) (v : Value) (us : List Value), Inv X pins σ H s → RelV x v → Vals xs us → wpAny (model X.prog X.w) X.A (call (.builtin id) (v :: us)) (EP X pins σ Q) X.xe s
theorem mtB (id : String) : MtR X id (rM X id) := fun pins s σ H x xs v us Q I rx r h => h pins s σ v us I rx r
theorem rM.of {id : String} {rr : V → List V → Hp → VK → Prop} {xs : List V} (h : MtR X id rr) (q : rr x xs H Q) : rM X id x xs H Q := fun pins s σ v us I rx r => h pins s σ H x xs v us Q I rx r q
def Mf.nm : Mf → Str
  | .append => "append" | .pop => "pop" | .reverse => "reverse" | .extend => "extend" | .insert => "insert" | .remove => "remove" | .clear => "clear" | .sort => "sort"
def Mf.id : Mf → String
  | .append => "list.append" | .pop => "list.pop" | .reverse => "list.reverse" | .extend => "list.extend" | .insert => "list.insert" | .remove => "list.remove" | .clear => "list.clear" | .sort => "list.sort"
theorem mthS_ok {m : Mf} {xs ys ds : List D} {ws vs : List V} {d : D} {p : Addr} (e : mthS m xs ds = some (d, ys)) (h1 : H p = some (.lst ws)) (i1 : IsL X.K F H xs ws) (i2 : IsL X.K F H ds vs)
    (q : ∀ v zs, Is X.K F H d v → IsL X.K F H ys zs → Q v (upd H p (.lst zs))) : rM X m.id (.ref p) vs H Q := by
  unfold mthS at e
  split at e
  · split at e
    · rename_i hz
      cases e
      simp only [IsL] at i2
      obtain ⟨w, ws', rfl, j1, rfl⟩ := i2
      exact rM.of mt_append ⟨p, ws, w, rfl, rfl, h1, by rw [← i1.length]; exact hz, q _ _ (by simp [Is]) (i1.snoc j1)⟩
    · cases e
  · split at e
    · rename_i d' hd
      cases e
      simp only [IsL] at i2
      subst i2
      rw [List.getLast?_eq_getElem?] at hd
      obtain ⟨v, e1, e2⟩ := i1.get hd
      exact rM.of mt_pop ⟨p, ws, v, rfl, rfl, h1, by rw [← i1.length]; exact e1, q _ _ e2 i1.dropLast⟩
    · cases e
  · split at e
    · split at e
      · split at e
        · rename_i _ k hk _ d' hd hb
          cases e
          simp only [IsL] at i2
          obtain ⟨w, ws', rfl, j1, rfl⟩ := i2
          simp only [Is] at j1
          subst j1
          obtain ⟨v, e1, e2⟩ := i1.get hd
          refine rM.of mt_popAt ⟨p, ws, _, k, v, rfl, rfl, h1, hb.1, hb.2, by rw [← i1.length]; exact (ixN_seq hk).1, e1, q _ _ e2 (i1.eraseIdx k)⟩
        · cases e
      · cases e
    · cases e
  · cases e
    simp only [IsL] at i2
    subst i2
    exact rM.of mt_reverse ⟨p, ws, rfl, rfl, h1, q _ _ (by simp [Is]) i1.reverse⟩
  · split at e
    · rename_i hz
      cases e
      simp only [IsL] at i2
      obtain ⟨w, ws', rfl, j1, rfl⟩ := i2
      simp only [Is] at j1
      obtain ⟨b, zs, rfl, f1, j2⟩ := j1
      exact rM.of mt_extend ⟨p, b, ws, zs, rfl, rfl, h1, f1.2, by rw [← i1.length, ← j2.length]; exact hz, q _ _ (by simp [Is]) (i1.append j2)⟩
    · cases e
  · cases e
    simp only [IsL] at i2
    subst i2
    exact rM.of mt_clear ⟨p, ws, rfl, rfl, h1, q _ _ (by simp [Is]) IsL.nil⟩
  · cases e
end
end VI
/-! VI5: the text and the small language: when they are the same. -/
namespace VI
open PySem PySem.Spec L2

structure Gm where
  fns : List (Str × Nat)
  frees : List Str
  /-- gcd is math.gcd -/
  gc : Bool := false

def visB (sc : Scope) (x : Str) : Bool := (match sc.names.lookup x with
  | some .local => true
  | some .cell => true
  | some .free => true
  | _ => false) && !(x == ("__debug__" : Str)) && !(x == ("__classdict__" : Str))
def locB (sc : Scope) (x : Str) : Bool := match sc.names.lookup x with
  | some .local => true
  | some .cell => true
  | _ => false
def glB (sc : Scope) (x : Str) : Bool := sc.names.lookup x == some .globalImplicit && !(x == ("__debug__" : Str)) && !(x == ("__name__" : Str))
def freeB (Γ : Gm) (sc : Scope) (x : Str) : Bool := glB sc x && Γ.frees.contains x
def litB : D → Const → Bool
  | .non, .none => true
  | .bl b, .bool c => b == c
  | .int i, .int j => i == j
  | .str x, .str y => x == y
  | _, _ => false
def nmB (N : List Str) (sc : Scope) (i : Nat) (x : Str) : Bool := N[i]? == some x && visB sc x
/-- a target's name: its slot; st: where the block itself may store -/
def tnB (N : List Str) (sc : Scope) (st : Str → Bool) (i : Nat) (x : Str) : Bool := N[i]? == some x && locB sc x && (st x || sc.names.lookup x == some .local)
mutual
def mT (N : List Str) (sc : Scope) (st : Str → Bool) : T → Expr → Bool
  | .nm i, e => match e with
    | .Name x _ => tnB N sc st i x
    | _ => false
  | .tup ts, e => match e with
    | .Tuple es _ _ => mTs N sc st ts es
    | _ => false
def mTs (N : List Str) (sc : Scope) (st : Str → Bool) : Ts → List Expr → Bool
  | .nil, es => es.isEmpty
  | .cons t ts, es => match es with
    | e :: es => mT N sc st t e && mTs N sc st ts es
    | [] => false
end
mutual
def T.slots : T → List Nat
  | .nm i => [i]
  | .tup ts => ts.slots
def Ts.slots : Ts → List Nat
  | .nil => []
  | .cons t ts => t.slots ++ ts.slots
end
def T.isTup : T → Bool
  | .tup _ => true
  | _ => false
def Ty.nm : Ty → Str
  | .int => "int" | .bool => "bool" | .str => "str" | .tuple => "tuple" | .list => "list" | .none => "NoneType"
def Ty.ok : Ty → Bool
  | .none => false
  | _ => true
def tysB (Γ : Gm) (sc : Scope) : List Ty → List Expr → Bool
  | [], [] => true
  | t :: ts, e :: es => t.ok && (match e with | .Name x _ => x == t.nm && freeB Γ sc x | _ => false) && tysB Γ sc ts es
  | _, _ => false
/-- no head that asks for a rule of its own -/
def headOk : Expr → Bool
  | .Starred _ _ => false
  | .Set _ _ _ => false
  | .Slice _ _ _ _ => false
  | _ => true
def neverOk : Expr → Bool
  | .Starred _ _ => false
  | .Set _ _ _ => false
  | .Slice _ _ _ _ => false
  | .SetComp _ _ _ _ => false
  | .DictComp _ _ _ _ _ => false
  | _ => true
def plainT : Expr → Bool
  | .UnaryOp _ _ _ => false
  | .BoolOp _ _ _ => false
  | .IfExp _ _ _ _ => false
  | .Compare _ _ _ _ => false
  | _ => true
def baseOk : Expr → Bool
  | .Call _ [] _ _ => false
  | _ => true
def stOf (scope : Scope) (x : Str) : Bool := scope.names.lookup x == some .cell
section
variable (Γ : Gm) (N : List Str)
mutual
def mE : E → Scope → Expr → Bool
  | .nm i, sc, e => match e with
    | .Name x _ => nmB N sc i x
    | _ => false
  | .lit d, _, e => match e with
    | .Constant c _ _ => litB d c
    | _ => false
  | .bin op a b, sc, e => match e with
    | .BinOp pa pop pb _ => decide (op = pop) && mE a sc pa && mE b sc pb
    | _ => false
  | .un op a, sc, e => match e with
    | .UnaryOp pop pa _ => decide (op = pop) && mE a sc pa
    | _ => false
  | .cmp op a b, sc, e => match e with
    | .Compare pa [pop] [pb] _ => decide (op = pop) && mE a sc pa && mE b sc pb
    | _ => false
  | .cmp2 op op' a b c, sc, e => match e with
    | .Compare pa [p1, p2] [pb, pc] _ => decide (op = p1) && decide (op' = p2) && mE a sc pa && mE b sc pb && mE c sc pc
    | _ => false
  | .and es, sc, e => match e with
    | .BoolOp .And ps _ => mEs es sc ps
    | _ => false
  | .or es, sc, e => match e with
    | .BoolOp .Or ps _ => mEs es sc ps
    | _ => false
  | .ifx c a b, sc, e => match e with
    | .IfExp pc pa pb _ => mC c sc pc && mE a sc pa && mE b sc pb
    | _ => false
  | .tup es, sc, e => match e with
    | .Tuple ps _ _ => mEs es sc ps
    | _ => false
  | .lst es, sc, e => match e with
    | .List ps _ => mEs es sc ps
    | _ => false
  | .idx a b, sc, e => match e with
    | .Subscript pa pb _ => mE a sc pa && mE b sc pb
    | _ => false
  | .sli a lo hi, sc, e => match e with
    | .Subscript pa (.Slice plo phi none _) _ => mE a sc pa && mO lo sc plo && mO hi sc phi
    | _ => false
  | .call f es, sc, e => match e with
    | .Call (.Name x _) ps [] _ => glB sc x && Γ.fns.contains (x, f) && mEs es sc ps
    | _ => false
  | .blt b es, sc, e => match e with
    | .Call (.Name x _) ps [] _ => x == b.nm && freeB Γ sc x && !ps.isEmpty && mEs es sc ps
    | _ => false
  | .rng tp a b, sc, e => match e with
    | .Call (.Name x _) [.Call (.Name y _) ps [] _] [] _ => x == (if tp then "tuple" else "list" : Str) && freeB Γ sc x && y == ("range" : Str) && freeB Γ sc y && (match ps with
      | [pa] => mE a sc pa && mO b sc none
      | [pa, pb] => mE a sc pa && mO b sc (some pb)
      | _ => false)
    | _ => false
  | .isi a ts, sc, e => match e with
    | .Call (.Name x _) [pa, pt] [] _ => x == ("isinstance" : Str) && freeB Γ sc x && decide (ts.length ≤ 10) && mE a sc pa && (match pt with
      | .Tuple ps _ _ => tysB Γ sc ts ps
      | .Name y p => tysB Γ sc ts [.Name y p]
      | _ => false)
    | _ => false
  | .mth m i es, sc, e => match e with
    | .Call (.Attribute (.Name x _) n apos) ps [] cpos => nmB N sc i x && n == m.nm && apos.endLine == cpos.line && decide (ps.length < 20) && mEs es sc ps
    | _ => false
  | .mt m a es, sc, e => false
  | .lc vs el t it c, sc, e => match e with
    | .ListComp pel [⟨ptg, pit, pifs, 0⟩] scope _ =>
      let own := vs.map fun i => (N.getD i "", i)
      blkC N sc scope own && mI it t.isTup sc pit && mT N (relS scope sc) (stOf scope) t ptg && t.slots.all (vs.contains ·) &&
        mOC c (relS scope sc) pifs && mE el (relS scope sc) pel
    | _ => false
  | .lc2 vs vs1 el t it c t1 it1 c1, sc, e => match e with
    | .ListComp pel [⟨ptg, pit, pifs, 0⟩, ⟨ptg1, pit1, pifs1, 0⟩] scope _ =>
      let own := vs.map fun i => (N.getD i "", i)
      blkC N sc scope own && vs1.all (vs.contains ·) && mI it t.isTup sc pit && mT N (relS scope sc) (stOf scope) t ptg && t.slots.all (vs.contains ·) && mOC c (relS scope sc) pifs &&
        mI it1 t1.isTup (relS scope sc) pit1 && mT N (relS scope sc) (stOf scope) t1 ptg1 && t1.slots.all (vs1.contains ·) && mOC c1 (relS scope sc) pifs1 && mE el (relS scope sc) pel
    | _ => false
  | .never, _, e => neverOk e
  | .srtset a, sc, e => match e with
    | .Call (.Name x _) [.Call (.Name y _) [pa] [] _] [] _ => x == ("sorted" : Str) && freeB Γ sc x && y == ("set" : Str) && freeB Γ sc y && mE a sc pa
    | _ => false
  | .dfl mx a d, sc, e => match e with
    | .Call (.Name x _) [pa] [⟨some k, pd, _⟩] _ => x == (if mx then "max" else "min" : Str) && freeB Γ sc x && k == ("default" : Str) && mE a sc pa && mE d sc pd
    | _ => false
  | .bits a, sc, e => match e with
    | .Call (.Attribute pa n apos) [] [] cpos => n == ("bit_length" : Str) && baseOk pa && apos.endLine == cpos.line && mE a sc pa
    | _ => false
  | .gcd a b, sc, e => match e with
    | .Call (.Name x _) [pa, pb] [] _ => x == ("gcd" : Str) && glB sc x && Γ.gc && mE a sc pa && mE b sc pb
    | _ => false
  | .ixof a b, sc, e => match e with
    | .Call (.Attribute pa n apos) [pb] [] cpos => n == ("index" : Str) && baseOk pa && apos.endLine == cpos.line && mE a sc pa && mE b sc pb
    | _ => false
def mEs : Es → Scope → List Expr → Bool
  | .nil, _, ps => ps.isEmpty
  | .cons e es, sc, ps => match ps with
    | p :: ps => mE e sc p && mEs es sc ps
    | [] => false
def mO : OE → Scope → Option Expr → Bool
  | .no, _, p => p.isNone
  | .so e, sc, p => match p with
    | some p => mE e sc p
    | none => false
def mC : C → Scope → Expr → Bool
  | .ifc c a b, sc, p => match p with
    | .IfExp pc pa pb _ => plainT pa && plainT pb && mC c sc pc && mE a sc pa && mE b sc pb
    | _ => false
  | .val e, sc, p => plainT p && mE e sc p
  | .and cs, sc, e => match e with
    | .BoolOp .And ps _ => mCs cs sc ps
    | _ => false
  | .or cs, sc, e => match e with
    | .BoolOp .Or ps _ => mCs cs sc ps
    | _ => false
  | .not c, sc, e => match e with
    | .UnaryOp .Not p _ => mC c sc p
    | _ => false
  | .cmp op a b, sc, e => match e with
    | .Compare pa [pop] [pb] _ => decide (op = pop) && mE a sc pa && mE b sc pb
    | _ => false
  | .cmp2 op op' a b c, sc, e => match e with
    | .Compare pa [p1, p2] [pb, pc] _ => decide (op = p1) && decide (op' = p2) && mE a sc pa && mE b sc pb && mE c sc pc
    | _ => false
def mCs : Cs → Scope → List Expr → Bool
  | .nil, _, ps => ps.isEmpty
  | .cons c cs, sc, ps => match ps with
    | p :: ps => mC c sc p && mCs cs sc ps
    | [] => false
def mOC : OC → Scope → List Expr → Bool
  | .no, _, ps => ps.isEmpty
  | .so c, sc, ps => match ps with
    | [p] => mC c sc p
    | _ => false
def mI : I → Bool → Scope → Expr → Bool
  | .seq e, _, sc, p => mE e sc p
  | .rng1 a, _, sc, p => match p with
    | .Call (.Name x _) [pa] [] _ => x == ("range" : Str) && freeB Γ sc x && mE a sc pa
    | _ => false
  | .rng2 a b, _, sc, p => match p with
    | .Call (.Name x _) [pa, pb] [] _ => x == ("range" : Str) && freeB Γ sc x && mE a sc pa && mE b sc pb
    | _ => false
  | .rng3 _ _ _, _, _, _ => false
  | .enum e, tp, sc, p => match p with
    | .Call (.Name x _) [pa] [] _ => tp && x == ("enumerate" : Str) && freeB Γ sc x && mE e sc pa
    | _ => false
  | .zip a b, tp, sc, p => match p with
    | .Call (.Name x _) [pa, pb] [] _ => tp && x == ("zip" : Str) && freeB Γ sc x && mE a sc pa && mE b sc pb
    | _ => false
  | .zip3 a b c, tp, sc, p => match p with
    | .Call (.Name x _) [pa, pb, pc] [] _ => tp && x == ("zip" : Str) && freeB Γ sc x && mE a sc pa && mE b sc pb && mE c sc pc
    | _ => false
  | .rev _, _, _, _ => false
end
end
theorem ba {a b : Bool} (h : (a && b) = true) : a = true ∧ b = true := by simpa using h
theorem mE_head {Γ : Gm} {N : List Str} : ∀ {e : E} {sc : Scope} {p : Expr}, mE Γ N e sc p = true → headOk p = true := by
  intro e sc p h
  cases e with
  | never => unfold mE at h; cases p <;> first | rfl | cases h
  | _ => unfold mE at h; first | (split at h <;> first | rfl | cases h) | cases h
theorem starEach_of {e : Expr} {es : List Expr} {env : Env} (h : headOk e = true) : starEach (e :: es) env = (false, eval e env) :: starEach es env := by
  cases e <;> first | rfl | cases h
theorem mEs_star {Γ : Gm} {N : List Str} : ∀ {es : Es} {sc : Scope} {ps : List Expr}, mEs Γ N es sc ps = true → ∀ (pos : Pos) (env : Env), (backTo pos (starEach ps env)).any (·.1) = false
  | .nil, sc, ps, h, pos, env => by
    unfold mEs at h
    cases ps with
    | nil => rfl
    | cons => cases h
  | .cons e es, sc, ps, h, pos, env => by
    unfold mEs at h
    cases ps with
    | nil => cases h
    | cons p ps =>
      obtain ⟨h1, h2⟩ := ba h
      rw [starEach_of (mE_head h1)]
      show (false || (backTo pos (starEach ps env)).any (·.1)) = false
      rw [mEs_star h2 pos env] <;> rfl
theorem mark_of {op : CmpOp} {e : Expr} (h : headOk e = true) : behindInMarks op e = false := by
  cases e <;> first | rfl | cases h
theorem ix_of {e : Expr} (h : headOk e = true) : PlainIx e := by
  intro o i
  cases e <;> first | rfl | cases h
theorem fold_of {e : Expr} {env : Env} (h : headOk e = true) : ∀ x, foldedSetIterable e env x = pure x := by
  intro x
  cases e <;> first | rfl | cases h
end VI
/-! VI6: slots change. -/
namespace VI
open PySem PySem.Spec L2
section
variable {K : PySem.W.Frag} {F F1 F2 : FS} {H H1 H2 : Hp} {env env1 env2 : En} {σ σ1 σ2 : Slots}

theorem getset {i j : Nat} {s t : Sl} (h : (env.set i s)[j]? = some t) : (i = j ∧ t = s ∧ i < env.length) ∨ (i ≠ j ∧ env[j]? = some t) := by
  by_cases e : i = j
  · subst e
    by_cases hl : i < env.length
    · rw [List.getElem?_set_self hl] at h; cases h; exact .inl ⟨rfl, rfl, hl⟩
    · rw [List.getElem?_eq_none (by rw [List.length_set]; omega)] at h; cases h
  · rw [List.getElem?_set_ne e] at h
    exact .inr ⟨e, h⟩
theorem lt_of_get {i : Nat} {t : Sl} (h : env[i]? = some t) : i < env.length := (List.getElem?_eq_some_iff.mp h).1
theorem OwnAt.nea {d : D} {a c : Addr} (ho : OwnAt K F H d a) (f : F c) : c ≠ a := fun z => by subst z; exact ho.nF f
/-- a list held by a slot alone becomes a value that stays -/
theorem Pst.setFz (p : Pst K F H env σ F1 H1 env1 σ) {i : Nat} {d : D} {a : Addr} (e : env1[i]? = some (.ow false d)) (ea : σ[i]? = some (some (.ref a))) (ho : OwnAt K F1 H1 d a) :
    Pst K F H env σ (fun b => F1 b ∨ b = a) H1 (env1.set i (.fz d)) σ where
  st := ⟨fun c h => .inl (p.st.sub c h), p.st.agr, p.st.dom, fun c h1 h2 h3 => by
    obtain ⟨e1, e2⟩ := p.st.oth c h1 h2 h3
    refine ⟨e1, fun z => z.elim e2 fun z => ?_⟩
    subst z
    rcases p.own c ⟨i, _, d, e, rfl, ea⟩ with z | z
    · exact h3 z
    · exact h1 z⟩
  rel := {
    len := by rw [List.length_set]; exact p.rel.len
    fz := fun j d' h => by
      rcases getset h with ⟨rfl, h, _⟩ | ⟨_, h⟩
      · cases h; exact ⟨_, ea, ho.is⟩
      · obtain ⟨v, e1, e2⟩ := p.rel.fz j d' h
        exact ⟨v, e1, e2.mono (fun _ => .inl) fun _ _ => rfl⟩
    ow := fun j s d' h hs => by
      rcases getset h with ⟨rfl, h, _⟩ | ⟨hn, h⟩
      · cases h; cases hs
      · obtain ⟨b, e1, e2⟩ := p.rel.ow j s d' h hs
        refine ⟨b, e1, e2.mono (fun _ => .inl) (fun _ _ => rfl) rfl fun z => z.elim e2.nF fun z => ?_⟩
        subst z
        exact hn (p.rel.ne i j _ _ _ _ _ e rfl h hs ea e1)
    ne := fun j k s t d' e' c h hs h' ht q q' => by
      rcases getset h with ⟨rfl, h, _⟩ | ⟨hn, h⟩
      · cases h; cases hs
      · rcases getset h' with ⟨rfl, h', _⟩ | ⟨hn', h'⟩
        · cases h'; cases ht
        · exact p.rel.ne j k s t d' e' c h hs h' ht q q'
    fdm := fun c z => z.elim (p.rel.fdm c) fun z => z ▸ ho.some }
  own := fun c ⟨j, s, d', h, hs, q⟩ => by
    rcases getset h with ⟨rfl, h, _⟩ | ⟨hn, h⟩
    · cases h; cases hs
    · exact p.own c ⟨j, s, d', h, hs, q⟩
  io := fun j d' h => by
    obtain ⟨⟨d2, h1⟩, h2⟩ := p.io j d' h
    have hn : i ≠ j := fun z => by subst z; rw [e] at h1; cases h1
    exact ⟨⟨d2, by rw [List.getElem?_set_ne hn]; exact h1⟩, h2⟩
  lk := fun j io d' h => by
    obtain ⟨h1, h2⟩ := p.lk j io d' h
    have hn : i ≠ j := fun z => by subst z; rw [e] at h1; cases h1
    exact ⟨by rw [List.getElem?_set_ne hn]; exact h1, h2⟩
/-- a list held by a slot alone is changed -/
theorem Pst.mut (p : Pst K F H env σ F1 H1 env1 σ) {i : Nat} {io : Bool} {d d' : D} {a : Addr} {o : HO} (e : env1[i]? = some (.ow io d)) (ea : σ[i]? = some (some (.ref a))) (ho : OwnAt K F1 H1 d a)
    (new : OwnAt K F1 (upd H1 a o) d' a) : Pst K F H env σ F1 (upd H1 a o) (env1.set i (.ow io d')) σ where
  st := ⟨p.st.sub, fun c h => by
      rw [upd_ne (ho.nea (p.st.sub c h))]
      exact p.st.agr c h, fun c h => by
      by_cases z : c = a
      · rw [z, upd_same]; simp
      · rw [upd_ne z]; exact p.st.dom c h, fun c h1 h2 h3 => by
    obtain ⟨e1, e2⟩ := p.st.oth c h1 h2 h3
    refine ⟨?_, e2⟩
    rw [upd_ne fun z => ?_]
    · exact e1
    subst z
    rcases p.own c ⟨i, _, d, e, rfl, ea⟩ with z | z
    · exact h3 z
    · exact h1 z⟩
  rel := {
    len := by rw [List.length_set]; exact p.rel.len
    fz := fun j d2 h => by
      rcases getset h with ⟨rfl, h, _⟩ | ⟨_, h⟩
      · cases h
      · obtain ⟨v, e1, e2⟩ := p.rel.fz j d2 h
        exact ⟨v, e1, e2.mono (fun _ h => h) fun c f => upd_ne (ho.nea f)⟩
    ow := fun j s d2 h hs => by
      rcases getset h with ⟨rfl, h, _⟩ | ⟨hn, h⟩
      · cases h; cases hs; exact ⟨a, ea, new⟩
      · obtain ⟨b, e1, e2⟩ := p.rel.ow j s d2 h hs
        have nb : b ≠ a := fun z => by
          subst z
          exact hn (p.rel.ne i j _ _ _ _ _ e rfl h hs ea e1)
        exact ⟨b, e1, e2.mono (fun _ h => h) (fun c f => upd_ne (ho.nea f)) (upd_ne nb) e2.nF⟩
    ne := fun j k s t d2 e2 c h hs h' ht q q' => by
      have bk : ∀ {j : Nat} {s : Sl} {d2 : D}, (env1.set i (.ow io d'))[j]? = some s → s.own = some d2 → ∃ s' d3, env1[j]? = some s' ∧ s'.own = some d3 := fun {j s d2} h hs => by
        rcases getset h with ⟨rfl, h, _⟩ | ⟨_, h⟩
        · exact ⟨_, d, e, rfl⟩
        · exact ⟨s, d2, h, hs⟩
      obtain ⟨s1, d3, h3, h4⟩ := bk h hs
      obtain ⟨s2, d4, h5, h6⟩ := bk h' ht
      exact p.rel.ne j k s1 s2 d3 d4 c h3 h4 h5 h6 q q'
    fdm := fun c f => by
      rw [upd_ne (ho.nea f)]
      exact p.rel.fdm c f }
  own := fun c ⟨j, s, d2, h, hs, q⟩ => by
    rcases getset h with ⟨rfl, h, _⟩ | ⟨hn, h⟩
    · exact p.own c ⟨i, _, d, e, rfl, q⟩
    · exact p.own c ⟨j, s, d2, h, hs, q⟩
  io := fun j d2 h => by
    obtain ⟨⟨d3, h1⟩, h2⟩ := p.io j d2 h
    by_cases hn : i = j
    · subst hn
      rw [e] at h1; cases h1
      exact ⟨⟨d', by rw [List.getElem?_set_self (lt_of_get e)]⟩, h2⟩
    · exact ⟨⟨d3, by rw [List.getElem?_set_ne hn]; exact h1⟩, h2⟩
  lk := fun j io' d2 h => by
    obtain ⟨h1, h2⟩ := p.lk j io' d2 h
    have hn : i ≠ j := fun z => by subst z; rw [e] at h1; cases h1
    exact ⟨by rw [List.getElem?_set_ne hn]; exact h1, h2⟩
/-- a pure operation behind -/
theorem Pst.nst (p : Pst K F H env σ F1 H1 env1 σ) (n : Nst F1 H1 F2 H2) : Pst K F H env σ F2 H2 env1 σ := p.trans (n.pst p.rel)
theorem ResOp.rel {r : Op} {v : V} (n : ResOp K H F1 H1 r v) : RelOp K F1 H1 σ r v := by
  cases r with
  | v d => exact n
  | nw d =>
    obtain ⟨a, e, o, _⟩ := n
    exact ⟨a, e, o⟩
  | p i => exact n.elim
/-- esc -/
theorem esc_ok (p : Pst K F H env σ F1 H1 env1 σ) {o : Op} {v : V} {d : D} (r : RelOp K F1 H1 σ o v) (hn : ∀ d, o = .nw d → ∀ a, v = .ref a → H a = none ∧ ¬ OA env1 σ a) (e : esc env1 o = some (d, env2)) :
    ∃ F2, Pst K F H env σ F2 H1 env2 σ ∧ Is K F2 H1 d v ∧ (∀ b, F1 b → F2 b) := by
  cases o with
  | v x =>
    simp only [esc, Option.some.injEq, Prod.mk.injEq] at e
    obtain ⟨rfl, rfl⟩ := e
    exact ⟨F1, p, r, fun _ h => h⟩
  | nw x =>
    simp only [esc, Option.some.injEq, Prod.mk.injEq] at e
    obtain ⟨rfl, rfl⟩ := e
    obtain ⟨a, rfl, ho⟩ := r
    obtain ⟨h1, h2⟩ := hn _ rfl a rfl
    exact ⟨_, p.freeze ho h1 h2, ho.is, fun _ => .inl⟩
  | p i =>
    have r : σ[i]? = some (some v) := r
    simp only [esc] at e
    split at e
    · rename_i q
      cases e
      obtain ⟨w, e1, e2⟩ := p.rel.fz i _ q
      rw [r] at e1; cases e1
      exact ⟨F1, p, e2, fun _ h => h⟩
    · rename_i q
      cases e
      obtain ⟨a, e1, e2⟩ := p.rel.ow i _ _ q rfl
      rw [r] at e1; cases e1
      exact ⟨_, p.setFz q r e2, e2.is, fun _ => .inl⟩
    · cases e
end

/-! ### meaning: expressions -/
/-- what a call gives, by evaluation -/
def spOf (K : PySem.W.Frag) (cl : CallF) (f n : Nat) : Sp := fun vs H Q _ => vs.length = n ∧ ∃ F args r fin, cl f args = some (r, fin) ∧ RelE K F H args (vs.map some) ∧
  ∀ v F' H', Pst K F H args (vs.map some) F' H' fin (vs.map some) → RelOp K F' H' (vs.map some) r v → (∀ d, r = .nw d → ∀ a, v = .ref a → H a = none ∧ ¬ OA fin (vs.map some) a) → Q v H'
structure CalOk (X : Cx) (cl : CallF) (x : Str) (f : Nat) : Prop where
  ex : ∃ k a fd ps, FnOk X.prog X.w X.K X.mg X.base CX0 k a fd ps (spOf X.K cl f ps.length) ∧ Room k X.A ∧ X.mg x = some (.ref a) ∧ PySem.W.keepIn X.K (.ref a) = true ∧ Binds X.K fd ps [] ∧ ∀ args r fin, cl f args = some (r, fin) → args.length = ps.length
  np : ∀ args r fin, cl f args = some (r, fin) → (∀ i, r ≠ .p i)
structure Gd (Γ : Gm) (cl : CallF) (N : List Str) (sc : Scope) (X : Cx) : Prop where
  hN : X.N = N
  hsc : X.env.scope = sc
  nd : X.N.Nodup
  calm : X.calm = true
  xe : X.xe = fun _ _ => False
  hu : X.A.units + 100 < cLine
  fr : ∀ x, Γ.frees.contains x = true → X.mg x = none
  fn : ∀ x f, Γ.fns.contains (x, f) = true → CalOk X cl x f
  gc : Γ.gc = true → X.mg "gcd" = some (.builtin "math.gcd")
def QE (K : PySem.W.Frag) (F : FS) (H : Hp) (env : En) (σ : Slots) (o : Op) (env' : En) (Q : VK) : Prop :=
  ∀ v F' H', Pst K F H env σ F' H' env' σ → RelOp K F' H' σ o v → (∀ d, o = .nw d → ∀ a, v = .ref a → H a = none ∧ ¬ OA env' σ a) → Q v H'
def SE (X : Cx) (p : Expr) (f : En → Option (Op × En)) : Prop :=
  ∀ env o env', f env = some (o, env') → ∀ σ F H Q, RelE X.K F H env σ → QE X.K F H env σ o env' Q → WE X p σ H Q
/-- .. where the value is no new list any more -/
def SB (X : Cx) (p : Expr) (f : En → Option (Op × En)) : Prop :=
  ∀ env o env', f env = some (o, env') → ∀ σ F H Q, RelE X.K F H env σ → (∀ v F' H', Pst X.K F H env σ F' H' env' σ → RelOp X.K F' H' σ o v → (∀ d, o ≠ .nw d) → Q v H') → WE X p σ H Q
def RelOps (K : PySem.W.Frag) (F : FS) (H : Hp) (σ : Slots) : List Op → List V → Prop
  | [], vs => vs = []
  | o :: os, vs => ∃ w ws, vs = w :: ws ∧ RelOp K F H σ o w ∧ (∀ d, o ≠ .nw d) ∧ RelOps K F H σ os ws
def SA (X : Cx) (ps : List Expr) (f : En → Option (List Op × En)) : Prop :=
  ∀ env os env', f env = some (os, env') → ∀ σ F H Q, RelE X.K F H env σ → (∀ vs F' H', Pst X.K F H env σ F' H' env' σ → RelOps X.K F' H' σ os vs → Q vs H') → WA X ps σ H Q
def SD (X : Cx) (ps : List Expr) (f : En → Option (List D × En)) : Prop :=
  ∀ env ds env', f env = some (ds, env') → ∀ σ F H Q, RelE X.K F H env σ → (∀ vs F' H', Pst X.K F H env σ F' H' env' σ → IsL X.K F' H' ds vs → Q vs H') → WA X ps σ H Q
def SO (X : Cx) (p : Option Expr) (f : En → Option (Option Int × En)) : Prop :=
  ∀ env o env', f env = some (o, env') → ∀ σ F H Q, RelE X.K F H env σ → (∀ F' H', Pst X.K F H env σ F' H' env' σ → Q o H') → WO X p σ H Q
def SC (X : Cx) (p : Expr) (f : En → Option (Bool × En)) : Prop :=
  ∀ env b env', f env = some (b, env') → ∀ σ F H Q, RelE X.K F H env σ → (∀ F' H', Pst X.K F H env σ F' H' env' σ → Q b H') → WT X p σ H Q
def SCw (X : Cx) (p : Expr) (f : En → Option (Bool × En)) : Prop :=
  ∀ env b env', f env = some (b, env') → ∀ σ F H Q, RelE X.K F H env σ → (∀ F' H', Pst X.K F H env σ F' H' env' σ → Q b H') → WW X p σ H Q
theorem SE.b {X : Cx} {p : Expr} {f g : En → Option (Op × En)} (h : SE X p f) (hg : ∀ env, g env = (f env).bind fun z => some (z.1.frz, z.2)) : SB X p g := by
  intro env o env' e σ F H Q r q
  rw [hg] at e
  obtain ⟨⟨o1, env1⟩, e1, e2⟩ := Option.bind_eq_some_iff.mp e
  simp only [Option.some.injEq, Prod.mk.injEq] at e2
  obtain ⟨rfl, rfl⟩ := e2
  refine h env o1 env1 e1 σ F H Q r fun v F' H' p' r' hn => ?_
  cases o1 with
  | v d => exact q v F' H' p' r' (frz_ne _)
  | p i => exact q v F' H' p' r' (frz_ne _)
  | nw d =>
    obtain ⟨a, rfl, ho⟩ := r'
    obtain ⟨h1, h2⟩ := hn _ rfl a rfl
    exact q _ _ H' (p'.freeze ho h1 h2) ho.is (frz_ne _)
end VI
/-! VI7: the evaluation is right: the parts of expressions. -/
namespace VI
open PySem PySem.Spec L2
section
variable {X : Cx} {F : FS} {H : Hp} {env env1 env2 : En} {σ : Slots}

theorem res_fresh {K : PySem.W.Frag} {F2 F3 : FS} {H2 H3 : Hp} {r : Op} {v : V} (p : Pst K F H env σ F2 H2 env2 σ) (n : ResOp K H2 F3 H3 r v) : ∀ d, r = .nw d → ∀ a, v = .ref a → H a = none ∧ ¬ OA env2 σ a := by
  intro d e a ea
  subst e ea
  obtain ⟨b, eb, ho, hn⟩ := n
  cases eb
  refine ⟨?_, fun z => (p.rel.oa_some z).1 hn⟩
  cases q : H a with
  | none => rfl
  | some o => exact absurd hn (p.st.dom a (by rw [q]; simp))
theorem fol_q {F2 : FS} {H2 : Hp} {r : Op} {Q : VK} (p : Pst X.K F H env σ F2 H2 env2 σ) (q : QE X.K F H env σ r env2 Q) : Fol X.K F2 H2 r Q :=
  fun v F' H' n res => q v F' H' (p.nst n) res.rel (res_fresh p res)
theorem two_ops {pa pb : Expr} {fa fb : En → Option (Op × En)} (ha : SB X pa fa) (hb : SB X pb fb) {x y : Op} (h1 : fa env = some (x, env1)) (h2 : fb env1 = some (y, env2)) (r : RelE X.K F H env σ) {R : V → V → Hp → Prop}
    (k : ∀ v w F2 H2, Pst X.K F H env σ F2 H2 env2 σ → RelOp X.K F2 H2 σ x v → RelOp X.K F2 H2 σ y w → (∀ d, x ≠ .nw d) → (∀ d, y ≠ .nw d) → R v w H2) : WE X pa σ H fun v H1 => WE X pb σ H1 fun w H2 => R v w H2 :=
  ha env x env1 h1 σ F H _ r fun v F1 H1 p1 r1 n1 => hb env1 y env2 h2 σ F1 H1 _ p1.rel fun w F2 H2 p2 r2 n2 => k v w F2 H2 (p1.trans p2) (r1.stay n1 p2.st) r2 n1 n2

theorem s_bin {op : Operator} {a b : Expr} {pos : Pos} {fa fb f : En → Option (Op × En)} (ha : SB X a fa) (hb : SB X b fb)
    (hf : ∀ env o env', f env = some (o, env') → ∃ x env1 y, fa env = some (x, env1) ∧ fb env1 = some (y, env') ∧ ∃ dx dy, rd env' x = some dx ∧ rd env' y = some dy ∧ binS op dx dy = some o) : SE X (.BinOp a op b pos) f := by
  intro env o env' e σ F H Q r q
  obtain ⟨x, env1, y, h1, h2, dx, dy, h3, h4, h5⟩ := hf env o env' e
  exact WE.of (pe_op (opB _) (pE X a) (pE X b)) (two_ops ha hb h1 h2 r fun v w F2 H2 p r1 r2 _ _ => binS_ok p.rel.fdm h5 (rd_has p.rel r1 h3) (rd_has p.rel r2 h4) (fol_q p q))
theorem s_cmp {op : CmpOp} {a b : Expr} {pos : Pos} {fa fb : En → Option (Op × En)} (hu : X.A.units + 65 < cLine) (hm : headOk b = true) (ha : SB X a fa) (hb : SB X b fb) {x y : Op} {dx dy : D} {k : Bool}
    (h1 : fa env = some (x, env1)) (h2 : fb env1 = some (y, env2)) (h3 : rd env2 x = some dx) (h4 : rd env2 y = some dy) (h5 : cmpS op dx dy = some k) (r : RelE X.K F H env σ) {Q : VK}
    (q : ∀ F' H', Pst X.K F H env σ F' H' env2 σ → Q (.bl k) H') : WE X (.Compare a [op] [b] pos) σ H Q :=
  WE.of (pe_cmpR (opB _) (pE X a) (pE X b) (mark_of hm)) (two_ops ha hb h1 h2 r fun v w F2 H2 p r1 r2 _ _ => cmpS_ok hu h5 (rd_has p.rel r1 h3) (rd_has p.rel r2 h4) (q F2 H2 p))
theorem s_cmpT {op : CmpOp} {a b : Expr} {pos : Pos} {fa fb : En → Option (Op × En)} (hu : X.A.units + 65 < cLine) (hm : headOk b = true) (ha : SB X a fa) (hb : SB X b fb) {x y : Op} {dx dy : D} {k : Bool}
    (h1 : fa env = some (x, env1)) (h2 : fb env1 = some (y, env2)) (h3 : rd env2 x = some dx) (h4 : rd env2 y = some dy) (h5 : cmpS op dx dy = some k) (r : RelE X.K F H env σ) {Q : Bool → Hp → Prop}
    (q : ∀ F' H', Pst X.K F H env σ F' H' env2 σ → Q k H') : WT X (.Compare a [op] [b] pos) σ H Q :=
  WT.of (pt_cmpR (opB _) (pE X a) (pE X b) (mark_of hm)) (two_ops ha hb h1 h2 r fun v w F2 H2 p r1 r2 _ _ => cmpS_ok hu h5 (rd_has p.rel r1 h3) (rd_has p.rel r2 h4) ⟨k, rfl, q F2 H2 p⟩)
/-- a chain of two comparisons -/
theorem s_chain {op op' : CmpOp} {a b c : Expr} {fa fb fc : En → Option (Op × En)} (hu : X.A.units + 65 < cLine) (ha : SB X a fa) (hb : SB X b fb) (hc : SB X c fc) {x y : Op} {dx dy : D} {k k' : Bool} {env3 : En}
    (h1 : fa env = some (x, env1)) (h2 : fb env1 = some (y, env2)) (h3 : rd env2 x = some dx) (h4 : rd env2 y = some dy) (h5 : cmpS op dx dy = some k)
    (h6 : (k = true ∧ ∃ z dy' dz, fc env2 = some (z, env3) ∧ rd env3 y = some dy' ∧ rd env3 z = some dz ∧ cmpS op' dy' dz = some k') ∨ (k = false ∧ k' = false ∧ env3 = env2)) (r : RelE X.K F H env σ) {Q : VK}
    (q : ∀ F' H', Pst X.K F H env σ F' H' env3 σ → Q (.bl k') H') : tChain (rB X (compareOp op)) (rB X (compareOp op')) (WE X a) (WE X b) (WE X c) σ H Q := by
  refine two_ops ha hb h1 h2 r fun v w F2 H2 p r1 r2 n1 n2 => cmpS_ok hu h5 (rd_has p.rel r1 h3) (rd_has p.rel r2 h4) ⟨k, rfl, ?_⟩
  rcases h6 with ⟨rfl, z, dy', dz, h7, h8, h9, h10⟩ | ⟨rfl, rfl, rfl⟩
  · refine iteT (hc env2 z env3 h7 σ F2 H2 _ p.rel fun u F3 H3 p3 r3 n3 => cmpS_ok hu h10 (rd_has p3.rel (r2.stay n2 p3.st) h8) (rd_has p3.rel r3 h9) (q F3 H3 (p.trans p3)))
  · exact iteF (q F2 H2 p)
theorem s_un {op : UnaryOp} {a : Expr} {pos : Pos} {fa f : En → Option (Op × En)} (hn : op ≠ .Not) (ha : SB X a fa)
    (hf : ∀ env o env', f env = some (o, env') → ∃ x, fa env = some (x, env') ∧ ∃ dx d, rd env' x = some dx ∧ unS op dx = some d ∧ o = .v d) : SE X (.UnaryOp op a pos) f := by
  intro env o env' e σ F H Q r q
  obtain ⟨x, h1, dx, d, h2, h3, rfl⟩ := hf env o env' e
  exact WE.of (pe_un (unB _) (pE X a)) (ha env x env' h1 σ F H _ r fun v F1 H1 p1 r1 n1 => unS_ok hn h3 (rd_has p1.rel r1 h2) (fol_q p1 q))
theorem s_notv {a : Expr} {pos : Pos} {fa f : En → Option (Op × En)} (ha : SB X a fa)
    (hf : ∀ env o env', f env = some (o, env') → ∃ x, fa env = some (x, env') ∧ ∃ dx d, rd env' x = some dx ∧ unS .Not dx = some d ∧ o = .v d) : SE X (.UnaryOp .Not a pos) f := by
  intro env o env' e σ F H Q r q
  obtain ⟨x, h1, dx, d, h2, h3, rfl⟩ := hf env o env' e
  refine WE.of (pe_not (pE X a)) (ha env x env' h1 σ F H _ r fun v F1 H1 p1 r1 n1 => ?_)
  unfold unS at h3
  split at h3
  · rename_i hh; cases hh
  · rename_i hh; cases hh
  · cases h3
    have e1 := (rd_has p1.rel r1 h2).bl
    subst e1
    exact ⟨_, rfl, q _ F1 H1 p1 (by simp [RelOp, Is]) fun d ed => by cases ed⟩
  · cases h3
theorem s_idx {a b : Expr} {pos : Pos} {fa fb f : En → Option (Op × En)} (hm : headOk b = true) (ha : SB X a fa) (hb : SB X b fb)
    (hf : ∀ env o env', f env = some (o, env') → ∃ x env1 y, fa env = some (x, env1) ∧ fb env1 = some (y, env') ∧ ∃ dx dy d, rd env' x = some dx ∧ rd env' y = some dy ∧ idxS dx dy = some d ∧ o = .v d) : SE X (.Subscript a b pos) f := by
  intro env o env' e σ F H Q r q
  obtain ⟨x, env1, y, h1, h2, dx, dy, d, h3, h4, h5, rfl⟩ := hf env o env' e
  exact WE.of (pe_ix ix_seq (pE X a) (pE X b) (ix_of hm)) (two_ops ha hb h1 h2 r fun v w F2 H2 p r1 r2 _ _ => idxS_ok h5 (rd_has p.rel r1 h3) (rd_has p.rel r2 h4) (fol_q p q))
theorem s_sli {a : Expr} {lo hi : Option Expr} {p2 pos : Pos} {fa f : En → Option (Op × En)} {fl fh : En → Option (Option Int × En)} (ha : SB X a fa) (hl : SO X lo fl) (hh : SO X hi fh)
    (hf : ∀ env o env', f env = some (o, env') → ∃ x env1 l env2 u, fa env = some (x, env1) ∧ fl env1 = some (l, env2) ∧ fh env2 = some (u, env') ∧ ∃ dx, rd env' x = some dx ∧ slS dx l u = some o) : SE X (.Subscript a (.Slice lo hi none p2) pos) f := by
  intro env o env' e σ F H Q r q
  obtain ⟨x, env1, l, env2, u, h1, h2, h3, dx, h4, h5⟩ := hf env o env' e
  refine WE.of (pe_slice sl_any (pE X a) (pO X lo) (pO X hi)) ?_
  refine ha env x env1 h1 σ F H _ r fun v F1 H1 p1 r1 n1 => ?_
  refine hl env1 l env2 h2 σ F1 H1 _ p1.rel fun F2 H2 p2 => ?_
  refine hh env2 u env' h3 σ F2 H2 _ p2.rel fun F3 H3 p3 => ?_
  exact slS_ok p3.rel.fdm h5 (rd_has p3.rel ((r1.stay n1 p2.st).stay n1 p3.st) h4) (fol_q ((p1.trans p2).trans p3) q)
theorem s_ifx {c a b : Expr} {pos : Pos} {fc : En → Option (Bool × En)} {fa fb f : En → Option (Op × En)} (hc : SC X c fc) (ha : SE X a fa) (hb : SE X b fb)
    (hf : ∀ env o env', f env = some (o, env') → ∃ k env1, fc env = some (k, env1) ∧ (if k = true then fa env1 else fb env1) = some (o, env')) : SE X (.IfExp c a b pos) f := by
  intro env o env' e σ F H Q r q
  obtain ⟨k, env1, h1, h2⟩ := hf env o env' e
  have fr : ∀ {F1 H1} (p1 : Pst X.K F H env σ F1 H1 env1 σ), QE X.K F1 H1 env1 σ o env' Q := fun {F1 H1} p1 v F2 H2 p2 r2 n2 => q v F2 H2 (p1.trans p2) r2 fun d ed a ea => by
    obtain ⟨z1, z2⟩ := n2 d ed a ea
    refine ⟨?_, z2⟩
    cases q' : H a with
    | none => rfl
    | some o' => exact absurd z1 (p1.st.dom a (by rw [q']; simp))
  refine WE.of (pe_ifExp (pT X c) (pE X a) (pE X b)) (hc env k env1 h1 σ F H _ r fun F1 H1 p1 => ?_)
  cases k with
  | true => exact iteT (ha env1 o env' h2 σ F1 H1 Q p1.rel (fr p1))
  | false => exact iteF (hb env1 o env' h2 σ F1 H1 Q p1.rel (fr p1))
theorem s_tup {ps : List Expr} {x1 : Nat} {pos : Pos} {fd : En → Option (List D × En)} {f : En → Option (Op × En)} (hd : SD X ps fd)
    (hf : ∀ env o env', f env = some (o, env') → ∃ ds, fd env = some (ds, env') ∧ ds.length ≤ sizeLine ∧ o = .v (.tup ds)) : SE X (.Tuple ps x1 pos) f := by
  intro env o env' e σ F H Q r q
  obtain ⟨ds, h1, h2, rfl⟩ := hf env o env' e
  refine WE.of (pe_tup (pA X ps)) (hd env ds env' h1 σ F H _ r fun vs F1 H1 p1 i1 => ⟨by rw [← i1.length]; exact h2, fun p hp => (fol_q p1 q).newT p1.rel.fdm i1 hp⟩)
theorem s_lst {ps : List Expr} {pos : Pos} {fd : En → Option (List D × En)} {f : En → Option (Op × En)} (hd : SD X ps fd)
    (hf : ∀ env o env', f env = some (o, env') → ∃ ds, fd env = some (ds, env') ∧ ds.length ≤ sizeLine ∧ o = .nw (.lst ds)) : SE X (.List ps pos) f := by
  intro env o env' e σ F H Q r q
  obtain ⟨ds, h1, h2, rfl⟩ := hf env o env' e
  refine WE.of (pe_lst (pA X ps)) (hd env ds env' h1 σ F H _ r fun vs F1 H1 p1 i1 => ⟨by rw [← i1.length]; exact h2, fun p hp => (fol_q p1 q).newL p1.rel.fdm i1 hp⟩)
theorem RelOps.stay {K : PySem.W.Frag} {F1 F2 : FS} {H1 H2 : Hp} {oa : En} : ∀ {os : List Op} {vs : List V}, RelOps K F1 H1 σ os vs → Ste F1 H1 (OA oa σ) F2 H2 → RelOps K F2 H2 σ os vs
  | [], _, h, _ => h
  | o :: os, _, h, p => by
    obtain ⟨w, ws, rfl, h1, h2, h3⟩ := h
    exact ⟨w, ws, rfl, h1.stay h2 p, h2, RelOps.stay h3 p⟩
theorem rds_has {K : PySem.W.Frag} (r : RelE K F H env σ) : ∀ {os : List Op} {vs : List V} {ds : List D}, RelOps K F H σ os vs → rds env os = some ds → HasL K F H ds vs
  | [], _, _, h, e => by simp only [rds, Option.some.injEq] at e; subst e; exact h
  | o :: os, _, _, h, e => by
    obtain ⟨w, ws, rfl, h1, h2, h3⟩ := h
    simp only [rds, Option.bind_eq_some_iff, Option.map_eq_some_iff] at e
    obtain ⟨d, e1, ds, e2, rfl⟩ := e
    exact ⟨w, ws, rfl, rd_has r h1 e1, rds_has r h3 e2⟩
theorem sa_nil {f : En → Option (List Op × En)} (hf : ∀ env, f env = some ([], env)) : SA X [] f := by
  intro env os env' e σ F H Q r q
  rw [hf] at e
  cases e
  exact WA.of pa_nil (q [] F H (.refl r) rfl)
theorem sa_cons {p : Expr} {ps : List Expr} {fb : En → Option (Op × En)} {fs f : En → Option (List Op × En)} (hm : headOk p = true) (hb : SB X p fb) (hs : SA X ps fs)
    (hf : ∀ env os env', f env = some (os, env') → ∃ o env1 os', fb env = some (o, env1) ∧ fs env1 = some (os', env') ∧ os = o :: os') : SA X (p :: ps) f := by
  intro env os env' e σ F H Q r q
  obtain ⟨o, env1, os', h1, h2, rfl⟩ := hf env os env' e
  refine WA.of (pa_cons (pE X p) (pA X ps) (starEach_of hm)) (hb env o env1 h1 σ F H _ r fun v F1 H1 p1 r1 n1 => hs env1 os' env' h2 σ F1 H1 _ p1.rel fun vs F2 H2 p2 r2 => ?_)
  exact q _ F2 H2 (p1.trans p2) ⟨v, vs, rfl, r1.stay n1 p2.st, n1, r2⟩
theorem sd_nil {f : En → Option (List D × En)} (hf : ∀ env, f env = some ([], env)) : SD X [] f := by
  intro env os env' e σ F H Q r q
  rw [hf] at e
  cases e
  exact WA.of pa_nil (q [] F H (.refl r) IsL.nil)
theorem sd_cons {p : Expr} {ps : List Expr} {fe : En → Option (Op × En)} {fs f : En → Option (List D × En)} (hm : headOk p = true) (he : SE X p fe) (hs : SD X ps fs)
    (hf : ∀ env ds env', f env = some (ds, env') → ∃ o env1 d env2 ds', fe env = some (o, env1) ∧ esc env1 o = some (d, env2) ∧ fs env2 = some (ds', env') ∧ ds = d :: ds') : SD X (p :: ps) f := by
  intro env os env' e σ F H Q r q
  obtain ⟨o, env1, d, env2, ds', h1, h2, h3, rfl⟩ := hf env os env' e
  refine WA.of (pa_cons (pE X p) (pA X ps) (starEach_of hm)) (he env o env1 h1 σ F H _ r fun v F1 H1 p1 r1 n1 => ?_)
  obtain ⟨F2, p2, i2, _⟩ := esc_ok p1 r1 n1 h2
  exact hs env2 ds' env' h3 σ F2 H1 _ p2.rel fun vs F3 H3 p3 i3 => q _ F3 H3 (p2.trans p3) (IsL.cons (i2.mono p3.st.sub p3.st.agr) i3)
theorem so_none {f : En → Option (Option Int × En)} (hf : ∀ env, f env = some (none, env)) : SO X none f := by
  intro env o env' e σ F H Q r q
  rw [hf] at e
  cases e
  exact WO.of po_none (q F H (.refl r))
theorem so_some {p : Expr} {fb : En → Option (Op × En)} {f : En → Option (Option Int × En)} (hb : SB X p fb)
    (hf : ∀ env o env', f env = some (o, env') → ∃ x i, fb env = some (x, env') ∧ rd env' x = some (.int i) ∧ o = some i) : SO X (some p) f := by
  intro env o env' e σ F H Q r q
  obtain ⟨x, i, h1, h2, rfl⟩ := hf env o env' e
  exact WO.of (po_some (pE X p)) (hb env x env' h1 σ F H _ r fun v F1 H1 p1 r1 n1 => ⟨i, (rd_has p1.rel r1 h2).int, q F1 H1 p1⟩)
theorem s_blt {Γ : Gm} {cl : CallF} {N : List Str} {sc : Scope} (g : Gd Γ cl N sc X) {b : Bf} {p : Expr} {ps : List Expr} {x : Str} {pp pos : Pos} {fs : En → Option (List Op × En)} {f : En → Option (Op × En)} (hx : x = b.nm) (hg : freeB Γ sc x = true)
    (hs : SA X (p :: ps) fs) (he : starEach (p :: ps) X.env = (false, eval p X.env) :: starEach ps X.env) (hpl : (backTo pos (starEach ps X.env)).any (·.1) = false)
    (hf : ∀ env o env', f env = some (o, env') → ∃ os ds, fs env = some (os, env') ∧ rds env' os = some ds ∧ bltS b ds = some o) : SE X (.Call (.Name x pp) (p :: ps) [] pos) f := by
  intro env o env' e σ F H Q r q
  obtain ⟨os, ds, h1, h2, h3⟩ := hf env o env' e
  have body : (tCB (rC X b.val) (WA X (p :: ps))) σ H Q := hs env os env' h1 σ F H _ r fun vs F1 H1 p1 r1 => bltS_ok g.calm (by have := g.hu; omega) p1.rel.fdm h3 (rds_has p1.rel r1 h2) (fol_q p1 q)
  obtain ⟨g1, g2⟩ := ba hg
  obtain ⟨g1, g3⟩ := ba g1
  obtain ⟨g1, g4⟩ := ba g1
  have G : Gl X x := by
    show X.env.scope.names.lookup x = some .globalImplicit
    rw [g.hsc]; simpa using g1
  have M : X.mg x = none := g.fr x g2
  have hdb : (x == ("__debug__" : Str)) = false := by simpa using g4
  have hn : x ≠ "__name__" := by simpa using g3
  have bt : ∀ {id : String}, b.val = .builtin id → bootBuiltins x = some (.builtin id) → WE X (.Call (.Name x pp) (p :: ps) [] pos) σ H Q := fun {id} e1 e2 => by
    rw [e1] at body
    exact WE.of (pe_callB (callB _) G M e2 (pA X (p :: ps)) hn hdb he hpl) body
  have ty : ∀ {id : String}, b.val = .type id → bootBuiltins x = some (.type id) → WE X (.Call (.Name x pp) (p :: ps) [] pos) σ H Q := fun {id} e1 e2 => by
    rw [e1] at body
    exact WE.of (pe_callTy (callB _) G M e2 (pA X (p :: ps)) hn hdb he hpl) body
  subst hx
  cases b
  · exact bt rfl (by decide +kernel)
  · exact ty rfl (by decide +kernel)
  · exact bt rfl (by decide +kernel)
  · exact ty rfl (by decide +kernel)
  · exact ty rfl (by decide +kernel)
  · exact bt rfl (by decide +kernel)
  · exact bt rfl (by decide +kernel)
  · exact bt rfl (by decide +kernel)
  · exact bt rfl (by decide +kernel)
  · exact bt rfl (by decide +kernel)
  · exact bt rfl (by decide +kernel)
  · exact ty rfl (by decide +kernel)
  · exact ty rfl (by decide +kernel)
  · exact bt rfl (by decide +kernel)
end
end VI
/-! VI8: calls of defs, isinstance, ranges as lists, methods. -/
namespace VI
open PySem PySem.Spec L2
section
variable {K : PySem.W.Frag} {F F1 F2 : FS} {H H1 H2 : Hp} {env env1 env2 : En} {σ σ1 σ2 : Slots}

/-- the slots' relation but for the lists at L, which a callee has -/
structure RelX (K : PySem.W.Frag) (F : FS) (H : Hp) (env : En) (σ : Slots) (L : List Nat) : Prop where
  len : env.length = σ.length
  fz : ∀ (i : Nat) (d : D), env[i]? = some (.fz d) → ∃ v, σ[i]? = some (some v) ∧ Is K F H d v
  adr : ∀ (i : Nat) (s : Sl) (d : D), env[i]? = some s → s.own = some d → ∃ a : Addr, σ[i]? = some (some (.ref a))
  ow : ∀ (i : Nat) (s : Sl) (d : D) (a : Addr), env[i]? = some s → s.own = some d → i ∉ L → σ[i]? = some (some (.ref a)) → OwnAt K F H d a
  ne : ∀ (i j : Nat) (s t : Sl) (d e : D) (a : Addr), env[i]? = some s → s.own = some d → env[j]? = some t → t.own = some e → σ[i]? = some (some (.ref a)) → σ[j]? = some (some (.ref a)) → i = j
  fdm : ∀ a, F a → H a ≠ none
theorem RelX.rel (r : RelX K F H env σ []) : RelE K F H env σ := ⟨r.len, r.fz, fun i s d e h => let ⟨a, ea⟩ := r.adr i s d e h; ⟨a, ea, r.ow i s d a e h (by simp) ea⟩, r.ne, r.fdm⟩

/-- the same slots hold lists; those that are no lists are the same -/
structure Kin (env env' : En) : Prop where
  len : env'.length = env.length
  at_ : ∀ i : Nat, env'[i]? = env[i]? ∨ ∃ io d d', env[i]? = some (.ow io d) ∧ env'[i]? = some (.ow io d')
theorem Kin.refl : Kin env env := ⟨rfl, fun _ => .inl rfl⟩
theorem Kin.trans (a : Kin env env1) (b : Kin env1 env2) : Kin env env2 := ⟨b.len.trans a.len, fun i => by
  rcases b.at_ i with h | ⟨io, d, d', h1, h2⟩
  · rw [h]; exact a.at_ i
  · rcases a.at_ i with h | ⟨io', e, e', h3, h4⟩
    · exact .inr ⟨io, d, d', by rw [← h]; exact h1, h2⟩
    · rw [h1] at h4; cases h4; exact .inr ⟨io, e, d', h3, h2⟩⟩
theorem Kin.set {i : Nat} {io d d'} (h : env[i]? = some (.ow io d)) : Kin env (env.set i (.ow io d')) := ⟨by rw [List.length_set], fun j => by
  by_cases e : i = j
  · subst e
    exact .inr ⟨io, d, d', h, List.getElem?_set_self (lt_of_get h)⟩
  · exact .inl (List.getElem?_set_ne e)⟩
theorem Kin.own (k : Kin env env1) {i : Nat} {s : Sl} {d : D} (h : env1[i]? = some s) (hs : s.own = some d) : ∃ s' d', env[i]? = some s' ∧ s'.own = some d' := by
  rcases k.at_ i with e | ⟨io, d1, d2, e1, e2⟩
  · exact ⟨s, d, by rw [← e]; exact h, hs⟩
  · exact ⟨_, d1, e1, rfl⟩
/-- which slots are lent does not hang on what the lists hold -/
theorem Kin.lent (k : Kin env env1) : ∀ os : List Op, lent env1 os = lent env os
  | [] => rfl
  | o :: os => by
    cases o with
    | v d => exact Kin.lent k os
    | nw d => exact Kin.lent k os
    | p i =>
      simp only [VI.lent]
      rw [Kin.lent k os]
      rcases k.at_ i with e | ⟨io, d, d', e1, e2⟩
      · rw [e]
      · rw [e1, e2]
/-- what a callee leaves of its arguments -/
inductive Lft (K : PySem.W.Frag) (F : FS) (H : Hp) : List Sl → List Sl → List V → Prop where
  | nil : Lft K F H [] [] []
  | fz {d s args fin v vs} : Lft K F H args fin vs → Lft K F H (.fz d :: args) (s :: fin) (v :: vs)
  | ow {d d' args fin a vs} : OwnAt K F H d' a → Lft K F H args fin vs → Lft K F H (.ow true d :: args) (.ow true d' :: fin) (.ref a :: vs)
  | lk {d args fin a vs} : OwnAt K F H d a → Lft K F H args fin vs → Lft K F H (.lk true d :: args) (.lk true d :: fin) (.ref a :: vs)
theorem toArg_cases {o : Op} {s : Sl} (h : toArg env o = some s) (hn : ∀ d, o ≠ .nw d) :
    (∃ d, s = .fz d ∧ lent env [o] = [] ∧ rd env o = some d) ∨ (∃ i io d, o = .p i ∧ env[i]? = some (.ow io d) ∧ s = .ow true d) ∨ (∃ i io d, o = .p i ∧ env[i]? = some (.lk io d) ∧ s = .lk true d) := by
  cases o with
  | v d => simp only [toArg, Option.some.injEq] at h; exact .inl ⟨d, h.symm, rfl, rfl⟩
  | nw d => exact absurd rfl (hn d)
  | p i =>
    simp only [toArg] at h
    split at h
    · rename_i q; cases h; exact .inl ⟨_, rfl, by simp only [lent, q], by simp only [rd, q]⟩
    · rename_i q; cases h; exact .inr (.inl ⟨i, _, _, rfl, q, rfl⟩)
    · rename_i q; cases h; exact .inr (.inr ⟨i, _, _, rfl, q, rfl⟩)
    · cases h
theorem lent_cons (o : Op) (os : List Op) : lent env (o :: os) = lent env [o] ++ lent env os := by
  cases o with
  | v d => rfl
  | nw d => rfl
  | p i =>
    simp only [lent]
    split <;> rfl
theorem Lft.of (r : RelE K F H env σ) : ∀ {os : List Op} {args : List Sl} {vs : List V} {fin : List Sl}, toArgs env os = some args → RelOps K F H σ os vs →
    args.length = fin.length → (∀ (i : Nat) (d : D), args[i]? = some (.ow true d) → ∃ d' a, fin[i]? = some (.ow true d') ∧ vs[i]? = some (.ref a) ∧ OwnAt K F1 H1 d' a) →
    (∀ (i : Nat) (d : D), args[i]? = some (.lk true d) → ∃ a, fin[i]? = some (.lk true d) ∧ vs[i]? = some (.ref a) ∧ OwnAt K F1 H1 d a) → Lft K F1 H1 args fin vs
  | [], args, vs, fin, e, h, hl, _, _ => by
    simp only [toArgs, Option.some.injEq] at e
    subst e
    cases (show vs = [] from h)
    cases fin with
    | nil => exact .nil
    | cons => cases hl
  | o :: os, args, vs, fin, e, h, hl, h1, h2 => by
    obtain ⟨w, ws, rfl, g1, g2, g3⟩ := h
    simp only [toArgs, Option.bind_eq_some_iff, Option.map_eq_some_iff] at e
    obtain ⟨s, e1, args', e2, rfl⟩ := e
    cases fin with
    | nil => cases hl
    | cons t fin =>
      have rest : Lft K F1 H1 args' fin ws := Lft.of r e2 g3 (by simpa using hl) (fun i d h => by simpa using h1 (i + 1) d (by simpa using h)) (fun i d h => by simpa using h2 (i + 1) d (by simpa using h))
      rcases toArg_cases e1 g2 with ⟨d, rfl, _⟩ | ⟨i, io, d, rfl, q, rfl⟩ | ⟨i, io, d, rfl, q, rfl⟩
      · exact .fz rest
      · obtain ⟨d', a, k1, k2, k3⟩ := h1 0 d rfl
        simp at k1 k2
        subst k1 k2
        exact .ow k3 rest
      · obtain ⟨a, k1, k2, k3⟩ := h2 0 d rfl
        simp at k1 k2
        subst k1 k2
        exact .lk k3 rest
theorem back_ok : ∀ {os : List Op} {args fin : List Sl} {vs : List V} {env : En}, toArgs env os = some args → (lent env os).Nodup → RelX K F H env σ (lent env os) →
    RelOps K F2 H2 σ os vs → Lft K F H args fin vs → RelX K F H (backArgs env os fin) σ [] ∧ Kin env (backArgs env os fin)
  | [], args, fin, vs, env, e, nd, r, ro, f => by
    simp only [toArgs, Option.some.injEq] at e
    subst e
    cases f
    exact ⟨r, .refl⟩
  | o :: os, args, fin, vs, env, e, nd, r, ro, f => by
    obtain ⟨w, ws, rfl, g1, g2, g3⟩ := ro
    simp only [toArgs, Option.bind_eq_some_iff, Option.map_eq_some_iff] at e
    obtain ⟨s, e1, args', e2, rfl⟩ := e
    rw [lent_cons] at nd r
    rcases toArg_cases e1 g2 with ⟨d, rfl, q, _⟩ | ⟨i, io, d, rfl, q, rfl⟩ | ⟨i, io, d, rfl, q, rfl⟩
    · rw [q, List.nil_append] at nd r
      cases f with
      | @fz _ s _ _ _ _ f =>
        have := back_ok e2 nd r g3 f
        cases o with
        | v d => exact this
        | nw d => exact absurd rfl (g2 d)
        | p i =>
          cases s with
          | ow io d' =>
            simp only [backArgs]
            split
            · rename_i q2; simp only [lent, q2] at q; cases q
            · exact this
          | _ => exact this
    · have l1 : lent env [.p i] = [i] := by simp only [lent, q]
      rw [l1] at nd r
      have nd : (i :: lent env os).Nodup := nd
      have ni : i ∉ lent env os := (List.nodup_cons.mp nd).1
      have g1 : σ[i]? = some (some w) := g1
      cases f with
      | @ow _ d' _ fin' a _ ho f =>
        have k1 : Kin env (env.set i (.ow io d')) := .set q
        have r1 : RelX K F H (env.set i (.ow io d')) σ (lent (env.set i (.ow io d')) os) := by
          rw [k1.lent]
          refine ⟨by rw [List.length_set]; exact r.len, fun j d2 h => ?_, fun j s d2 h hs => ?_, fun j s d2 b h hs hj ea => ?_, fun j k s t d2 e2 c h hs h' ht => ?_, r.fdm⟩
          · rcases getset h with ⟨rfl, h, _⟩ | ⟨_, h⟩
            · cases h
            · exact r.fz j d2 h
          · obtain ⟨s', d3, h1, h2⟩ := k1.own h hs
            exact r.adr j s' d3 h1 h2
          · rcases getset h with ⟨rfl, h, _⟩ | ⟨hn, h⟩
            · cases h; cases hs
              rw [g1] at ea; cases ea
              exact ho
            · exact r.ow j s d2 b h hs (by
                intro z
                rcases List.mem_cons.mp z with z | z
                · exact hn z.symm
                · exact hj z) ea
          · obtain ⟨s', d3, h1, h2⟩ := k1.own h hs
            obtain ⟨t', e3, h3, h4⟩ := k1.own h' ht
            exact r.ne j k s' t' d3 e3 c h1 h2 h3 h4
        have e3 : toArgs (env.set i (.ow io d')) os = some args' := by
          have : ∀ os' : List Op, i ∉ lent env os' → toArgs (env.set i (.ow io d')) os' = toArgs env os' := by
            intro os'
            induction os' with
            | nil => intro _; rfl
            | cons o' os' ih =>
              intro hn
              rw [lent_cons, List.mem_append, not_or] at hn
              simp only [toArgs]
              rw [ih hn.2]
              congr 1
              cases o' with
              | v _ => rfl
              | nw _ => rfl
              | p j =>
                simp only [toArg]
                have hj : i ≠ j := fun z => by
                  subst z
                  exact hn.1 (by simp only [lent, q]; simp)
                rw [List.getElem?_set_ne hj]
          rw [this os ni]; exact e2
        obtain ⟨z1, z2⟩ := back_ok e3 (by rw [k1.lent]; exact (List.nodup_cons.mp nd).2) r1 g3 f
        have eb : backArgs env (.p i :: os) (.ow true d' :: fin') = backArgs (env.set i (.ow io d')) os fin' := by
          simp only [backArgs, q]
        rw [eb]
        exact ⟨z1, k1.trans z2⟩
    · have l1 : lent env [.p i] = [i] := by simp only [lent, q]
      rw [l1] at nd r
      have nd : (i :: lent env os).Nodup := nd
      have g1 : σ[i]? = some (some w) := g1
      cases f with
      | @lk _ _ fin' a _ ho f =>
        have r1 : RelX K F H env σ (lent env os) := ⟨r.len, r.fz, r.adr, fun j s d2 b h hs hj ea => by
          by_cases z : j = i
          · subst z
            rw [q] at h; cases h; cases hs
            rw [g1] at ea; cases ea
            exact ho
          · exact r.ow j s d2 b h hs (fun y => (List.mem_cons.mp y).elim z hj) ea, r.ne, r.fdm⟩
        have := back_ok e2 (List.nodup_cons.mp nd).2 r1 g3 f
        have eb : backArgs env (.p i :: os) (.lk true d :: fin') = backArgs env os fin' := by
          simp only [backArgs]
        rw [eb]; exact this
theorem args_len : ∀ {os : List Op} {args : List Sl} {vs : List V}, toArgs env os = some args → RelOps K F H σ os vs → args.length = vs.length
  | [], _, _, e, h => by
    simp only [toArgs, Option.some.injEq] at e
    subst e
    cases (show _ = [] from h); rfl
  | o :: os, _, _, e, h => by
    obtain ⟨w, ws, rfl, g1, g2, g3⟩ := h
    simp only [toArgs, Option.bind_eq_some_iff, Option.map_eq_some_iff] at e
    obtain ⟨s, e1, args', e2, rfl⟩ := e
    rw [List.length_cons, List.length_cons, args_len e2 g3]
theorem args_fz {d : D} (r : RelE K F H env σ) : ∀ {os : List Op} {args : List Sl} {vs : List V} {j : Nat}, toArgs env os = some args → RelOps K F H σ os vs → args[j]? = some (.fz d) → ∃ v, vs[j]? = some v ∧ Is K F H d v
  | [], _, _, _, e, h, q => by
    simp only [toArgs, Option.some.injEq] at e
    subst e
    simp at q
  | o :: os, _, _, j, e, h, q => by
    obtain ⟨w, ws, rfl, g1, g2, g3⟩ := h
    simp only [toArgs, Option.bind_eq_some_iff, Option.map_eq_some_iff] at e
    obtain ⟨s, e1, args', e2, rfl⟩ := e
    cases j with
    | succ j =>
      obtain ⟨v, z1, z2⟩ := args_fz (j := j) r e2 g3 (by simpa using q)
      exact ⟨v, by simpa using z1, z2⟩
    | zero =>
      simp at q
      subst q
      rcases toArg_cases e1 g2 with ⟨d', q, _, rd'⟩ | ⟨_, _, _, _, _, q⟩ | ⟨_, _, _, _, _, q⟩
      · cases q
        refine ⟨w, rfl, ?_⟩
        cases o with
        | v x => simp only [rd, Option.some.injEq] at rd'; subst rd'; exact g1
        | nw x => exact absurd rfl (g2 x)
        | p i =>
          have g1 : σ[i]? = some (some w) := g1
          simp only [toArg] at e1
          split at e1
          · rename_i q
            cases e1
            obtain ⟨v, k1, k2⟩ := r.fz i _ q
            rw [g1] at k1; cases k1; exact k2
          · cases e1
          · cases e1
          · cases e1
      · cases q
      · cases q
/-- a list among the arguments is one of the caller's slots -/
theorem args_own : ∀ {os : List Op} {args : List Sl} {vs : List V} {j : Nat} {s : Sl} {d : D}, toArgs env os = some args → RelOps K F H σ os vs → args[j]? = some s → s.own = some d →
    ∃ i t v, i ∈ lent env os ∧ env[i]? = some t ∧ t.own = some d ∧ σ[i]? = some (some v) ∧ vs[j]? = some v ∧ ((∃ io, s = .ow true d ∧ t = .ow io d) ∨ ∃ io, s = .lk true d ∧ t = .lk io d)
  | [], _, _, _, _, _, e, h, q, _ => by
    simp only [toArgs, Option.some.injEq] at e
    subst e
    simp at q
  | o :: os, _, _, j, s, d, e, h, q, hs => by
    obtain ⟨w, ws, rfl, g1, g2, g3⟩ := h
    simp only [toArgs, Option.bind_eq_some_iff, Option.map_eq_some_iff] at e
    obtain ⟨s', e1, args', e2, rfl⟩ := e
    cases j with
    | succ j =>
      obtain ⟨i, t, v, z1, z2, z3, z4, z5, z6⟩ := args_own (j := j) e2 g3 (by simpa using q) hs
      exact ⟨i, t, v, by rw [lent_cons]; exact List.mem_append_right _ z1, z2, z3, z4, by simpa using z5, z6⟩
    | zero =>
      simp at q
      subst q
      rcases toArg_cases e1 g2 with ⟨d', rfl, _⟩ | ⟨i, io, d', rfl, q, rfl⟩ | ⟨i, io, d', rfl, q, rfl⟩
      · cases hs
      · cases hs
        exact ⟨i, _, w, by simp only [lent, q]; simp, q, rfl, g1, rfl, .inl ⟨io, rfl, rfl⟩⟩
      · cases hs
        exact ⟨i, _, w, by simp only [lent, q]; simp, q, rfl, g1, rfl, .inr ⟨io, rfl, rfl⟩⟩
theorem map_some {vs : List V} {j : Nat} {v : V} : (vs.map some)[j]? = some (some v) ↔ vs[j]? = some v := by
  rw [List.getElem?_map]
  cases vs[j]? <;> simp
theorem args_ne (r : RelE K F H env σ) : ∀ {os : List Op} {args : List Sl} {vs : List V} {j k : Nat} {s t : Sl} {d e : D} {a : Addr}, toArgs env os = some args → RelOps K F H σ os vs → (lent env os).Nodup →
    args[j]? = some s → s.own = some d → args[k]? = some t → t.own = some e → vs[j]? = some (.ref a) → vs[k]? = some (.ref a) → j = k
  | [], _, _, _, _, _, _, _, _, _, ea, _, _, q, _, _, _, _, _ => by
    simp only [toArgs, Option.some.injEq] at ea
    subst ea
    simp at q
  | o :: os, args0, vs0, j, k, s, t, d, e, a, ea, h, nd, q, hs, q', ht, v1, v2 => by
    have h0 := h
    have ea0 := ea
    obtain ⟨w, ws, rfl, g1, g2, g3⟩ := h
    simp only [toArgs, Option.bind_eq_some_iff, Option.map_eq_some_iff] at ea
    obtain ⟨s', e1, args', e2, rfl⟩ := ea
    rw [lent_cons] at nd
    have mixed : ∀ {k : Nat} {s t : Sl} {d e : D}, (s' :: args')[0]? = some s → s.own = some d → (s' :: args')[k + 1]? = some t → t.own = some e → (w :: ws)[0]? = some (V.ref a) → (w :: ws)[k + 1]? = some (V.ref a) → False := by
      intro k s t d e q hs q' ht v1 v2
      simp at q v1
      subst q v1
      obtain ⟨i, t', v, z1, z2, z3, z4, z5, _⟩ := args_own (j := k) e2 g3 (by simpa using q') ht
      have v2 : ws[k]? = some (V.ref a) := by simpa using v2
      rw [z5] at v2; cases v2
      rcases toArg_cases e1 g2 with ⟨d', rfl, _⟩ | ⟨i', io, d', rfl, y, rfl⟩ | ⟨i', io, d', rfl, y, rfl⟩
      · cases hs
      · have : i' = i := r.ne i' i _ _ _ _ _ y rfl z2 z3 g1 z4
        subst this
        have l1 : lent env [.p i'] = [i'] := by simp only [lent, y]
        rw [l1] at nd
        exact (List.nodup_cons.mp nd).1 z1
      · have : i' = i := r.ne i' i _ _ _ _ _ y rfl z2 z3 g1 z4
        subst this
        have l1 : lent env [.p i'] = [i'] := by simp only [lent, y]
        rw [l1] at nd
        exact (List.nodup_cons.mp nd).1 z1
    cases j with
    | zero =>
      cases k with
      | zero => rfl
      | succ k => exact (mixed q hs q' ht v1 v2).elim
    | succ j =>
      cases k with
      | zero => exact (mixed q' ht q hs v2 v1).elim
      | succ k =>
        have := args_ne r (j := j) (k := k) e2 g3 (List.nodup_append.mp nd).2.1 (by simpa using q) hs (by simpa using q') ht (by simpa using v1) (by simpa using v2)
        rw [this]
theorem args_rel (r : RelE K F H env σ) {os : List Op} {args : List Sl} {vs : List V} (e : toArgs env os = some args) (h : RelOps K F H σ os vs) (nd : (lent env os).Nodup) : RelE K F H args (vs.map some) where
  len := by rw [List.length_map, args_len e h]
  fz := fun j d q => by
    obtain ⟨v, z1, z2⟩ := args_fz r e h q
    exact ⟨v, map_some.mpr z1, z2⟩
  ow := fun j s d q hs => by
    obtain ⟨i, t, v, z1, z2, z3, z4, z5, _⟩ := args_own e h q hs
    obtain ⟨a, k1, k2⟩ := r.ow i t d z2 z3
    rw [z4] at k1; cases k1
    exact ⟨a, map_some.mpr z5, k2⟩
  ne := fun j k s t d d' a q hs q' ht v1 v2 => args_ne r e h nd q hs q' ht (map_some.mp v1) (map_some.mp v2)
  fdm := r.fdm
/-- behind a call -/
theorem call_back (p : Pst K F H env σ F1 H1 env1 σ) {os : List Op} {args fin : List Sl} {vs : List V} (e : toArgs env1 os = some args) (h : RelOps K F1 H1 σ os vs) (nd : (lent env1 os).Nodup)
    (q : Pst K F1 H1 args (vs.map some) F2 H2 fin (vs.map some)) : Pst K F H env σ F2 H2 (backArgs env1 os fin) σ := by
  have oaA : ∀ a, OA args (vs.map some) a → ∃ i t d, i ∈ lent env1 os ∧ env1[i]? = some t ∧ t.own = some d ∧ σ[i]? = some (some (.ref a)) := by
    rintro a ⟨j, s, d, q1, q2, q3⟩
    obtain ⟨i, t, v, z1, z2, z3, z4, z5, _⟩ := args_own e h q1 q2
    rw [map_some.mp q3] at z5; cases z5
    exact ⟨i, t, d, z1, z2, z3, z4⟩
  have fn : Lft K F2 H2 args fin vs := by
    refine Lft.of p.rel e h ?_ (fun i d z => ?_) (fun i d z => ?_)
    · have l1 := q.rel.len
      have l2 := args_len e h
      rw [List.length_map] at l1
      omega
    · obtain ⟨⟨d', k1⟩, k2⟩ := q.io i d z
      obtain ⟨a, k3, k4⟩ := q.rel.ow i _ _ k1 rfl
      exact ⟨d', a, k1, map_some.mp k3, k4⟩
    · obtain ⟨k1, k2⟩ := q.lk i true d z
      obtain ⟨a, k3, k4⟩ := q.rel.ow i _ _ k1 rfl
      exact ⟨a, k1, map_some.mp k3, k4⟩
  have rx : RelX K F2 H2 env1 σ (lent env1 os) := ⟨p.rel.len, fun i d z => by
      obtain ⟨v, k1, k2⟩ := p.rel.fz i d z
      exact ⟨v, k1, k2.mono q.st.sub q.st.agr⟩, fun i s d z hs => let ⟨a, k1, _⟩ := p.rel.ow i s d z hs; ⟨a, k1⟩, fun i s d a z hs hn ea => by
      obtain ⟨b, k1, k2⟩ := p.rel.ow i s d z hs
      rw [ea] at k1; cases k1
      obtain ⟨z1, z2⟩ := q.st.oth a k2.some k2.nF fun y => by
        obtain ⟨i', t, d', y1, y2, y3, y4⟩ := oaA a y
        have := p.rel.ne i i' _ _ _ _ _ z hs y2 y3 ea y4
        subst this
        exact hn y1
      exact k2.mono q.st.sub q.st.agr z1 z2, p.rel.ne, q.rel.fdm⟩
  obtain ⟨rb, kb⟩ := back_ok e nd rx h fn
  refine p.trans ⟨⟨q.st.sub, q.st.agr, q.st.dom, fun a z1 z2 z3 => q.st.oth a z1 z2 fun y => ?_⟩, rb.rel, fun a ⟨i, s, d, z1, z2, z3⟩ => ?_, fun i d z => ?_, fun i io d z => ?_⟩
  · obtain ⟨i', t, d', y1, y2, y3, y4⟩ := oaA a y
    exact z3 ⟨i', t, d', y2, y3, y4⟩
  · obtain ⟨s', d', y1, y2⟩ := kb.own z1 z2
    exact .inl ⟨i, s', d', y1, y2, z3⟩
  · refine ⟨?_, rfl⟩
    rcases kb.at_ i with y | ⟨io, d1, d2, y1, y2⟩
    · exact ⟨d, by rw [y]; exact z⟩
    · rw [z] at y1; cases y1; exact ⟨d2, y2⟩
  · refine ⟨?_, rfl⟩
    rcases kb.at_ i with y | ⟨io', d1, d2, y1, y2⟩
    · rw [y]; exact z
    · rw [z] at y1; cases y1
end
end VI
/-! VI9: calls, isinstance, ranges as lists, methods: meaning. -/
namespace VI
open PySem PySem.Spec L2
theorem back_kin : ∀ (os : List Op) (fin : List Sl) (env : En), Kin env (backArgs env os fin)
  | [], fin, _ => by cases fin <;> exact .refl
  | o :: os, [], env => by
    cases o <;> (simp only [backArgs]; exact .refl)
  | .v d :: os, s :: fin, env => by simp only [backArgs]; exact back_kin os fin env
  | .nw d :: os, s :: fin, env => by simp only [backArgs]; exact back_kin os fin env
  | .p i :: os, s :: fin, env => by
    cases s with
    | ow io d =>
      simp only [backArgs]
      split
      · rename_i q
        exact (Kin.set q).trans (back_kin os fin _)
      · exact back_kin os fin env
    | _ => simp only [backArgs]; exact back_kin os fin env
section
variable {X : Cx} {F : FS} {H : Hp} {env env1 env2 : En} {σ : Slots}
theorem gl_of {Γ : Gm} {cl : CallF} {N : List Str} {sc : Scope} (g : Gd Γ cl N sc X) {x : Str} (h : glB sc x = true) : Gl X x ∧ (x == ("__debug__" : Str)) = false ∧ x ≠ "__name__" := by
  obtain ⟨g1, g3⟩ := ba h
  obtain ⟨g1, g4⟩ := ba g1
  refine ⟨?_, by simpa using g4, by simpa using g3⟩
  show X.env.scope.names.lookup x = some .globalImplicit
  rw [g.hsc]; simpa using g1
theorem free_of {Γ : Gm} {cl : CallF} {N : List Str} {sc : Scope} (g : Gd Γ cl N sc X) {x : Str} (h : freeB Γ sc x = true) : Gl X x ∧ (x == ("__debug__" : Str)) = false ∧ x ≠ "__name__" ∧ X.mg x = none := by
  obtain ⟨h1, h2⟩ := ba h
  obtain ⟨a, b, c⟩ := gl_of g h1
  exact ⟨a, b, c, g.fr x h2⟩
theorem none_back {H1 : Hp} {F1 : FS} {env1 : En} {σ1 : Slots} {a : Addr} (p : Pst X.K F H env σ F1 H1 env1 σ1) (h : H1 a = none) : H a = none := by
  cases q' : H a with
  | none => rfl
  | some o' => exact absurd h (p.st.dom a (by rw [q']; simp))
theorem call_body {Γ : Gm} {cl : CallF} {N : List Str} {sc : Scope} {x : Str} {fi : Nat} {n : Nat} (np : ∀ args r fin, cl fi args = some (r, fin) → ∀ i, r ≠ .p i) (hlen : ∀ args r fin, cl fi args = some (r, fin) → args.length = n)
    {os : List Op} {args fin : List Sl} {o : Op} {vs : List V} {F1 : FS} {H1 : Hp} {Q : VK} (p1 : Pst X.K F H env σ F1 H1 env1 σ) (h2 : toArgs env1 os = some args) (h3 : (lent env1 os).Nodup) (h4 : cl fi args = some (o, fin))
    (r1 : RelOps X.K F1 H1 σ os vs) (q : QE X.K F H env σ o (backArgs env1 os fin) Q) : spOf X.K cl fi n vs H1 Q E0 := by
  refine ⟨?_, F1, args, o, fin, h4, args_rel p1.rel h2 r1 h3, fun v F2 H2 p2 r2 n2 => ?_⟩
  · rw [← args_len h2 r1]; exact hlen _ _ _ h4
  · refine q v F2 H2 (call_back p1 h2 r1 h3 p2) ?_ fun d ed a ea => ?_
    · cases o with
      | v d => exact r2
      | nw d => exact r2
      | p i => exact absurd rfl (np _ _ _ h4 i)
    · obtain ⟨z1, z2⟩ := n2 d ed a ea
      refine ⟨none_back p1 z1, fun ⟨i, s, d', w1, w2, w3⟩ => ?_⟩
      obtain ⟨s', d2, w4, w5⟩ := (back_kin os fin env1).own w1 w2
      exact (p1.rel.oa_some ⟨i, s', d2, w4, w5, w3⟩).1 z1
theorem s_call {Γ : Gm} {cl : CallF} {N : List Str} {sc : Scope} (g : Gd Γ cl N sc X) {fi : Nat} {ps : List Expr} {x : Str} {pp pos : Pos} {fs : En → Option (List Op × En)} {f : En → Option (Op × En)} (hg : glB sc x = true)
    (hx : Γ.fns.contains (x, fi) = true) (hs : SA X ps fs) (h0 : ps = [] → ∀ env os env1, fs env = some (os, env1) → os = [] ∧ env1 = env)
    (he : ∀ p r, ps = p :: r → starEach (p :: r) X.env = (false, eval p X.env) :: starEach r X.env) (hpl : ∀ p r, ps = p :: r → (backTo pos (starEach r X.env)).any (·.1) = false)
    (hf : ∀ env o env', f env = some (o, env') → ∃ os env1 args fin, fs env = some (os, env1) ∧ toArgs env1 os = some args ∧ (lent env1 os).Nodup ∧ cl fi args = some (o, fin) ∧ env' = backArgs env1 os fin) : SE X (.Call (.Name x pp) ps [] pos) f := by
  intro env o env' e σ F H Q r q
  obtain ⟨os, env1, args, fin, h1, h2, h3, h4, rfl⟩ := hf env o env' e
  obtain ⟨⟨k, a, fd, pn, hF, hR, hM, hK, hB, hlen⟩, np⟩ := g.fn x fi hx
  obtain ⟨G, hdb, _⟩ := gl_of g hg
  cases ps with
  | nil =>
    obtain ⟨rfl, rfl⟩ := h0 rfl _ _ _ h1
    refine WE.of (pe_call0 hF hR G hM hK hB .nil pass0 hdb) ?_
    exact call_body (Γ := Γ) (N := N) (sc := sc) (x := x) np hlen (.refl r) h2 h3 h4 (vs := []) rfl q
  | cons p ps =>
    refine WE.of (pe_call hF hR G hM hK hB .nil pass0 (pA X (p :: ps)) hdb (he p ps rfl) (hpl p ps rfl)) ?_
    refine hs env os env1 h1 σ F H _ r fun vs F1 H1 p1 r1 => ?_
    rw [List.append_nil]
    exact call_body (Γ := Γ) (N := N) (sc := sc) (x := x) np hlen p1 h2 h3 h4 r1 q

/-! ### isinstance -/
def D.ty : D → String
  | .non => "NoneType" | .bl _ => "bool" | .int _ => "int" | .str _ => "str" | .tup _ => "tuple" | .lst _ => "list" | .scr _ => "list"
def Ty.ts : Ty → String
  | .int => "int" | .bool => "bool" | .str => "str" | .tuple => "tuple" | .list => "list" | .none => "NoneType"
theorem tyx {K : PySem.W.Frag} {d : D} {v : V} (h : Has K F H d v) : TyX K H v (.type d.ty) := by
  cases d with
  | non => cases h.non; exact .base .non
  | bl b => cases h.bl; exact .base (.bl b)
  | int b => cases h.int; exact .base (.int b)
  | str b => cases h.str; exact .base (.str b)
  | lst xs =>
    obtain ⟨a, vs, rfl, h1, _⟩ := h.lst
    exact .base (.lst h1)
  | tup xs =>
    obtain ⟨a, vs, rfl, h1, _⟩ := h.tup
    rcases h1 with (h1 | ⟨o, h1⟩) | ⟨o, its, n, h1, h2, _⟩
    · exact .base (.tup h1)
    · exact .fTuple h1
    · exact .kTuple h1 h2
  | scr xs =>
    obtain ⟨a, rfl, h1⟩ := h.scr
    rcases h1 with (h1 | ⟨o, h1⟩) | ⟨o, its, n, h1, h2, _⟩
    · exact .base (.lst h1)
    · exact .base (.frz h1)
    · exact .kList h1 h2
theorem kit_has (t : Ty) (ht : t.ok = true) (d : D) : kitB d.ty t.ts = some (t.has d) := by
  cases t <;> first | exact absurd ht (by decide) | (cases d <;> first | rfl | decide +kernel | simp [D.ty, Ty.ts, Ty.has]; decide +kernel)
def tysT (ts : List Ty) : TA := fun _ H Q => Q (ts.map fun t => .ty t.ts) H
theorem ty_boot (t : Ty) (h : t.ok = true) : bootBuiltins t.nm = some (.type t.ts) := by
  cases t <;> first | exact absurd h (by decide) | decide +kernel
theorem tysA {Γ : Gm} {cl : CallF} {N : List Str} {sc : Scope} (g : Gd Γ cl N sc X) : ∀ {ts : List Ty} {ps : List Expr}, tysB Γ sc ts ps = true → PA X ps (tysT ts)
  | [], [], _ => pa_nil
  | [], _ :: _, h => by cases h
  | _ :: _, [], h => by cases h
  | t :: ts, p :: ps, h => by
    obtain ⟨h1, h2⟩ := ba (show ((t.ok && _) && tysB Γ sc ts ps) = true from h)
    obtain ⟨h0, h1⟩ := ba h1
    cases p with
    | Name x pos =>
      obtain ⟨h3, h4⟩ := ba (show (x == t.nm && freeB Γ sc x) = true from h1)
      have ex : x = t.nm := by simpa using h3
      obtain ⟨G, d1, d2, M⟩ := free_of g h4
      have pe : PE X (.Name x pos) (tC (.ty t.ts)) := pe_bltn G M (by rw [ex]; exact ty_boot t h0) rfl d2 d1
      refine ⟨fun ps' pins s σ H Q I q => (pa_cons pe (tysA g h2)).run ps' pins s σ H Q I q⟩
    | _ => cases h1
theorem kit_any {K : PySem.W.Frag} {Γ : Gm} {sc : Scope} (d : D) : ∀ {ts : List Ty} {ps : List Expr}, tysB Γ sc ts ps = true → PySem.W.kitAny K (.type d.ty) (ts.map fun t => Value.type t.ts) = some (ts.any fun t => t.has d) ∧ Paired ClsV (ts.map fun t => V.ty t.ts) (ts.map fun t => Value.type t.ts)
  | [], [], _ => ⟨rfl, .nil⟩
  | [], _ :: _, h => by cases h
  | _ :: _, [], h => by cases h
  | t :: ts, p :: ps, h => by
    obtain ⟨h1, h2⟩ := ba (show ((t.ok && _) && tysB Γ sc ts ps) = true from h)
    obtain ⟨h0, h1⟩ := ba h1
    obtain ⟨k1, k2⟩ := kit_any (K := K) d h2
    refine ⟨kitAny_cons (kit_ty (kit_has t h0 d)) (fun e => by rw [k1, List.any_cons, e]; rfl) (fun e => by rw [List.any_cons, e]; rfl), .cons (.ty _) k2⟩
theorem Has.nst {K : PySem.W.Frag} {F2 : FS} {H2 : Hp} {d : D} {v : V} (hd : ∀ a, F a → H a ≠ none) (h : Has K F H d v) (n : Nst F H F2 H2) : Has K F2 H2 d v := by
  rcases h with h | ⟨a, e, h⟩
  · exact .inl (h.mono n.sub fun a f => (n.old a (hd a f)).1)
  · obtain ⟨z1, z2⟩ := n.old a h.some
    exact .inr ⟨a, e, h.mono n.sub (fun a f => (n.old a (hd a f)).1) z1 fun z => h.nF (z2 z)⟩
theorem boot_isi : bootBuiltins "isinstance" = some (.builtin "isinstance") := by decide +kernel
theorem s_isi {Γ : Gm} {cl : CallF} {N : List Str} {sc : Scope} (g : Gd Γ cl N sc X) {ts : List Ty} {pa pt : Expr} {x : Str} {pp pos : Pos} {fa f : En → Option (Op × En)} (hx : x = "isinstance") (hg : freeB Γ sc x = true) (hh : headOk pa = true) (h10 : ts.length ≤ 10) (ha : SB X pa fa)
    (ht : (∃ y p, pt = .Name y p ∧ tysB Γ sc ts [.Name y p] = true) ∨ ∃ ps k p, pt = .Tuple ps k p ∧ tysB Γ sc ts ps = true)
    (hf : ∀ env o env', f env = some (o, env') → ∃ x d, fa env = some (x, env') ∧ rd env' x = some d ∧ o = .v (.bl (ts.any fun t => t.has d))) : SE X (.Call (.Name x pp) [pa, pt] [] pos) f := by
  intro env o env' e σ F H Q r q
  obtain ⟨z, d, h1, h2, rfl⟩ := hf env o env' e
  obtain ⟨G, hdb, hn, M⟩ := free_of g hg
  subst hx
  have hpt : headOk pt = true := by
    rcases ht with ⟨y, p, rfl, _⟩ | ⟨ps, k, p, rfl, _⟩ <;> rfl
  have hpl : (backTo pos (starEach [pt] X.env)).any (·.1) = false := by
    rw [starEach_of hpt]; rfl
  have hA : ∃ tt : TE, PE X pt tt ∧ ∀ v F1 H1, Pst X.K F H env σ F1 H1 env' σ → Has X.K F1 H1 d v → (∀ F2 H2, Nst F1 H1 F2 H2 → Q (.bl (ts.any fun t => t.has d)) H2) → tt σ H1 fun w H2 => rC X (.builtin "isinstance") [v, w] H2 Q := by
    rcases ht with ⟨y, p, rfl, hb⟩ | ⟨ps, k, p, rfl, hb⟩
    · cases ts with
      | nil => cases hb
      | cons t ts =>
        obtain ⟨b1, b2⟩ := ba (show ((t.ok && (y == t.nm && freeB Γ sc y)) && tysB Γ sc ts []) = true from hb)
        cases ts with
        | cons => cases b2
        | nil =>
          obtain ⟨b0, b1⟩ := ba b1
          obtain ⟨b3, b4⟩ := ba b1
          have ey : y = t.nm := by simpa using b3
          obtain ⟨G2, d1, d2, M2⟩ := free_of g b4
          refine ⟨tC (.ty t.ts), pe_bltn G2 M2 (by rw [ey]; exact ty_boot t b0) rfl d2 d1, fun v F1 H1 p1 hv qq => ?_⟩
          show rC X (.builtin "isinstance") [v, .ty t.ts] H1 Q
          refine rC.of call_isi ⟨v, .ty t.ts, _, _, t.has d, rfl, .ty _, tyx hv, kit_ty (kit_has t b0 d), ?_⟩
          have := qq F1 H1 .refl
          simpa using this
    · refine ⟨tTup (tysT ts), pe_tup (tysA g hb), fun v F1 H1 p1 hv qq => ?_⟩
      refine ⟨?_, fun tp htp => ?_⟩
      · rw [List.length_map, sizeLine_eq]; omega
      · obtain ⟨k1, k2⟩ := kit_any (K := X.K) d hb
        have n : Nst F1 H1 F1 (upd H1 tp (.tup (ts.map fun t => .ty t.ts))) := .new htp
        exact rC.of call_isiT ⟨v, tp, _, _, _, _, rfl, upd_same, k2, tyx (hv.nst p1.rel.fdm n), k1, qq _ _ n⟩
  obtain ⟨tt, pt', ht'⟩ := hA
  refine WE.of (pe_callB (callB _) G M boot_isi (pa_cons (pE X pa) (pa_cons pt' pa_nil (starEach_of hpt)) (starEach_of hh)) hn hdb (starEach_of hh) hpl) ?_
  refine ha env z env' h1 σ F H _ r fun v F1 H1 p1 r1 n1 => ?_
  exact ht' v F1 H1 p1 (rd_has p1.rel r1 h2) fun F2 H2 n => q _ F2 H2 (p1.nst n) (by simp [RelOp, Is]) (fun d ed => by cases ed)
end
end VI
/-! VI10: ranges as lists, methods; what is walked. -/
namespace VI
open PySem PySem.Spec L2
section
variable {X : Cx} {F : FS} {H : Hp} {env env1 env2 : En} {σ : Slots}
theorem IsL.maps {K : PySem.W.Frag} {α : Type} {f : α → D} {g : α → V} (h : ∀ k, Is K F H (f k) (g k)) : ∀ l : List α, IsL K F H (l.map f) (l.map g)
  | [] => IsL.nil
  | k :: l => IsL.cons (h k) (IsL.maps h l)
theorem rgS_ok {i j : Int} {ds : List D} (e : rgS i j = some ds) : RgOk i j ∧ ∀ (K : PySem.W.Frag) (F : FS) (H : Hp), IsL K F H ds (rgV i j) := by
  unfold rgS at e
  split at e
  · rename_i h
    cases e
    exact ⟨h, fun K F H => IsL.maps (fun k => by simp [Is]) _⟩
  · cases e
theorem s_rng1 {Γ : Gm} {cl : CallF} {N : List Str} {sc : Scope} (g : Gd Γ cl N sc X) {tp : Bool} {pa : Expr} {x y : Str} {pp pp2 pos pos2 : Pos} {fa f : En → Option (Op × En)} (hx : x = if tp then "tuple" else "list") (gx : freeB Γ sc x = true) (hy : y = "range") (gy : freeB Γ sc y = true)
    (hh : headOk pa = true) (ha : SB X pa fa)
    (hf : ∀ env o env', f env = some (o, env') → ∃ z j ds, fa env = some (z, env') ∧ rd env' z = some (.int j) ∧ rgS 0 j = some ds ∧ o = if tp then .v (.tup ds) else .nw (.lst ds)) : SE X (.Call (.Name x pp) [.Call (.Name y pp2) [pa] [] pos2] [] pos) f := by
  intro env o env' e σ F H Q r q
  obtain ⟨z, j, ds, h1, h2, h3, rfl⟩ := hf env o env' e
  obtain ⟨G, _, _, M⟩ := free_of g gx
  obtain ⟨G2, _, _, M2⟩ := free_of g gy
  obtain ⟨ok, il⟩ := rgS_ok h3
  subst hx hy
  cases tp with
  | true =>
    refine WE.of (pe_tupRg g.calm G M (prg_1 G2 M2 (pE X pa) (starEach_of hh))) ?_
    exact ha env z env' h1 σ F H _ r fun v F1 H1 p1 r1 n1 => ⟨j, (rd_has p1.rel r1 h2).int, ok, fun p hp => (fol_q p1 q).newT p1.rel.fdm (il _ _ _) hp⟩
  | false =>
    refine WE.of (pe_listRg g.calm G M (prg_1 G2 M2 (pE X pa) (starEach_of hh))) ?_
    exact ha env z env' h1 σ F H _ r fun v F1 H1 p1 r1 n1 => ⟨j, (rd_has p1.rel r1 h2).int, ok, fun p hp => (fol_q p1 q).newL p1.rel.fdm (il _ _ _) hp⟩
theorem s_rng2 {Γ : Gm} {cl : CallF} {N : List Str} {sc : Scope} (g : Gd Γ cl N sc X) {tp : Bool} {pa pb : Expr} {x y : Str} {pp pp2 pos pos2 : Pos} {fa fb f : En → Option (Op × En)} (hx : x = if tp then "tuple" else "list") (gx : freeB Γ sc x = true) (hy : y = "range") (gy : freeB Γ sc y = true)
    (hh : headOk pa = true) (hh2 : headOk pb = true) (ha : SB X pa fa) (hb : SB X pb fb)
    (hf : ∀ env o env', f env = some (o, env') → ∃ z i env1 u j ds, fa env = some (z, env1) ∧ fb env1 = some (u, env') ∧ rd env' z = some (.int i) ∧ rd env' u = some (.int j) ∧ rgS i j = some ds ∧ o = if tp then .v (.tup ds) else .nw (.lst ds)) :
    SE X (.Call (.Name x pp) [.Call (.Name y pp2) [pa, pb] [] pos2] [] pos) f := by
  intro env o env' e σ F H Q r q
  obtain ⟨z, i, env1, u, j, ds, h1, h2, h3, h4, h5, rfl⟩ := hf env o env' e
  obtain ⟨G, _, _, M⟩ := free_of g gx
  obtain ⟨G2, _, _, M2⟩ := free_of g gy
  obtain ⟨ok, il⟩ := rgS_ok h5
  have hpl : (backTo pos2 (starEach [pb] X.env)).any (·.1) = false := by rw [starEach_of hh2]; rfl
  subst hx hy
  cases tp with
  | true =>
    refine WE.of (pe_tupRg g.calm G M (prg_2 G2 M2 (pE X pa) (pE X pb) (starEach_of hh) (starEach_of hh2) hpl)) ?_
    exact two_ops ha hb h1 h2 r fun v w F2 H2 p r1 r2 _ _ => ⟨i, j, (rd_has p.rel r1 h3).int, (rd_has p.rel r2 h4).int, ok, fun q' hp => (fol_q p q).newT p.rel.fdm (il _ _ _) hp⟩
  | false =>
    refine WE.of (pe_listRg g.calm G M (prg_2 G2 M2 (pE X pa) (pE X pb) (starEach_of hh) (starEach_of hh2) hpl)) ?_
    exact two_ops ha hb h1 h2 r fun v w F2 H2 p r1 r2 _ _ => ⟨i, j, (rd_has p.rel r1 h3).int, (rd_has p.rel r2 h4).int, ok, fun q' hp => (fol_q p q).newL p.rel.fdm (il _ _ _) hp⟩
theorem m_slot (m : Mf) : Slot "list" m.nm m.id ∧ typeOf (.builtin m.id) = pure (.type "method_descriptor") := by
  cases m
  · exact ⟨PySem.F.slot_list_append, PySem.F.type_list_append⟩
  · exact ⟨PySem.F.slot_list_pop, PySem.F.type_list_pop⟩
  · exact ⟨PySem.F.slot_list_reverse, PySem.F.type_list_reverse⟩
  · exact ⟨PySem.F.slot_list_extend, PySem.F.type_list_extend⟩
  · exact ⟨PySem.F.slot_list_insert, PySem.F.type_list_insert⟩
  · exact ⟨PySem.F.slot_list_remove, PySem.F.type_list_remove⟩
  · exact ⟨PySem.F.slot_list_clear, PySem.F.type_list_clear⟩
  · exact ⟨PySem.F.slot_list_sort, PySem.F.type_list_sort⟩
theorem vis_of {Γ : Gm} {cl : CallF} {N : List Str} {sc : Scope} (g : Gd Γ cl N sc X) {i : Nat} {x : Str} (h : nmB N sc i x = true) : X.N[i]? = some x ∧ Vis X.env.scope x ∧ (x == ("__debug__" : Str)) = false ∧ (x == ("__classdict__" : Str)) = false := by
  obtain ⟨h1, h2⟩ := ba h
  obtain ⟨h2, h4⟩ := ba h2
  obtain ⟨h2, h3⟩ := ba h2
  refine ⟨by rw [g.hN]; simpa using h1, ?_, by simpa using h3, by simpa using h4⟩
  rw [g.hsc]
  unfold Vis
  split at h2
  · rename_i q; exact .inl q
  · rename_i q; exact .inr (.inl q)
  · rename_i q; exact .inr (.inr q)
  · cases h2
theorem pe_nm {Γ : Gm} {cl : CallF} {N : List Str} {sc : Scope} (g : Gd Γ cl N sc X) {i : Nat} {x : Str} {pos : Pos} (h : nmB N sc i x = true) : PE X (.Name x pos) (tVar i) :=
  let ⟨a, b, c, d⟩ := vis_of g h
  pe_var a b c d
theorem s_nm {Γ : Gm} {cl : CallF} {N : List Str} {sc : Scope} (g : Gd Γ cl N sc X) {i : Nat} {x : Str} {pos : Pos} (h : nmB N sc i x = true) {f : En → Option (Op × En)}
    (hf : ∀ env o env', f env = some (o, env') → env' = env ∧ ((∃ d, env[i]? = some (.fz d) ∧ o = .v d) ∨ (o = .p i ∧ ∃ s d, env[i]? = some s ∧ s.own = some d))) : SE X (.Name x pos) f := by
  intro env o env' e σ F H Q r q
  obtain ⟨rfl, h2⟩ := hf env o env' e
  refine WE.of (pe_nm g h) ?_
  rcases h2 with ⟨d, h2, rfl⟩ | ⟨rfl, s, d, h2, h3⟩
  · obtain ⟨v, e1, e2⟩ := r.fz i d h2
    exact ⟨v, e1, q v F H (.refl r) e2 fun d ed => by cases ed⟩
  · obtain ⟨a, e1, e2⟩ := r.ow i s d h2 h3
    exact ⟨.ref a, e1, q _ F H (.refl r) e1 fun d ed => by cases ed⟩
theorem s_lit {d : D} {c : Const} {k : Nat} {pos : Pos} (h : litB d c = true) {f : En → Option (Op × En)} (hf : ∀ env, f env = some (.v d, env)) : SE X (.Constant c k pos) f := by
  intro env o env' e σ F H Q r q
  rw [hf] at e
  cases e
  have fin : ∀ v, Is X.K F H d v → Q v H := fun v i => q v F H (.refl r) i fun d ed => by cases ed
  unfold litB at h
  split at h
  · exact WE.of pe_non (fin _ (by simp [Is]))
  · obtain rfl := eq_of_beq h
    exact WE.of pe_bl (fin _ (by simp [Is]))
  · obtain rfl := eq_of_beq h
    exact WE.of pe_int (fin _ (by simp [Is]))
  · obtain rfl := eq_of_beq h
    exact WE.of pe_str (fin _ (by simp [Is]))
  · cases h
theorem s_mth {Γ : Gm} {cl : CallF} {N : List Str} {sc : Scope} (g : Gd Γ cl N sc X) {m : Mf} {i : Nat} {x n : Str} {ps : List Expr} {pp apos cpos : Pos} {fs : En → Option (List D × En)} {f : En → Option (Op × En)} (hx : nmB N sc i x = true) (hn : n = m.nm) (hl : (apos.endLine == cpos.line) = true)
    (hs : SD X ps fs) (h0 : ps = [] → ∀ env ds env1, fs env = some (ds, env1) → ds = [] ∧ env1 = env)
    (he : ∀ p r, ps = p :: r → starEach (p :: r) X.env = (false, eval p X.env) :: starEach r X.env) (hpl : ∀ p r, ps = p :: r → (backTo cpos (starEach r X.env)).any (·.1) = false) (hk : ps.length < 20)
    (hf : ∀ env o env', f env = some (o, env') → (∃ io xs, env[i]? = some (.ow io (.lst xs))) ∧ ∃ ds env1 io xs d ys, fs env = some (ds, env1) ∧ env1[i]? = some (.ow io (.lst xs)) ∧ mthS m xs ds = some (d, ys) ∧ o = .v d ∧ env' = env1.set i (.ow io (.lst ys))) :
    SE X (.Call (.Attribute (.Name x pp) n apos) ps [] cpos) f := by
  intro env o env' e σ F H Q r q
  obtain ⟨⟨io0, xs0, h00⟩, ds, env1, io, xs, d, ys, h1, h2, h3, rfl, rfl⟩ := hf env o env' e
  obtain ⟨a, e1, o0⟩ := r.ow i _ _ h00 rfl
  obtain ⟨_, vs0, H0, _⟩ := o0
  subst hn
  obtain ⟨slot, hty⟩ := m_slot m
  have main : ∀ {vs : List V} {F1 : FS} {H1 : Hp}, Pst X.K F H env σ F1 H1 env1 σ → IsL X.K F1 H1 ds vs → rM X m.id (.ref a) vs H1 Q := fun {vs F1 H1} p1 i1 => by
    obtain ⟨b, e2, ho⟩ := p1.rel.ow i _ _ h2 rfl
    rw [e1] at e2; cases e2
    obtain ⟨nF, ws, H1a, iw⟩ := id ho
    refine mthS_ok h3 H1a iw i1 fun v zs iv iz => ?_
    have agr : ∀ c, F1 c → upd H1 a (.lst zs) c = H1 c := fun c f => upd_ne (OwnAt.nea ho f)
    refine q v F1 _ (p1.mut h2 e1 ho ⟨nF, zs, upd_same, iz.mono (fun _ h => h) agr⟩) (iv.mono (fun _ h => h) agr) fun d ed => by cases ed
  cases ps with
  | nil =>
    obtain ⟨rfl, rfl⟩ := h0 rfl _ _ _ h1
    refine WE.of (pe_bm0 PySem.F.plainAttrs_list slot hty (mtB m.id) (pe_nm g hx) rfl hl) ?_
    exact ⟨.ref a, e1, .inl ⟨rfl, vs0, .of H0⟩, main (.refl r) IsL.nil⟩
  | cons p ps =>
    have few : ((backTo cpos (starEach (p :: ps) X.env)).all (fun x => !x.1) && (backToKw cpos (keywordEach [] X.env)).all (fun x => x.1.isSome)
      && decide ((p :: ps).length + ([] : List Keyword).length + (if ([] : List Keyword).isEmpty then 0 else 1) < 30)) = true := by
      have z1 : (backTo cpos (starEach (p :: ps) X.env)).all (fun x => !x.1) = true := by
        rw [he p ps rfl]
        have := hpl p ps rfl
        show (!false && (backTo cpos (starEach ps X.env)).all (fun x => !x.1)) = true
        rw [List.all_eq_not_any_not]
        simp only [Bool.not_not, Bool.not_false, Bool.true_and]
        rw [this]; rfl
      rw [z1, Bool.true_and, Bool.and_eq_true]
      refine ⟨rfl, decide_eq_true ?_⟩
      rw [if_pos (by rfl)]
      simp only [List.length_nil]
      omega
    refine WE.of (pe_bm PySem.F.plainAttrs_list slot hty (mtB m.id) (pe_nm g hx) (pA X (p :: ps)) rfl few hl (he p ps rfl) (hpl p ps rfl)) ?_
    exact ⟨.ref a, e1, .inl ⟨rfl, vs0, .of H0⟩, hs env ds env1 h1 σ F H _ r fun vs F1 H1 p1 i1 => main p1 i1⟩
/-! ### what is walked -/
structure Src (K : PySem.W.Frag) (J : It) (items : List D) (P : FS → Hp → Prop) : Prop where
  go : ∀ i F H, P F H → i < items.length → J.go i H
  yld : ∀ i F H x H', P F H → (∀ a, F a → H a ≠ none) → J.yld i H x H' → ∀ d, items[i]? = some d → ∃ F', Nst F H F' H' ∧ Is K F' H' d x
  stop : ∀ i F H, P F H → items.length = i → J.stop i H
/-- the slots whose lists are walked -/
def Relab (env env' : En) : Prop := env'.length = env.length ∧ ∀ i : Nat, env'[i]? = env[i]? ∨ (∃ io d, env[i]? = some (.ow io d) ∧ env'[i]? = some (.lk io d)) ∨ (∃ io d, env[i]? = some (.lk io d) ∧ env'[i]? = some (.ow io d))
theorem Relab.own (h : Relab env env1) {i : Nat} {s : Sl} {d : D} (e : env1[i]? = some s) (hs : s.own = some d) : ∃ t, env[i]? = some t ∧ t.own = some d := by
  rcases h.2 i with q | ⟨io, d', q1, q2⟩ | ⟨io, d', q1, q2⟩
  · exact ⟨s, by rw [← q]; exact e, hs⟩
  · rw [e] at q2; cases q2; cases hs; exact ⟨_, q1, rfl⟩
  · rw [e] at q2; cases q2; cases hs; exact ⟨_, q1, rfl⟩
theorem Relab.symm (h : Relab env env1) : Relab env1 env := ⟨h.1.symm, fun i => by
  rcases h.2 i with q | ⟨io, d', q1, q2⟩ | ⟨io, d', q1, q2⟩
  · exact .inl q.symm
  · exact .inr (.inr ⟨io, d', q2, q1⟩)
  · exact .inr (.inl ⟨io, d', q2, q1⟩)⟩
theorem Relab.rel {K : PySem.W.Frag} (h : Relab env env1) (r : RelE K F H env σ) : RelE K F H env1 σ where
  len := h.1.trans r.len
  fz := fun i d e => by
    rcases h.2 i with q | ⟨io, d', q1, q2⟩ | ⟨io, d', q1, q2⟩
    · exact r.fz i d (by rw [← q]; exact e)
    · rw [e] at q2; cases q2
    · rw [e] at q2; cases q2
  ow := fun i s d e hs => by
    obtain ⟨t, h1, h2⟩ := h.own e hs
    exact r.ow i t d h1 h2
  ne := fun i j s t d d' a e hs e' ht => by
    obtain ⟨s', h1, h2⟩ := h.own e hs
    obtain ⟨t', h3, h4⟩ := h.own e' ht
    exact r.ne i j s' t' d d' a h1 h2 h3 h4
  fdm := r.fdm
theorem Relab.oa (h : Relab env env1) {a : Addr} (o : OA env1 σ a) : OA env σ a := by
  obtain ⟨i, s, d, e, hs, q⟩ := o
  obtain ⟨t, h1, h2⟩ := h.own e hs
  exact ⟨i, t, d, h1, h2, q⟩
end
end VI
/-! VI11: locks; sources of loops. -/
namespace VI
open PySem PySem.Spec L2
section
variable {K : PySem.W.Frag} {F F1 F2 : FS} {H H1 H2 : Hp} {env env0 env1 env2 envL : En} {σ σ2 : Slots}
theorem Relab.refl : Relab env env := ⟨rfl, fun _ => .inl rfl⟩
theorem Relab.trans (a : Relab env env1) (b : Relab env1 env2) : Relab env env2 := ⟨b.1.trans a.1, fun i => by
  rcases a.2 i with h | ⟨io, d, h1, h2⟩ | ⟨io, d, h1, h2⟩ <;> rcases b.2 i with h' | ⟨io', d', h1', h2'⟩ | ⟨io', d', h1', h2'⟩
  · exact .inl (h'.trans h)
  · exact .inr (.inl ⟨io', d', by rw [← h]; exact h1', h2'⟩)
  · exact .inr (.inr ⟨io', d', by rw [← h]; exact h1', h2'⟩)
  · exact .inr (.inl ⟨io, d, h1, by rw [h']; exact h2⟩)
  · rw [h2] at h1'; cases h1'
  · rw [h2] at h1'; cases h1'; exact .inl (h2'.trans h1.symm)
  · exact .inr (.inr ⟨io, d, h1, by rw [h']; exact h2⟩)
  · rw [h2] at h1'; cases h1'; exact .inl (h2'.trans h1.symm)
  · rw [h2] at h1'; cases h1'⟩
theorem Relab.lock {i : Nat} {io d} (h : env[i]? = some (.ow io d)) : Relab env (env.set i (.lk io d)) := ⟨by rw [List.length_set], fun j => by
  by_cases e : i = j
  · subst e; exact .inr (.inl ⟨io, d, h, List.getElem?_set_self (lt_of_get h)⟩)
  · exact .inl (List.getElem?_set_ne e)⟩
theorem Relab.unlock1 {i : Nat} {io d} (h : env[i]? = some (.lk io d)) : Relab env (env.set i (.ow io d)) := ⟨by rw [List.length_set], fun j => by
  by_cases e : i = j
  · subst e; exact .inr (.inr ⟨io, d, h, List.getElem?_set_self (lt_of_get h)⟩)
  · exact .inl (List.getElem?_set_ne e)⟩
theorem unlock_app (a b : List (Nat × Bool)) : ∀ env : En, unlock env (a ++ b) = unlock (unlock env a) b := by
  induction a with
  | nil => intro env; rfl
  | cons x a ih =>
    intro env
    obtain ⟨i, t⟩ := x
    cases t with
    | false => exact ih env
    | true =>
      simp only [List.cons_append, unlock]
      split <;> exact ih _
/-- what unlocking undoes -/
def Lks (env0 env1 : En) (lk : List (Nat × Bool)) (σ : Slots) : Prop :=
  ∀ (K : PySem.W.Frag) (F1 : FS) (H1 : Hp) (F2 : FS) (H2 : Hp) (env2 : En) (σ2 : Slots), Pst K F1 H1 env1 σ F2 H2 env2 σ2 → Pst K F1 H1 env0 σ F2 H2 (unlock env2 lk) σ2
theorem Ste.less {oa oa' : Addr → Prop} (s : Ste F H oa F1 H1) (h : ∀ a, oa a → oa' a) : Ste F H oa' F1 H1 := ⟨s.sub, s.agr, s.dom, fun a h1 h2 h3 => s.oth a h1 h2 fun z => h3 (h a z)⟩
theorem lks_of (o : Op) : Relab env0 (lockS env0 o).1 ∧ Lks env0 (lockS env0 o).1 (lockS env0 o).2 σ := by
  have same : Relab env0 env0 ∧ Lks env0 env0 [] σ := ⟨.refl, fun K F1 H1 F2 H2 env2 σ2 p => p⟩
  cases o with
  | v d => exact same
  | nw d => exact same
  | p i =>
    simp only [lockS]
    split
    · rename_i io d q
      refine ⟨.lock q, fun K F1 H1 F2 H2 env2 σ2 p => ?_⟩
      have gi : (env0.set i (.lk io d))[i]? = some (.lk io d) := List.getElem?_set_self (lt_of_get q)
      obtain ⟨g2, gσ⟩ := p.lk i io d gi
      simp only [unlock, g2]
      have rl : Relab env2 (env2.set i (.ow io d)) := .unlock1 g2
      refine ⟨p.st.less fun a z => (Relab.lock q).oa z, rl.rel p.rel, fun a z => ?_, fun j d' h => ?_, fun j io' d' h => ?_⟩
      · rcases p.own a (rl.oa z) with y | y
        · exact .inl ((Relab.lock q).oa y)
        · exact .inr y
      · by_cases e : i = j
        · subst e
          rw [q] at h; cases h
          exact ⟨⟨d, List.getElem?_set_self (lt_of_get g2)⟩, gσ⟩
        · have h' : (env0.set i (.lk io d))[j]? = some (.ow true d') := by rw [List.getElem?_set_ne e]; exact h
          obtain ⟨⟨d2, k1⟩, k2⟩ := p.io j d' h'
          exact ⟨⟨d2, by rw [List.getElem?_set_ne e]; exact k1⟩, k2⟩
      · by_cases e : i = j
        · subst e
          rw [q] at h; cases h
        · have h' : (env0.set i (.lk io d))[j]? = some (.lk io' d') := by rw [List.getElem?_set_ne e]; exact h
          obtain ⟨k1, k2⟩ := p.lk j io' d' h'
          exact ⟨by rw [List.getElem?_set_ne e]; exact k1, k2⟩
    · exact ⟨.refl, fun K F1 H1 F2 H2 env2 σ2 p => p⟩
    · exact same
theorem Lks.trans {lk lk' : List (Nat × Bool)} (a : Lks env0 env1 lk σ) (b : Lks env1 env2 lk' σ) : Lks env0 env2 (lk' ++ lk) σ := fun K F1 H1 F2 H2 e σ2 p => by
  rw [unlock_app]; exact a K F1 H1 F2 H2 _ σ2 (b K F1 H1 F2 H2 e σ2 p)
/-- what a source leans on stays -/
def Keep (K : PySem.W.Frag) (F' : FS) (H' : Hp) (env1 : En) (σ : Slots) (lk : List (Nat × Bool)) (P : FS → Hp → Prop) : Prop :=
  ∀ F2 H2, (∀ a, F' a → F2 a) → (∀ a, F' a → H2 a = H' a) → (∀ (i : Nat) (io : Bool) (d : D) (a : Addr), i ∈ lk.map (·.1) → env1[i]? = some (.lk io d) → σ[i]? = some (some (.ref a)) → OwnAt K F2 H2 d a) → P F2 H2
theorem lock_lk {o : Op} {i : Nat} {io d} (h : env0[i]? = some (.lk io d)) : (lockS env0 o).1[i]? = some (.lk io d) := by
  cases o with
  | v d => exact h
  | nw d => exact h
  | p j =>
    simp only [lockS]
    split
    · rename_i q
      have : j ≠ i := fun z => by subst z; rw [q] at h; cases h
      rw [List.getElem?_set_ne this]; exact h
    · exact h
    · exact h
theorem lock_keep (r : RelE K F H env0 σ) {o : Op} {v : V} {d : D} (ro : RelOp K F H σ o v) (hn : ∀ d, o ≠ .nw d) (e : rd env0 o = some d) {envZ : En} (hz : ∀ (i : Nat) io d, (lockS env0 o).1[i]? = some (.lk io d) → envZ[i]? = some (.lk io d)) {lk' : List (Nat × Bool)}
    (hl : ∀ z, z ∈ (lockS env0 o).2 → z ∈ lk') : Keep K F H envZ σ lk' (fun F H => Has K F H d v) := by
  intro F2 H2 sub agr ho
  cases o with
  | v x =>
    simp only [rd, Option.some.injEq] at e
    subst e
    exact .inl (Is.mono sub agr ro)
  | nw x => exact absurd rfl (hn x)
  | p i =>
    have ro : σ[i]? = some (some v) := ro
    simp only [rd] at e
    split at e
    · rename_i q
      cases e
      obtain ⟨w, k1, k2⟩ := r.fz i _ q
      rw [ro] at k1; cases k1
      exact .inl (k2.mono sub agr)
    · rename_i io d' q
      cases e
      obtain ⟨a, k1, k2⟩ := r.ow i _ _ q rfl
      rw [ro] at k1; cases k1
      have g : (lockS env0 (.p i)) = (env0.set i (.lk io d), [(i, true)]) := by simp only [lockS, q]
      have gi : (env0.set i (.lk io d))[i]? = some (.lk io d) := List.getElem?_set_self (lt_of_get q)
      exact .inr ⟨a, rfl, ho i io d a (List.mem_map.mpr ⟨(i, true), hl _ (by rw [g]; simp), rfl⟩) (hz i io d (by rw [g]; exact gi)) ro⟩
    · rename_i io d' q
      cases e
      obtain ⟨a, k1, k2⟩ := r.ow i _ _ q rfl
      rw [ro] at k1; cases k1
      have g : (lockS env0 (.p i)) = (env0, [(i, false)]) := by simp only [lockS, q]
      exact .inr ⟨a, rfl, ho i io d a (List.mem_map.mpr ⟨(i, false), hl _ (by rw [g]; simp), rfl⟩) (hz i io d (by rw [g]; exact q)) ro⟩
    · cases e
def SI (X : Cx) (tg p : Expr) (f : En → Option (List D × List (Nat × Bool) × En)) : Prop :=
  ∀ env items lk env1, f env = some (items, lk, env1) → ∀ σ F H R, RelE X.K F H env σ →
    (∀ J F' H' env0 P, Pst X.K F H env σ F' H' env0 σ → Relab env0 env1 → Lks env0 env1 lk σ → Src X.K J items P → P F' H' → Keep X.K F' H' env1 σ lk P → R J H') → WI X tg p σ H R
/-! ### sources -/
theorem src_list {xs : List D} {a : Addr} : Src K (Itl K a) xs (fun F H => Has K F H (.lst xs) (.ref a)) where
  go := fun i F H p h => by
    obtain ⟨b, vs, e, h1, i1⟩ := p.lst
    cases e
    obtain ⟨v, e1, _⟩ := i1.get (List.getElem?_eq_getElem h)
    exact ⟨vs, v, .of h1, e1⟩
  yld := fun i F H x H' p _ y d hd => by
    obtain ⟨b, vs, e, h1, i1⟩ := p.lst
    cases e
    obtain ⟨rfl, y⟩ := y
    obtain ⟨v, e1, e2⟩ := i1.get hd
    have := y vs (.of h1)
    rw [e1] at this; cases this
    exact ⟨F, .refl, e2⟩
  stop := fun i F H p h0 => have h := Nat.le_of_eq h0; by
    obtain ⟨b, vs, e, h1, i1⟩ := p.lst
    cases e
    exact ⟨vs, .of h1, by rw [← i1.length]; exact h⟩
theorem src_scr {ns : List Int} {a : Addr} : Src K (Itl K a) (ns.map .int) (fun F H => Has K F H (.scr ns) (.ref a)) where
  go := fun i F H p h => by
    obtain ⟨b, e, h1⟩ := p.scr
    cases e
    obtain ⟨v, e1, _⟩ := (IsL.of_ints (K := K) (F := F) (H := H) ns).get (List.getElem?_eq_getElem h)
    exact ⟨_, v, h1, e1⟩
  yld := fun i F H x H' p _ y d hd => by
    obtain ⟨b, e, h1⟩ := p.scr
    cases e
    obtain ⟨rfl, y⟩ := y
    obtain ⟨v, e1, e2⟩ := (IsL.of_ints (K := K) (F := F) (H := H') ns).get hd
    have := y _ h1
    rw [e1] at this; cases this
    exact ⟨F, .refl, e2⟩
  stop := fun i F H p h0 => have h := Nat.le_of_eq h0; by
    obtain ⟨b, e, h1⟩ := p.scr
    cases e
    exact ⟨_, h1, by simpa using h⟩
theorem src_tup {xs : List D} {a : Addr} : Src K (Itt K a) xs (fun F H => Has K F H (.tup xs) (.ref a)) where
  go := fun i F H p h => by
    obtain ⟨b, vs, e, h1, i1⟩ := p.tup
    cases e
    obtain ⟨v, e1, _⟩ := i1.get (List.getElem?_eq_getElem h)
    exact ⟨vs, v, h1, e1⟩
  yld := fun i F H x H' p _ y d hd => by
    obtain ⟨b, vs, e, h1, i1⟩ := p.tup
    cases e
    obtain ⟨rfl, y⟩ := y
    obtain ⟨v, e1, e2⟩ := i1.get hd
    have := y vs h1
    rw [e1] at this; cases this
    exact ⟨F, .refl, e2⟩
  stop := fun i F H p h0 => have h := Nat.le_of_eq h0; by
    obtain ⟨b, vs, e, h1, i1⟩ := p.tup
    cases e
    exact ⟨vs, h1, by rw [← i1.length]; exact h⟩
theorem src_rng {lo : Int} {n : Nat} : Src K (Itr lo n) ((List.range n).map fun k => .int (lo + (k : Nat))) (fun _ _ => True) where
  go := fun i F H _ h => by show i < n; simpa using h
  yld := fun i F H x H' _ _ y d hd => by
    obtain ⟨rfl, rfl⟩ := y
    rw [List.getElem?_map] at hd
    obtain ⟨k, hk, rfl⟩ := Option.map_eq_some_iff.mp hd
    have : i = k := by
      by_cases hi : i < n
      · rw [List.getElem?_range hi] at hk; cases hk; rfl
      · rw [List.getElem?_eq_none (by simpa using hi)] at hk; cases hk
    subst this
    exact ⟨F, .refl, by simp [Is]⟩
  stop := fun i F H _ h0 => have h := Nat.le_of_eq h0; by show n ≤ i; simpa using h
theorem enum_get : ∀ {xs : List D} {k : Int} {i : Nat} {d : D}, (enumD k xs)[i]? = some d → ∃ x, xs[i]? = some x ∧ d = .tup [.int (k + (i : Nat)), x]
  | [], _, _, _, h => by simp [enumD] at h
  | x :: xs, k, 0, d, h => by simp [enumD] at h; subst h; exact ⟨x, rfl, by simp⟩
  | x :: xs, k, i + 1, d, h => by
    obtain ⟨y, h1, h2⟩ := enum_get (xs := xs) (k := k + 1) (i := i) (d := d) (by simpa [enumD] using h)
    exact ⟨y, by simpa using h1, by rw [h2]; congr 2; congr 1; omega⟩
theorem enum_len : ∀ (xs : List D) (k : Int), (enumD k xs).length = xs.length
  | [], _ => rfl
  | x :: xs, k => by simp [enumD, enum_len xs]
theorem is_pair {d e : D} {x y : V} {T : Addr} (hT : H T = none) (hd : ∀ a, F a → H a ≠ none) (h1 : Is K F H d x) (h2 : Is K F H e y) : ∃ F', Nst F H F' (upd H T (.tup [x, y])) ∧ Is K F' (upd H T (.tup [x, y])) (.tup [d, e]) (.ref T) := by
  refine ⟨_, .newF hT, ?_⟩
  simp only [Is]
  refine ⟨T, [x, y], rfl, .inl ⟨.inr rfl, .inl upd_same⟩, ?_⟩
  have agr : ∀ a, F a → upd H T (.tup [x, y]) a = H a := fun a f => upd_ne fun z => hd a f (by rw [z]; exact hT)
  exact IsL.cons (h1.mono (fun _ => .inl) agr) (IsL.cons (h2.mono (fun _ => .inl) agr) IsL.nil)
theorem is_trip {d e c : D} {x y z : V} {T : Addr} (hT : H T = none) (hd : ∀ a, F a → H a ≠ none) (h1 : Is K F H d x) (h2 : Is K F H e y) (h3 : Is K F H c z) : ∃ F', Nst F H F' (upd H T (.tup [x, y, z])) ∧ Is K F' (upd H T (.tup [x, y, z])) (.tup [d, e, c]) (.ref T) := by
  refine ⟨_, .newF hT, ?_⟩
  simp only [Is]
  refine ⟨T, [x, y, z], rfl, .inl ⟨.inr rfl, .inl upd_same⟩, ?_⟩
  have agr : ∀ a, F a → upd H T (.tup [x, y, z]) a = H a := fun a f => upd_ne fun z => hd a f (by rw [z]; exact hT)
  exact IsL.cons (h1.mono (fun _ => .inl) agr) (IsL.cons (h2.mono (fun _ => .inl) agr) (IsL.cons (h3.mono (fun _ => .inl) agr) IsL.nil))
theorem src_enum {xs : List D} {a : Addr} : Src K (Ite K a) (enumD 0 xs) (fun F H => Has K F H (.lst xs) (.ref a)) where
  go := fun i F H p h => by
    rw [enum_len] at h
    obtain ⟨b, vs, e, h1, i1⟩ := p.lst
    cases e
    obtain ⟨v, e1, _⟩ := i1.get (List.getElem?_eq_getElem h)
    exact ⟨vs, v, .of h1, e1⟩
  yld := fun i F H x H' p fd y d hd => by
    obtain ⟨b, vs, e, h1, i1⟩ := p.lst
    cases e
    obtain ⟨T, w, rfl, hT, rfl, y⟩ := y
    obtain ⟨z, k1, rfl⟩ := enum_get hd
    obtain ⟨v, e1, e2⟩ := i1.get k1
    have := y vs (.of h1)
    rw [e1] at this; cases this
    exact is_pair hT fd (by simp [Is]) e2
  stop := fun i F H p h0 => have h := Nat.le_of_eq h0; by
    rw [enum_len] at h
    obtain ⟨b, vs, e, h1, i1⟩ := p.lst
    cases e
    exact ⟨vs, .of h1, by rw [← i1.length]; exact h⟩
theorem zip_get : ∀ {xs ys : List D} {i : Nat} {d : D}, (zipD xs ys)[i]? = some d → ∃ x y, xs[i]? = some x ∧ ys[i]? = some y ∧ d = .tup [x, y]
  | [], _, _, _, h => by simp [zipD] at h
  | _ :: _, [], _, _, h => by simp [zipD] at h
  | x :: xs, y :: ys, 0, d, h => by simp [zipD] at h; subst h; exact ⟨x, y, rfl, rfl, rfl⟩
  | x :: xs, y :: ys, i + 1, d, h => by
    obtain ⟨u, w, h1, h2, h3⟩ := zip_get (xs := xs) (ys := ys) (i := i) (d := d) (by simpa [zipD] using h)
    exact ⟨u, w, by simpa using h1, by simpa using h2, h3⟩
theorem zip_len : ∀ (xs ys : List D), (zipD xs ys).length = min xs.length ys.length
  | [], _ => by simp [zipD]
  | _ :: _, [] => by simp [zipD]
  | x :: xs, y :: ys => by simp only [zipD, List.length_cons, zip_len xs ys]; omega
theorem src_zip {xs ys : List D} {a b : Addr} : Src K (Itz K a b) (zipD xs ys) (fun F H => Has K F H (.lst xs) (.ref a) ∧ Has K F H (.lst ys) (.ref b)) where
  go := fun i F H p h => by
    rw [zip_len] at h
    obtain ⟨_, vs, e, h1, i1⟩ := p.1.lst
    cases e
    obtain ⟨_, ws, e, h2, i2⟩ := p.2.lst
    cases e
    obtain ⟨v, e1, _⟩ := i1.get (List.getElem?_eq_getElem (show i < xs.length by omega))
    obtain ⟨w, e2, _⟩ := i2.get (List.getElem?_eq_getElem (show i < ys.length by omega))
    exact ⟨vs, ws, v, w, .of h1, .of h2, e1, e2⟩
  yld := fun i F H x H' p fd y d hd => by
    obtain ⟨_, vs, e, h1, i1⟩ := p.1.lst
    cases e
    obtain ⟨_, ws, e, h2, i2⟩ := p.2.lst
    cases e
    obtain ⟨T, w, w', rfl, hT, rfl, y, y'⟩ := y
    obtain ⟨u, z, k1, k2, rfl⟩ := zip_get hd
    obtain ⟨v, e1, e2⟩ := i1.get k1
    obtain ⟨v', e3, e4⟩ := i2.get k2
    have := y vs (.of h1)
    rw [e1] at this; cases this
    have := y' ws (.of h2)
    rw [e3] at this; cases this
    exact is_pair hT fd e2 e4
  stop := fun i F H p h0 => have h := Nat.le_of_eq h0; by
    rw [zip_len] at h
    obtain ⟨_, vs, e, h1, i1⟩ := p.1.lst
    cases e
    obtain ⟨_, ws, e, h2, i2⟩ := p.2.lst
    cases e
    exact ⟨vs, ws, .of h1, .of h2, by rw [← i1.length, ← i2.length]; omega⟩
theorem src_zipT {xs ys : List D} {a b : Addr} : Src K (RZ.ItzT K a b) (zipD xs ys) (fun F H => Has K F H (.tup xs) (.ref a) ∧ Has K F H (.tup ys) (.ref b)) where
  go := fun i F H p h => by
    rw [zip_len] at h
    obtain ⟨_, vs, e, h1, i1⟩ := p.1.tup
    cases e
    obtain ⟨_, ws, e, h2, i2⟩ := p.2.tup
    cases e
    obtain ⟨v, e1, _⟩ := i1.get (List.getElem?_eq_getElem (show i < xs.length by omega))
    obtain ⟨w, e2, _⟩ := i2.get (List.getElem?_eq_getElem (show i < ys.length by omega))
    exact ⟨vs, ws, v, w, h1, h2, e1, e2⟩
  yld := fun i F H x H' p fd y d hd => by
    obtain ⟨_, vs, e, h1, i1⟩ := p.1.tup
    cases e
    obtain ⟨_, ws, e, h2, i2⟩ := p.2.tup
    cases e
    obtain ⟨T, w, w', rfl, hT, rfl, y, y'⟩ := y
    obtain ⟨u, z, k1, k2, rfl⟩ := zip_get hd
    obtain ⟨v, e1, e2⟩ := i1.get k1
    obtain ⟨v', e3, e4⟩ := i2.get k2
    have := y vs h1
    rw [e1] at this; cases this
    have := y' ws h2
    rw [e3] at this; cases this
    exact is_pair hT fd e2 e4
  stop := fun i F H p h0 => have h := Nat.le_of_eq h0; by
    rw [zip_len] at h
    obtain ⟨_, vs, e, h1, i1⟩ := p.1.tup
    cases e
    obtain ⟨_, ws, e, h2, i2⟩ := p.2.tup
    cases e
    exact ⟨vs, ws, h1, h2, by rw [← i1.length, ← i2.length]; omega⟩
end
end VI
/-! VIE: enumerate of a tuple. -/
namespace VIE
open PySem PySem.Spec L2
open Sem (wp)
set_option maxHeartbeats 4000000 in
theorem meets_new {v : Value} {o : Obj} {H : Heap → Prop} (B : Begins v o H) :
    Meets (Builtin.«enumerate.__new__» ⟨[.type "enumerate", v], []⟩) (fun _ R s => H s.heap ∧
      R (.ok (.ret (.ref (s.heap.push o).objs.size))) { s with heap := (s.heap.push o).push { cls := .type "enumerate", data := .fields #[.none, .bool false, .ref s.heap.objs.size, rawInt 0, .none, .none] } }) :=
  .of_wp fun prog w A R s h => by
    obtain ⟨hp, g, d, tk, os⟩ := s; obtain ⟨h1, h⟩ := h
    have hsub := sub_enumerate
    have q1 : ∀ {A' : Around} {E : Value → Shared → Prop} {Q : Value → Shared → Prop}, Q (.ref hp.objs.size) ⟨hp.push o, g, d, tk, os⟩ → wpAny (model prog w) A' (pyIter v) Q E ⟨hp, g, d, tk, os⟩ :=
      fun q => B.iter prog w _ _ ⟨hp, g, d, tk, os⟩ _ h1 q
    wp_walk using q1
    refine wpAny_stack_any fun st => wpAny_pure ?_
    split
    · rename_i c _ _ _ _ _
      cases (c == Value.type "enumerate")
      · wp_walk using q1
        exact ⟨_, rfl, h⟩
      · wp_walk using q1
        exact ⟨_, rfl, h⟩
    · wp_walk using q1
      exact ⟨_, rfl, h⟩
theorem call_enum {prog : Program} {w : World} {A : Around} {E : Value → Shared → Prop} {s : Shared} {v : Value} {o : Obj} {H : Heap → Prop} {Q : Value → Shared → Prop} (B : Begins v o H) (h1 : H s.heap)
    (h : ∀ h', IsEnum h' (s.heap.objs.size + 1) s.heap.objs.size 0 .none → h'.get? s.heap.objs.size = some o → h'.objs.size = s.heap.objs.size + 2 →
      (∀ b o, s.heap.get? b = some o → h'.get? b = some o) → Q (.ref (s.heap.objs.size + 1)) { s with heap := h' }) :
    wpAny (model prog w) A (call (.type "enumerate") [v]) Q E s := by
  refine callType_new F.called_enumerate (by decide) (F.typeCall_enumerate_1 _) (F.newCall_enumerate_1 _) (fun obj => F.args_object_init_2 obj _) F.entry_enumerate_new
    (meets_new B) ⟨h1, ?_⟩
  have hz : (s.heap.push o).objs.size = s.heap.objs.size + 1 := Heap.size_push ..
  show _ ∧ _
  rw [hz]
  have he : IsEnum ((s.heap.push o).push { cls := .type "enumerate", data := .fields #[.none, .bool false, .ref s.heap.objs.size, rawInt 0, .none, .none] }) (s.heap.objs.size + 1) s.heap.objs.size 0 .none := by
    have := Heap.get?_push_size (s.heap.push o) (o := { cls := .type "enumerate", data := .fields #[.none, .bool false, .ref s.heap.objs.size, rawInt 0, .none, .none] }) rfl
    rw [hz] at this; exact this
  refine ⟨⟨_, he, rfl⟩, h _ he (Heap.get?_push_of_some _ (Heap.get?_push_size _ B.free)) (by rw [Heap.size_push, hz]) fun b o x => Heap.get?_push_of_some _ (Heap.get?_push_of_some _ x)⟩
theorem enum_endT {prog : Program} {w : World} {A : Around} {E : Value → Shared → Prop} {s : Shared} {e it l : Addr} {i : Nat} {items : Array Value} {old : Value} {Q : Option Value → Shared → Prop} (hh : A.handled = none)
    (he : IsEnum s.heap e it i old) (hit : s.heap.IsTupleIter it l i) (hl : s.heap.IsTuple l items) (hx : items[i]? = none)
    (hQ : ∀ h', Heap.ExtBut it s.heap h' → Q none { s with heap := h' }) : wpAny (model prog w) A (pyNext (.ref e)) Q E s := by
  have hT : s.TypeIs (.ref e) "enumerate" := ⟨_, he, rfl⟩
  unfold pyNext
  refine wpAny_bind (wpAny_attempt (wpAny_callSpecial?_slot (name := Str.ofString "__next__") hT F.slot_enumerate_next
    (wpAny_call_entry F.slot_enumerate_next hT F.entry_enumerate_next ?_ (F.args_enumerate_next_1 _))))
  show wpAny _ _ (field (.ref e) 2 >>= _) _ _ _
  refine wpAny_bind (wpAny_field he rfl (x := .ref it) rfl ?_)
  refine wpAny_bind (wpAny_nextOf_tuple_end hh hit hl hx fun h' x he' hx' => ?_)
  obtain ⟨o, ho, hc⟩ := hx'
  refine wpAny_bind (wpAny_isInstance (T := "StopIteration") (b := true) ⟨o, ho, hc⟩ isSubtype_stop ?_)
  exact wpAny_pure (hQ _ he')
def Itet (K : PySem.W.Frag) (a : Addr) : It :=
  ⟨fun i H => ∃ (xs : List V) (x : V), SqT K H a xs ∧ xs[i]? = some x, fun i H v H' => ∃ T x, v = .ref T ∧ H T = none ∧ H' = upd H T (.tup [.int (i : Nat), x]) ∧ ∀ xs, SqT K H a xs → xs[i]? = some x, fun i H => ∃ xs : List V, SqT K H a xs ∧ xs.length ≤ i⟩
theorem turn_enumT {P : Program} {w : World} {K : PySem.W.Frag} {elts : List Expr} {kk : Nat} {tpos : Pos} (a e it : Addr) :
    Turn P w K (.Tuple elts kk tpos) (Itet K a) [e, it] e (fun i h => (∃ old, IsEnum h e it ((i : Nat) : Int) old) ∧ h.IsTupleIter it a i ∧ e ≠ it) where
  mem := by simp
  obj := fun i h st b hb => by
    obtain ⟨⟨old, he⟩, ⟨o, ho, hc, hd⟩, _⟩ := st
    have e' : b = e ∨ b = it := by simpa using hb
    rcases e' with z | z
    · rw [z]; exact ⟨_, he, fun v q => nomatch q⟩
    · rw [z]; exact ⟨o, ho, fun v q => by rw [hd] at q; cases q⟩
  keep := fun i h h' st k => let ⟨⟨old, he⟩, hi, hne⟩ := st; ⟨⟨old, k e (by simp) _ he⟩, hi.at fun o q => k it (by simp) o q, hne⟩
  item := by
    intro X hP hw hK hc i pins s σ H E I hf st hg
    subst hP hw hK
    obtain ⟨⟨old, he⟩, hit, hne⟩ := st
    obtain ⟨xs, x, hq, hx⟩ := hg
    obtain ⟨its, rv, p, hz⟩ := I.tuple hq
    obtain ⟨u, hu, ru⟩ := rv.get hx
    have hel : e < s.heap.objs.size := Heap.lt_size he
    have hil : it < s.heap.objs.size := by obtain ⟨_, q, _⟩ := hit; exact Heap.lt_size q
    have hna : a ≠ it := by
      intro z
      subst z
      obtain ⟨o1, e1, c1, _⟩ := hit
      obtain ⟨o2, e2, c2, _⟩ := p
      rw [e1] at e2; cases e2
      rw [c1] at c2; exact absurd c2 (by decide)
    have hea : e ∉ ([it, a] : List Addr) := by
      intro z
      have z' : e = it ∨ e = a := by simpa using z
      rcases z' with z | z
      · exact hne z
      · subst z
        obtain ⟨o2, e2, c2, _⟩ := p
        rw [he] at e2; cases e2
        have c2 : Value.type "enumerate" = Value.type "tuple" := c2
        exact absurd c2 (by decide)
    have hlt : i < its.toArray.size := by
      have := (List.getElem?_eq_some_iff.mp hu).1
      simpa using this
    refine wpAny_pyNext_enum_itemD (Draws.tuple (A := X.A.in1) (I.ok.hd hc) it a hna its.toArray) he ⟨hit, p⟩ hlt hne hea fun y h' tk hy ho hst hT hsz hk => ?_
    have hyu : y = u := by
      have hu' : its.toArray[i]? = some u := by simpa using hu
      have hy : its.toArray[i]? = some y := hy
      rw [hu'] at hy; cases hy; rfl
    subst hyu
    refine ⟨_, rfl, wpAny_letOwnedTupleGo_enum (s := { s with heap := h', toks := tk + 1 }) ho fun h'' he' sb => ?_⟩
    have hT2 : h''.get? s.heap.objs.size = some { cls := .type "tuple", data := .seq #[.int i tk, y] } := (sb.2 _ (Nat.ne_of_gt hel)).trans hT
    have new : ObjOk X.prog X.w (upd H s.heap.objs.size (.tup [.int (i : Nat), x])) h'' s.heap.objs.size (.tup [.int (i : Nat), x]) :=
      ⟨by show 2 ≤ sizeLine; decide, [.int i tk, y], .cons ⟨_, rfl⟩ (.cons ru .nil), ⟨_, hT2, rfl, _, rfl⟩⟩
    have I1 : Inv X pins σ (upd H s.heap.objs.size (.tup [.int (i : Nat), x])) { s with heap := h'', toks := tk + 1 } :=
      I.turnedNew (ch := [e, it]) (fun b ob hb q => (sb.2 b (fun z => hb (by simp [z]))).trans (hk b ob (fun z => hb (by simp [z])) (fun z => hb (by simp [z])) q)) hf (Nat.le_refl _) new
    refine ⟨.ref s.heap.objs.size, _, I1, rfl, ⟨_, x, rfl, I.hok.fresh (Nat.le_refl _), rfl, fun ys hy => by rw [I.tuple_inj hy hq]; exact hx⟩, ⟨⟨y, ?_⟩, hst.1.at fun o q => (sb.2 it (Ne.symm hne)).trans q, hne⟩, fun b hb => ?_⟩
    · have e1 : ((i + 1 : Nat) : Int) = (i : Int) + 1 := by omega
      rw [e1]; exact he'
    · have hb' : b < s.heap.objs.size := by
        have e' : b = e ∨ b = it := by simpa using hb
        rcases e' with z | z
        · rw [z]; exact hel
        · rw [z]; exact hil
      rw [upd_ne (Nat.ne_of_lt hb')]
      exact (hf b hb).1
  done := by
    intro X hP hw hK hc i pins s σ H E I hf st hg
    subst hP hw hK
    obtain ⟨⟨old, he⟩, hit, hne⟩ := st
    obtain ⟨xs, hq, hx⟩ := hg
    obtain ⟨its, rv, p, hz⟩ := I.tuple hq
    obtain ⟨f0, f1, f2, f3, f4, f5⟩ := hf it (by simp)
    have hl := rv.length
    exact enum_endT (I.ok.hd hc) he hit p (by simp; omega) fun h' eb => ⟨rfl, I.turned (t' := s.toks) (fun b o hb q => eb b o hb q) f0 f1 f3 f4 f5⟩
  self := fun A i s Q E st h => let ⟨⟨_, he⟩, _⟩ := st; wpAny_pyIter_enum he h
theorem boot_enum : bootBuiltins "enumerate" = some (.type "enumerate") := by decide +kernel
def iEnumT (K : PySem.W.Frag) (ta : TA) : TI := fun σ H R => ta σ H fun vs H1 => ∃ a xs, vs = [.ref a] ∧ SqT K H1 a xs ∧ R (Itet K a) H1
theorem pi_enumT {X : Cx} {e : Expr} {ta : TA} {p pos tpos : Pos} {elts : List Expr} {kk : Nat} (hg : Gl X "enumerate") (hm : X.mg "enumerate" = none) (ha : PA X [e] ta) (hs : starEach [e] X.env = [(false, eval e X.env)] := by rfl) :
    PI X (.Tuple elts kk tpos) (.Call (.Name "enumerate" p) [e] [] pos) (iEnumT X.K ta) := by
  refine ⟨fun pins s σ H R I h => ?_⟩
  refine PyProof.Rows.Call_ (ld_blt I hg hm boot_enum (PyProof.Rows.callWith_type1 (thn (ha.run pos pins s σ H _ I h) fun us s1 ⟨vs, H1, I1, r1, q1⟩ => ?_) hs rfl))
  obtain ⟨a, xs, ex, hq, q⟩ := q1
  subst ex
  cases r1 with
  | cons r rr =>
    cases rr
    cases r
    obtain ⟨its, rv, p', hz⟩ := I1.tuple hq
    refine call_enum (begins_tuple a its.toArray) p' fun h' he hit hsz hk => wpAny_pyIter_enum he ?_
    have I2 : Inv X pins σ H1 { s1 with heap := h' } := I1.kept (t' := s1.toks) hk
    refine ⟨s1.heap.objs.size + 1, [s1.heap.objs.size + 1, s1.heap.objs.size], _, _, H1, rfl, I2, turn_enumT a (s1.heap.objs.size + 1) s1.heap.objs.size, ⟨⟨.none, he⟩, ⟨_, hit, rfl, rfl⟩, Nat.succ_ne_self _⟩, fun b hb => ?_, q⟩
    have e' : b = s1.heap.objs.size + 1 ∨ b = s1.heap.objs.size := by simpa using hb
    have hle : s1.heap.objs.size ≤ b := by
      rcases e' with z | z
      · rw [z]; exact Nat.le_add_right _ _
      · rw [z]; exact Nat.le_refl _
    exact I1.fpOk hle (I1.hok.fresh hle)
end VIE
/-! VIZ: zip of three tuples, zip of three lists. -/
namespace VIZ
open PySem PySem.Spec L2 PyProof.Rows
open Sem (wp)
def Sq (b : Bool) (K : PySem.W.Frag) (H : Hp) (a : Addr) (xs : List V) : Prop := match b with | true => SqT K H a xs | false => SqL K H a xs
def HS (b : Bool) (h : Heap) (a : Addr) (its : Array Value) : Prop := match b with | true => h.IsTuple a its | false => h.IsList a its
def IS (b : Bool) (h : Heap) (it a : Addr) (i : Nat) : Prop := match b with | true => h.IsTupleIter it a i | false => h.IsListIter it a i
def iob (b : Bool) (a : Addr) : Obj := match b with | true => { cls := .type "tuple_iterator", data := .fields #[.ref a, .int 0 0] } | false => { cls := .type "list_iterator", data := .fields #[.ref a, .int 0 0] }
theorem sq_of {b : Bool} {X : Cx} {pins : List (Addr × Obj)} {σ : L2.St} {H : Hp} {s : Shared} {a : Addr} {xs : List V} (I : Inv X pins σ H s) (h : Sq b X.K H a xs) : ∃ its : List Value, Vals xs its ∧ HS b s.heap a its.toArray := by
  cases b with
  | true => obtain ⟨its, rv, p, _⟩ := I.tuple h; exact ⟨its, rv, p⟩
  | false => obtain ⟨its, rv, p, _⟩ := I.list h; exact ⟨its, rv, p.isList⟩
theorem sq_inj {b : Bool} {X : Cx} {pins : List (Addr × Obj)} {σ : L2.St} {H : Hp} {s : Shared} {a : Addr} {xs ys : List V} (I : Inv X pins σ H s) (h : Sq b X.K H a xs) (h' : Sq b X.K H a ys) : xs = ys := by
  cases b with
  | true => exact I.tuple_inj h h'
  | false => exact I.list_inj h h'
theorem hs_lt {b : Bool} {h : Heap} {a : Addr} {its : Array Value} (p : HS b h a its) : a < h.objs.size := by
  cases b with
  | true => obtain ⟨o, e, _⟩ := p; exact Heap.lt_size e
  | false => obtain ⟨o, e, _⟩ := p; exact Heap.lt_size e
theorem is_live {b : Bool} {h : Heap} {it a : Addr} {i : Nat} (p : IS b h it a i) : ∃ o, h.get? it = some o ∧ ∀ v, o.data ≠ .cell v := by
  cases b with
  | true => obtain ⟨o, e, _, d⟩ := p; exact ⟨o, e, fun v q => by rw [d] at q; cases q⟩
  | false => obtain ⟨o, e, _, d⟩ := p; exact ⟨o, e, fun v q => by rw [d] at q; cases q⟩
theorem is_keep {b : Bool} {h h' : Heap} {it a : Addr} {i : Nat} (p : IS b h it a i) (k : ∀ o, h.get? it = some o → h'.get? it = some o) : IS b h' it a i := by
  cases b with
  | true => exact Heap.IsTupleIter.at p k
  | false => exact Heap.IsListIter.at p k
theorem is_new {b : Bool} {h : Heap} {it a : Addr} (e : h.get? it = some (iob b a)) : IS b h it a 0 := by
  cases b with
  | true => exact ⟨_, e, rfl, rfl⟩
  | false => exact ⟨_, e, rfl, rfl⟩
theorem draws {prog : Program} {w : World} {A : Around} (b : Bool) (hh : A.handled = none) (it a : Addr) (hne : a ≠ it) (items : Array Value) :
    Draws prog w A it [it, a] items.size (fun i v => items[i]? = some v) (fun i h => IS b h it a i ∧ HS b h a items) := by
  cases b with
  | true => exact Draws.tuple hh it a hne items
  | false => exact Draws.list hh it a hne items
theorem begins (b : Bool) (a : Addr) (items : Array Value) : Begins (.ref a) (iob b a) fun h => HS b h a items := by
  cases b with
  | true => exact begins_tuple a items
  | false => exact begins_list a items
def It3 (b : Bool) (K : PySem.W.Frag) (a1 a2 a3 : Addr) : It :=
  ⟨fun i H => ∃ (xs ys zs : List V) (x y z : V), Sq b K H a1 xs ∧ Sq b K H a2 ys ∧ Sq b K H a3 zs ∧ xs[i]? = some x ∧ ys[i]? = some y ∧ zs[i]? = some z,
    fun i H v H' => ∃ T x y z, v = .ref T ∧ H T = none ∧ H' = upd H T (.tup [x, y, z]) ∧ (∀ xs, Sq b K H a1 xs → xs[i]? = some x) ∧ (∀ ys, Sq b K H a2 ys → ys[i]? = some y) ∧ ∀ zs, Sq b K H a3 zs → zs[i]? = some z,
    fun i H => ∃ xs ys zs : List V, Sq b K H a1 xs ∧ Sq b K H a2 ys ∧ Sq b K H a3 zs ∧ i ≤ xs.length ∧ i ≤ ys.length ∧ i ≤ zs.length ∧ (i = xs.length ∨ i = ys.length ∨ i = zs.length)⟩
theorem turn_zip3 {P : Program} {w : World} {K : PySem.W.Frag} {elts : List Expr} {kk : Nat} {tpos : Pos} {b : Bool} {a1 a2 a3 z TI TO i1 i2 i3 : Addr} (D : ZipSep3 z TI TO i1 i2 i3 [i1, a1] [i2, a2] [i3, a3]) :
    Turn P w K (.Tuple elts kk tpos) (It3 b K a1 a2 a3) [z, TI, TO, i1, i2, i3] z (fun i h => IsZip h z TI TO .none ∧ IsTupOf3 h TI (.ref i1) (.ref i2) (.ref i3) ∧ (∃ x y u, IsTupOf3 h TO x y u) ∧ IS b h i1 a1 i ∧ IS b h i2 a2 i ∧ IS b h i3 a3 i ∧ (a1 ≠ i1 ∧ a2 ≠ i2 ∧ a3 ≠ i3)) where
  mem := by simp
  obj := fun i h st c hc => by
    obtain ⟨hz, hTI, ⟨x, y, u, hTO⟩, h1, h2, h3, _⟩ := st
    have e' : c = z ∨ c = TI ∨ c = TO ∨ c = i1 ∨ c = i2 ∨ c = i3 := by simpa using hc
    rcases e' with q | q | q | q | q | q
    · rw [q]; exact ⟨_, hz, fun v q => nomatch q⟩
    · rw [q]; exact ⟨_, hTI, fun v q => nomatch q⟩
    · rw [q]; exact ⟨_, hTO, fun v q => nomatch q⟩
    · rw [q]; exact is_live h1
    · rw [q]; exact is_live h2
    · rw [q]; exact is_live h3
  keep := fun i h h' st k => by
    obtain ⟨hz, hTI, ⟨x, y, u, hTO⟩, h1, h2, h3, hne⟩ := st
    exact ⟨k z (by simp) _ hz, k TI (by simp) _ hTI, ⟨x, y, u, k TO (by simp) _ hTO⟩, is_keep h1 fun o q => k i1 (by simp) o q, is_keep h2 fun o q => k i2 (by simp) o q, is_keep h3 fun o q => k i3 (by simp) o q, hne⟩
  item := by
    intro X hP hw hK hc i pins s σ H E I hf st hg
    subst hP hw hK
    obtain ⟨hz, hTI, ⟨x0, y0, u0, hTO⟩, h1, h2, h3, hne1, hne2, hne3⟩ := st
    obtain ⟨xs, ys, zs, x, y, u, hqx, hqy, hqz, hx, hy, hu⟩ := hg
    obtain ⟨its1, rv1, p1⟩ := sq_of I hqx
    obtain ⟨its2, rv2, p2⟩ := sq_of I hqy
    obtain ⟨its3, rv3, p3⟩ := sq_of I hqz
    obtain ⟨w1, hw1, ru1⟩ := rv1.get hx
    obtain ⟨w2, hw2, ru2⟩ := rv2.get hy
    obtain ⟨w3, hw3, ru3⟩ := rv3.get hu
    have hzl : z < s.heap.objs.size := Heap.lt_size hz
    have lt : ∀ {its : List Value} {w : Value}, its[i]? = some w → i < its.toArray.size := fun e => by
      have := (List.getElem?_eq_some_iff.mp e).1
      simpa using this
    refine wpAny_pyNext_zipD3_item D (draws (A := X.A.in1) b (I.ok.hd hc) i1 a1 hne1 its1.toArray) (draws (A := X.A.in1) b (I.ok.hd hc) i2 a2 hne2 its2.toArray) (draws (A := X.A.in1) b (I.ok.hd hc) i3 a3 hne3 its3.toArray)
      hz hTI hTO ⟨h1, p1⟩ ⟨h2, p2⟩ ⟨h3, p3⟩ (lt hw1) (lt hw2) (lt hw3) fun y1 y2 y3 h' tk e1 e2 e3 z' TO' st1 st2 st3 hT hsz hk => ?_
    have q1 : y1 = w1 := by
      have e1 : its1.toArray[i]? = some y1 := e1
      rw [List.getElem?_toArray, hw1] at e1; cases e1; rfl
    have q2 : y2 = w2 := by
      have e2 : its2.toArray[i]? = some y2 := e2
      rw [List.getElem?_toArray, hw2] at e2; cases e2; rfl
    have q3 : y3 = w3 := by
      have e3 : its3.toArray[i]? = some y3 := e3
      rw [List.getElem?_toArray, hw3] at e3; cases e3; rfl
    subst q1 q2 q3
    refine ⟨_, rfl, wpAny_letOwnedTupleGo_zip (s := { s with heap := h', toks := tk }) z' fun h'' z'' sb => ?_⟩
    have hT2 : h''.get? s.heap.objs.size = some { cls := .type "tuple", data := .seq #[y1, y2, y3] } := (sb.2 _ (Nat.ne_of_gt hzl)).trans hT
    have new : ObjOk X.prog X.w (upd H s.heap.objs.size (.tup [x, y, u])) h'' s.heap.objs.size (.tup [x, y, u]) :=
      ⟨by show 3 ≤ sizeLine; decide, [y1, y2, y3], .cons ru1 (.cons ru2 (.cons ru3 .nil)), ⟨_, hT2, rfl, _, rfl⟩⟩
    have I1 : Inv X pins σ (upd H s.heap.objs.size (.tup [x, y, u])) { s with heap := h'', toks := tk } :=
      I.turnedNew (t' := tk) (ch := [z, TI, TO, i1, i2, i3]) (fun c o hb q => (sb.2 c (fun q' => hb (by simp [q']))).trans (hk c o (fun q' => hb (by simp [q'])) (fun q' => hb (by simp [q'])) (fun q' => hb (by simp [q'])) (fun q' => hb (by simp [q'])) (fun q' => hb (by simp [q'])) q)) hf (Nat.le_refl _) new
    refine ⟨.ref s.heap.objs.size, _, I1, rfl, ⟨_, x, y, u, rfl, I.hok.fresh (Nat.le_refl _), rfl, fun l hl => by rw [sq_inj I hl hqx]; exact hx, fun l hl => by rw [sq_inj I hl hqy]; exact hy, fun l hl => by rw [sq_inj I hl hqz]; exact hu⟩, ⟨z'', ?_, ⟨y1, y2, y3, ?_⟩, ?_, ?_, ?_, hne1, hne2, hne3⟩, fun c hcm => ?_⟩
    · exact (sb.2 _ D.TIz).trans (hk _ _ D.TIz D.TITO D.TIi1 D.TIi2 D.TIi3 hTI)
    · exact (sb.2 _ D.TOz).trans TO'
    · exact is_keep st1.1 fun o q => (sb.2 _ D.zi1.symm).trans q
    · exact is_keep st2.1 fun o q => (sb.2 _ D.zi2.symm).trans q
    · exact is_keep st3.1 fun o q => (sb.2 _ D.zi3.symm).trans q
    · have hlt : c < s.heap.objs.size := by
        have e' : c = z ∨ c = TI ∨ c = TO ∨ c = i1 ∨ c = i2 ∨ c = i3 := by simpa using hcm
        rcases e' with q | q | q | q | q | q
        · rw [q]; exact hzl
        · rw [q]; exact Heap.lt_size hTI
        · rw [q]; exact Heap.lt_size hTO
        · rw [q]; obtain ⟨_, e1, _⟩ := is_live h1; exact Heap.lt_size e1
        · rw [q]; obtain ⟨_, e2, _⟩ := is_live h2; exact Heap.lt_size e2
        · rw [q]; obtain ⟨_, e3, _⟩ := is_live h3; exact Heap.lt_size e3
      rw [upd_ne (Nat.ne_of_lt hlt)]
      exact (hf c hcm).1
  done := by
    intro X hP hw hK hc i pins s σ H E I hf st hg
    subst hP hw hK
    obtain ⟨hz, hTI, ⟨x0, y0, u0, hTO⟩, h1, h2, h3, hne1, hne2, hne3⟩ := st
    obtain ⟨xs, ys, zs, hqx, hqy, hqz, hl1, hl2, hl3, hend⟩ := hg
    obtain ⟨its1, rv1, p1⟩ := sq_of I hqx
    obtain ⟨its2, rv2, p2⟩ := sq_of I hqy
    obtain ⟨its3, rv3, p3⟩ := sq_of I hqz
    have l1 := rv1.length
    have l2 := rv2.length
    have l3 := rv3.length
    exact wpAny_pyNext_zipD3_end D (draws (A := X.A.in1) b (I.ok.hd hc) i1 a1 hne1 its1.toArray) (draws (A := X.A.in1) b (I.ok.hd hc) i2 a2 hne2 its2.toArray) (draws (A := X.A.in1) b (I.ok.hd hc) i3 a3 hne3 its3.toArray)
      hz hTI hTO ⟨h1, p1⟩ ⟨h2, p2⟩ ⟨h3, p3⟩ (by rw [List.size_toArray]; omega) (by rw [List.size_toArray]; omega) (by rw [List.size_toArray]; omega) (by rw [List.size_toArray, List.size_toArray, List.size_toArray]; omega) fun h' tk hk => ⟨rfl, I.turnedL (t' := tk) (ch := [z, TI, TO, i1, i2, i3]) (fun c o hb q =>
      hk c o (fun q' => hb (by simp [q'])) (fun q' => hb (by simp [q'])) (fun q' => hb (by simp [q'])) (fun q' => hb (by simp [q'])) (fun q' => hb (by simp [q'])) q) hf⟩
  self := fun A i s Q E st h => wpAny_pyIter_zip st.1 h
def iZip3 (K : PySem.W.Frag) (ta : TA) : TI := fun σ H R => ta σ H fun vs H1 => ∃ (b : Bool) (a1 a2 a3 : Addr) (xs ys zs : List V), vs = [.ref a1, .ref a2, .ref a3] ∧ Sq b K H1 a1 xs ∧ Sq b K H1 a2 ys ∧ Sq b K H1 a3 zs ∧ R (It3 b K a1 a2 a3) H1
theorem sep_of {n a1 a2 a3 : Nat} (k1 : a1 < n) (k2 : a2 < n) (k3 : a3 < n) : ZipSep3 (n + 5) (n + 3) (n + 4) n (n + 1) (n + 2) [n, a1] [n + 1, a2] [n + 2, a3] := by
  constructor <;> simp only [List.mem_cons, List.not_mem_nil, or_false, true_or, Addr] <;> omega
theorem pi_zip3 {X : Cx} {e e2 e3 : Expr} {ta : TA} {p pos tpos : Pos} {elts : List Expr} {kk : Nat} (hg : Gl X "zip") (hm : X.mg "zip" = none) (ha : PA X [e, e2, e3] ta)
    (hs : starEach [e, e2, e3] X.env = (false, eval e X.env) :: starEach [e2, e3] X.env := by rfl) (hpl : (backTo pos (starEach [e2, e3] X.env)).any (·.1) = false := by rfl) :
    PI X (.Tuple elts kk tpos) (.Call (.Name "zip" p) [e, e2, e3] [] pos) (iZip3 X.K ta) := by
  refine ⟨fun pins s σ H R I h => ?_⟩
  refine Call_ (ld_blt I hg hm PyProof.Rows.boot_zip (PyProof.Rows.callWith_type1 (thn (ha.run pos pins s σ H _ I h) fun us s1 ⟨vs, H1, I1, r1, q1⟩ => ?_) hs hpl))
  obtain ⟨b, a1, a2, a3, xs, ys, zs, ex, hqx, hqy, hqz, q⟩ := q1
  subst ex
  cases r1 with
  | cons r rr =>
    cases rr with
    | cons r' rr =>
      cases rr with
      | cons r'' rr =>
        cases rr
        cases r
        cases r'
        cases r''
        obtain ⟨its1, rv1, p1⟩ := sq_of I1 hqx
        obtain ⟨its2, rv2, p2⟩ := sq_of I1 hqy
        obtain ⟨its3, rv3, p3⟩ := sq_of I1 hqz
        have k1 : @LT.lt Nat _ a1 s1.heap.objs.size := hs_lt p1
        have k2 : @LT.lt Nat _ a2 s1.heap.objs.size := hs_lt p2
        have k3 : @LT.lt Nat _ a3 s1.heap.objs.size := hs_lt p3
        refine zip_begins3 (begins b a1 its1.toArray) (begins b a2 its2.toArray) (begins b a3 its3.toArray) p1 p2 p3 fun h' hz hTI hTO h1 h2 h3 hsz hk => wpAny_pyIter_zip hz ?_
        have I2 : Inv X pins σ H1 { s1 with heap := h' } := I1.kept (t' := s1.toks) hk
        have D : ZipSep3 (s1.heap.objs.size + 5) (s1.heap.objs.size + 3) (s1.heap.objs.size + 4) s1.heap.objs.size (s1.heap.objs.size + 1) (s1.heap.objs.size + 2) [s1.heap.objs.size, a1] [s1.heap.objs.size + 1, a2] [s1.heap.objs.size + 2, a3] := by
          exact sep_of k1 k2 k3
        refine ⟨s1.heap.objs.size + 5, [s1.heap.objs.size + 5, s1.heap.objs.size + 3, s1.heap.objs.size + 4, s1.heap.objs.size, s1.heap.objs.size + 1, s1.heap.objs.size + 2], _, _, H1, rfl, I2, turn_zip3 D, ⟨hz, hTI, ⟨_, _, _, hTO⟩, is_new h1, is_new h2, is_new h3, Nat.ne_of_lt k1, Nat.ne_of_lt (Nat.lt_succ_of_lt k2), Nat.ne_of_lt (Nat.lt_succ_of_lt (Nat.lt_succ_of_lt k3))⟩, fun c hcm => ?_, q⟩
        have e' : c = s1.heap.objs.size + 5 ∨ c = s1.heap.objs.size + 3 ∨ c = s1.heap.objs.size + 4 ∨ c = s1.heap.objs.size ∨ c = s1.heap.objs.size + 1 ∨ c = s1.heap.objs.size + 2 := by simpa using hcm
        have hle : s1.heap.objs.size ≤ c := by
          rcases e' with z | z | z | z | z | z <;> rw [z] <;> first | exact Nat.le_add_right _ _ | exact Nat.le_refl _
        exact I1.fpOk hle (I1.hok.fresh hle)
end VIZ
/-! VI12: stores, targets, comprehensions. -/
namespace VI
open PySem PySem.Spec L2
section
variable {K : PySem.W.Frag} {F F1 F2 : FS} {H H1 H2 : Hp} {env env0 env1 env2 : En} {σ σ1 σ2 : Slots}
theorem putS_eq {i : Nat} {s : Sl} (e : putS env i s = some env2) : env2 = env.set i s ∧ ((env[i]? = some .un) ∨ (∃ d, env[i]? = some (.fz d)) ∨ ∃ d, env[i]? = some (.ow false d)) := by
  unfold putS at e
  split at e
  · cases e; exact ⟨rfl, .inl (by assumption)⟩
  · cases e; exact ⟨rfl, .inr (.inl ⟨_, by assumption⟩)⟩
  · cases e; exact ⟨rfl, .inr (.inr ⟨_, by assumption⟩)⟩
  · cases e
theorem putS_lt {i : Nat} {s : Sl} (e : putS env i s = some env2) : i < env.length := by
  rcases (putS_eq e).2 with h | ⟨d, h⟩ | ⟨d, h⟩ <;> exact lt_of_get h
/-- a value is stored -/
theorem store_pst (r : RelE K F H env σ) {i : Nat} {d : D} {v : V} (e : putS env i (.fz d) = some env2) (iv : Is K F H d v) : Pst K F H env σ F H env2 (σ.set i (some v)) := by
  obtain ⟨rfl, hi⟩ := putS_eq e
  have hl : i < σ.length := by rw [← r.len]; exact putS_lt e
  have nio : ∀ {j : Nat} {d'}, env[j]? = some (.ow true d') → i ≠ j := fun {j d'} h z => by
    subst z
    rcases hi with q | ⟨_, q⟩ | ⟨_, q⟩ <;> rw [q] at h <;> cases h
  have nlk : ∀ {j : Nat} {io d'}, env[j]? = some (.lk io d') → i ≠ j := fun {j io d'} h z => by
    subst z
    rcases hi with q | ⟨_, q⟩ | ⟨_, q⟩ <;> rw [q] at h <;> cases h
  refine ⟨.refl, ⟨by rw [List.length_set, List.length_set]; exact r.len, fun j d' h => ?_, fun j s d' h hs => ?_, fun j k s t d' e' a h hs h' ht q q' => ?_, r.fdm⟩, fun a ⟨j, s, d', h, hs, q⟩ => ?_, fun j d' h => ?_, fun j io d' h => ?_⟩
  · rcases getset h with ⟨rfl, h, _⟩ | ⟨hn, h⟩
    · cases h; exact ⟨v, List.getElem?_set_self hl, iv⟩
    · rw [List.getElem?_set_ne hn]; exact r.fz j d' h
  · rcases getset h with ⟨rfl, h, _⟩ | ⟨hn, h⟩
    · cases h; cases hs
    · rw [List.getElem?_set_ne hn]; exact r.ow j s d' h hs
  · rcases getset h with ⟨rfl, h, _⟩ | ⟨hn, h⟩
    · cases h; cases hs
    · rcases getset h' with ⟨rfl, h', _⟩ | ⟨hn', h'⟩
      · cases h'; cases ht
      · rw [List.getElem?_set_ne hn] at q
        rw [List.getElem?_set_ne hn'] at q'
        exact r.ne j k s t d' e' a h hs h' ht q q'
  · rcases getset h with ⟨rfl, h, _⟩ | ⟨hn, h⟩
    · cases h; cases hs
    · rw [List.getElem?_set_ne hn] at q
      exact .inl ⟨j, s, d', h, hs, q⟩
  · exact ⟨⟨d', by rw [List.getElem?_set_ne (nio h)]; exact h⟩, List.getElem?_set_ne (nio h)⟩
  · exact ⟨by rw [List.getElem?_set_ne (nlk h)]; exact h, List.getElem?_set_ne (nlk h)⟩
/-- a new list is stored -/
theorem store_own (p : Pst K F H env σ F1 H1 env1 σ1) {i : Nat} {d : D} {a : Addr} (e : putS env1 i (.ow false d) = some env2) (ho : OwnAt K F1 H1 d a) (hn : H a = none) (hf : ¬ OA env1 σ1 a) : Pst K F H env σ F1 H1 env2 (σ1.set i (some (.ref a))) := by
  have r := p.rel
  obtain ⟨rfl, hi⟩ := putS_eq e
  have hl : i < σ1.length := by rw [← r.len]; exact putS_lt e
  have nio : ∀ {j : Nat} {d'}, env1[j]? = some (.ow true d') → i ≠ j := fun {j d'} h z => by
    subst z
    rcases hi with q | ⟨_, q⟩ | ⟨_, q⟩ <;> rw [q] at h <;> cases h
  have nlk : ∀ {j : Nat} {io d'}, env1[j]? = some (.lk io d') → i ≠ j := fun {j io d'} h z => by
    subst z
    rcases hi with q | ⟨_, q⟩ | ⟨_, q⟩ <;> rw [q] at h <;> cases h
  have oth : ∀ {j : Nat} {s : Sl} {d' : D}, i ≠ j → env1[j]? = some s → s.own = some d' → (σ1.set i (some (.ref a)))[j]? = some (some (V.ref a)) → False := fun {j s d'} hne h hs q => by
    rw [List.getElem?_set_ne hne] at q
    exact hf ⟨j, s, d', h, hs, q⟩
  refine ⟨p.st, ⟨by rw [List.length_set, List.length_set]; exact r.len, fun j d' h => ?_, fun j s d' h hs => ?_, fun j k s t d' e' c h hs h' ht q q' => ?_, r.fdm⟩, fun c ⟨j, s, d', h, hs, q⟩ => ?_, fun j d' h => ?_, fun j io d' h => ?_⟩
  · rcases getset h with ⟨rfl, h, _⟩ | ⟨hn, h⟩
    · cases h
    · rw [List.getElem?_set_ne hn]; exact r.fz j d' h
  · rcases getset h with ⟨rfl, h, _⟩ | ⟨hn, h⟩
    · cases h; cases hs; exact ⟨a, List.getElem?_set_self hl, ho⟩
    · rw [List.getElem?_set_ne hn]; exact r.ow j s d' h hs
  · rcases getset h with ⟨rfl, h, _⟩ | ⟨hn, h⟩
    · rcases getset h' with ⟨rfl, h', _⟩ | ⟨hn', h'⟩
      · rfl
      · rw [List.getElem?_set_self hl] at q
        cases q
        exact (oth hn' h' ht q').elim
    · rcases getset h' with ⟨rfl, h', _⟩ | ⟨hn', h'⟩
      · rw [List.getElem?_set_self hl] at q'
        cases q'
        exact (oth hn h hs q).elim
      · rw [List.getElem?_set_ne hn] at q
        rw [List.getElem?_set_ne hn'] at q'
        exact r.ne j k s t d' e' c h hs h' ht q q'
  · rcases getset h with ⟨rfl, h, _⟩ | ⟨hne, h⟩
    · rw [List.getElem?_set_self hl] at q
      cases q
      exact .inr hn
    · rw [List.getElem?_set_ne hne] at q
      exact p.own c ⟨j, s, d', h, hs, q⟩
  · obtain ⟨⟨d2, h1⟩, h2⟩ := p.io j d' h
    exact ⟨⟨d2, by rw [List.getElem?_set_ne (nio h1)]; exact h1⟩, by rw [List.getElem?_set_ne (nio h1)]; exact h2⟩
  · obtain ⟨h1, h2⟩ := p.lk j io d' h
    exact ⟨by rw [List.getElem?_set_ne (nlk h1)]; exact h1, by rw [List.getElem?_set_ne (nlk h1)]; exact h2⟩

/-! ### targets -/
def SG (X : Cx) (tg : Expr) (t : T) : Prop := ∀ env d env', t.put env d = some env' → ∀ σ F H v Q, RelE X.K F H env σ → Is X.K F H d v →
  (∀ σ', Pst X.K F H env σ F H env' σ' → (∀ j, j ∉ t.slots → σ'[j]? = σ[j]?) → Q σ' H) → WG X tg v σ H Q
variable {X : Cx}
theorem pg_tn {N : List Str} {sc : Scope} {st : Str → Bool} (hN : X.N = N) (hsc : X.env.scope = sc) (nd : X.N.Nodup) (hst : ∀ x, st x = true → X.fn x = true) {i : Nat} {x : Str} {pos : Pos} (h : tnB N sc st i x = true) : PG X (.Name x pos) (gName i) := by
  obtain ⟨h1, h3⟩ := ba h
  obtain ⟨h1, h2⟩ := ba h1
  refine pg_name nd (by rw [hN]; simpa using h1) ?_ ?_
  · rw [hsc]
    unfold locB at h2
    split at h2
    · rename_i q; exact .inl q
    · rename_i q; exact .inr q
    · cases h2
  · rw [hsc]
    rw [Bool.or_eq_true] at h3
    rcases h3 with h3 | h3
    · exact .inl (hst x h3)
    · exact .inr (by simpa using h3)
mutual
theorem sg_of {N : List Str} {sc : Scope} {st : Str → Bool} (hN : X.N = N) (hsc : X.env.scope = sc) (nd : X.N.Nodup) (hc : X.calm = true) (hst : ∀ x, st x = true → X.fn x = true) : ∀ {t : T} {tg : Expr}, mT N sc st t tg = true → SG X tg t
  | .nm i, tg, h => by
    intro env d env' e σ F H v Q r iv q
    cases tg with
    | Name x pos =>
      have h : tnB N sc st i x = true := by unfold mT at h; exact h
      refine WG.of (pg_tn hN hsc nd hst h) ?_
      have e : putS env i (.fz d) = some env' := by unfold T.put at e; exact e
      refine q _ (store_pst r e iv) fun j hj => ?_
      have : i ≠ j := fun z => hj (by rw [z]; unfold T.slots; simp)
      exact List.getElem?_set_ne this
    | _ => unfold mT at h; cases h
  | .tup ts, tg, h => by
    intro env d env' e σ F H v Q r iv q
    cases tg with
    | Tuple es k pos =>
      have h : mTs N sc st ts es = true := by unfold mT at h; exact h
      obtain ⟨g, k1, k2, k3, k4⟩ := sgs_of hN hsc nd hc hst h
      cases d with
      | tup ds =>
        refine WG.of (pg_tup hc k1 k2 k3) ?_
        have e : ts.put env ds = some env' := by unfold T.put at e; exact e
        simp only [Is] at iv
        obtain ⟨a, vs, rfl, h1, i1⟩ := iv
        obtain ⟨k5, k6⟩ := k4 env ds env' e
        refine ⟨a, vs, rfl, h1.seq, by rw [← i1.length, k5], k6 σ F H vs Q r i1 fun σ' p hs => q σ' p fun j hj => hs j fun z => hj (by unfold T.slots; exact z)⟩
      | lst ds =>
        refine WG.of (pg_unl hc k1 k2 k3) ?_
        have e : ts.put env ds = some env' := by unfold T.put at e; exact e
        simp only [Is] at iv
        obtain ⟨a, vs, rfl, h1, i1⟩ := iv
        obtain ⟨k5, k6⟩ := k4 env ds env' e
        exact ⟨a, vs, rfl, .of h1.2, by rw [← i1.length, k5], k6 σ F H vs Q r i1 fun σ' p hs => q σ' p fun j hj => hs j fun z => hj (by unfold T.slots; exact z)⟩
      | _ => simp [T.put] at e
    | _ => unfold mT at h; cases h
theorem sgs_of {N : List Str} {sc : Scope} {st : Str → Bool} (hN : X.N = N) (hsc : X.env.scope = sc) (nd : X.N.Nodup) (hc : X.calm = true) (hst : ∀ x, st x = true → X.fn x = true) : ∀ {ts : Ts} {es : List Expr}, mTs N sc st ts es = true →
    ∃ g : TGs, PGs X es g ∧ (assignEach es X.env).length = es.length ∧ (assignEach es X.env).findIdx? (·.1) = none ∧
      ∀ env ds env', ts.put env ds = some env' → ds.length = es.length ∧ ∀ σ F H vs Q, RelE X.K F H env σ → IsL X.K F H ds vs → (∀ σ', Pst X.K F H env σ F H env' σ' → (∀ j, j ∉ ts.slots → σ'[j]? = σ[j]?) → Q σ' H) → g vs σ H Q
  | .nil, es, h => by
    cases es with
    | nil =>
      refine ⟨gNil, pgs_nil, rfl, rfl, fun env ds env' e => ?_⟩
      cases ds with
      | nil =>
        simp only [Ts.put, Option.some.injEq] at e
        subst e
        exact ⟨rfl, fun σ F H vs Q r i q => ⟨i, q σ (.refl r) fun _ _ => rfl⟩⟩
      | cons => simp [Ts.put] at e
    | cons => unfold mTs at h; cases h
  | .cons t ts, es, h => by
    cases es with
    | nil => unfold mTs at h; cases h
    | cons tg es =>
      have h : (mT N sc st t tg && mTs N sc st ts es) = true := by unfold mTs at h; exact h
      obtain ⟨h1, h2⟩ := ba h
      have hT := sg_of hN hsc nd hc hst h1
      obtain ⟨g, k1, k2, k3, k4⟩ := sgs_of hN hsc nd hc hst h2
      have ha : assignEach (tg :: es) X.env = (false, assign tg X.env) :: assignEach es X.env := by
        cases t with
        | nm i => cases tg with
          | Name x pos => rfl
          | _ => unfold mT at h1; cases h1
        | tup ts' => cases tg with
          | Tuple es' k pos => rfl
          | _ => unfold mT at h1; cases h1
      refine ⟨gCons (WG X tg) g, pgs_cons (pG X tg) k1 (by rw [ha]; rfl), by rw [ha]; simp [k2], ?_, fun env ds env' e => ?_⟩
      · rw [ha, List.findIdx?_cons]
        simp [k3]
      · cases ds with
        | nil => simp [Ts.put] at e
        | cons d ds =>
          simp only [Ts.put, Option.bind_eq_some_iff] at e
          obtain ⟨env1, e1, e2⟩ := e
          obtain ⟨k5, k6⟩ := k4 env1 ds env' e2
          refine ⟨by simp [k5], fun σ F H vs Q r il q => ?_⟩
          simp only [IsL] at il
          obtain ⟨w, ws, rfl, i1, i2⟩ := il
          refine ⟨w, ws, rfl, hT env d env1 e1 σ F H w _ r i1 fun σ1 p1 h1 => ?_⟩
          refine k6 σ1 F H ws Q p1.rel i2 fun σ' p2 h2 => q σ' (p1.trans p2) fun j hj => ?_
          unfold Ts.slots at hj
          rw [List.mem_append, not_or] at hj
          rw [h2 j hj.2, h1 j hj.1]
end


/-! ### slots wiped and put back -/
theorem wipeE_len : ∀ (vs : List Nat) (env : En), (wipeE env vs).length = env.length
  | [], _ => rfl
  | v :: vs, env => by simp only [wipeE, List.length_set, wipeE_len vs env]
theorem wipeE_in : ∀ {vs : List Nat} {env : En} {j : Nat} {s : Sl}, j ∈ vs → (wipeE env vs)[j]? = some s → s = .un
  | v :: vs, env, j, s, h, e => by
    simp only [wipeE] at e
    rcases getset e with ⟨rfl, h', _⟩ | ⟨hn, h'⟩
    · exact h'
    · rcases List.mem_cons.mp h with z | z
      · exact absurd z.symm hn
      · exact wipeE_in z h'
theorem wipeE_out : ∀ {vs : List Nat} {env : En} {j : Nat}, j ∉ vs → (wipeE env vs)[j]? = env[j]?
  | [], _, _, _ => rfl
  | v :: vs, env, j, h => by
    rw [List.mem_cons, not_or] at h
    simp only [wipeE]
    rw [List.getElem?_set_ne (Ne.symm h.1), wipeE_out h.2]
theorem wipe_out' : ∀ {vs : List Nat} {σ : Slots} {j : Nat}, j ∉ vs → (wipe σ vs)[j]? = σ[j]?
  | [], _, _, _ => rfl
  | v :: vs, σ, j, h => by
    rw [List.mem_cons, not_or] at h
    unfold wipe
    rw [List.getElem?_set_ne (Ne.symm h.1), wipe_out' h.2]
theorem wipe_in : ∀ {vs : List Nat} {σ : Slots} {j : Nat}, j ∈ vs → (wipe σ vs)[j]? = if j < σ.length then some none else none
  | v :: vs, σ, j, h => by
    unfold wipe
    by_cases hv : v = j
    · subst hv
      by_cases hl : v < σ.length
      · rw [if_pos hl, List.getElem?_set_self (by rw [wipe_length]; exact hl)]
      · rw [if_neg hl, List.getElem?_eq_none (by rw [List.length_set, wipe_length]; omega)]
    · rw [List.getElem?_set_ne hv]
      exact wipe_in ((List.mem_cons.mp h).resolve_left (Ne.symm hv))
theorem wipe_eq {vs : List Nat} {σ σ' : Slots} (hl : σ'.length = σ.length) (h : ∀ j, j ∉ vs → σ'[j]? = (wipe σ vs)[j]?) : wipe σ' vs = wipe σ vs := by
  refine List.ext_getElem? fun j => ?_
  by_cases hj : j ∈ vs
  · rw [wipe_in hj, wipe_in hj, hl]
  · rw [wipe_out' hj, h j hj]
theorem wipe_rel (r : RelE K F H env σ) (vs : List Nat) : RelE K F H (wipeE env vs) (wipe σ vs) := by
  have out : ∀ {j : Nat} {s : Sl}, (wipeE env vs)[j]? = some s → s ≠ .un → j ∉ vs ∧ env[j]? = some s := fun {j s} h hs => by
    by_cases hj : j ∈ vs
    · exact absurd (wipeE_in hj h) hs
    · exact ⟨hj, by rw [← wipeE_out hj]; exact h⟩
  refine ⟨by rw [wipeE_len, wipe_length]; exact r.len, fun j d h => ?_, fun j s d h hs => ?_, fun j k s t d e a h hs h' ht q q' => ?_, r.fdm⟩
  · obtain ⟨hj, h⟩ := out h (by simp)
    rw [wipe_out' hj]; exact r.fz j d h
  · obtain ⟨hj, h⟩ := out h (by intro z; subst z; cases hs)
    rw [wipe_out' hj]; exact r.ow j s d h hs
  · obtain ⟨hj, h⟩ := out h (by intro z; subst z; cases hs)
    obtain ⟨hk, h'⟩ := out h' (by intro z; subst z; cases ht)
    rw [wipe_out' hj] at q
    rw [wipe_out' hk] at q'
    exact r.ne j k s t d e a h hs h' ht q q'
/-- behind a turn the block's own slots are forgotten -/
theorem Pst.wiped {vs : List Nat} {sw : Slots} (p : Pst K F H env sw F1 H1 env1 σ1) (hw : ∀ j ∈ vs, ∀ s, env[j]? = some s → s = .un) (hs : wipe σ1 vs = sw) : Pst K F H env sw F1 H1 (wipeE env1 vs) sw := by
  have hr := wipe_rel p.rel vs
  rw [hs] at hr
  have out : ∀ {j : Nat} {s : Sl}, (wipeE env1 vs)[j]? = some s → s ≠ .un → j ∉ vs ∧ env1[j]? = some s := fun {j s} h hs => by
    by_cases hj : j ∈ vs
    · exact absurd (wipeE_in hj h) hs
    · exact ⟨hj, by rw [← wipeE_out hj]; exact h⟩
  refine ⟨p.st, hr, fun a ⟨j, s, d, h, hs', q⟩ => ?_, fun j d h => ?_, fun j io d h => ?_⟩
  · obtain ⟨hj, h⟩ := out h (by intro z; subst z; cases hs')
    rw [← hs, wipe_out' hj] at q
    exact p.own a ⟨j, s, d, h, hs', q⟩
  · obtain ⟨⟨d', h1⟩, h2⟩ := p.io j d h
    have hj : j ∉ vs := fun z => by have := hw j z _ h; cases this
    exact ⟨⟨d', by rw [wipeE_out hj]; exact h1⟩, rfl⟩
  · obtain ⟨h1, h2⟩ := p.lk j io d h
    have hj : j ∉ vs := fun z => by have := hw j z _ h; cases this
    exact ⟨by rw [wipeE_out hj]; exact h1, rfl⟩
theorem restE_len : ∀ (vs : List Nat) (env env0 : En), (restE env env0 vs).length = env.length
  | [], _, _ => rfl
  | v :: vs, env, env0 => by
    simp only [restE]
    split
    · rw [List.length_set, restE_len vs]
    · exact restE_len vs env env0
theorem restE_out : ∀ {vs : List Nat} {env env0 : En} {j : Nat}, j ∉ vs → (restE env env0 vs)[j]? = env[j]?
  | [], _, _, _, _ => rfl
  | v :: vs, env, env0, j, h => by
    rw [List.mem_cons, not_or] at h
    simp only [restE]
    split
    · rw [List.getElem?_set_ne (Ne.symm h.1), restE_out h.2]
    · exact restE_out h.2
theorem restE_in : ∀ {vs : List Nat} {env env0 : En} {j : Nat}, env.length = env0.length → j ∈ vs → (restE env env0 vs)[j]? = env0[j]?
  | v :: vs, env, env0, j, hl, h => by
    simp only [restE]
    split
    · rename_i s q
      by_cases hv : v = j
      · subst hv
        rw [List.getElem?_set_self (by rw [restE_len, hl]; exact lt_of_get q), q]
      · rw [List.getElem?_set_ne hv]
        exact restE_in hl ((List.mem_cons.mp h).resolve_left (Ne.symm hv))
    · rename_i q
      by_cases hv : v = j
      · subst hv
        rw [q, List.getElem?_eq_none]
        rw [restE_len, hl]
        exact List.getElem?_eq_none_iff.mp q
      · exact restE_in hl ((List.mem_cons.mp h).resolve_left (Ne.symm hv))
/-- behind a block the slots hold what they held -/
theorem Pst.rested {vs : List Nat} (r : RelE K F H env σ) (p : Pst K F H (wipeE env vs) (wipe σ vs) F1 H1 env1 (wipe σ vs)) : Pst K F H env σ F1 H1 (restE env1 env vs) σ := by
  have hl : env1.length = env.length := by
    have := p.rel.len
    rw [wipe_length, ← r.len] at this
    exact this
  -- a list of a slot of the block's own names is nobody's in the block
  have apart : ∀ {i : Nat} {s : Sl} {d : D} {a : Addr}, i ∈ vs → env[i]? = some s → s.own = some d → σ[i]? = some (some (.ref a)) → ¬ OA (wipeE env vs) (wipe σ vs) a := fun {i s d a} hi h hs ea ⟨j, t, d', h', ht, q⟩ => by
    have hj : j ∉ vs := fun z => by have := wipeE_in z h'; subst this; cases ht
    rw [wipeE_out hj] at h'
    rw [wipe_out' hj] at q
    have := r.ne i j s t d d' a h hs h' ht ea q
    subst this
    exact hj hi
  have stay : ∀ {i : Nat} {s : Sl} {d : D} {a : Addr}, i ∈ vs → env[i]? = some s → s.own = some d → σ[i]? = some (some (.ref a)) → OwnAt K F H d a → OwnAt K F1 H1 d a ∧ H a ≠ none := fun {i s d a} hi h hs ea ho => by
    obtain ⟨z1, z2⟩ := p.st.oth a ho.some ho.nF (apart hi h hs ea)
    exact ⟨ho.mono p.st.sub p.st.agr z1 z2, ho.some⟩
  have owns : ∀ {i : Nat} {s : Sl} {d : D} {a : Addr}, (restE env1 env vs)[i]? = some s → s.own = some d → σ[i]? = some (some (.ref a)) → (i ∈ vs ∧ env[i]? = some s ∧ H a ≠ none ∧ ¬ OA env1 (wipe σ vs) a) ∨ (i ∉ vs ∧ env1[i]? = some s ∧ (wipe σ vs)[i]? = some (some (.ref a))) := fun {i s d a} h hs ea => by
    by_cases hi : i ∈ vs
    · rw [restE_in hl hi] at h
      obtain ⟨b, e1, ho⟩ := r.ow i s d h hs
      rw [ea] at e1; cases e1
      refine .inl ⟨hi, h, ho.some, fun z => ?_⟩
      rcases p.own a z with y | y
      · exact apart hi h hs ea y
      · exact ho.some y
    · rw [restE_out hi] at h
      exact .inr ⟨hi, h, by rw [wipe_out' hi]; exact ea⟩
  refine ⟨⟨p.st.sub, p.st.agr, p.st.dom, fun a h1 h2 h3 => p.st.oth a h1 h2 fun ⟨j, t, d', h', ht, q⟩ => ?_⟩, ⟨by rw [restE_len, hl]; exact r.len, fun i d h => ?_, fun i s d h hs => ?_, fun i j s t d e a h hs h' ht q q' => ?_, p.rel.fdm⟩, fun a ⟨i, s, d, h, hs, q⟩ => ?_, fun i d h => ?_, fun i io d h => ?_⟩
  · have hj : j ∉ vs := fun z => by have := wipeE_in z h'; subst this; cases ht
    rw [wipeE_out hj] at h'
    rw [wipe_out' hj] at q
    exact h3 ⟨j, t, d', h', ht, q⟩
  · by_cases hi : i ∈ vs
    · rw [restE_in hl hi] at h
      obtain ⟨v, e1, e2⟩ := r.fz i d h
      exact ⟨v, e1, e2.mono p.st.sub p.st.agr⟩
    · rw [restE_out hi] at h
      obtain ⟨v, e1, e2⟩ := p.rel.fz i d h
      exact ⟨v, by rw [← wipe_out' hi]; exact e1, e2⟩
  · by_cases hi : i ∈ vs
    · rw [restE_in hl hi] at h
      obtain ⟨a, e1, ho⟩ := r.ow i s d h hs
      exact ⟨a, e1, (stay hi h hs e1 ho).1⟩
    · rw [restE_out hi] at h
      obtain ⟨a, e1, ho⟩ := p.rel.ow i s d h hs
      exact ⟨a, by rw [← wipe_out' hi]; exact e1, ho⟩
  · rcases owns h hs q with ⟨hi, g1, g2, g3⟩ | ⟨hi, g1, g2⟩ <;> rcases owns h' ht q' with ⟨hj, k1, k2, k3⟩ | ⟨hj, k1, k2⟩
    · exact r.ne i j s t d e a g1 hs k1 ht q q'
    · exact (g3 ⟨j, t, e, k1, ht, k2⟩).elim
    · exact (k3 ⟨i, s, d, g1, hs, g2⟩).elim
    · exact p.rel.ne i j s t d e a g1 hs k1 ht g2 k2
  · rcases owns h hs q with ⟨hi, g1, g2, g3⟩ | ⟨hi, g1, g2⟩
    · exact .inl ⟨i, s, d, g1, hs, q⟩
    · rcases p.own a ⟨i, s, d, g1, hs, g2⟩ with ⟨j, t, d', h', ht, q''⟩ | y
      · have hj : j ∉ vs := fun z => by have := wipeE_in z h'; subst this; cases ht
        rw [wipeE_out hj] at h'
        rw [wipe_out' hj] at q''
        exact .inl ⟨j, t, d', h', ht, q''⟩
      · exact .inr y
  · refine ⟨?_, rfl⟩
    by_cases hi : i ∈ vs
    · exact ⟨d, by rw [restE_in hl hi]; exact h⟩
    · obtain ⟨⟨d', h1⟩, _⟩ := p.io i d (by rw [wipeE_out hi]; exact h)
      exact ⟨d', by rw [restE_out hi]; exact h1⟩
  · refine ⟨?_, rfl⟩
    by_cases hi : i ∈ vs
    · rw [restE_in hl hi]; exact h
    · obtain ⟨h1, _⟩ := p.lk i io d (by rw [wipeE_out hi]; exact h)
      rw [restE_out hi]; exact h1
end
end VI
/-! VI13: comprehensions. -/
namespace VI
open PySem PySem.Spec L2
abbrev Bc : Type := Shared × Hp × Addr × List (Str × Addr) × List Addr
abbrev Bk (X : Cx) (scope : Scope) (c : Bc) : Cx := X.blk c.1 c.2.1 scope (compEnvC scope c.2.2.2.1 c.2.2.1 X.env) c.2.2.2.2
def WTs (X : Cx) (ifs : List Expr) : TT := fun σ H Q => ∀ (pins : List (Addr × Obj)) (s : Shared), Inv X pins σ H s →
  wpAny (model X.prog X.w) X.A (forIn ifs true fun c r => if r = true then do let ok ← isTrue c X.env (eval c X.env); pure (ForInStep.yield ok) else pure (ForInStep.yield r)) (TP X pins σ Q) X.xe s
def SOC (X : Cx) (ifs : List Expr) (f : En → Option (Bool × En)) : Prop :=
  ∀ env b env', f env = some (b, env') → ∀ σ F H Q, RelE X.K F H env σ → (∀ F' H', Pst X.K F H env σ F' H' env' σ → Q b H') → WTs X ifs σ H Q
theorem soc_no {X : Cx} {f : En → Option (Bool × En)} (hf : ∀ env, f env = some (true, env)) : SOC X [] f := by
  intro env b env' e σ F H Q r q
  rw [hf] at e
  cases e
  exact fun pins s I => pts_nil.run pins s σ H Q I (q F H (.refl r))
theorem soc_so {X : Cx} {p : Expr} {f : En → Option (Bool × En)} (h : SC X p f) : SOC X [p] f := by
  intro env b env' e σ F H Q r q
  exact fun pins s I => (pts_one (pT X p)).run pins s σ H Q I (h env b env' e σ F H Q r q)
section
variable {X : Cx} {scope : Scope}
def tGb (X : Cx) (scope : Scope) (tg : Expr) : TG := fun v σ H Q => ∀ c, WG (Bk X scope c) tg v σ H Q
def tCb (X : Cx) (scope : Scope) (ifs : List Expr) : TT := fun σ H Q => ∀ c, WTs (Bk X scope c) ifs σ H Q
def tEb (X : Cx) (scope : Scope) (el : Expr) : TE := fun σ H Q => ∀ c, WE (Bk X scope c) el σ H Q
def tIb (X : Cx) (scope : Scope) (tg it : Expr) : TI := fun σ H R => ∀ c, WI (Bk X scope c) tg it σ H R
theorem pgb {tg : Expr} : ∀ (s : Shared) (H : Hp) (C : Addr) (cl : List (Str × Addr)) (fp : List Addr), PG (X.blk s H scope (compEnvC scope cl C X.env) fp) tg (tGb X scope tg) :=
  fun s H C cl fp => ⟨fun pins s' σ H' v u Q I r h => h (s, H, C, cl, fp) pins s' u I r⟩
theorem ptb {ifs : List Expr} : ∀ (s : Shared) (H : Hp) (C : Addr) (cl : List (Str × Addr)) (fp : List Addr), PTs (X.blk s H scope (compEnvC scope cl C X.env) fp) ifs (tCb X scope ifs) :=
  fun s H C cl fp => ⟨fun pins s' σ H' Q I h => h (s, H, C, cl, fp) pins s' I⟩
theorem peb {el : Expr} : ∀ (s : Shared) (H : Hp) (C : Addr) (cl : List (Str × Addr)) (fp : List Addr), PE (X.blk s H scope (compEnvC scope cl C X.env) fp) el (tEb X scope el) :=
  fun s H C cl fp => ⟨fun pins s' σ H' Q I h => h (s, H, C, cl, fp) pins s' I⟩
theorem pib {tg it : Expr} : ∀ (s : Shared) (H : Hp) (C : Addr) (cl : List (Str × Addr)) (fp : List Addr), PI (X.blk s H scope (compEnvC scope cl C X.env) fp) tg it (tIb X scope tg it) :=
  fun s H C cl fp => ⟨fun pins s' σ H' R I h => h (s, H, C, cl, fp) pins s' I⟩
end
section
variable {K : PySem.W.Frag} {F F1 F2 : FS} {H H1 H2 : Hp} {env env0 env1 env2 : En} {σ σ1 σ2 : Slots}
/-- an object that no slot holds is changed; it was not there at the start -/
theorem Pst.side (p : Pst K F H env σ F1 H1 env1 σ1) {D : Addr} {o : HO} (hn : H D = none) (hf : ¬ F1 D) (ho : ¬ OA env1 σ1 D) : Pst K F H env σ F1 (upd H1 D o) env1 σ1 where
  st := ⟨p.st.sub, fun c h => by
      rw [upd_ne fun z => hf (by rw [← z]; exact p.st.sub c h)]
      exact p.st.agr c h, fun c h => by
      by_cases z : c = D
      · rw [z, upd_same]; simp
      · rw [upd_ne z]; exact p.st.dom c h, fun c h1 h2 h3 => by
      obtain ⟨e1, e2⟩ := p.st.oth c h1 h2 h3
      exact ⟨by rw [upd_ne fun z => h1 (by rw [z]; exact hn)]; exact e1, e2⟩⟩
  rel := p.rel.move (fun _ h => h) (fun a h => upd_ne fun z => hf (by rw [← z]; exact h)) (fun a h => ⟨upd_ne fun z => ho (by rw [← z]; exact h), (p.rel.oa_some h).2⟩) fun a h => by
    by_cases z : a = D
    · rw [z, upd_same]; simp
    · rw [upd_ne z]; exact p.rel.fdm a h
  own := p.own
  io := p.io
  lk := p.lk
/-- the list D that a comprehension makes -/
structure LD (K : PySem.W.Frag) (D : Addr) (F : FS) (H : Hp) (env : En) (σ : Slots) (done : List VI.D) (acc : List V) : Prop where
  at_ : H D = some (.lst acc)
  nF : ¬ F D
  nO : ¬ OA env σ D
  is : IsL K F H done acc
theorem LD.step {D : Addr} {done : List VI.D} {acc : List V} (l : LD K D F H env σ done acc) (p : Pst K F H env σ F1 H1 env1 σ1) : LD K D F1 H1 env1 σ1 done acc := by
  have hs : H D ≠ none := by rw [l.at_]; simp
  obtain ⟨e1, e2⟩ := p.st.oth D hs l.nF l.nO
  exact ⟨e1.trans l.at_, e2, fun z => (p.own D z).elim l.nO hs, l.is.mono p.st.sub p.st.agr⟩
theorem LD.snoc {D : Addr} {done : List VI.D} {acc : List V} {y : VI.D} {v : V} (l : LD K D F H env σ done acc) (iv : Is K F H y v) : LD K D F (upd H D (.lst (acc ++ [v]))) env σ (done ++ [y]) (acc ++ [v]) := by
  have agr : ∀ c, F c → upd H D (.lst (acc ++ [v])) c = H c := fun c f => upd_ne fun z => l.nF (by rw [← z]; exact f)
  exact ⟨upd_same, l.nF, l.nO, (l.is.mono (fun _ h => h) agr).snoc (iv.mono (fun _ h => h) agr)⟩
end
section
variable {X : Cx} {scope : Scope} {tg el : Expr} {ifs : List Expr} {t : T} {vs : List Nat} {fc : En → Option (Bool × En)} {fe : En → Option (Op × En)}
def fEl (fe : En → Option (Op × En)) (env : En) : Option (VI.D × En) := (fe env).bind fun z => esc z.2 z.1
mutual
theorem put_len : ∀ {t : T} {env : En} {d : VI.D} {env' : En}, t.put env d = some env' → env'.length = env.length
  | .nm k, env, d, env', h => by
    have h : putS env k (.fz d) = some env' := by unfold T.put at h; exact h
    rw [(putS_eq h).1, List.length_set]
  | .tup ts, env, d, env', h => by
    cases d with
    | tup ds => exact puts_len (show ts.put env ds = some env' by unfold T.put at h; exact h)
    | lst ds => exact puts_len (show ts.put env ds = some env' by unfold T.put at h; exact h)
    | _ => simp [T.put] at h
theorem puts_len : ∀ {ts : Ts} {env : En} {ds : List VI.D} {env' : En}, ts.put env ds = some env' → env'.length = env.length
  | .nil, env, ds, env', h => by
    cases ds with
    | nil => simp only [Ts.put, Option.some.injEq] at h; rw [h]
    | cons => simp [Ts.put] at h
  | .cons t ts, env, ds, env', h => by
    cases ds with
    | nil => simp [Ts.put] at h
    | cons d ds =>
      simp only [Ts.put, Option.bind_eq_some_iff] at h
      obtain ⟨e3, h3, h4⟩ := h
      rw [puts_len h4, put_len h3]
end
/-- the turns of a loop over the items: from the state at (F1, H1, we, sw); what holds is told by G, which a turn may use up -/
theorem lc_loop (hT : ∀ c, SG (Bk X scope c) tg t) (hC : ∀ c, SOC (Bk X scope c) ifs fc) (hE : ∀ c, SE (Bk X scope c) el fe) (hts : ∀ j ∈ t.slots, j ∈ vs)
    {J : It} {items : List VI.D} {P : FS → Hp → Prop} (S : Src X.K J items P) {F1 : FS} {H1 : Hp} {we : En} {σ : Slots} {env2 : En} {outs done0 : List VI.D} {acc0 : List V} {D : Addr}
    (hw : ∀ j ∈ vs, ∀ s, we[j]? = some s → s = .un) (hl : lcLoop fc (fEl fe) t vs items we = some (outs, env2)) (hz : done0.length + outs.length ≤ sizeLine)
    {F0 : FS} {H0 : Hp} (r0 : Pst X.K F0 H0 we (wipe σ vs) F1 H1 we (wipe σ vs)) (hD0 : H0 D = none) (ld0 : LD X.K D F1 H1 we (wipe σ vs) done0 acc0)
    (hP : ∀ F' H' e, Pst X.K F0 H0 we (wipe σ vs) F' H' e (wipe σ vs) → P F' H')
    {Qd : Hp → Prop} (hq : ∀ F' H' acc, Pst X.K F0 H0 we (wipe σ vs) F' H' env2 (wipe σ vs) → LD X.K D F' H' env2 (wipe σ vs) (done0 ++ outs) acc → Qd H') :
    ∃ W : Nat → Nat → Hp → Prop, (∃ m, W 0 m H1) ∧ ∀ i m H, W i m H →
      (J.stop i H ∧ Qd H) ∨ (J.go i H ∧ ∃ Nx : Hp → Prop, (∀ H', Nx H' → ∃ m', m' < m ∧ W (i + 1) m' H') ∧ ∀ x H', J.yld i H x H' → tGb X scope tg x (wipe σ vs) H' fun σ2 H2 => wipe σ2 vs = wipe σ vs ∧ tCb X scope ifs σ2 H2 fun b H3 =>
        if b = true then tEb X scope el σ2 H3 fun y H4 => ∃ acc, H4 D = some (.lst acc) ∧ acc.length < sizeLine ∧ Nx (upd H4 D (.lst (acc ++ [y]))) else Nx H3) := by
  refine ⟨fun i m H => ∃ F' e done acc rest, i ≤ items.length ∧ m = items.length - i ∧ lcLoop fc (fEl fe) t vs (items.drop i) e = some (rest, env2) ∧ done0 ++ outs = done ++ rest ∧
      Pst X.K F0 H0 we (wipe σ vs) F' H e (wipe σ vs) ∧ LD X.K D F' H e (wipe σ vs) done acc, ⟨items.length, F1, we, done0, acc0, outs, Nat.zero_le _, rfl, hl, rfl, r0, ld0⟩, ?_⟩
  rintro i m H ⟨F', e, done, acc, rest, hi, rfl, hloop, hout, p, ld⟩
  have PH := hP F' H e p
  by_cases hlt : i < items.length
  · refine .inr ⟨S.go i F' H PH hlt, _, fun H' h => h, fun x H' hy => ?_⟩
    rw [List.drop_eq_getElem_cons hlt] at hloop
    simp only [lcLoop, bind, Option.bind_eq_some_iff, Prod.exists] at hloop
    obtain ⟨e1, h1, b, e2, h2, h3⟩ := hloop
    obtain ⟨F2, n2, id2⟩ := S.yld i F' H x H' PH p.rel.fdm hy _ (List.getElem?_eq_getElem hlt)
    have p2 := p.nst n2
    have ld2 := ld.step (n2.pst p.rel)
    intro c
    refine hT c e _ e1 h1 (wipe σ vs) F2 H' x _ p2.rel id2 fun σ2 p3 hs3 => ?_
    have hwp : wipe σ2 vs = wipe σ vs := by
      refine wipe_eq ?_ fun j hj => hs3 j fun z => hj (hts j z)
      have l1 := p3.rel.len
      have l2 := p2.rel.len
      have l3 : e1.length = e.length := by
        exact put_len h1
      rw [wipe_length] at l2
      omega
    refine ⟨hwp, fun c => ?_⟩
    refine hC c e1 b e2 h2 σ2 F2 H' _ p3.rel fun F4 H4 p4 => ?_
    have p24 := p2.trans (p3.trans p4)
    have ld4 := ld2.step (p3.trans p4)
    have nxt : ∀ {F5 : FS} {H5 : Hp} {e5 : En} {done' : List VI.D} {acc' : List V} {rest' : List VI.D}, Pst X.K F0 H0 we (wipe σ vs) F5 H5 e5 σ2 → LD X.K D F5 H5 e5 σ2 done' acc' → lcLoop fc (fEl fe) t vs (items.drop (i + 1)) (wipeE e5 vs) = some (rest', env2) → done0 ++ outs = done' ++ rest' →
        ∃ m', m' < items.length - i ∧ ∃ F' e done acc rest, i + 1 ≤ items.length ∧ m' = items.length - (i + 1) ∧ lcLoop fc (fEl fe) t vs (items.drop (i + 1)) e = some (rest, env2) ∧ done0 ++ outs = done ++ rest ∧
          Pst X.K F0 H0 we (wipe σ vs) F' H5 e (wipe σ vs) ∧ LD X.K D F' H5 e (wipe σ vs) done acc := fun {F5 H5 e5 done' acc' rest'} p5 ld5 hl5 ho5 => by
      refine ⟨items.length - (i + 1), by omega, F5, wipeE e5 vs, done', acc', rest', hlt, rfl, hl5, ho5, p5.wiped hw hwp, ⟨ld5.at_, ld5.nF, fun ⟨j, s, d, h, hs, q⟩ => ?_, ld5.is⟩⟩
      have hj : j ∉ vs := fun z => by have := wipeE_in z h; subst this; cases hs
      rw [wipeE_out hj] at h
      rw [← hwp, wipe_out' hj] at q
      exact ld5.nO ⟨j, s, d, h, hs, q⟩
    cases b with
    | false =>
      refine iteF ?_
      exact nxt p24 ld4 (by simpa using h3) hout
    | true =>
      simp only [if_true, Option.bind_eq_some_iff, Prod.exists] at h3
      obtain ⟨y, e4, h4, ys, e5, h5, h6⟩ := h3
      cases h6
      simp only [fEl, Option.bind_eq_some_iff, Prod.exists] at h4
      obtain ⟨o, e3, h4, h7⟩ := h4
      refine iteT fun c => ?_
      refine hE c e2 o e3 h4 σ2 F4 H4 _ p4.rel fun v F5 H5 p5 r5 n5 => ?_
      obtain ⟨F6, p6, iv, _⟩ := esc_ok p5 r5 n5 h7
      have ld6 := ld4.step p6
      have p06 := p24.trans p6
      refine ⟨acc, ld6.at_, ?_, ?_⟩
      · have l1 := ld6.is.length
        have l2 := congrArg List.length hout
        rw [List.length_append, List.length_append, List.length_cons] at l2
        omega
      · exact nxt (p06.side hD0 ld6.nF ld6.nO) (ld6.snoc iv) h5 (by rw [hout, List.append_assoc]; rfl)
  · have e0 : i = items.length := by omega
    subst e0
    rw [List.drop_length] at hloop
    simp only [lcLoop, Option.some.injEq, Prod.mk.injEq] at hloop
    obtain ⟨rfl, rfl⟩ := hloop
    rw [List.append_nil] at hout
    exact .inl ⟨S.stop _ F' H PH rfl, hq F' H acc p (by rw [hout]; exact ld)⟩
end
end VI
/-! VI14: comprehensions as expressions. -/
namespace VI
open PySem PySem.Spec L2
section
variable {K : PySem.W.Frag} {F F1 F2 : FS} {H H1 H2 : Hp} {env env0 env1 env2 : En} {σ σ1 σ2 : Slots}
theorem unlock_relab : ∀ (lk : List (Nat × Bool)) (env : En), Relab env (unlock env lk)
  | [], _ => .refl
  | (i, true) :: is, env => by
    simp only [unlock]
    split
    · rename_i q; exact (Relab.unlock1 q).trans (unlock_relab is _)
    · exact unlock_relab is env
  | (_, false) :: is, env => by simp only [unlock]; exact unlock_relab is env
def dropA (H : Hp) (D : Addr) : Hp := fun b => if b = D then none else H b
theorem dropA_ne {D a : Addr} (h : a ≠ D) : dropA H D a = H a := if_neg h
theorem dropA_same {D : Addr} : dropA H D D = none := if_pos rfl
theorem Pst.drop (p : Pst K F H env σ F1 H1 env1 σ1) {D : Addr} (hn : H D = none) (hf : ¬ F1 D) (ho : ¬ OA env1 σ1 D) : Pst K F H env σ F1 (dropA H1 D) env1 σ1 where
  st := ⟨p.st.sub, fun c h => by
      rw [dropA_ne fun z => hf (by rw [← z]; exact p.st.sub c h)]
      exact p.st.agr c h, fun c h => by
      rw [dropA_ne fun z => h (by rw [z]; exact hn)]
      exact p.st.dom c h, fun c h1 h2 h3 => by
      rw [dropA_ne fun z => h1 (by rw [z]; exact hn)]
      exact p.st.oth c h1 h2 h3⟩
  rel := p.rel.move (fun _ h => h) (fun a h => dropA_ne fun z => hf (by rw [← z]; exact h)) (fun a h => ⟨dropA_ne fun z => ho (by rw [← z]; exact h), (p.rel.oa_some h).2⟩) fun a h => by
    rw [dropA_ne fun z => hf (by rw [← z]; exact h)]
    exact p.rel.fdm a h
  own := p.own
  io := p.io
  lk := p.lk
/-- .. and it is there again -/
theorem pst_undrop {D : Addr} (r : RelE K F H env σ) (hf : ¬ F D) (ho : ¬ OA env σ D) : Pst K F (dropA H D) env σ F H env σ where
  st := ⟨fun _ h => h, fun c h => (dropA_ne fun z => hf (by rw [← z]; exact h)).symm, fun c h => by
      by_cases z : c = D
      · rw [z, dropA_same] at h; exact absurd rfl h
      · rw [dropA_ne z] at h; exact h, fun c h1 h2 _ => by
      by_cases z : c = D
      · rw [z, dropA_same] at h1; exact absurd rfl h1
      · exact ⟨(dropA_ne z).symm, h2⟩⟩
  rel := r
  own := fun _ h => .inl h
  io := fun i d h => ⟨⟨d, h⟩, rfl⟩
  lk := fun _ _ _ h => ⟨h, rfl⟩
theorem RelE.drop {D : Addr} (r : RelE K F H env σ) (hf : ¬ F D) (ho : ¬ OA env σ D) : RelE K F (dropA H D) env σ :=
  r.move (fun _ h => h) (fun a h => dropA_ne fun z => hf (by rw [← z]; exact h)) (fun a h => ⟨dropA_ne fun z => ho (by rw [← z]; exact h), (r.oa_some h).2⟩) fun a h => by
    rw [dropA_ne fun z => hf (by rw [← z]; exact h)]
    exact r.fdm a h
/-- the block's list is no slot's, behind the block -/
theorem rest_out {vs : List Nat} {lk : List (Nat × Bool)} {D : Addr} (hl : env2.length = env1.length) (h1 : ¬ OA env1 σ D) (h2 : ¬ OA env2 (wipe σ vs) D) : ¬ OA (unlock (restE env2 env1 vs) lk) σ D := by
  intro z
  obtain ⟨i, s, d, h, hs, q⟩ := (unlock_relab lk _).oa z
  by_cases hi : i ∈ vs
  · rw [restE_in hl hi] at h
    exact h1 ⟨i, s, d, h, hs, q⟩
  · rw [restE_out hi] at h
    exact h2 ⟨i, s, d, h, hs, by rw [wipe_out' hi]; exact q⟩
end
section
variable {X : Cx} {scope : Scope} {tg it el tg1 it1 : Expr} {ifs ifs1 : List Expr} {t t1 : T} {vs vs1 : List Nat} {fc fc1 : En → Option (Bool × En)} {fe : En → Option (Op × En)} {fi fi1 : En → Option (List VI.D × List (Nat × Bool) × En)}
theorem keep_in {P : FS → Hp → Prop} {F1 F' : FS} {H1 H' : Hp} {env1 e : En} {σ : Slots} {lk : List (Nat × Bool)} (k : Keep X.K F1 H1 env1 σ lk P) (hv : ∀ j ∈ lk, j.1 ∉ vs) (p : Pst X.K F1 H1 (wipeE env1 vs) (wipe σ vs) F' H' e (wipe σ vs)) : P F' H' := by
  refine k F' H' p.st.sub p.st.agr fun i io d a hi he ea => ?_
  obtain ⟨j, hj, rfl⟩ := List.mem_map.mp hi
  have hn := hv j hj
  obtain ⟨h1, _⟩ := p.lk j.1 io d (by rw [wipeE_out hn]; exact he)
  obtain ⟨b, h2, h3⟩ := p.rel.ow j.1 _ d h1 rfl
  rw [wipe_out' hn, ea] at h2
  cases h2
  exact h3
theorem s_lc {Γ : Gm} {cl : CallF} {N : List Str} {sc : Scope} (g : Gd Γ cl N sc X) {own : List (Str × Nat)} {pos : Pos} (hown : own.map (·.2) = vs) (ok : BlkOk X.N X.env.scope scope own) (hh : ∀ x, foldedSetIterable it X.env x = pure x)
    (hI : SI X tg it fi) (hT : ∀ c, SG (Bk X scope c) tg t) (hC : ∀ c, SOC (Bk X scope c) ifs fc) (hE : ∀ c, SE (Bk X scope c) el fe) (hts : ∀ j ∈ t.slots, j ∈ vs) {f : En → Option (Op × En)}
    (hf : ∀ env o env', f env = some (o, env') → ∃ items lk env1 outs env2, fi env = some (items, lk, env1) ∧ (∀ j ∈ lk, j.1 ∉ vs) ∧ lcLoop fc (fEl fe) t vs items (wipeE env1 vs) = some (outs, env2) ∧ outs.length ≤ sizeLine ∧ o = .nw (.lst outs) ∧ env' = unlock (restE env2 env1 vs) lk) :
    ∀ env o env', f env = some (o, env') → ∀ σ F H Q, RelE X.K F H env σ → QE X.K F H env σ o env' Q → tLc (WI X tg it) (tGb X scope tg) (tCb X scope ifs) (tEb X scope el) (own.map (·.2)) σ H Q := by
  intro env o env' e σ F H Q r q
  obtain ⟨items, lk, env1, outs, env2, h1, h2, h3, h4, rfl, rfl⟩ := hf env o env' e
  rw [hown]
  refine hI env items lk env1 h1 σ F H _ r fun J F1 H1 env0 P p0 rl lks S hP keep => fun D hD => ?_
  have r1 : RelE X.K F1 H1 env1 σ := rl.rel p0.rel
  have rw1 : RelE X.K F1 H1 (wipeE env1 vs) (wipe σ vs) := wipe_rel r1 vs
  have nO : ∀ {e : En} {s : Slots}, RelE X.K F1 H1 e s → ¬ OA e s D := fun r z => (r.oa_some z).1 hD
  have nF : ¬ F1 D := fun z => r1.fdm D z hD
  refine lc_loop hT hC hE hts S (F0 := F1) (H0 := H1) (done0 := []) (acc0 := []) (fun j hj s hs => wipeE_in hj hs) h3 (by simpa using h4) ((Nst.new hD).pst rw1) hD ⟨upd_same, nF, nO rw1, IsL.nil⟩ (fun F' H' e p => keep_in keep h2 p) fun F' H' acc p ld => ?_
  have pr : Pst X.K F1 H1 env1 σ F' H' (restE env2 env1 vs) σ := p.rested r1
  have pu := lks _ _ _ _ _ _ _ pr
  refine q (.ref D) F' H' (p0.trans pu) ⟨D, rfl, ld.nF, acc, ld.at_, ld.is⟩ fun d _ a ea => ?_
  cases ea
  refine ⟨none_back p0 hD, rest_out ?_ (nO r1) ld.nO⟩
  have := p.rel.len
  rw [wipe_length, ← r1.len] at this
  exact this
theorem lc2_loop (hT : ∀ c, SG (Bk X scope c) tg t) (hC : ∀ c, SOC (Bk X scope c) ifs fc) (hts : ∀ j ∈ t.slots, j ∈ vs)
    (hI1 : ∀ c, SI (Bk X scope c) tg1 it1 fi1) (hT1 : ∀ c, SG (Bk X scope c) tg1 t1) (hC1 : ∀ c, SOC (Bk X scope c) ifs1 fc1) (hts1 : ∀ j ∈ t1.slots, j ∈ vs1) (hE : ∀ c, SE (Bk X scope c) el fe)
    {inner : En → Option (List VI.D × En)} (hin : ∀ env ys env', inner env = some (ys, env') → ∃ items lk env1 env2, fi1 env = some (items, lk, env1) ∧ (∀ j ∈ lk, j.1 ∉ vs1) ∧ lcLoop fc1 (fEl fe) t1 vs1 items (wipeE env1 vs1) = some (ys, env2) ∧ env' = unlock (restE env2 env1 vs1) lk)
    {J : It} {items : List VI.D} {P : FS → Hp → Prop} (S : Src X.K J items P) {F1 : FS} {H1 : Hp} {we : En} {σ : Slots} {env2 : En} {outs : List VI.D} {acc0 : List V} {D : Addr}
    (hw : ∀ j ∈ vs, ∀ s, we[j]? = some s → s = .un) (hl : lcLoop2 fc inner t vs items we = some (outs, env2)) (hz : outs.length ≤ sizeLine)
    {F0 : FS} {H0 : Hp} (r0 : Pst X.K F0 H0 we (wipe σ vs) F1 H1 we (wipe σ vs)) (hD0 : H0 D = none) (ld0 : LD X.K D F1 H1 we (wipe σ vs) [] acc0)
    (hP : ∀ F' H' e, Pst X.K F0 H0 we (wipe σ vs) F' H' e (wipe σ vs) → P F' H')
    {Qd : Hp → Prop} (hq : ∀ F' H' acc, Pst X.K F0 H0 we (wipe σ vs) F' H' env2 (wipe σ vs) → LD X.K D F' H' env2 (wipe σ vs) outs acc → Qd H') :
    ∃ W : Nat → Nat → Hp → Prop, (∃ m, W 0 m H1) ∧ ∀ i m H, W i m H →
      (J.stop i H ∧ Qd H) ∨ (J.go i H ∧ ∃ Nx : Hp → Prop, (∀ H', Nx H' → ∃ m', m' < m ∧ W (i + 1) m' H') ∧ ∀ x H', J.yld i H x H' → tGb X scope tg x (wipe σ vs) H' fun σ2 H2 => wipe σ2 vs = wipe σ vs ∧ tCb X scope ifs σ2 H2 fun b H3 =>
        if b = true then tIb X scope tg1 it1 σ2 H3 fun J1 H4 => ∃ W1 : Nat → Nat → Hp → Prop, (∃ m, W1 0 m H4) ∧ ∀ j k H, W1 j k H →
          (J1.stop j H ∧ Nx H) ∨ (J1.go j H ∧ ∃ Nx1 : Hp → Prop, (∀ H', Nx1 H' → ∃ k', k' < k ∧ W1 (j + 1) k' H') ∧ ∀ x H', J1.yld j H x H' → tGb X scope tg1 x (wipe σ2 vs1) H' fun σ3 H5 => wipe σ3 vs1 = wipe σ2 vs1 ∧ tCb X scope ifs1 σ3 H5 fun b H6 =>
            if b = true then tEb X scope el σ3 H6 fun y H7 => ∃ acc, H7 D = some (.lst acc) ∧ acc.length < sizeLine ∧ Nx1 (upd H7 D (.lst (acc ++ [y]))) else Nx1 H6)
        else Nx H3) := by
  refine ⟨fun i m H => ∃ F' e done acc rest, i ≤ items.length ∧ m = items.length - i ∧ lcLoop2 fc inner t vs (items.drop i) e = some (rest, env2) ∧ outs = done ++ rest ∧
      Pst X.K F0 H0 we (wipe σ vs) F' H e (wipe σ vs) ∧ LD X.K D F' H e (wipe σ vs) done acc, ⟨items.length, F1, we, [], acc0, outs, Nat.zero_le _, rfl, hl, rfl, r0, ld0⟩, ?_⟩
  rintro i m H ⟨F', e, done, acc, rest, hi, rfl, hloop, hout, p, ld⟩
  have PH := hP F' H e p
  by_cases hlt : i < items.length
  · refine .inr ⟨S.go i F' H PH hlt, _, fun H' h => h, fun x H' hy => ?_⟩
    rw [List.drop_eq_getElem_cons hlt] at hloop
    simp only [lcLoop2, bind, Option.bind_eq_some_iff, Prod.exists] at hloop
    obtain ⟨e1, h1, b, e2, h2, h3⟩ := hloop
    obtain ⟨F2, n2, id2⟩ := S.yld i F' H x H' PH p.rel.fdm hy _ (List.getElem?_eq_getElem hlt)
    have p2 := p.nst n2
    have ld2 := ld.step (n2.pst p.rel)
    intro c
    refine hT c e _ e1 h1 (wipe σ vs) F2 H' x _ p2.rel id2 fun σ2 p3 hs3 => ?_
    have hwp : wipe σ2 vs = wipe σ vs := by
      refine wipe_eq ?_ fun j hj => hs3 j fun z => hj (hts j z)
      have l1 := p3.rel.len
      have l2 := p2.rel.len
      have l3 : e1.length = e.length := put_len h1
      rw [wipe_length] at l2
      omega
    refine ⟨hwp, fun c => ?_⟩
    refine hC c e1 b e2 h2 σ2 F2 H' _ p3.rel fun F4 H4 p4 => ?_
    have p24 := p2.trans (p3.trans p4)
    have ld4 := ld2.step (p3.trans p4)
    have nxt : ∀ {F5 : FS} {H5 : Hp} {e5 : En} {done' : List VI.D} {acc' : List V} {rest' : List VI.D}, Pst X.K F0 H0 we (wipe σ vs) F5 H5 e5 σ2 → LD X.K D F5 H5 e5 σ2 done' acc' → lcLoop2 fc inner t vs (items.drop (i + 1)) (wipeE e5 vs) = some (rest', env2) → outs = done' ++ rest' →
        ∃ m', m' < items.length - i ∧ ∃ F' e done acc rest, i + 1 ≤ items.length ∧ m' = items.length - (i + 1) ∧ lcLoop2 fc inner t vs (items.drop (i + 1)) e = some (rest, env2) ∧ outs = done ++ rest ∧
          Pst X.K F0 H0 we (wipe σ vs) F' H5 e (wipe σ vs) ∧ LD X.K D F' H5 e (wipe σ vs) done acc := fun {F5 H5 e5 done' acc' rest'} p5 ld5 hl5 ho5 => by
      refine ⟨items.length - (i + 1), by omega, F5, wipeE e5 vs, done', acc', rest', hlt, rfl, hl5, ho5, p5.wiped hw hwp, ⟨ld5.at_, ld5.nF, fun ⟨j, s, d, h, hs, q⟩ => ?_, ld5.is⟩⟩
      have hj : j ∉ vs := fun z => by have := wipeE_in z h; subst this; cases hs
      rw [wipeE_out hj] at h
      rw [← hwp, wipe_out' hj] at q
      exact ld5.nO ⟨j, s, d, h, hs, q⟩
    cases b with
    | false =>
      refine iteF ?_
      exact nxt p24 ld4 (by simpa using h3) hout
    | true =>
      simp only [if_true, Option.bind_eq_some_iff, Prod.exists] at h3
      obtain ⟨ys, e4, h4, zs, e5, h5, h6⟩ := h3
      cases h6
      obtain ⟨items1, lk1, e3, e6, g1, g2, g3, rfl⟩ := hin _ _ _ h4
      refine iteT fun c => ?_
      refine hI1 c e2 items1 lk1 e3 g1 σ2 F4 H4 _ p4.rel fun J1 F5 H5 e30 P1 p5 rl5 lks5 S5 hP5 keep5 => ?_
      have ld5 := ld4.step p5
      have r30 : RelE X.K F5 H5 e30 σ2 := p5.rel
      have r3 : RelE X.K F5 H5 e3 σ2 := rl5.rel r30
      have nO3 : ¬ OA e3 σ2 D := fun z => ld5.nO (rl5.oa z)
      have rw3 : RelE X.K F5 H5 (wipeE e3 vs1) (wipe σ2 vs1) := wipe_rel r3 vs1
      have nOw : ¬ OA (wipeE e3 vs1) (wipe σ2 vs1) D := fun ⟨j, s, d, h, hs, q⟩ => by
        have hj : j ∉ vs1 := fun z => by have := wipeE_in z h; subst this; cases hs
        rw [wipeE_out hj] at h
        rw [wipe_out' hj] at q
        exact nO3 ⟨j, s, d, h, hs, q⟩
      refine lc_loop hT1 hC1 hE hts1 S5 (F0 := F5) (H0 := dropA H5 D) (done0 := done) (acc0 := acc) (fun j hj s hs => wipeE_in hj hs) g3 ?_ (pst_undrop rw3 ld5.nF nOw) dropA_same ⟨ld5.at_, ld5.nF, nOw, ld5.is⟩ (fun F' H' e p => ?_) fun F7 H7 acc7 p7 ld7 => ?_
      · have l2 := congrArg List.length hout
        rw [List.length_append, List.length_append] at l2
        omega
      · refine keep5 F' H' p.st.sub (fun a f => (p.st.agr a f).trans (dropA_ne fun z => ld5.nF (by rw [← z]; exact f))) fun i io d a hi he ea => ?_
        obtain ⟨j, hj, rfl⟩ := List.mem_map.mp hi
        have hn := g2 j hj
        obtain ⟨k1, _⟩ := p.lk j.1 io d (by rw [wipeE_out hn]; exact he)
        obtain ⟨b, k2, k3⟩ := p.rel.ow j.1 _ d k1 rfl
        rw [wipe_out' hn, ea] at k2
        cases k2
        exact k3
      · have pr : Pst X.K F5 (dropA H5 D) e3 σ2 F7 H7 (restE e6 e3 vs1) σ2 := p7.rested (r3.drop ld5.nF nO3)
        have pu := lks5 _ _ _ _ _ _ _ pr
        have p05 := (p24.trans p5).drop hD0 ld5.nF ld5.nO
        have p07 := p05.trans pu
        have hl6 : e6.length = e3.length := by
          have := p7.rel.len
          rw [wipe_length, ← r3.len] at this
          exact this
        exact nxt p07 ⟨ld7.at_, ld7.nF, rest_out hl6 nO3 ld7.nO, ld7.is⟩ h5 (by rw [hout, List.append_assoc])
  · have e0 : i = items.length := by omega
    subst e0
    rw [List.drop_length] at hloop
    simp only [lcLoop2, Option.some.injEq, Prod.mk.injEq] at hloop
    obtain ⟨rfl, rfl⟩ := hloop
    rw [List.append_nil] at hout
    exact .inl ⟨S.stop _ F' H PH rfl, hq F' H acc p (by rw [hout]; exact ld)⟩
theorem s_lc2 {Γ : Gm} {cl : CallF} {N : List Str} {sc : Scope} (g : Gd Γ cl N sc X) {own : List (Str × Nat)} (hown : own.map (·.2) = vs)
    (hI : SI X tg it fi) (hT : ∀ c, SG (Bk X scope c) tg t) (hC : ∀ c, SOC (Bk X scope c) ifs fc) (hts : ∀ j ∈ t.slots, j ∈ vs)
    (hI1 : ∀ c, SI (Bk X scope c) tg1 it1 fi1) (hT1 : ∀ c, SG (Bk X scope c) tg1 t1) (hC1 : ∀ c, SOC (Bk X scope c) ifs1 fc1) (hts1 : ∀ j ∈ t1.slots, j ∈ vs1) (hE : ∀ c, SE (Bk X scope c) el fe)
    {inner : En → Option (List VI.D × En)} (hin : ∀ env ys env', inner env = some (ys, env') → ∃ items lk env1 env2, fi1 env = some (items, lk, env1) ∧ (∀ j ∈ lk, j.1 ∉ vs1) ∧ lcLoop fc1 (fEl fe) t1 vs1 items (wipeE env1 vs1) = some (ys, env2) ∧ env' = unlock (restE env2 env1 vs1) lk)
    {f : En → Option (Op × En)}
    (hf : ∀ env o env', f env = some (o, env') → ∃ items lk env1 outs env2, fi env = some (items, lk, env1) ∧ (∀ j ∈ lk, j.1 ∉ vs) ∧ lcLoop2 fc inner t vs items (wipeE env1 vs) = some (outs, env2) ∧ outs.length ≤ sizeLine ∧ o = .nw (.lst outs) ∧ env' = unlock (restE env2 env1 vs) lk) :
    ∀ env o env', f env = some (o, env') → ∀ σ F H Q, RelE X.K F H env σ → QE X.K F H env σ o env' Q →
      tLc2 (WI X tg it) (tGb X scope tg) (tCb X scope ifs) (tIb X scope tg1 it1) (tGb X scope tg1) (tCb X scope ifs1) (tEb X scope el) (own.map (·.2)) vs1 σ H Q := by
  intro env o env' e σ F H Q r q
  obtain ⟨items, lk, env1, outs, env2, h1, h2, h3, h4, rfl, rfl⟩ := hf env o env' e
  rw [hown]
  refine hI env items lk env1 h1 σ F H _ r fun J F1 H1 env0 P p0 rl lks S hP keep => fun D hD => ?_
  have r1 : RelE X.K F1 H1 env1 σ := rl.rel p0.rel
  have rw1 : RelE X.K F1 H1 (wipeE env1 vs) (wipe σ vs) := wipe_rel r1 vs
  have nO : ∀ {e : En} {s : Slots}, RelE X.K F1 H1 e s → ¬ OA e s D := fun r z => (r.oa_some z).1 hD
  have nF : ¬ F1 D := fun z => r1.fdm D z hD
  refine lc2_loop hT hC hts hI1 hT1 hC1 hts1 hE hin S (F0 := F1) (H0 := H1) (acc0 := []) (fun j hj s hs => wipeE_in hj hs) h3 h4 ((Nst.new hD).pst rw1) hD ⟨upd_same, nF, nO rw1, IsL.nil⟩ (fun F' H' e p => keep_in keep h2 p) fun F' H' acc p ld => ?_
  have pr : Pst X.K F1 H1 env1 σ F' H' (restE env2 env1 vs) σ := p.rested r1
  have pu := lks _ _ _ _ _ _ _ pr
  refine q (.ref D) F' H' (p0.trans pu) ⟨D, rfl, ld.nF, acc, ld.at_, ld.is⟩ fun d _ a ea => ?_
  cases ea
  refine ⟨none_back p0 hD, rest_out ?_ (nO r1) ld.nO⟩
  have := p.rel.len
  rw [wipe_length, ← r1.len] at this
  exact this
end
end VI
/-! VI15: and, or, not; what is walked. -/
namespace VI
open PySem PySem.Spec L2
section
variable {X : Cx} {F : FS} {H : Hp} {env env0 env1 env2 : En} {σ : Slots}

/-! ### what is walked -/
theorem rd_lock {o y : Op} : rd (lockS env o).1 y = rd env y := by
  cases o with
  | v d => rfl
  | nw d => rfl
  | p i =>
    simp only [lockS]
    split
    · rename_i io d q
      cases y with
      | v d => rfl
      | nw d => rfl
      | p j =>
        by_cases e : i = j
        · subst e
          simp only [rd, List.getElem?_set_self (lt_of_get q), q]
        · simp only [rd, List.getElem?_set_ne e]
    · rfl
    · rfl
theorem si_seq {tg p : Expr} {fb : En → Option (Op × En)} {f : En → Option (List D × List (Nat × Bool) × En)} (hb : SB X p fb)
    (hf : ∀ env items lk env', f env = some (items, lk, env') → ∃ o env1 d, fb env = some (o, env1) ∧ rd env1 o = some d ∧ itemsOf d = some items ∧ lockS env1 o = (env', lk)) : SI X tg p f := by
  intro env items lk env2 e σ F H R r k
  obtain ⟨o, env1, d, h1, h2, h3, h4⟩ := hf env items lk env2 e
  have e2 : env2 = (lockS env1 o).1 := by rw [h4]
  have e3 : lk = (lockS env1 o).2 := by rw [h4]
  subst e2 e3
  obtain ⟨rl, ls⟩ := lks_of (σ := σ) (env0 := env1) o
  cases d with
  | lst xs =>
    cases h3
    refine WI.of (pi_list (pE X p)) (hb env o env1 h1 σ F H _ r fun v F1 H1 p1 r1 n1 => ?_)
    have hs := rd_has p1.rel r1 h2
    obtain ⟨a, vs, rfl, h5, h6⟩ := hs.lst
    exact ⟨a, rfl, ⟨vs, .of h5⟩, k _ F1 H1 env1 _ p1 rl ls src_list hs (lock_keep p1.rel r1 n1 h2 (fun _ _ _ z => z) fun _ z => z)⟩
  | tup xs =>
    cases h3
    refine WI.of (pi_tup (pE X p)) (hb env o env1 h1 σ F H _ r fun v F1 H1 p1 r1 n1 => ?_)
    have hs := rd_has p1.rel r1 h2
    obtain ⟨a, vs, rfl, h5, h6⟩ := hs.tup
    exact ⟨a, rfl, ⟨vs, h5⟩, k _ F1 H1 env1 _ p1 rl ls src_tup hs (lock_keep p1.rel r1 n1 h2 (fun _ _ _ z => z) fun _ z => z)⟩
  | scr ns =>
    cases h3
    refine WI.of (pi_list (pE X p)) (hb env o env1 h1 σ F H _ r fun v F1 H1 p1 r1 n1 => ?_)
    have hs := rd_has p1.rel r1 h2
    obtain ⟨a, rfl, h5⟩ := hs.scr
    exact ⟨a, rfl, ⟨_, h5⟩, k _ F1 H1 env1 _ p1 rl ls src_scr hs (lock_keep p1.rel r1 n1 h2 (fun _ _ _ z => z) fun _ z => z)⟩
  | _ => cases h3
theorem src_enumS {ns : List Int} {a : Addr} {K : PySem.W.Frag} : Src K (Ite K a) (enumD 0 (ns.map .int)) (fun F H => Has K F H (.scr ns) (.ref a)) where
  go := fun i F H p h => by
    rw [enum_len] at h
    obtain ⟨b, e, h1⟩ := p.scr
    cases e
    obtain ⟨v, e1, _⟩ := (IsL.of_ints (K := K) (F := F) (H := H) ns).get (List.getElem?_eq_getElem h)
    exact ⟨_, v, h1, e1⟩
  yld := fun i F H x H' p fd y d hd => by
    obtain ⟨b, e, h1⟩ := p.scr
    cases e
    obtain ⟨T, w, rfl, hT, rfl, y⟩ := y
    obtain ⟨z, k1, rfl⟩ := enum_get hd
    obtain ⟨v, e1, e2⟩ := (IsL.of_ints (K := K) (F := F) (H := H) ns).get k1
    have := y _ h1
    rw [e1] at this; cases this
    exact is_pair hT fd (by simp [Is]) e2
  stop := fun i F H p h0 => have h := Nat.le_of_eq h0; by
    rw [enum_len] at h
    obtain ⟨b, e, h1⟩ := p.scr
    cases e
    exact ⟨_, h1, by simpa using h⟩
theorem src_enumT {K : PySem.W.Frag} {xs : List D} {a : Addr} : Src K (VIE.Itet K a) (enumD 0 xs) (fun F H => Has K F H (.tup xs) (.ref a)) where
  go := fun i F H p h => by
    rw [enum_len] at h
    obtain ⟨b, vs, e, h1, i1⟩ := p.tup
    cases e
    obtain ⟨v, e1, _⟩ := i1.get (List.getElem?_eq_getElem h)
    exact ⟨vs, v, h1, e1⟩
  yld := fun i F H x H' p fd y d hd => by
    obtain ⟨b, vs, e, h1, i1⟩ := p.tup
    cases e
    obtain ⟨T, w, rfl, hT, rfl, y⟩ := y
    obtain ⟨z, k1, rfl⟩ := enum_get hd
    obtain ⟨v, e1, e2⟩ := i1.get k1
    have := y vs h1
    rw [e1] at this; cases this
    exact is_pair hT fd (by simp [Is]) e2
  stop := fun i F H p h0 => have h := Nat.le_of_eq h0; by
    rw [enum_len] at h
    obtain ⟨b, vs, e, h1, i1⟩ := p.tup
    cases e
    exact ⟨vs, h1, by rw [← i1.length]; exact h⟩
theorem si_enum {Γ : Gm} {cl : CallF} {N : List Str} {sc : Scope} (g : Gd Γ cl N sc X) {p : Expr} {x : Str} {elts : List Expr} {kk : Nat} {tpos pp pos : Pos} {fb : En → Option (Op × En)} {f : En → Option (List D × List (Nat × Bool) × En)} (hx : x = "enumerate") (hg : freeB Γ sc x = true) (hh : headOk p = true) (hb : SB X p fb)
    (hf : ∀ env items lk env', f env = some (items, lk, env') → ∃ o env1 d xs, fb env = some (o, env1) ∧ rd env1 o = some d ∧ itemsOf d = some xs ∧ items = enumD 0 xs ∧ lockS env1 o = (env', lk)) : SI X (.Tuple elts kk tpos) (.Call (.Name x pp) [p] [] pos) f := by
  intro env items lk env2 e σ F H R r k
  obtain ⟨o, env1, d, xs, h1, h2, h3, rfl, h4⟩ := hf env items lk env2 e
  subst hx
  obtain ⟨G, _, _, M⟩ := free_of g hg
  have e2 : env2 = (lockS env1 o).1 := by rw [h4]
  have e3 : lk = (lockS env1 o).2 := by rw [h4]
  subst e2 e3
  obtain ⟨rl, ls⟩ := lks_of (σ := σ) (env0 := env1) o
  have pa : ∀ {R : List V → Hp → Prop}, WE X p σ H (fun v H1 => R [v] H1) → WA X [p] σ H R := fun h => WA.of (pa_cons (pE X p) pa_nil (starEach_of hh)) h
  have st : starEach [p] X.env = [(false, eval p X.env)] := starEach_of hh
  cases d with
  | lst xs =>
    cases h3
    refine WI.of (pi_enum G M (pA X [p]) st) (pa (hb env o env1 h1 σ F H _ r fun v F1 H1 p1 r1 n1 => ?_))
    have hs := rd_has p1.rel r1 h2
    obtain ⟨a, vs, rfl, h5, h6⟩ := hs.lst
    exact ⟨a, vs, rfl, .of h5, k _ F1 H1 env1 _ p1 rl ls src_enum hs (lock_keep p1.rel r1 n1 h2 (fun _ _ _ z => z) fun _ z => z)⟩
  | tup xs =>
    cases h3
    refine WI.of (VIE.pi_enumT G M (pA X [p]) st) (pa (hb env o env1 h1 σ F H _ r fun v F1 H1 p1 r1 n1 => ?_))
    have hs := rd_has p1.rel r1 h2
    obtain ⟨a, vs, rfl, h5, h6⟩ := hs.tup
    exact ⟨a, vs, rfl, h5, k _ F1 H1 env1 _ p1 rl ls src_enumT hs (lock_keep p1.rel r1 n1 h2 (fun _ _ _ z => z) fun _ z => z)⟩
  | scr ns =>
    cases h3
    refine WI.of (pi_enum G M (pA X [p]) st) (pa (hb env o env1 h1 σ F H _ r fun v F1 H1 p1 r1 n1 => ?_))
    have hs := rd_has p1.rel r1 h2
    obtain ⟨a, rfl, h5⟩ := hs.scr
    exact ⟨a, _, rfl, h5, k _ F1 H1 env1 _ p1 rl ls src_enumS hs (lock_keep p1.rel r1 n1 h2 (fun _ _ _ z => z) fun _ z => z)⟩
  | _ => cases h3
theorem si_rng1 {Γ : Gm} {cl : CallF} {N : List Str} {sc : Scope} (g : Gd Γ cl N sc X) {tg p : Expr} {x : Str} {pp pos : Pos} {fb : En → Option (Op × En)} {f : En → Option (List D × List (Nat × Bool) × En)} (hx : x = "range") (hg : freeB Γ sc x = true) (hh : headOk p = true) (hb : SB X p fb)
    (hf : ∀ env items lk env', f env = some (items, lk, env') → ∃ o j, fb env = some (o, env') ∧ rd env' o = some (.int j) ∧ rngS 0 j = some items ∧ lk = []) : SI X tg (.Call (.Name x pp) [p] [] pos) f := by
  intro env items lk env1 e σ F H R r k
  obtain ⟨o, j, h1, h2, h3, rfl⟩ := hf env items lk env1 e
  subst hx
  obtain ⟨G, _, _, M⟩ := free_of g hg
  have st : starEach [p] X.env = [(false, eval p X.env)] := starEach_of hh
  refine WI.of (pi_range1 G M (pA X [p]) st) (WA.of (pa_cons (pE X p) pa_nil (starEach_of hh)) (hb env o env1 h1 σ F H _ r fun v F1 H1 p1 r1 n1 => ?_))
  have e1 := (rd_has p1.rel r1 h2).int
  subst e1
  unfold rngS at h3
  split at h3
  · rename_i q
    cases h3
    refine ⟨j, rfl, q.2.2.1, q.2.2.2, k _ F1 H1 env1 (fun _ _ => True) p1 .refl (fun K F1 H1 F2 H2 e σ2 p => p) ?_ trivial fun _ _ _ _ _ => trivial⟩
    have : (j - 0).toNat = j.toNat := by rw [Int.sub_zero]
    rw [this]
    exact src_rng
  · cases h3
theorem si_rng2 {Γ : Gm} {cl : CallF} {N : List Str} {sc : Scope} (g : Gd Γ cl N sc X) {tg p p2 : Expr} {x : Str} {pp pos : Pos} {fa fb : En → Option (Op × En)} {f : En → Option (List D × List (Nat × Bool) × En)} (hx : x = "range") (hg : freeB Γ sc x = true) (hh : headOk p = true) (hh2 : headOk p2 = true) (ha : SB X p fa) (hb : SB X p2 fb)
    (hf : ∀ env items lk env', f env = some (items, lk, env') → ∃ o i env1 u j, fa env = some (o, env1) ∧ fb env1 = some (u, env') ∧ rd env' o = some (.int i) ∧ rd env' u = some (.int j) ∧ rngS i j = some items ∧ lk = []) : SI X tg (.Call (.Name x pp) [p, p2] [] pos) f := by
  intro env items lk env2 e σ F H R r k
  obtain ⟨o, i, env1, u, j, h1, h2, h3, h4, h5, rfl⟩ := hf env items lk env2 e
  subst hx
  obtain ⟨G, _, _, M⟩ := free_of g hg
  have st : starEach [p, p2] X.env = [(false, eval p X.env), (false, eval p2 X.env)] := by rw [starEach_of hh, starEach_of hh2]; rfl
  have st2 : starEach [p2] X.env = [(false, eval p2 X.env)] := starEach_of hh2
  refine WI.of (pi_range2 G M (pA X [p, p2]) st st2) (WA.of (pa_cons (pE X p) (pa_cons (pE X p2) pa_nil (starEach_of hh2)) (starEach_of hh)) (two_ops ha hb h1 h2 r fun v w F2 H2 p r1 r2 _ _ => ?_))
  have e1 := (rd_has p.rel r1 h3).int
  subst e1
  have e1 := (rd_has p.rel r2 h4).int
  subst e1
  unfold rngS at h5
  split at h5
  · rename_i q
    cases h5
    exact ⟨i, j, rfl, q, k _ F2 H2 env2 (fun _ _ => True) p .refl (fun K F1 H1 F2 H2 e σ2 p => p) src_rng trivial fun _ _ _ _ _ => trivial⟩
  · cases h5
theorem si_zip {Γ : Gm} {cl : CallF} {N : List Str} {sc : Scope} (g : Gd Γ cl N sc X) {p p2 : Expr} {x : Str} {elts : List Expr} {kk : Nat} {tpos pp pos : Pos} {fa fb : En → Option (Op × En)} {f : En → Option (List D × List (Nat × Bool) × En)} (hx : x = "zip") (hg : freeB Γ sc x = true) (hh : headOk p = true) (hh2 : headOk p2 = true) (ha : SB X p fa) (hb : SB X p2 fb)
    (hf : ∀ env items lk env', f env = some (items, lk, env') → ∃ o env1 u env2 d e, fa env = some (o, env1) ∧ fb env1 = some (u, env2) ∧ rd env2 o = some d ∧ rd env2 u = some e ∧ zipS d e = some items ∧ lockS (lockS env2 o).1 u = (env', (lockS (lockS env2 o).1 u).2) ∧ lk = (lockS (lockS env2 o).1 u).2 ++ (lockS env2 o).2) : SI X (.Tuple elts kk tpos) (.Call (.Name x pp) [p, p2] [] pos) f := by
  intro env items lk env3 e σ F H R r k
  obtain ⟨o, env1, u, env2, d, d2, h1, h2, h3, h4, h5, h6, rfl⟩ := hf env items lk env3 e
  subst hx
  obtain ⟨G, _, _, M⟩ := free_of g hg
  have e2 : env3 = (lockS (lockS env2 o).1 u).1 := by rw [h6]
  subst e2
  obtain ⟨rl, ls⟩ := lks_of (σ := σ) (env0 := env2) o
  obtain ⟨rl1, ls1⟩ := lks_of (σ := σ) (env0 := (lockS env2 o).1) u
  have st : starEach [p, p2] X.env = (false, eval p X.env) :: starEach [p2] X.env := starEach_of hh
  have st2 : (backTo pos (starEach [p2] X.env)).any (·.1) = false := by rw [starEach_of hh2]; rfl
  refine WI.of (RZ.pi_zipA G M (pA X [p, p2]) st st2) (WA.of (pa_cons (pE X p) (pa_cons (pE X p2) pa_nil (starEach_of hh2)) (starEach_of hh)) (two_ops ha hb h1 h2 r fun v w F2 H2 p r1 r2 n1 n2 => ?_))
  have hs1 := rd_has p.rel r1 h3
  have hs2 := rd_has p.rel r2 h4
  have kp : Keep X.K F2 H2 (lockS (lockS env2 o).1 u).1 σ ((lockS (lockS env2 o).1 u).2 ++ (lockS env2 o).2) (fun F H => Has X.K F H d v ∧ Has X.K F H d2 w) := fun F3 H3 a b c =>
    ⟨lock_keep p.rel r1 n1 h3 (fun i io d z => lock_lk z) (fun z hz => List.mem_append_right _ hz) F3 H3 a b c, lock_keep (rl.rel p.rel) r2 n2 (by rw [rd_lock]; exact h4) (fun _ _ _ z => z) (fun z hz => List.mem_append_left _ hz) F3 H3 a b c⟩
  unfold zipS at h5
  split at h5
  · cases h5
    obtain ⟨a, vs, rfl, g1, g2⟩ := hs1.lst
    obtain ⟨b, ws, rfl, g3, g4⟩ := hs2.lst
    exact ⟨a, b, vs, ws, rfl, .inl ⟨.of g1, .of g3, k _ F2 H2 env2 _ p (rl.trans rl1) (ls.trans ls1) src_zip ⟨hs1, hs2⟩ kp⟩⟩
  · cases h5
    obtain ⟨a, vs, rfl, g1, g2⟩ := hs1.tup
    obtain ⟨b, ws, rfl, g3, g4⟩ := hs2.tup
    exact ⟨a, b, vs, ws, rfl, .inr ⟨g1, g3, k _ F2 H2 env2 _ p (rl.trans rl1) (ls.trans ls1) src_zipT ⟨hs1, hs2⟩ kp⟩⟩
  · cases h5

def HasQ (b : Bool) (K : PySem.W.Frag) (F : FS) (H : Hp) (xs : List D) (v : V) : Prop := Has K F H (if b then .tup xs else .lst xs) v
theorem hasQ_of {b : Bool} {K : PySem.W.Frag} {F : FS} {H : Hp} {xs : List D} {v : V} (h : HasQ b K F H xs v) : ∃ (a : Addr) (vs : List V), v = .ref a ∧ VIZ.Sq b K H a vs ∧ IsL K F H xs vs := by
  cases b with
  | true =>
    obtain ⟨a, vs, e, h1, h2⟩ := Has.tup (show Has K F H (.tup xs) v from h)
    exact ⟨a, vs, e, h1, h2⟩
  | false =>
    obtain ⟨a, vs, e, h1, h2⟩ := Has.lst (show Has K F H (.lst xs) v from h)
    exact ⟨a, vs, e, .of h1, h2⟩
theorem zip3_get : ∀ {xs ys zs : List D} {i : Nat} {d : D}, (zip3D xs ys zs)[i]? = some d → ∃ x y z, xs[i]? = some x ∧ ys[i]? = some y ∧ zs[i]? = some z ∧ d = .tup [x, y, z]
  | [], _, _, _, _, h => by simp [zip3D] at h
  | _ :: _, [], _, _, _, h => by simp [zip3D] at h
  | _ :: _, _ :: _, [], _, _, h => by simp [zip3D] at h
  | x :: xs, y :: ys, z :: zs, 0, d, h => by simp [zip3D] at h; subst h; exact ⟨x, y, z, rfl, rfl, rfl, rfl⟩
  | x :: xs, y :: ys, z :: zs, i + 1, d, h => by
    obtain ⟨u, w, v, h1, h2, h3, h4⟩ := zip3_get (xs := xs) (ys := ys) (zs := zs) (i := i) (d := d) (by simpa [zip3D] using h)
    exact ⟨u, w, v, by simpa using h1, by simpa using h2, by simpa using h3, h4⟩
theorem zip3_len : ∀ (xs ys zs : List D), (zip3D xs ys zs).length = min xs.length (min ys.length zs.length)
  | [], _, _ => by simp [zip3D]
  | _ :: _, [], _ => by simp [zip3D]
  | _ :: _, _ :: _, [] => by simp [zip3D]
  | x :: xs, y :: ys, z :: zs => by simp only [zip3D, List.length_cons, zip3_len xs ys zs]; omega
theorem src_zip3 {K : PySem.W.Frag} {b : Bool} {xs ys zs : List D} {a1 a2 a3 : Addr} : Src K (VIZ.It3 b K a1 a2 a3) (zip3D xs ys zs) (fun F H => HasQ b K F H xs (.ref a1) ∧ HasQ b K F H ys (.ref a2) ∧ HasQ b K F H zs (.ref a3)) where
  go := fun i F H p h => by
    rw [zip3_len] at h
    obtain ⟨_, us, e, h1, i1⟩ := hasQ_of p.1
    cases e
    obtain ⟨_, vs, e, h2, i2⟩ := hasQ_of p.2.1
    cases e
    obtain ⟨_, ws, e, h3, i3⟩ := hasQ_of p.2.2
    cases e
    obtain ⟨u, e1, _⟩ := i1.get (List.getElem?_eq_getElem (show i < xs.length by omega))
    obtain ⟨v, e2, _⟩ := i2.get (List.getElem?_eq_getElem (show i < ys.length by omega))
    obtain ⟨w, e3, _⟩ := i3.get (List.getElem?_eq_getElem (show i < zs.length by omega))
    exact ⟨us, vs, ws, u, v, w, h1, h2, h3, e1, e2, e3⟩
  yld := fun i F H x H' p fd y d hd => by
    obtain ⟨_, us, e, h1, i1⟩ := hasQ_of p.1
    cases e
    obtain ⟨_, vs, e, h2, i2⟩ := hasQ_of p.2.1
    cases e
    obtain ⟨_, ws, e, h3, i3⟩ := hasQ_of p.2.2
    cases e
    obtain ⟨T, w, w', w'', rfl, hT, rfl, y, y', y''⟩ := y
    obtain ⟨u, z, z', k1, k2, k3, rfl⟩ := zip3_get hd
    obtain ⟨v1, e1, e2⟩ := i1.get k1
    obtain ⟨v2, e3, e4⟩ := i2.get k2
    obtain ⟨v3, e5, e6⟩ := i3.get k3
    have := y us h1
    rw [e1] at this; cases this
    have := y' vs h2
    rw [e3] at this; cases this
    have := y'' ws h3
    rw [e5] at this; cases this
    exact is_trip hT fd e2 e4 e6
  stop := fun i F H p h => by
    rw [zip3_len] at h
    obtain ⟨_, us, e, h1, i1⟩ := hasQ_of p.1
    cases e
    obtain ⟨_, vs, e, h2, i2⟩ := hasQ_of p.2.1
    cases e
    obtain ⟨_, ws, e, h3, i3⟩ := hasQ_of p.2.2
    cases e
    have l1 := i1.length
    have l2 := i2.length
    have l3 := i3.length
    exact ⟨us, vs, ws, h1, h2, h3, by omega, by omega, by omega, by omega⟩
theorem si_zip3 {Γ : Gm} {cl : CallF} {N : List Str} {sc : Scope} (g : Gd Γ cl N sc X) {p p2 p3 : Expr} {x : Str} {elts : List Expr} {kk : Nat} {tpos pp pos : Pos} {fa fb fc : En → Option (Op × En)} {f : En → Option (List D × List (Nat × Bool) × En)} (hx : x = "zip") (hg : freeB Γ sc x = true) (hh : headOk p = true) (hh2 : headOk p2 = true) (hh3 : headOk p3 = true) (ha : SB X p fa) (hb : SB X p2 fb) (hc : SB X p3 fc)
    (hf : ∀ env items lk env', f env = some (items, lk, env') → ∃ o env1 u env2 o3 env3 d e c, fa env = some (o, env1) ∧ fb env1 = some (u, env2) ∧ fc env2 = some (o3, env3) ∧ rd env3 o = some d ∧ rd env3 u = some e ∧ rd env3 o3 = some c ∧ zip3S d e c = some items ∧ env' = (lockS (lockS (lockS env3 o).1 u).1 o3).1 ∧ lk = (lockS (lockS (lockS env3 o).1 u).1 o3).2 ++ ((lockS (lockS env3 o).1 u).2 ++ (lockS env3 o).2)) : SI X (.Tuple elts kk tpos) (.Call (.Name x pp) [p, p2, p3] [] pos) f := by
  intro env items lk envZ e σ F H R r k
  obtain ⟨o, env1, u, env2, o3, env3, d, d2, d3, h1, h2, h2', h3, h4, h4', h5, rfl, rfl⟩ := hf env items lk envZ e
  subst hx
  obtain ⟨G, _, _, M⟩ := free_of g hg
  obtain ⟨rl, ls⟩ := lks_of (σ := σ) (env0 := env3) o
  obtain ⟨rl1, ls1⟩ := lks_of (σ := σ) (env0 := (lockS env3 o).1) u
  obtain ⟨rl2, ls2⟩ := lks_of (σ := σ) (env0 := (lockS (lockS env3 o).1 u).1) o3
  have st : starEach [p, p2, p3] X.env = (false, eval p X.env) :: starEach [p2, p3] X.env := starEach_of hh
  have st1 : starEach [p2, p3] X.env = (false, eval p2 X.env) :: starEach [p3] X.env := starEach_of hh2
  have st2 : (backTo pos (starEach [p2, p3] X.env)).any (·.1) = false := by rw [st1, starEach_of hh3]; rfl
  refine WI.of (VIZ.pi_zip3 G M (pA X [p, p2, p3]) st st2) (WA.of (pa_cons (pE X p) (pa_cons (pE X p2) (pa_cons (pE X p3) pa_nil (starEach_of hh3)) st1) st) ?_)
  refine ha env o env1 h1 σ F H _ r fun v F1 H1 p1 r1 n1 => hb env1 u env2 h2 σ F1 H1 _ p1.rel fun w F2 H2 p2 r2 n2 => hc env2 o3 env3 h2' σ F2 H2 _ p2.rel fun z F3 H3 p3 r3 n3 => ?_
  have q := (p1.trans p2).trans p3
  have hs1 := rd_has q.rel ((r1.stay n1 p2.st).stay n1 p3.st) h3
  have hs2 := rd_has q.rel (r2.stay n2 p3.st) h4
  have hs3 := rd_has q.rel r3 h4'
  have kp : Keep X.K F3 H3 (lockS (lockS (lockS env3 o).1 u).1 o3).1 σ ((lockS (lockS (lockS env3 o).1 u).1 o3).2 ++ ((lockS (lockS env3 o).1 u).2 ++ (lockS env3 o).2)) (fun F H => Has X.K F H d v ∧ Has X.K F H d2 w ∧ Has X.K F H d3 z) := fun F4 H4 a b c =>
    ⟨lock_keep q.rel ((r1.stay n1 p2.st).stay n1 p3.st) n1 h3 (fun i io d z => lock_lk (lock_lk z)) (fun z hz => List.mem_append_right _ (List.mem_append_right _ hz)) F4 H4 a b c,
      lock_keep (rl.rel q.rel) (r2.stay n2 p3.st) n2 (by rw [rd_lock]; exact h4) (fun i io d z => lock_lk z) (fun z hz => List.mem_append_right _ (List.mem_append_left _ hz)) F4 H4 a b c,
      lock_keep (rl1.rel (rl.rel q.rel)) r3 n3 (by rw [rd_lock, rd_lock]; exact h4') (fun _ _ _ z => z) (fun z hz => List.mem_append_left _ hz) F4 H4 a b c⟩
  have go : ∀ (b : Bool) (xs ys zs : List D), d = (if b then .tup xs else .lst xs) → d2 = (if b then .tup ys else .lst ys) → d3 = (if b then .tup zs else .lst zs) → items = zip3D xs ys zs → ∃ (b : Bool) (a1 a2 a3 : Addr) (xs ys zs : List V), [v, w, z] = [.ref a1, .ref a2, .ref a3] ∧ VIZ.Sq b X.K H3 a1 xs ∧ VIZ.Sq b X.K H3 a2 ys ∧ VIZ.Sq b X.K H3 a3 zs ∧ R (VIZ.It3 b X.K a1 a2 a3) H3 := by
    intro b xs ys zs e1 e2 e3 e4
    subst e1 e2 e3 e4
    obtain ⟨a1, us, rfl, g1, g2⟩ := hasQ_of (b := b) hs1
    obtain ⟨a2, vs, rfl, g3, g4⟩ := hasQ_of (b := b) hs2
    obtain ⟨a3, ws, rfl, g5, g6⟩ := hasQ_of (b := b) hs3
    exact ⟨b, a1, a2, a3, us, vs, ws, rfl, g1, g3, g5, k _ F3 H3 env3 _ q (rl.trans (rl1.trans rl2)) ((ls.trans ls1).trans ls2) src_zip3 ⟨hs1, hs2, hs3⟩ kp⟩
  unfold zip3S at h5
  split at h5
  · cases h5; exact go false _ _ _ rfl rfl rfl rfl
  · cases h5; exact go true _ _ _ rfl rfl rfl rfl
  · cases h5

/-! ### and, or, not -/
theorem QE.from {F1 : FS} {H1 : Hp} {o : Op} {Q : VK} (p1 : Pst X.K F H env σ F1 H1 env1 σ) (q : QE X.K F H env σ o env2 Q) : QE X.K F1 H1 env1 σ o env2 Q := fun v F2 H2 p2 r2 n2 => q v F2 H2 (p1.trans p2) r2 fun d ed a ea => by
  obtain ⟨z1, z2⟩ := n2 d ed a ea
  exact ⟨none_back p1 z1, z2⟩
theorem s_one {op : BoolOp} {p : Expr} {pos : Pos} {f : En → Option (Op × En)} (h : SE X p f) : SE X (.BoolOp op [p] pos) f := fun env o env' e σ F H Q r q => WE.of (pe_one (pE X p)) (h env o env' e σ F H Q r q)
theorem s_and {p b : Expr} {rest : List Expr} {pos : Pos} {fb fs f : En → Option (Op × En)} (hb : SB X p fb) (hs : SE X (.BoolOp .And (b :: rest) pos) fs)
    (hf : ∀ env o env', f env = some (o, env') → ∃ x env1 k, fb env = some (x, env1) ∧ rd env1 x = some (.bl k) ∧ ((k = true ∧ fs env1 = some (o, env')) ∨ (k = false ∧ o = .v (.bl false) ∧ env' = env1))) : SE X (.BoolOp .And (p :: b :: rest) pos) f := by
  intro env o env2 e σ F H Q r q
  obtain ⟨x, env1, k, h1, h2, h3⟩ := hf env o env2 e
  refine WE.of (pe_and (pE X p) (pE X (.BoolOp .And (b :: rest) pos))) (hb env x env1 h1 σ F H _ r fun v F1 H1 p1 r1 n1 => ?_)
  have e1 := (rd_has p1.rel r1 h2).bl
  subst e1
  refine ⟨k, rfl, ?_⟩
  rcases h3 with ⟨rfl, h3⟩ | ⟨rfl, rfl, rfl⟩
  · exact iteT (hs env1 o env2 h3 σ F1 H1 Q p1.rel (q.from p1))
  · exact iteF (q _ F1 H1 p1 (by simp [RelOp, Is]) fun d ed => by cases ed)
theorem s_or {p b : Expr} {rest : List Expr} {pos : Pos} {fb fs f : En → Option (Op × En)} (hb : SB X p fb) (hs : SE X (.BoolOp .Or (b :: rest) pos) fs)
    (hf : ∀ env o env', f env = some (o, env') → ∃ x env1 k, fb env = some (x, env1) ∧ rd env1 x = some (.bl k) ∧ ((k = false ∧ fs env1 = some (o, env')) ∨ (k = true ∧ o = .v (.bl true) ∧ env' = env1))) : SE X (.BoolOp .Or (p :: b :: rest) pos) f := by
  intro env o env2 e σ F H Q r q
  obtain ⟨x, env1, k, h1, h2, h3⟩ := hf env o env2 e
  refine WE.of (pe_or (pE X p) (pE X (.BoolOp .Or (b :: rest) pos))) (hb env x env1 h1 σ F H _ r fun v F1 H1 p1 r1 n1 => ?_)
  have e1 := (rd_has p1.rel r1 h2).bl
  subst e1
  refine ⟨k, rfl, ?_⟩
  rcases h3 with ⟨rfl, h3⟩ | ⟨rfl, rfl, rfl⟩
  · exact iteF (hs env1 o env2 h3 σ F1 H1 Q p1.rel (q.from p1))
  · exact iteT (q _ F1 H1 p1 (by simp [RelOp, Is]) fun d ed => by cases ed)
theorem SCw.c {p : Expr} {f : En → Option (Bool × En)} (h : SCw X p f) : SC X p f := fun env b env' e σ F H Q r q => (h env b env' e σ F H Q r q).wt
theorem c_and1 {p : Expr} {pos : Pos} {f : En → Option (Bool × En)} (h : SC X p f) : SCw X (.BoolOp .And [p] pos) f := fun env b env' e σ F H Q r q => WW.of (pw_and1 (pT X p)) (h env b env' e σ F H Q r q)
theorem c_or1 {p : Expr} {pos : Pos} {f : En → Option (Bool × En)} (h : SC X p f) : SCw X (.BoolOp .Or [p] pos) f := fun env b env' e σ F H Q r q => WW.of (pw_or1 (pT X p)) (h env b env' e σ F H Q r q)
theorem c_and {p b : Expr} {rest : List Expr} {pos : Pos} {fb fs f : En → Option (Bool × En)} (hb : SC X p fb) (hs : SCw X (.BoolOp .And (b :: rest) pos) fs)
    (hf : ∀ env o env', f env = some (o, env') → ∃ k env1, fb env = some (k, env1) ∧ ((k = true ∧ fs env1 = some (o, env')) ∨ (k = false ∧ o = false ∧ env' = env1))) : SCw X (.BoolOp .And (p :: b :: rest) pos) f := by
  intro env o env2 e σ F H Q r q
  obtain ⟨k, env1, h1, h3⟩ := hf env o env2 e
  refine WW.of (pw_and (pT X p) (pW X (.BoolOp .And (b :: rest) pos))) (hb env k env1 h1 σ F H _ r fun F1 H1 p1 => ?_)
  rcases h3 with ⟨rfl, h3⟩ | ⟨rfl, rfl, rfl⟩
  · exact iteT (hs env1 o env2 h3 σ F1 H1 Q p1.rel fun F2 H2 p2 => q F2 H2 (p1.trans p2))
  · exact iteF (q F1 H1 p1)
theorem c_or {p b : Expr} {rest : List Expr} {pos : Pos} {fb fs f : En → Option (Bool × En)} (hb : SC X p fb) (hs : SCw X (.BoolOp .Or (b :: rest) pos) fs)
    (hf : ∀ env o env', f env = some (o, env') → ∃ k env1, fb env = some (k, env1) ∧ ((k = false ∧ fs env1 = some (o, env')) ∨ (k = true ∧ o = true ∧ env' = env1))) : SCw X (.BoolOp .Or (p :: b :: rest) pos) f := by
  intro env o env2 e σ F H Q r q
  obtain ⟨k, env1, h1, h3⟩ := hf env o env2 e
  refine WW.of (pw_or (pT X p) (pW X (.BoolOp .Or (b :: rest) pos))) (hb env k env1 h1 σ F H _ r fun F1 H1 p1 => ?_)
  rcases h3 with ⟨rfl, h3⟩ | ⟨rfl, rfl, rfl⟩
  · exact iteF (hs env1 o env2 h3 σ F1 H1 Q p1.rel fun F2 H2 p2 => q F2 H2 (p1.trans p2))
  · exact iteT (q F1 H1 p1)
theorem c_not {p : Expr} {pos : Pos} {fb f : En → Option (Bool × En)} (hb : SC X p fb) (hf : ∀ env o env', f env = some (o, env') → ∃ k, fb env = some (k, env') ∧ o = !k) : SC X (.UnaryOp .Not p pos) f := by
  intro env o env1 e σ F H Q r q
  obtain ⟨k, h1, rfl⟩ := hf env o env1 e
  exact WT.of (pt_not (pT X p)) (hb env k env1 h1 σ F H _ r fun F1 H1 p1 => q F1 H1 p1)
theorem c_val {p : Expr} {fb : En → Option (Op × En)} {f : En → Option (Bool × En)} (hp : plainT p = true) (hb : SB X p fb) (hf : ∀ env o env', f env = some (o, env') → ∃ x, fb env = some (x, env') ∧ rd env' x = some (.bl o)) : SC X p f := by
  intro env o env1 e σ F H Q r q
  obtain ⟨x, h1, h2⟩ := hf env o env1 e
  refine WT.of (pt_val (pE X p) (by cases p <;> first | (intro _; rfl) | cases hp)) (hb env x env1 h1 σ F H _ r fun v F1 H1 p1 r1 n1 => ?_)
  have e1 := (rd_has p1.rel r1 h2).bl
  subst e1
  exact ⟨o, rfl, q F1 H1 p1⟩
theorem pt_ifx {c a b : Expr} {pos : Pos} {tc ta tb : TT} (hc : PT X c tc) (ha : PT X a ta) (hb : PT X b tb) : PT X (.IfExp c a b pos) (fun σ H Q => tc σ H fun k H1 => if k = true then ta σ H1 Q else tb σ H1 Q) := by
  refine ⟨fun pins s σ H Q I hw => ?_⟩
  show wpAny _ _ (isTrue c X.env (eval c X.env) >>= fun k => if k = true then isTrue a X.env (eval a X.env) else isTrue b X.env (eval b X.env)) _ _ s
  refine PySem.wpAny_bind (thn (hc.run pins s σ H _ I hw) fun k s1 ⟨H1, I1, q1⟩ => ?_)
  cases k with
  | true => exact ha.run pins s1 σ H1 Q I1 q1
  | false => exact hb.run pins s1 σ H1 Q I1 q1
/-- a test of the form a if c else b -/
theorem c_ifx {pc pa pb : Expr} {pos : Pos} {fc f : En → Option (Bool × En)} {fa fb : En → Option (Op × En)} (h1 : plainT pa = true) (h2 : plainT pb = true) (hc : SC X pc fc) (ha : SB X pa fa) (hb : SB X pb fb)
    (hf : ∀ env o env', f env = some (o, env') → ∃ k env1, fc env = some (k, env1) ∧ ∃ x, (if k = true then fa env1 else fb env1) = some (x, env') ∧ rd env' x = some (.bl o)) : SC X (.IfExp pc pa pb pos) f := by
  intro env o env' e σ F H Q r q
  obtain ⟨k, env1, e1, x, e2, e3⟩ := hf env o env' e
  refine WT.of (pt_ifx (pT X pc) (pt_val (pE X pa) (by cases pa <;> first | (intro _; rfl) | cases h1)) (pt_val (pE X pb) (by cases pb <;> first | (intro _; rfl) | cases h2))) (hc env k env1 e1 σ F H _ r fun F1 H1 p1 => ?_)
  cases k with
  | true => exact iteT (ha env1 x env' e2 σ F1 H1 _ p1.rel fun v F2 H2 p2 r2 n2 => by
      have e4 := (rd_has p2.rel r2 e3).bl
      subst e4
      exact ⟨o, rfl, q F2 H2 (p1.trans p2)⟩)
  | false => exact iteF (hb env1 x env' e2 σ F1 H1 _ p1.rel fun v F2 H2 p2 r2 n2 => by
      have e4 := (rd_has p2.rel r2 e3).bl
      subst e4
      exact ⟨o, rfl, q F2 H2 (p1.trans p2)⟩)
theorem c_cmp {op : CmpOp} {a b : Expr} {pos : Pos} {fa fb : En → Option (Op × En)} {f : En → Option (Bool × En)} (hu : X.A.units + 65 < cLine) (hm : headOk b = true) (ha : SB X a fa) (hb : SB X b fb)
    (hf : ∀ env o env', f env = some (o, env') → ∃ x env1 y dx dy, fa env = some (x, env1) ∧ fb env1 = some (y, env') ∧ rd env' x = some dx ∧ rd env' y = some dy ∧ cmpS op dx dy = some o) : SC X (.Compare a [op] [b] pos) f := by
  intro env o env2 e σ F H Q r q
  obtain ⟨x, env1, y, dx, dy, h1, h2, h3, h4, h5⟩ := hf env o env2 e
  exact s_cmpT hu hm ha hb h1 h2 h3 h4 h5 r q
theorem e_cmp {op : CmpOp} {a b : Expr} {pos : Pos} {fa fb f : En → Option (Op × En)} (hu : X.A.units + 65 < cLine) (hm : headOk b = true) (ha : SB X a fa) (hb : SB X b fb)
    (hf : ∀ env o env', f env = some (o, env') → ∃ x env1 y dx dy k, fa env = some (x, env1) ∧ fb env1 = some (y, env') ∧ rd env' x = some dx ∧ rd env' y = some dy ∧ cmpS op dx dy = some k ∧ o = .v (.bl k)) : SE X (.Compare a [op] [b] pos) f := by
  intro env o env2 e σ F H Q r q
  obtain ⟨x, env1, y, dx, dy, k, h1, h2, h3, h4, h5, rfl⟩ := hf env o env2 e
  exact s_cmp hu hm ha hb h1 h2 h3 h4 h5 r fun F1 H1 p => q _ F1 H1 p (by simp [RelOp, Is]) fun d ed => by cases ed

theorem lm_of {op op' : CmpOp} {b c : Expr} (h1 : headOk b = true) (h2 : headOk c = true) : lastMarks [op, op'] [b, c] = false := by
  cases c <;> first | cases h2; done | (cases op' <;> rfl)
theorem e_cmp2 {op op' : CmpOp} {a b c : Expr} {pos : Pos} {fa fb fc f : En → Option (Op × En)} (hu : X.A.units + 65 < cLine) (hm : headOk b = true) (hm2 : headOk c = true) (ha : SB X a fa) (hb : SB X b fb) (hc : SB X c fc)
    (hf : ∀ env o env3, f env = some (o, env3) → ∃ x env1 y env2 dx dy k k', fa env = some (x, env1) ∧ fb env1 = some (y, env2) ∧ rd env2 x = some dx ∧ rd env2 y = some dy ∧ cmpS op dx dy = some k ∧
      ((k = true ∧ ∃ z dy' dz, fc env2 = some (z, env3) ∧ rd env3 y = some dy' ∧ rd env3 z = some dz ∧ cmpS op' dy' dz = some k') ∨ (k = false ∧ k' = false ∧ env3 = env2)) ∧ o = .v (.bl k')) : SE X (.Compare a [op, op'] [b, c] pos) f := by
  intro env o env3 e σ F H Q r q
  obtain ⟨x, env1, y, env2, dx, dy, k, k', h1, h2, h3, h4, h5, h6, rfl⟩ := hf env o env3 e
  exact WE.of (pe_chain (opB _) (opB _) (pE X a) (pE X b) (pE X c) (lm_of hm hm2)) (s_chain hu ha hb hc h1 h2 h3 h4 h5 h6 r fun F1 H1 p => q _ F1 H1 p (by simp [RelOp, Is]) fun d ed => by cases ed)
theorem c_cmp2 {op op' : CmpOp} {a b c : Expr} {pos : Pos} {fa fb fc : En → Option (Op × En)} {f : En → Option (Bool × En)} (hu : X.A.units + 65 < cLine) (hm : headOk b = true) (hm2 : headOk c = true) (ha : SB X a fa) (hb : SB X b fb) (hc : SB X c fc)
    (hf : ∀ env o env3, f env = some (o, env3) → ∃ x env1 y env2 dx dy k k', fa env = some (x, env1) ∧ fb env1 = some (y, env2) ∧ rd env2 x = some dx ∧ rd env2 y = some dy ∧ cmpS op dx dy = some k ∧
      ((k = true ∧ ∃ z dy' dz, fc env2 = some (z, env3) ∧ rd env3 y = some dy' ∧ rd env3 z = some dz ∧ cmpS op' dy' dz = some k') ∨ (k = false ∧ k' = false ∧ env3 = env2)) ∧ o = k') : SC X (.Compare a [op, op'] [b, c] pos) f := by
  intro env o env3 e σ F H Q r q
  obtain ⟨x, env1, y, env2, dx, dy, k, k', h1, h2, h3, h4, h5, h6, rfl⟩ := hf env o env3 e
  exact WT.of (pt_chain (opB _) (opB _) (pE X a) (pE X b) (pE X c) (lm_of hm hm2)) (s_chain hu ha hb hc h1 h2 h3 h4 h5 h6 r fun F1 H1 p => ⟨_, rfl, q F1 H1 p⟩)

/-! ### sorted(set(..)), a default -/
theorem Has.flat {K : PySem.W.Frag} {d : D} {v : V} (hf : flatD d = true) (h : Has K F H d v) : Is K F H d v := by
  rcases h with h | ⟨a, _, h⟩
  · exact h
  · cases d <;> first | (simp [flatD] at hf; done) | (unfold OwnAt at h; exact h.elim)
theorem s_srtset {Γ : Gm} {cl : CallF} {N : List Str} {sc : Scope} (g : Gd Γ cl N sc X) {pa : Expr} {x y : Str} {pp pp2 pos pos2 : Pos} {fa f : En → Option (Op × En)} (hx : x = "sorted") (gx : freeB Γ sc x = true) (hy : y = "set") (gy : freeB Γ sc y = true)
    (hh : headOk pa = true) (ha : SB X pa fa)
    (hf : ∀ env o env', f env = some (o, env') → ∃ z dx xs ns, fa env = some (z, env') ∧ rd env' z = some dx ∧ seqD dx = some xs ∧ intsD xs = some ns ∧ ns.length < 64 ∧ o = .nw (.lst ((VIS.srtU ns).map .int))) : SE X (.Call (.Name x pp) [.Call (.Name y pp2) [pa] [] pos2] [] pos) f := by
  intro env o env' e σ F H Q r q
  obtain ⟨z, dx, xs, ns, h1, h2, h25, h3, h4, rfl⟩ := hf env o env' e
  subst hx hy
  obtain ⟨G, _, _, M⟩ := free_of g gx
  obtain ⟨G2, _, _, M2⟩ := free_of g gy
  refine WE.of (VIS.pe_srtSet G M G2 M2 (pE X pa) g.calm (starEach_of hh)) (ha env z env' h1 σ F H _ r fun v F1 H1 p1 r1 n1 => ?_)
  unfold seqD at h25
  split at h25
  · cases h25
    obtain ⟨a, vs, rfl, h5, h6⟩ := (rd_has p1.rel r1 h2).lst
    rw [h6.ints h3] at h5
    exact ⟨a, ns, rfl, .inl (.of h5), h4, fun p hp => (fol_q p1 q).newL p1.rel.fdm (IsL.of_ints _) hp⟩
  · cases h25
    obtain ⟨a, vs, rfl, h5, h6⟩ := (rd_has p1.rel r1 h2).tup
    rw [h6.ints h3] at h5
    exact ⟨a, ns, rfl, .inr h5, h4, fun p hp => (fol_q p1 q).newL p1.rel.fdm (IsL.of_ints _) hp⟩
  · cases h25
theorem s_dfl {Γ : Gm} {cl : CallF} {N : List Str} {sc : Scope} (g : Gd Γ cl N sc X) {mx : Bool} {pa pd : Expr} {x k : Str} {pp kp pos : Pos} {fa fd f : En → Option (Op × En)} (hx : x = if mx then ("max" : Str) else ("min" : Str)) (gx : freeB Γ sc x = true) (hk : k = "default")
    (hh : headOk pa = true) (ha : SB X pa fa) (hd : SB X pd fd)
    (hf : ∀ env o env', f env = some (o, env') → ∃ z env1 u xs ns dy, fa env = some (z, env1) ∧ fd env1 = some (u, env') ∧ rd env' z = some (.lst xs) ∧ rd env' u = some dy ∧ flatD dy = true ∧ intsD xs = some ns ∧ o = .v (if ns.length = 0 then dy else .int (if mx = true then maxL ns else minL ns))) :
    SE X (.Call (.Name x pp) [pa] [⟨some k, pd, kp⟩] pos) f := by
  intro env o env' e σ F H Q r q
  obtain ⟨z, env1, u, xs, ns, dy, h1, h2, h3, h4, h5, h6, rfl⟩ := hf env o env' e
  subst hk
  obtain ⟨G, hdb, hn, M⟩ := free_of g gx
  have hv : bootBuiltins x = some (.builtin (if mx = true then "max" else "min")) := by
    subst hx
    cases mx <;> decide +kernel
  have he : backTo pos (starEach [pa] X.env) = (false, eval pa X.env) :: backTo pos (starEach [] X.env) := by rw [starEach_of hh]; rfl
  have hpl : (backTo pos (starEach [pa] X.env)).any (·.1) = false := by rw [starEach_of hh]; rfl
  refine WE.of (pe_callBK (ks := [Str.ofString "default"]) (VIM.cr_dfl mx g.calm) G M hv (pA X [pa]) (pk_cons (pE X pd) pk_nil) hn hdb he hpl rfl rfl rfl) ?_
  refine WA.of (pa_cons (pE X pa) pa_nil (starEach_of hh)) (two_ops ha hd h1 h2 r fun v w F2 H2 p r1 r2 n1 n2 => ?_)
  obtain ⟨a, vs, rfl, h7, h8⟩ := (rd_has p.rel r1 h3).lst
  rw [h8.ints h6] at h7
  have iy := Has.flat h5 (rd_has p.rel r2 h4)
  refine ⟨a, ns, w, rfl, rfl, .of h7, fun e => ?_, fun m hm hy => ?_⟩
  · subst e
    exact q w F2 H2 p iy fun d z => by cases z
  · have hpos : 0 < ns.length := List.length_pos_of_mem hm
    have e0 : (if ns.length = 0 then dy else .int (if mx = true then maxL ns else minL ns)) = D.int m := by
      rw [if_neg (by omega)]
      congr 1
      cases mx with
      | true => exact Int.le_antisymm (by simpa using hy _ (maxL_mem hpos)) (maxL_ge hm)
      | false => exact Int.le_antisymm (minL_le hm) (by simpa using hy _ (minL_mem hpos))
    rw [e0] at q
    exact q _ F2 H2 p (by simp [RelOp, Is]) fun d z => by cases z
/-! ### bit_length, gcd, index -/
theorem base_of {o : Expr} {n : Str} {en : Env} {w : Sem Value} (h : baseOk o = true) : attributeBase o n en w = w := by
  unfold attributeBase
  split
  · cases h
  · rfl
theorem s_bits {pa : Expr} {n : Str} {apos cpos : Pos} {fa f : En → Option (Op × En)} (hn : n = "bit_length") (hb : baseOk pa = true) (hl : (apos.endLine == cpos.line) = true) (ha : SB X pa fa)
    (hf : ∀ env o env', f env = some (o, env') → ∃ x i, fa env = some (x, env') ∧ rd env' x = some (.int i) ∧ o = .v (.int (Builtin.Int.intBits i : Nat))) : SE X (.Call (.Attribute pa n apos) [] [] cpos) f := by
  intro env o env' e σ F H Q r q
  obtain ⟨x, i, h1, h2, rfl⟩ := hf env o env' e
  subst hn
  refine WE.of (pe_bits (pE X pa) (base_of hb) hl) (ha env x env' h1 σ F H _ r fun v F1 H1 p1 r1 n1 => ?_)
  have e1 := (rd_has p1.rel r1 h2).int
  subst e1
  exact ⟨i, rfl, q _ F1 H1 p1 (by simp [RelOp, Is]) fun d z => by cases z⟩
theorem s_gcd {Γ : Gm} {cl : CallF} {N : List Str} {sc : Scope} (g : Gd Γ cl N sc X) {pa pb : Expr} {x : Str} {pp pos : Pos} {fa fb f : En → Option (Op × En)} (hx : x = "gcd") (gx : glB sc x = true) (hg : Γ.gc = true) (hh : headOk pa = true) (hh2 : headOk pb = true) (ha : SB X pa fa) (hb : SB X pb fb)
    (hf : ∀ env o env', f env = some (o, env') → ∃ x env1 y i j, fa env = some (x, env1) ∧ fb env1 = some (y, env') ∧ rd env' x = some (.int i) ∧ rd env' y = some (.int j) ∧ o = .v (.int (Nat.gcd i.natAbs j.natAbs : Nat))) : SE X (.Call (.Name x pp) [pa, pb] [] pos) f := by
  intro env o env' e σ F H Q r q
  obtain ⟨y, env1, z, i, j, h1, h2, h3, h4, rfl⟩ := hf env o env' e
  subst hx
  obtain ⟨G, hdb, hn⟩ := gl_of g gx
  refine WE.of (pe_callBfun cr_gcd G (g.gc hg) (pA X [pa, pb]) hdb (starEach_of hh) (by rw [starEach_of hh2]; rfl)) ?_
  refine WA.of (pa_cons (pE X pa) (pa_cons (pE X pb) pa_nil (starEach_of hh2)) (starEach_of hh)) (two_ops ha hb h1 h2 r fun v w F2 H2 p r1 r2 n1 n2 => ?_)
  have e1 := (rd_has p.rel r1 h3).int
  have e2 := (rd_has p.rel r2 h4).int
  subst e1 e2
  exact ⟨i, j, rfl, q _ F2 H2 p (by simp [RelOp, Is]) fun d z => by cases z⟩
theorem toPs_get : ∀ {xs : List D} {j : Nat}, (toPs xs)[j]? = (xs[j]?).map D.toP
  | [], j => by simp [toPs]
  | x :: xs, 0 => by simp [toPs]
  | x :: xs, j + 1 => by simp [toPs, toPs_get (xs := xs) (j := j)]
theorem s_ixof {Γ : Gm} {cl : CallF} {N : List Str} {sc : Scope} (g : Gd Γ cl N sc X) {pa pb : Expr} {n : Str} {apos cpos : Pos} {fa fb f : En → Option (Op × En)} (hn : n = "index") (hb : baseOk pa = true) (hl : (apos.endLine == cpos.line) = true) (hh : headOk pb = true) (ha : SB X pa fa) (hbb : SB X pb fb)
    (hf : ∀ env o env', f env = some (o, env') → ∃ x env1 y d0 dx dy r, fa env = some (x, env1) ∧ rd env1 x = some d0 ∧ fb env1 = some (y, env') ∧ rd env' x = some dx ∧ rd env' y = some dy ∧ ixS d0 dx dy = some r ∧ o = .v (.int r)) : SE X (.Call (.Attribute pa n apos) [pb] [] cpos) f := by
  intro env o env' e σ F H Q r q
  obtain ⟨x, env1, y, d0, dx, dy, k, h1, h0, h2, h3, h4, h5, rfl⟩ := hf env o env' e
  subst hn
  have few : ((backTo cpos (starEach [pb] X.env)).all (fun x => !x.1) && (backToKw cpos (keywordEach [] X.env)).all (fun x => x.1.isSome)
      && decide ([pb].length + ([] : List Keyword).length + (if ([] : List Keyword).isEmpty then 0 else 1) < 30)) = true := by
    rw [starEach_of hh]; rfl
  refine WE.of (pe_bm PySem.F.plainAttrs_list PySem.F.slot_list_index PySem.F.type_list_index (mt_indexD (by have := g.hu; omega)) (pE X pa) (pA X [pb]) (base_of hb) few hl (starEach_of hh) rfl) ?_
  refine ha env x env1 h1 σ F H _ r fun v F1 H1 p1 r1 n1 => ?_
  unfold ixS at h5
  split at h5
  · rename_i xs
    split at h5
    · rename_i ho
      rw [Bool.and_eq_true] at ho
      obtain ⟨j, h6, rfl⟩ := Option.map_eq_some_iff.mp h5
      obtain ⟨a, vs0, rfl, H0, _⟩ := (rd_has p1.rel r1 h0).lst
      refine ⟨.inl ⟨rfl, vs0, .of H0⟩, ?_⟩
      refine WA.of (pa_cons (pE X pb) pa_nil (starEach_of hh)) (hbb env1 y env' h2 σ F1 H1 _ p1.rel fun w F2 H2 p2 r2 n2 => ?_)
      have hx := rd_has p2.rel (r1.stay n1 p2.st) h3
      have hy := rd_has p2.rel r2 h4
      obtain ⟨hjl, hj1, hj2⟩ := List.findIdx?_eq_some_iff_getElem.mp h6
      refine ⟨a, w, _, toPs xs, j, (xs[j]).toP, rfl, rfl, hx.dp ho.1, hy.dp ho.2, ho.1, ho.2, by rw [toPs_get, List.getElem?_eq_getElem hjl]; rfl, hj1, fun m z' hm hz' => ?_, ?_⟩
      · rw [toPs_get] at hz'
        obtain ⟨u, hu, rfl⟩ := Option.map_eq_some_iff.mp hz'
        have hml : m < xs.length := by omega
        rw [List.getElem?_eq_getElem hml] at hu
        cases hu
        have := hj2 m hm
        simpa [deq] using this
      · exact q _ F2 H2 (p1.trans p2) (by simp [RelOp, Is]) fun d z => by cases z
    · cases h5
  · cases h5
end
end VI
/-! VI16: expressions: what they compute. -/
namespace VI
open PySem PySem.Spec L2
section
variable {Γ : Gm} {cl : CallF} {N : List Str}
theorem gd_blk {sc : Scope} {X : Cx} (g : Gd Γ cl N sc X) (scope : Scope) (c : Bc) : Gd Γ cl N (relS scope sc) (Bk X scope c) where
  hN := g.hN
  hsc := by rw [← g.hsc]; rfl
  nd := g.nd
  calm := g.calm
  xe := rfl
  hu := g.hu
  fr := g.fr
  fn := fun x f h => ⟨(g.fn x f h).ex, (g.fn x f h).np⟩
  gc := g.gc
theorem evB_eq (e : E) (env : En) : evB cl e env = (evE cl e env).bind fun z => some (z.1.frz, z.2) := by
  unfold evB; rfl
theorem all_in {t : List Nat} {vs : List Nat} (h : t.all (vs.contains ·) = true) : ∀ j ∈ t, j ∈ vs := by
  intro j hj
  have := List.all_eq_true.mp h j hj
  simpa using this
theorem tup_of {N : List Str} {sc : Scope} {st : Str → Bool} {t : T} {tg : Expr} (h : mT N sc st t tg = true) : t.isTup = true → ∃ elts kk tpos, tg = .Tuple elts kk tpos := by
  intro e
  cases t with
  | nm i => cases e
  | tup is =>
    cases tg <;> first | exact ⟨_, _, _, rfl⟩ | (unfold mT at h; cases h)
theorem lk_out {lk : List (Nat × Bool)} {vs : List Nat} (h : (lk.all fun j => !vs.contains j.1) = true) : ∀ j ∈ lk, j.1 ∉ vs := by
  intro j hj
  have := List.all_eq_true.mp h j hj
  simpa using this
theorem lk_out' {lk : List (Nat × Bool)} {vs : List Nat} (h : ¬ (!(lk.all fun j => !vs.contains j.1)) = true) : ∀ j ∈ lk, j.1 ∉ vs := lk_out (by
  cases e : (lk.all fun j => !vs.contains j.1) with
  | true => rfl
  | false => rw [e] at h; exact absurd rfl h)
theorem own_map (vs : List Nat) : (vs.map fun i => (N.getD i "", i)).map (·.2) = vs := by
  induction vs with
  | nil => rfl
  | cons v vs ih => simp only [List.map_cons]; rw [ih]
theorem he_of {es : Es} {sc : Scope} {ps : List Expr} {env : Env} (h : mEs Γ N es sc ps = true) : ∀ p r, ps = p :: r → starEach (p :: r) env = (false, eval p env) :: starEach r env := by
  intro p r e
  subst e
  cases es with
  | nil => unfold mEs at h; cases h
  | cons e es =>
    unfold mEs at h
    exact starEach_of (mE_head (ba h).1)
theorem hpl_of {es : Es} {sc : Scope} {ps : List Expr} {env : Env} {pos : Pos} (h : mEs Γ N es sc ps = true) : ∀ p r, ps = p :: r → (backTo pos (starEach r env)).any (·.1) = false := by
  intro p r e
  subst e
  cases es with
  | nil => unfold mEs at h; cases h
  | cons e es =>
    unfold mEs at h
    exact mEs_star (ba h).2 pos env
theorem mEs_nil {es : Es} {sc : Scope} (h : mEs Γ N es sc [] = true) : es = .nil := by
  cases es with
  | nil => rfl
  | cons e es => unfold mEs at h; cases h

theorem sndFold (i : I) {tp : Bool} {sc : Scope} {p : Expr} {env : Env} (h : mI Γ N i tp sc p = true) : ∀ x, foldedSetIterable p env x = pure x := by
  cases i with
  | seq e => unfold mI at h; exact fold_of (mE_head h)
  | rng1 a => unfold mI at h; split at h <;> first | (intro x; rfl) | cases h
  | rng2 a b => unfold mI at h; split at h <;> first | (intro x; rfl) | cases h
  | rng3 a b c => unfold mI at h; cases h
  | enum e => unfold mI at h; split at h <;> first | (intro x; rfl) | cases h
  | zip a b => unfold mI at h; split at h <;> first | (intro x; rfl) | cases h
  | zip3 a b c => unfold mI at h; split at h <;> first | (intro x; rfl) | cases h
  | rev e => unfold mI at h; cases h

mutual
theorem sndE : ∀ (e : E) {sc : Scope} {X : Cx} {p : Expr}, Gd Γ cl N sc X → mE Γ N e sc p = true → SE X p (evE cl e)
  | .nm i, sc, X, p, g, h => by
    unfold mE at h
    split at h
    · refine s_nm g h fun env o env' e => ?_
      unfold evE at e
      split at e
      · rename_i d q; cases e; exact ⟨rfl, .inl ⟨d, q, rfl⟩⟩
      · rename_i io d q; cases e; exact ⟨rfl, .inr ⟨rfl, _, d, q, rfl⟩⟩
      · rename_i io d q; cases e; exact ⟨rfl, .inr ⟨rfl, _, d, q, rfl⟩⟩
      · cases e
    · cases h
  | .lit d, sc, X, p, g, h => by
    unfold mE at h
    split at h
    · exact s_lit h fun env => by unfold evE; rfl
    · cases h
  | .bin op a b, sc, X, p, g, h => by
    unfold mE at h
    split at h
    · obtain ⟨h, h3⟩ := ba h
      obtain ⟨h1, h2⟩ := ba h
      have := of_decide_eq_true h1
      subst this
      refine s_bin ((sndE a g h2).b (evB_eq a)) ((sndE b g h3).b (evB_eq b)) fun env o env' e => ?_
      unfold evE at e
      simp only [bind, Option.bind_eq_some_iff, Prod.exists] at e
      obtain ⟨x, env1, e1, y, env2, e2, dx, e3, dy, e4, r, e5, e6⟩ := e
      cases e6
      exact ⟨x, env1, y, e1, e2, dx, dy, e3, e4, e5⟩
    · cases h
  | .un op a, sc, X, p, g, h => by
    unfold mE at h
    split at h
    · obtain ⟨h1, h3⟩ := ba h
      have := of_decide_eq_true h1
      subst this
      by_cases hn : op = .Not
      · subst hn
        refine s_notv ((sndE a g h3).b (evB_eq a)) fun env o env' e => ?_
        unfold evE at e
        simp only [bind, Option.bind_eq_some_iff, Prod.exists] at e
        obtain ⟨x, env1, e1, dx, e3, r, e5, e6⟩ := e
        cases e6
        exact ⟨x, e1, dx, r, e3, e5, rfl⟩
      · refine s_un hn ((sndE a g h3).b (evB_eq a)) fun env o env' e => ?_
        unfold evE at e
        simp only [bind, Option.bind_eq_some_iff, Prod.exists] at e
        obtain ⟨x, env1, e1, dx, e3, r, e5, e6⟩ := e
        cases e6
        exact ⟨x, e1, dx, r, e3, e5, rfl⟩
    · cases h
  | .cmp op a b, sc, X, p, g, h => by
    unfold mE at h
    split at h
    · obtain ⟨h, h3⟩ := ba h
      obtain ⟨h1, h2⟩ := ba h
      have := of_decide_eq_true h1
      subst this
      refine e_cmp (by have := g.hu; omega) (mE_head h3) ((sndE a g h2).b (evB_eq a)) ((sndE b g h3).b (evB_eq b)) fun env o env' e => ?_
      unfold evE at e
      simp only [bind, Option.bind_eq_some_iff, Prod.exists] at e
      obtain ⟨x, env1, e1, y, env2, e2, dx, e3, dy, e4, r, e5, e6⟩ := e
      cases e6
      exact ⟨x, env1, y, dx, dy, r, e1, e2, e3, e4, e5, rfl⟩
    · cases h
  | .cmp2 op op' a b c, sc, X, p, g, h => by
    unfold mE at h
    split at h
    · obtain ⟨h, h5⟩ := ba h
      obtain ⟨h, h4⟩ := ba h
      obtain ⟨h, h3⟩ := ba h
      obtain ⟨h1, h2⟩ := ba h
      have := of_decide_eq_true h1
      subst this
      have := of_decide_eq_true h2
      subst this
      refine e_cmp2 (by have := g.hu; omega) (mE_head h4) (mE_head h5) ((sndE a g h3).b (evB_eq a)) ((sndE b g h4).b (evB_eq b)) ((sndE c g h5).b (evB_eq c)) fun env o env3 e => ?_
      unfold evE at e
      simp only [bind, Option.bind_eq_some_iff, Prod.exists] at e
      obtain ⟨x, env1, e1, y, env2, e2, dx, e3, dy, e4, r, e5, e6⟩ := e
      cases r with
      | true =>
        simp only [if_true, Option.bind_eq_some_iff, Prod.exists] at e6
        obtain ⟨z, env4, e7, dy', e8, dz, e9, k', e10, e11⟩ := e6
        cases e11
        exact ⟨x, env1, y, env2, dx, dy, _, k', e1, e2, e3, e4, e5, .inl ⟨rfl, z, dy', dz, e7, e8, e9, e10⟩, rfl⟩
      | false =>
        cases e6
        exact ⟨x, env1, y, _, dx, dy, _, false, e1, e2, e3, e4, e5, .inr ⟨rfl, rfl, rfl⟩, rfl⟩
    · cases h
  | .and es, sc, X, p, g, h => by
    unfold mE at h
    split at h
    · exact cast (by congr 1; funext env; conv => rhs; unfold evE) (sndAnd es g h)
    · cases h
  | .or es, sc, X, p, g, h => by
    unfold mE at h
    split at h
    · exact cast (by congr 1; funext env; conv => rhs; unfold evE) (sndOr es g h)
    · cases h
  | .ifx c a b, sc, X, p, g, h => by
    unfold mE at h
    split at h
    · obtain ⟨h, h3⟩ := ba h
      obtain ⟨h1, h2⟩ := ba h
      refine s_ifx (sndC c g h1) (sndE a g h2) (sndE b g h3) fun env o env' e => ?_
      unfold evE at e
      simp only [bind, Option.bind_eq_some_iff, Prod.exists] at e
      exact e
    · cases h
  | .tup es, sc, X, p, g, h => by
    unfold mE at h
    split at h
    · refine s_tup (sndDs es g h) fun env o env' e => ?_
      unfold evE at e
      simp only [bind, Option.bind_eq_some_iff, Prod.exists] at e
      obtain ⟨ds, env1, e1, e2⟩ := e
      split at e2
      · rename_i q; cases e2; exact ⟨ds, e1, q, rfl⟩
      · cases e2
    · cases h
  | .lst es, sc, X, p, g, h => by
    unfold mE at h
    split at h
    · refine s_lst (sndDs es g h) fun env o env' e => ?_
      unfold evE at e
      simp only [bind, Option.bind_eq_some_iff, Prod.exists] at e
      obtain ⟨ds, env1, e1, e2⟩ := e
      split at e2
      · rename_i q; cases e2; exact ⟨ds, e1, q, rfl⟩
      · cases e2
    · cases h
  | .idx a b, sc, X, p, g, h => by
    unfold mE at h
    split at h
    · obtain ⟨h2, h3⟩ := ba h
      refine s_idx (mE_head h3) ((sndE a g h2).b (evB_eq a)) ((sndE b g h3).b (evB_eq b)) fun env o env' e => ?_
      unfold evE at e
      simp only [bind, Option.bind_eq_some_iff, Prod.exists] at e
      obtain ⟨x, env1, e1, y, env2, e2, dx, e3, dy, e4, r, e5, e6⟩ := e
      cases e6
      exact ⟨x, env1, y, e1, e2, dx, dy, r, e3, e4, e5, rfl⟩
    · cases h
  | .sli a lo hi, sc, X, p, g, h => by
    unfold mE at h
    split at h
    · obtain ⟨h, h3⟩ := ba h
      obtain ⟨h1, h2⟩ := ba h
      refine s_sli ((sndE a g h1).b (evB_eq a)) (sndO lo g h2) (sndO hi g h3) fun env o env' e => ?_
      unfold evE at e
      simp only [bind, Option.bind_eq_some_iff, Prod.exists] at e
      obtain ⟨x, env1, e1, l, env2, e2, u, env3, e3, dx, e4, r, e5, e6⟩ := e
      cases e6
      exact ⟨x, env1, l, env2, u, e1, e2, e3, dx, e4, e5⟩
    · cases h
  | .call f es, sc, X, p, g, h => by
    unfold mE at h
    split at h
    · obtain ⟨h, h3⟩ := ba h
      obtain ⟨h1, h2⟩ := ba h
      refine s_call g h1 h2 (sndBs es g h3) (fun e env os env1 e1 => ?_) (he_of h3) (hpl_of h3) fun env o env' e => ?_
      · subst e
        have := mEs_nil h3
        subst this
        unfold evBs at e1
        cases e1
        exact ⟨rfl, rfl⟩
      · unfold evE at e
        simp only [bind, Option.bind_eq_some_iff, Prod.exists] at e
        obtain ⟨os, env1, e1, args, e2, e3⟩ := e
        split at e3
        · rename_i q
          simp only [Option.bind_eq_some_iff, Prod.exists] at e3
          obtain ⟨r, fin, e4, e5⟩ := e3
          cases e5
          exact ⟨os, env1, args, fin, e1, e2, q, e4, rfl⟩
        · cases e3
    · cases h
  | .blt b es, sc, X, p, g, h => by
    unfold mE at h
    split at h
    · rename_i x pp ps pos
      obtain ⟨h, h4⟩ := ba h
      obtain ⟨h, h3⟩ := ba h
      obtain ⟨h1, h2⟩ := ba h
      cases ps with
      | nil => cases h3
      | cons q ps =>
        refine s_blt g (by simpa using h1) h2 (sndBs es g h4) (he_of h4 _ _ rfl) (hpl_of h4 _ _ rfl) fun env o env' e => ?_
        unfold evE at e
        simp only [bind, Option.bind_eq_some_iff, Prod.exists] at e
        obtain ⟨os, env1, e1, ds, e2, r, e3, e4⟩ := e
        cases e4
        exact ⟨os, ds, e1, e2, e3⟩
    · cases h
  | .rng tp a b, sc, X, p, g, h => by
    unfold mE at h
    split at h
    · rename_i x pp y pp2 ps pos2 pos
      obtain ⟨h, h5⟩ := ba h
      obtain ⟨h, h4⟩ := ba h
      obtain ⟨h, h3⟩ := ba h
      obtain ⟨h1, h2⟩ := ba h
      split at h5
      · obtain ⟨k1, k2⟩ := ba h5
        cases b with
        | so b => unfold mO at k2; cases k2
        | no =>
          refine s_rng1 (tp := tp) g (by cases tp <;> simpa using h1) h2 (by simpa using h3) h4 (mE_head k1) ((sndE a g k1).b (evB_eq a)) fun env o env' e => ?_
          unfold evE at e
          simp only [bind, Option.bind_eq_some_iff, Prod.exists] at e
          obtain ⟨x, env1, e1, l, env2, e2, dx, e3, i, e4, e5⟩ := e
          unfold evO at e2
          cases e2
          simp only [Option.bind_eq_some_iff] at e5
          obtain ⟨ds, e5, e6⟩ := e5
          cases e6
          have : dx = .int i := by unfold intD at e4; split at e4 <;> cases e4; rfl
          subst this
          exact ⟨x, i, ds, e1, e3, e5, rfl⟩
      · obtain ⟨k1, k2⟩ := ba h5
        cases b with
        | no => unfold mO at k2; cases k2
        | so b =>
          unfold mO at k2
          refine s_rng2 (tp := tp) g (by cases tp <;> simpa using h1) h2 (by simpa using h3) h4 (mE_head k1) (mE_head k2) ((sndE a g k1).b (evB_eq a)) ((sndE b g k2).b (evB_eq b)) fun env o env' e => ?_
          unfold evE at e
          simp only [bind, Option.bind_eq_some_iff, Prod.exists] at e
          obtain ⟨x, env1, e1, l, env2, e2, dx, e3, i, e4, e5⟩ := e
          unfold evO at e2
          simp only [bind, Option.bind_eq_some_iff, Prod.exists] at e2
          obtain ⟨y, env3, e7, dy, e8, j, e9, e10⟩ := e2
          cases e10
          simp only [Option.bind_eq_some_iff] at e5
          obtain ⟨ds, e5, e6⟩ := e5
          cases e6
          have : dx = .int i := by unfold intD at e4; split at e4 <;> cases e4; rfl
          subst this
          have : dy = .int j := by unfold intD at e9; split at e9 <;> cases e9; rfl
          subst this
          exact ⟨x, i, env1, y, j, ds, e1, e7, e3, e8, e5, rfl⟩
      · cases h5
    · cases h
  | .isi a ts, sc, X, p, g, h => by
    unfold mE at h
    split at h
    · rename_i x pp pa pt pos
      obtain ⟨h, h5⟩ := ba h
      obtain ⟨h, h4⟩ := ba h
      obtain ⟨h, h3⟩ := ba h
      obtain ⟨h1, h2⟩ := ba h
      refine s_isi g (by simpa using h1) h2 (mE_head h4) (of_decide_eq_true h3) ((sndE a g h4).b (evB_eq a)) ?_ fun env o env' e => ?_
      · split at h5
        · exact .inr ⟨_, _, _, rfl, h5⟩
        · exact .inl ⟨_, _, rfl, h5⟩
        · cases h5
      · unfold evE at e
        simp only [bind, Option.bind_eq_some_iff, Prod.exists] at e
        obtain ⟨x, env1, e1, dx, e3, e6⟩ := e
        cases e6
        exact ⟨x, dx, e1, e3, rfl⟩
    · cases h
  | .mth m i es, sc, X, p, g, h => by
    unfold mE at h
    split at h
    · obtain ⟨h, h5⟩ := ba h
      obtain ⟨h, h4⟩ := ba h
      obtain ⟨h, h3⟩ := ba h
      obtain ⟨h1, h2⟩ := ba h
      refine s_mth g h1 (by simpa using h2) h3 (sndDs es g h5) (fun e env os env1 e1 => ?_) (he_of h5) (hpl_of h5) (of_decide_eq_true h4) fun env o env' e => ?_
      · subst e
        have := mEs_nil h5
        subst this
        unfold evDs at e1
        cases e1
        exact ⟨rfl, rfl⟩
      · unfold evE at e
        simp only [bind] at e
        split at e
        · cases e
        · rename_i hq
          have hq : isOwL env i = true := by simpa using hq
          simp only [Option.bind_eq_some_iff, Prod.exists] at e
          obtain ⟨ds, env1, e1, e2⟩ := e
          refine ⟨?_, ?_⟩
          · unfold isOwL at hq
            split at hq
            · rename_i io xs q; exact ⟨io, xs, q⟩
            · cases hq
          · split at e2
            · rename_i io xs q
              simp only [Option.bind_eq_some_iff, Prod.exists] at e2
              obtain ⟨d, ys, e3, e4⟩ := e2
              cases e4
              exact ⟨ds, env1, io, xs, d, ys, e1, q, e3, rfl, rfl⟩
            · cases e2
    · cases h
  | .mt m a es, sc, X, p, g, h => by
    unfold mE at h
    cases h
  | .lc vs el t it c, sc, X, p, g, h => by
    unfold mE at h
    split at h
    · rename_i pel ptg pit pifs scope pos
      obtain ⟨h, h6⟩ := ba h
      obtain ⟨h, h5⟩ := ba h
      obtain ⟨h, h4⟩ := ba h
      obtain ⟨h, h3⟩ := ba h
      obtain ⟨h1, h2⟩ := ba h
      have ok : BlkOk X.N X.env.scope scope (vs.map fun i => (N.getD i "", i)) := by rw [g.hN, g.hsc]; exact blkOk_by h1
      have hI := sndI it g (tup_of h3) h2
      have hT : ∀ c, SG (Bk X scope c) ptg t := fun c => sg_of (gd_blk g scope c).hN (gd_blk g scope c).hsc (gd_blk g scope c).nd g.calm (fun x hx => hx) h3
      have hC := fun k => sndOC c (gd_blk g scope k) h5
      have hE := fun k => sndE el (gd_blk g scope k) h6
      intro env o env' e σ F H Q r q
      refine WE.of (pe_lc g.calm g.nd (pI X ptg pit) ok pgb ptb peb (sndFold it h2)) ?_
      refine s_lc (cl := cl) (Γ := Γ) g (pos := pos) (own_map vs) ok (sndFold it h2) hI hT hC hE (all_in h4) (f := evE cl (.lc vs el t it c)) (fun env o env' e => ?_) env o env' e σ F H Q r q
      unfold evE at e
      simp only [bind, Option.bind_eq_some_iff, Prod.exists] at e
      obtain ⟨items, lk, env1, e1, e2⟩ := e
      split at e2
      · cases e2
      · rename_i hq
        simp only [Option.bind_eq_some_iff, Prod.exists] at e2
        obtain ⟨outs, env2, e3, e4⟩ := e2
        split at e4
        · rename_i hz
          cases e4
          exact ⟨items, lk, env1, outs, env2, e1, lk_out' hq, e3, hz, rfl, rfl⟩
        · cases e4
    · cases h
  | .lc2 vs vs1 el t it c t1 it1 c1, sc, X, p, g, h => by
    unfold mE at h
    split at h
    · rename_i pel ptg pit pifs ptg1 pit1 pifs1 scope pos
      obtain ⟨h, h11⟩ := ba h
      obtain ⟨h, h10⟩ := ba h
      obtain ⟨h, h9⟩ := ba h
      obtain ⟨h, h8⟩ := ba h
      obtain ⟨h, h7⟩ := ba h
      obtain ⟨h, h6⟩ := ba h
      obtain ⟨h, h5⟩ := ba h
      obtain ⟨h, h4⟩ := ba h
      obtain ⟨h, h3⟩ := ba h
      obtain ⟨h1, h2⟩ := ba h
      have ok : BlkOk X.N X.env.scope scope (vs.map fun i => (N.getD i "", i)) := by rw [g.hN, g.hsc]; exact blkOk_by h1
      have hI := sndI it g (tup_of h4) h3
      have hT : ∀ c, SG (Bk X scope c) ptg t := fun c => sg_of (gd_blk g scope c).hN (gd_blk g scope c).hsc (gd_blk g scope c).nd g.calm (fun x hx => hx) h4
      have hC := fun k => sndOC c (gd_blk g scope k) h6
      have hI1 := fun k => sndI it1 (gd_blk g scope k) (tup_of h8) h7
      have hT1 : ∀ c, SG (Bk X scope c) ptg1 t1 := fun c => sg_of (gd_blk g scope c).hN (gd_blk g scope c).hsc (gd_blk g scope c).nd g.calm (fun x hx => hx) h8
      have hC1 := fun k => sndOC c1 (gd_blk g scope k) h10
      have hE := fun k => sndE el (gd_blk g scope k) h11
      intro env o env' e σ F H Q r q
      refine WE.of (pe_lc2 g.calm g.nd (pI X ptg pit) ok (by rw [own_map]; exact all_in h2) pgb ptb pib pgb ptb peb (sndFold it h3) (fun env => sndFold it1 h7)) ?_
      let inner : En → Option (List D × En) := fun env => do
        let (items1, lk1, env1) ← evI cl it1 env
        if !(lk1.all fun j => !vs1.contains j.1) then none
        let (ys, env2) ← lcLoop (fun env => evOC cl c1 env) (fun env => do let (o, env) ← evE cl el env; esc env o) t1 vs1 items1 (wipeE env1 vs1)
        return (ys, unlock (restE env2 env1 vs1) lk1)
      refine s_lc2 (cl := cl) (Γ := Γ) (inner := inner) g (own_map vs) hI hT hC (all_in h5) hI1 hT1 hC1 (all_in h9) hE ?_ (f := evE cl (.lc2 vs vs1 el t it c t1 it1 c1)) (fun env o env' e => ?_) env o env' e σ F H Q r q
      rotate_left
      · unfold evE at e
        simp only [bind, Option.bind_eq_some_iff, Prod.exists] at e
        obtain ⟨items, lk, env1, e1, e2⟩ := e
        split at e2
        · cases e2
        · rename_i hq
          simp only [Option.bind_eq_some_iff, Prod.exists] at e2
          obtain ⟨outs, env2, e3, e4⟩ := e2
          split at e4
          · rename_i hz
            cases e4
            exact ⟨items, lk, env1, outs, env2, e1, lk_out' hq, e3, hz, rfl, rfl⟩
          · cases e4
      · intro env ys env' e
        simp only [inner, bind, Option.bind_eq_some_iff, Prod.exists] at e
        obtain ⟨items, lk, env1, e1, e2⟩ := e
        split at e2
        · cases e2
        · rename_i hq
          simp only [Option.bind_eq_some_iff, Prod.exists] at e2
          obtain ⟨outs, env2, e3, e4⟩ := e2
          cases e4
          exact ⟨items, lk, env1, env2, e1, lk_out' hq, e3, rfl⟩
    · cases h
  | .never, sc, X, p, g, h => by
    intro env o env' e
    unfold evE at e
    cases e
  | .bits a, sc, X, p, g, h => by
    unfold mE at h
    split at h
    · obtain ⟨h, h4⟩ := ba h
      obtain ⟨h, h3⟩ := ba h
      obtain ⟨h1, h2⟩ := ba h
      refine s_bits (by simpa using h1) h2 h3 ((sndE a g h4).b (evB_eq a)) fun env o env' e => ?_
      unfold evE at e
      simp only [bind, Option.bind_eq_some_iff, Prod.exists] at e
      obtain ⟨x, env1, e1, dx, e2, i, e3, e4⟩ := e
      cases e4
      have : dx = .int i := by cases dx <;> first | (cases e3; rfl) | cases e3
      subst this
      exact ⟨x, i, e1, e2, rfl⟩
    · cases h
  | .gcd a b, sc, X, p, g, h => by
    unfold mE at h
    split at h
    · obtain ⟨h, h5⟩ := ba h
      obtain ⟨h, h4⟩ := ba h
      obtain ⟨h, h3⟩ := ba h
      obtain ⟨h1, h2⟩ := ba h
      refine s_gcd g (by simpa using h1) h2 h3 (mE_head h4) (mE_head h5) ((sndE a g h4).b (evB_eq a)) ((sndE b g h5).b (evB_eq b)) fun env o env' e => ?_
      unfold evE at e
      simp only [bind, Option.bind_eq_some_iff, Prod.exists] at e
      obtain ⟨x, env1, e1, y, env2, e2, dx, e3, dy, e4, i, e5, j, e6, e7⟩ := e
      cases e7
      have t1 : dx = .int i := by cases dx <;> first | (cases e5; rfl) | cases e5
      have t2 : dy = .int j := by cases dy <;> first | (cases e6; rfl) | cases e6
      subst t1 t2
      exact ⟨x, env1, y, i, j, e1, e2, e3, e4, rfl⟩
    · cases h
  | .ixof a b, sc, X, p, g, h => by
    unfold mE at h
    split at h
    · obtain ⟨h, h5⟩ := ba h
      obtain ⟨h, h4⟩ := ba h
      obtain ⟨h, h3⟩ := ba h
      obtain ⟨h1, h2⟩ := ba h
      refine s_ixof g (by simpa using h1) h2 h3 (mE_head h5) ((sndE a g h4).b (evB_eq a)) ((sndE b g h5).b (evB_eq b)) fun env o env' e => ?_
      unfold evE at e
      simp only [bind, Option.bind_eq_some_iff, Prod.exists] at e
      obtain ⟨x, env1, e1, d0, e0, y, env2, e2, dx, e3, dy, e4, r, e5, e6⟩ := e
      cases e6
      exact ⟨x, env1, y, d0, dx, dy, r, e1, e0, e2, e3, e4, e5, rfl⟩
    · cases h
  | .srtset a, sc, X, p, g, h => by
    unfold mE at h
    split at h
    · obtain ⟨h, h5⟩ := ba h
      obtain ⟨h, h4⟩ := ba h
      obtain ⟨h, h3⟩ := ba h
      obtain ⟨h1, h2⟩ := ba h
      refine s_srtset g (by simpa using h1) h2 (by simpa using h3) h4 (mE_head h5) ((sndE a g h5).b (evB_eq a)) fun env o env' e => ?_
      unfold evE at e
      simp only [bind, Option.bind_eq_some_iff, Prod.exists] at e
      obtain ⟨x, env1, e1, dx, e2, xs, e25, ns, e4, e5⟩ := e
      split at e5
      · rename_i hz
        cases e5
        exact ⟨x, dx, xs, ns, e1, e2, e25, e4, hz, rfl⟩
      · cases e5
    · cases h
  | .dfl mx a d, sc, X, p, g, h => by
    unfold mE at h
    split at h
    · obtain ⟨h, h5⟩ := ba h
      obtain ⟨h, h4⟩ := ba h
      obtain ⟨h, h3⟩ := ba h
      obtain ⟨h1, h2⟩ := ba h
      refine s_dfl (mx := mx) g (by cases mx <;> simpa using h1) h2 (by simpa using h3) (mE_head h4) ((sndE a g h4).b (evB_eq a)) ((sndE d g h5).b (evB_eq d)) fun env o env' e => ?_
      unfold evE at e
      simp only [bind, Option.bind_eq_some_iff, Prod.exists] at e
      obtain ⟨x, env1, e1, y, env2, e2, dx, e3, dy, e4, e5⟩ := e
      split at e5
      · cases e5
      · rename_i hfl
        split at e5
        · simp only [Option.bind_eq_some_iff] at e5
          obtain ⟨ns, e6, e7⟩ := e5
          cases e7
          exact ⟨x, env1, y, _, ns, dy, e1, e2, e3, e4, by simpa using hfl, e6, rfl⟩
        · cases e5
    · cases h
theorem sndBs : ∀ (es : Es) {sc : Scope} {X : Cx} {ps : List Expr}, Gd Γ cl N sc X → mEs Γ N es sc ps = true → SA X ps (evBs cl es)
  | .nil, sc, X, ps, g, h => by
    unfold mEs at h
    cases ps with
    | nil => exact sa_nil fun env => by unfold evBs; rfl
    | cons => cases h
  | .cons e es, sc, X, ps, g, h => by
    unfold mEs at h
    cases ps with
    | nil => cases h
    | cons p ps =>
      obtain ⟨h1, h2⟩ := ba h
      refine sa_cons (mE_head h1) ((sndE e g h1).b (evB_eq e)) (sndBs es g h2) fun env os env' e => ?_
      unfold evBs at e
      simp only [bind, Option.bind_eq_some_iff, Prod.exists] at e
      obtain ⟨o, env1, e1, os', env2, e2, e3⟩ := e
      cases e3
      exact ⟨o, env1, os', e1, e2, rfl⟩
theorem sndDs : ∀ (es : Es) {sc : Scope} {X : Cx} {ps : List Expr}, Gd Γ cl N sc X → mEs Γ N es sc ps = true → SD X ps (evDs cl es)
  | .nil, sc, X, ps, g, h => by
    unfold mEs at h
    cases ps with
    | nil => exact sd_nil fun env => by unfold evDs; rfl
    | cons => cases h
  | .cons e es, sc, X, ps, g, h => by
    unfold mEs at h
    cases ps with
    | nil => cases h
    | cons p ps =>
      obtain ⟨h1, h2⟩ := ba h
      refine sd_cons (mE_head h1) (sndE e g h1) (sndDs es g h2) fun env os env' e => ?_
      unfold evDs at e
      simp only [bind, Option.bind_eq_some_iff, Prod.exists] at e
      obtain ⟨o, env1, e1, d, env2, e2, ds, env3, e3, e4⟩ := e
      cases e4
      exact ⟨o, env1, d, env2, ds, e1, e2, e3, rfl⟩
theorem sndAnd : ∀ (es : Es) {sc : Scope} {X : Cx} {ps : List Expr} {pos : Pos}, Gd Γ cl N sc X → mEs Γ N es sc ps = true → SE X (.BoolOp .And ps pos) (evAnd cl es)
  | .nil, sc, X, ps, pos, g, h => by
    intro env o env' e
    unfold evAnd at e
    cases e
  | .cons e .nil, sc, X, ps, pos, g, h => by
    unfold mEs at h
    cases ps with
    | nil => cases h
    | cons p ps =>
      obtain ⟨h1, h2⟩ := ba h
      unfold mEs at h2
      cases ps with
      | nil => exact cast (by congr 1; funext env; conv => rhs; unfold evAnd) (s_one (op := .And) (pos := pos) (sndE e g h1))
      | cons => cases h2
  | .cons e (.cons e2 es), sc, X, ps, pos, g, h => by
    unfold mEs at h
    cases ps with
    | nil => cases h
    | cons p ps =>
      obtain ⟨h1, h2⟩ := ba h
      cases ps with
      | nil => unfold mEs at h2; cases h2
      | cons p2 ps =>
        refine s_and ((sndE e g h1).b (evB_eq e)) (sndAnd (.cons e2 es) g h2) fun env o env' e => ?_
        unfold evAnd at e
        simp only [bind, Option.bind_eq_some_iff, Prod.exists] at e
        obtain ⟨x, env1, e1, dx, e2, k, e3, e4⟩ := e
        have : dx = .bl k := by unfold blD at e3; split at e3 <;> cases e3; rfl
        subst this
        refine ⟨x, env1, k, e1, e2, ?_⟩
        cases k with
        | true => exact .inl ⟨rfl, by simpa using e4⟩
        | false => cases e4; exact .inr ⟨rfl, rfl, rfl⟩
theorem sndOr : ∀ (es : Es) {sc : Scope} {X : Cx} {ps : List Expr} {pos : Pos}, Gd Γ cl N sc X → mEs Γ N es sc ps = true → SE X (.BoolOp .Or ps pos) (evOr cl es)
  | .nil, sc, X, ps, pos, g, h => by
    intro env o env' e
    unfold evOr at e
    cases e
  | .cons e .nil, sc, X, ps, pos, g, h => by
    unfold mEs at h
    cases ps with
    | nil => cases h
    | cons p ps =>
      obtain ⟨h1, h2⟩ := ba h
      unfold mEs at h2
      cases ps with
      | nil => exact cast (by congr 1; funext env; conv => rhs; unfold evOr) (s_one (op := .Or) (pos := pos) (sndE e g h1))
      | cons => cases h2
  | .cons e (.cons e2 es), sc, X, ps, pos, g, h => by
    unfold mEs at h
    cases ps with
    | nil => cases h
    | cons p ps =>
      obtain ⟨h1, h2⟩ := ba h
      cases ps with
      | nil => unfold mEs at h2; cases h2
      | cons p2 ps =>
        refine s_or ((sndE e g h1).b (evB_eq e)) (sndOr (.cons e2 es) g h2) fun env o env' e => ?_
        unfold evOr at e
        simp only [bind, Option.bind_eq_some_iff, Prod.exists] at e
        obtain ⟨x, env1, e1, dx, e2, k, e3, e4⟩ := e
        have : dx = .bl k := by unfold blD at e3; split at e3 <;> cases e3; rfl
        subst this
        refine ⟨x, env1, k, e1, e2, ?_⟩
        cases k with
        | false => exact .inl ⟨rfl, by simpa using e4⟩
        | true => cases e4; exact .inr ⟨rfl, rfl, rfl⟩
theorem sndO : ∀ (o : OE) {sc : Scope} {X : Cx} {p : Option Expr}, Gd Γ cl N sc X → mO Γ N o sc p = true → SO X p (evO cl o)
  | .no, sc, X, p, g, h => by
    unfold mO at h
    cases p with
    | none => exact so_none fun env => by unfold evO; rfl
    | some => cases h
  | .so e, sc, X, p, g, h => by
    unfold mO at h
    cases p with
    | none => cases h
    | some p =>
      refine so_some ((sndE e g h).b (evB_eq e)) fun env o env' e => ?_
      unfold evO at e
      simp only [bind, Option.bind_eq_some_iff, Prod.exists] at e
      obtain ⟨x, env1, e1, d, e2, i, e3, e4⟩ := e
      cases e4
      have : d = .int i := by unfold intD at e3; split at e3 <;> cases e3; rfl
      subst this
      exact ⟨x, i, e1, e2, rfl⟩
theorem sndC : ∀ (c : C) {sc : Scope} {X : Cx} {p : Expr}, Gd Γ cl N sc X → mC Γ N c sc p = true → SC X p (evC cl c)
  | .ifc c a b, sc, X, p, g, h => by
    unfold mC at h
    split at h
    · obtain ⟨h, h5⟩ := ba h
      obtain ⟨h, h4⟩ := ba h
      obtain ⟨h, h3⟩ := ba h
      obtain ⟨h1, h2⟩ := ba h
      refine c_ifx h1 h2 (sndC c g h3) ((sndE a g h4).b (evB_eq a)) ((sndE b g h5).b (evB_eq b)) fun env o env' e => ?_
      unfold evC at e
      simp only [bind, Option.bind_eq_some_iff, Prod.exists] at e
      obtain ⟨r, env1, e1, e2⟩ := e
      cases r with
      | true =>
        simp only [if_true, Option.bind_eq_some_iff, Prod.exists] at e2
        obtain ⟨x, env2, e2, d, e3, k, e4, e5⟩ := e2
        cases e5
        have : d = .bl o := by unfold blD at e4; split at e4 <;> cases e4; rfl
        subst this
        exact ⟨true, env1, e1, x, by rw [if_pos rfl]; exact e2, e3⟩
      | false =>
        simp only [Bool.false_eq_true, if_false, Option.bind_eq_some_iff, Prod.exists] at e2
        obtain ⟨x, env2, e2, d, e3, k, e4, e5⟩ := e2
        cases e5
        have : d = .bl o := by unfold blD at e4; split at e4 <;> cases e4; rfl
        subst this
        exact ⟨false, env1, e1, x, by rw [if_neg (by decide)]; exact e2, e3⟩
    · cases h
  | .val e, sc, X, p, g, h => by
    unfold mC at h
    obtain ⟨h1, h2⟩ := ba h
    refine c_val h1 ((sndE e g h2).b (evB_eq e)) fun env o env' e => ?_
    unfold evC at e
    simp only [bind, Option.bind_eq_some_iff, Prod.exists] at e
    obtain ⟨x, env1, e1, d, e2, k, e3, e4⟩ := e
    cases e4
    have : d = .bl o := by unfold blD at e3; split at e3 <;> cases e3; rfl
    subst this
    exact ⟨x, e1, e2⟩
  | .and cs, sc, X, p, g, h => by
    unfold mC at h
    split at h
    · exact cast (by congr 1; funext env; conv => rhs; unfold evC) (sndCand cs g h).c
    · cases h
  | .or cs, sc, X, p, g, h => by
    unfold mC at h
    split at h
    · exact cast (by congr 1; funext env; conv => rhs; unfold evC) (sndCor cs g h).c
    · cases h
  | .not c, sc, X, p, g, h => by
    unfold mC at h
    split at h
    · refine c_not (sndC c g h) fun env o env' e => ?_
      unfold evC at e
      simp only [bind, Option.bind_eq_some_iff, Prod.exists] at e
      obtain ⟨k, env1, e1, e4⟩ := e
      cases e4
      exact ⟨k, e1, rfl⟩
    · cases h
  | .cmp op a b, sc, X, p, g, h => by
    unfold mC at h
    split at h
    · obtain ⟨h, h3⟩ := ba h
      obtain ⟨h1, h2⟩ := ba h
      have := of_decide_eq_true h1
      subst this
      refine c_cmp (by have := g.hu; omega) (mE_head h3) ((sndE a g h2).b (evB_eq a)) ((sndE b g h3).b (evB_eq b)) fun env o env' e => ?_
      unfold evC at e
      simp only [bind, Option.bind_eq_some_iff, Prod.exists] at e
      obtain ⟨x, env1, e1, y, env2, e2, dx, e3, dy, e4, r, e5, e6⟩ := e
      cases e6
      exact ⟨x, env1, y, dx, dy, e1, e2, e3, e4, e5⟩
    · cases h
  | .cmp2 op op' a b c, sc, X, p, g, h => by
    unfold mC at h
    split at h
    · obtain ⟨h, h5⟩ := ba h
      obtain ⟨h, h4⟩ := ba h
      obtain ⟨h, h3⟩ := ba h
      obtain ⟨h1, h2⟩ := ba h
      have := of_decide_eq_true h1
      subst this
      have := of_decide_eq_true h2
      subst this
      refine c_cmp2 (by have := g.hu; omega) (mE_head h4) (mE_head h5) ((sndE a g h3).b (evB_eq a)) ((sndE b g h4).b (evB_eq b)) ((sndE c g h5).b (evB_eq c)) fun env o env3 e => ?_
      unfold evC at e
      simp only [bind, Option.bind_eq_some_iff, Prod.exists] at e
      obtain ⟨x, env1, e1, y, env2, e2, dx, e3, dy, e4, r, e5, e6⟩ := e
      cases r with
      | true =>
        simp only [if_true, Option.bind_eq_some_iff, Prod.exists] at e6
        obtain ⟨z, env4, e7, dy', e8, dz, e9, k', e10, e11⟩ := e6
        cases e11
        exact ⟨x, env1, y, env2, dx, dy, _, _, e1, e2, e3, e4, e5, .inl ⟨rfl, z, dy', dz, e7, e8, e9, e10⟩, rfl⟩
      | false =>
        cases e6
        exact ⟨x, env1, y, _, dx, dy, _, false, e1, e2, e3, e4, e5, .inr ⟨rfl, rfl, rfl⟩, rfl⟩
    · cases h
theorem sndCand : ∀ (cs : Cs) {sc : Scope} {X : Cx} {ps : List Expr} {pos : Pos}, Gd Γ cl N sc X → mCs Γ N cs sc ps = true → SCw X (.BoolOp .And ps pos) (evCand cl cs)
  | .nil, sc, X, ps, pos, g, h => by
    intro env o env' e
    unfold evCand at e
    cases e
  | .cons e .nil, sc, X, ps, pos, g, h => by
    unfold mCs at h
    cases ps with
    | nil => cases h
    | cons p ps =>
      obtain ⟨h1, h2⟩ := ba h
      unfold mCs at h2
      cases ps with
      | nil => exact cast (by congr 1; funext env; conv => rhs; unfold evCand) (c_and1 (pos := pos) (sndC e g h1))
      | cons => cases h2
  | .cons e (.cons e2 es), sc, X, ps, pos, g, h => by
    unfold mCs at h
    cases ps with
    | nil => cases h
    | cons p ps =>
      obtain ⟨h1, h2⟩ := ba h
      cases ps with
      | nil => unfold mCs at h2; cases h2
      | cons p2 ps =>
        refine c_and (sndC e g h1) (sndCand (.cons e2 es) g h2) fun env o env' e => ?_
        unfold evCand at e
        simp only [bind, Option.bind_eq_some_iff, Prod.exists] at e
        obtain ⟨k, env1, e1, e4⟩ := e
        refine ⟨k, env1, e1, ?_⟩
        cases k with
        | true => exact .inl ⟨rfl, by simpa using e4⟩
        | false => cases e4; exact .inr ⟨rfl, rfl, rfl⟩
theorem sndCor : ∀ (cs : Cs) {sc : Scope} {X : Cx} {ps : List Expr} {pos : Pos}, Gd Γ cl N sc X → mCs Γ N cs sc ps = true → SCw X (.BoolOp .Or ps pos) (evCor cl cs)
  | .nil, sc, X, ps, pos, g, h => by
    intro env o env' e
    unfold evCor at e
    cases e
  | .cons e .nil, sc, X, ps, pos, g, h => by
    unfold mCs at h
    cases ps with
    | nil => cases h
    | cons p ps =>
      obtain ⟨h1, h2⟩ := ba h
      unfold mCs at h2
      cases ps with
      | nil => exact cast (by congr 1; funext env; conv => rhs; unfold evCor) (c_or1 (pos := pos) (sndC e g h1))
      | cons => cases h2
  | .cons e (.cons e2 es), sc, X, ps, pos, g, h => by
    unfold mCs at h
    cases ps with
    | nil => cases h
    | cons p ps =>
      obtain ⟨h1, h2⟩ := ba h
      cases ps with
      | nil => unfold mCs at h2; cases h2
      | cons p2 ps =>
        refine c_or (sndC e g h1) (sndCor (.cons e2 es) g h2) fun env o env' e => ?_
        unfold evCor at e
        simp only [bind, Option.bind_eq_some_iff, Prod.exists] at e
        obtain ⟨k, env1, e1, e4⟩ := e
        refine ⟨k, env1, e1, ?_⟩
        cases k with
        | false => exact .inl ⟨rfl, by simpa using e4⟩
        | true => cases e4; exact .inr ⟨rfl, rfl, rfl⟩
theorem sndOC : ∀ (c : OC) {sc : Scope} {X : Cx} {ps : List Expr}, Gd Γ cl N sc X → mOC Γ N c sc ps = true → SOC X ps (evOC cl c)
  | .no, sc, X, ps, g, h => by
    unfold mOC at h
    cases ps with
    | nil => exact soc_no fun env => by unfold evOC; rfl
    | cons => cases h
  | .so c, sc, X, ps, g, h => by
    unfold mOC at h
    split at h
    · exact cast (by congr 1; funext env; conv => rhs; unfold evOC) (soc_so (sndC c g h))
    · cases h
theorem sndI : ∀ (i : I) {tp : Bool} {sc : Scope} {X : Cx} {tg p : Expr}, Gd Γ cl N sc X → (tp = true → ∃ elts kk tpos, tg = .Tuple elts kk tpos) → mI Γ N i tp sc p = true → SI X tg p (evI cl i)
  | .seq e, tp, sc, X, tg, p, g, ht, h => by
    unfold mI at h
    refine si_seq ((sndE e g h).b (evB_eq e)) fun env items lk env' e => ?_
    unfold evI at e
    simp only [bind, Option.bind_eq_some_iff, Prod.exists] at e
    obtain ⟨o, env1, e1, d, e2, ds, e3, e4⟩ := e
    cases e4
    exact ⟨o, env1, d, e1, e2, e3, rfl⟩
  | .rng1 a, tp, sc, X, tg, p, g, ht, h => by
    unfold mI at h
    split at h
    · obtain ⟨h, h3⟩ := ba h
      obtain ⟨h1, h2⟩ := ba h
      refine si_rng1 g (by simpa using h1) h2 (mE_head h3) ((sndE a g h3).b (evB_eq a)) fun env items lk env' e => ?_
      unfold evI at e
      simp only [bind, Option.bind_eq_some_iff, Prod.exists] at e
      obtain ⟨o, env1, e1, d, e2, i, e3, ds, e4, e5⟩ := e
      cases e5
      have : d = .int i := by unfold intD at e3; split at e3 <;> cases e3; rfl
      subst this
      exact ⟨o, i, e1, e2, e4, rfl⟩
    · cases h
  | .rng2 a b, tp, sc, X, tg, p, g, ht, h => by
    unfold mI at h
    split at h
    · obtain ⟨h, h4⟩ := ba h
      obtain ⟨h, h3⟩ := ba h
      obtain ⟨h1, h2⟩ := ba h
      refine si_rng2 g (by simpa using h1) h2 (mE_head h3) (mE_head h4) ((sndE a g h3).b (evB_eq a)) ((sndE b g h4).b (evB_eq b)) fun env items lk env' e => ?_
      unfold evI at e
      simp only [bind, Option.bind_eq_some_iff, Prod.exists] at e
      obtain ⟨o, env1, e1, u, env2, e2, d, e3, d2, e4, i, e5, j, e6, ds, e7, e8⟩ := e
      cases e8
      have : d = .int i := by unfold intD at e5; split at e5 <;> cases e5; rfl
      subst this
      have : d2 = .int j := by unfold intD at e6; split at e6 <;> cases e6; rfl
      subst this
      exact ⟨o, i, env1, u, j, e1, e2, e3, e4, e7, rfl⟩
    · cases h
  | .rng3 a b c, tp, sc, X, tg, p, g, ht, h => by
    unfold mI at h
    cases h
  | .enum e, tp, sc, X, tg, p, g, ht, h => by
    unfold mI at h
    split at h
    · obtain ⟨h, h4⟩ := ba h
      obtain ⟨h, h3⟩ := ba h
      obtain ⟨h1, h2⟩ := ba h
      obtain ⟨elts, kk, tpos, rfl⟩ := ht h1
      refine si_enum g (by simpa using h2) h3 (mE_head h4) ((sndE e g h4).b (evB_eq e)) fun env items lk env' e => ?_
      unfold evI at e
      simp only [bind, Option.bind_eq_some_iff, Prod.exists] at e
      obtain ⟨o, env1, e1, d, e2, ds, e3, e4⟩ := e
      cases e4
      exact ⟨o, env1, d, ds, e1, e2, e3, rfl, rfl⟩
    · cases h
  | .zip a b, tp, sc, X, tg, p, g, ht, h => by
    unfold mI at h
    split at h
    · obtain ⟨h, h5⟩ := ba h
      obtain ⟨h, h4⟩ := ba h
      obtain ⟨h, h3⟩ := ba h
      obtain ⟨h1, h2⟩ := ba h
      obtain ⟨elts, kk, tpos, rfl⟩ := ht h1
      refine si_zip g (by simpa using h2) h3 (mE_head h4) (mE_head h5) ((sndE a g h4).b (evB_eq a)) ((sndE b g h5).b (evB_eq b)) fun env items lk env' e => ?_
      unfold evI at e
      simp only [bind, Option.bind_eq_some_iff, Prod.exists] at e
      obtain ⟨o, env1, e1, u, env2, e2, d, e3, d2, e4, ds, e5, e6⟩ := e
      cases e6
      exact ⟨o, env1, u, env2, d, d2, e1, e2, e3, e4, e5, rfl, rfl⟩
    · cases h
  | .zip3 a b c, tp, sc, X, tg, p, g, ht, h => by
    unfold mI at h
    split at h
    · obtain ⟨h, h6⟩ := ba h
      obtain ⟨h, h5⟩ := ba h
      obtain ⟨h, h4⟩ := ba h
      obtain ⟨h, h3⟩ := ba h
      obtain ⟨h1, h2⟩ := ba h
      obtain ⟨elts, kk, tpos, rfl⟩ := ht h1
      refine si_zip3 g (by simpa using h2) h3 (mE_head h4) (mE_head h5) (mE_head h6) ((sndE a g h4).b (evB_eq a)) ((sndE b g h5).b (evB_eq b)) ((sndE c g h6).b (evB_eq c)) fun env items lk env' e => ?_
      unfold evI at e
      simp only [bind, Option.bind_eq_some_iff, Prod.exists] at e
      obtain ⟨o, env1, e1, u, env2, e2, o3, env3, e3, d, e4, d2, e5, d3, e6, ds, e7, e8⟩ := e
      cases e8
      exact ⟨o, env1, u, env2, o3, env3, d, d2, d3, e1, e2, e3, e4, e5, e6, e7, rfl, rfl⟩
    · cases h
  | .rev e, tp, sc, X, tg, p, g, ht, h => by
    unfold mI at h
    cases h
end
end
end VI
/-! VI17: statements. -/
namespace VI
open PySem PySem.Spec L2

mutual
inductive S where
  | set (i : Nat) (e : E) | unp (t : T) (e : E) | par (i j : Nat) (a b : E) | put (i : Nat) (k e : E) | inc (i : Nat) (e : E)
  | expr (e : E) | ret (e : E) | retn | ifs (c : C) (a b : Ss) | fo (t : T) (it : I) (b : Ss) | whi (c : C) (b : Ss) | brk | cont | pass | doc | never
inductive Ss where | nil | cons (s : S) (ss : Ss)
end
/-- how a statement ends -/
inductive Fl where | nx (env : En) | bk (env : En) | ct (env : En) | rt (o : Op) (env : En)

def stO (env : En) (i : Nat) : Op → Option En
  | .v d => putS env i (.fz d)
  | .nw d => putS env i (.ow false d)
  | .p j => (esc env (.p j)).bind fun z => putS z.2 i (.fz z.1)
def retO (env : En) : Op → Option (Op × En)
  | .v d => some (.v d, env)
  | .nw d => some (.nw d, env)
  | .p i => match env[i]? with
    | some (.fz d) => some (.v d, env)
    | some (.ow false d) => some (.nw d, env.set i .un)
    | _ => none
def foLoop (body : En → Option Fl) (t : T) : List D → En → Option Fl
  | [], env => some (.nx env)
  | d :: ds, env => (t.put env d).bind fun env => (body env).bind fun fl => match fl with
    | .nx env => foLoop body t ds env
    | .ct env => foLoop body t ds env
    | .bk env => some (.nx env)
    | .rt o env => some (.rt o env)
def whLoop (c : En → Option (Bool × En)) (body : En → Option Fl) : Nat → En → Option Fl
  | 0, _ => none
  | n + 1, env => (c env).bind fun z => if z.1 = true then (body z.2).bind fun fl => match fl with
    | .nx env => whLoop c body n env
    | .ct env => whLoop c body n env
    | .bk env => some (.nx env)
    | .rt o env => some (.rt o env) else some (.nx z.2)
open Classical in
noncomputable def whE (c : En → Option (Bool × En)) (body : En → Option Fl) (env : En) : Option Fl :=
  if h : ∃ n fl, whLoop c body n env = some fl then some h.choose_spec.choose else none
theorem whE_ex {c : En → Option (Bool × En)} {body : En → Option Fl} {env : En} {fl : Fl} (h : whE c body env = some fl) : ∃ n, whLoop c body n env = some fl := by
  unfold whE at h
  split at h
  · rename_i q
    cases h
    exact ⟨_, q.choose_spec.choose_spec⟩
  · cases h
theorem whLoop_more {c : En → Option (Bool × En)} {body : En → Option Fl} : ∀ {n m : Nat} {env : En} {fl : Fl}, whLoop c body n env = some fl → n ≤ m → whLoop c body m env = some fl
  | 0, _, _, _, h, _ => by cases h
  | n + 1, 0, _, _, _, h => by omega
  | n + 1, m + 1, env, fl, h, hm => by
    simp only [whLoop, Option.bind_eq_some_iff] at h ⊢
    obtain ⟨z, h1, h2⟩ := h
    refine ⟨z, h1, ?_⟩
    cases hz : z.1 with
    | false => rw [hz] at h2; exact h2
    | true =>
      rw [hz] at h2
      simp only [if_true, Option.bind_eq_some_iff] at h2 ⊢
      obtain ⟨f, h3, h4⟩ := h2
      refine ⟨f, h3, ?_⟩
      cases f with
      | nx e => exact whLoop_more h4 (by omega)
      | ct e => exact whLoop_more h4 (by omega)
      | bk e => exact h4
      | rt o e => exact h4
theorem whE_of {c : En → Option (Bool × En)} {body : En → Option Fl} {n : Nat} {env : En} {fl : Fl} (h : whLoop c body n env = some fl) : whE c body env = some fl := by
  have q : ∃ n fl, whLoop c body n env = some fl := ⟨n, fl, h⟩
  have e : whE c body env = some q.choose_spec.choose := by unfold whE; rw [dif_pos q]
  rw [e]
  have h2 := q.choose_spec.choose_spec
  have a := whLoop_more h (Nat.le_max_left n q.choose)
  have b := whLoop_more h2 (Nat.le_max_right n q.choose)
  rw [a] at b
  exact b.symm
def Fl.free (lk : List (Nat × Bool)) : Fl → Fl
  | .nx e => .nx (unlock e lk)
  | .bk e => .bk (unlock e lk)
  | .ct e => .ct (unlock e lk)
  | .rt o e => .rt o (unlock e lk)
section
variable (cl : CallF)
mutual
noncomputable def evS : S → En → Option Fl
  | .set i e, env => do
    let (o, env) ← evE cl e env
    let env ← stO env i o
    return .nx env
  | .unp t e, env => do
    let (o, env) ← evE cl e env
    let (d, env) ← esc env o
    let env ← t.put env d
    return .nx env
  | .par i j a b, env => do
    let (ds, env) ← evDs cl (.cons a (.cons b .nil)) env
    match ds with
    | [x, y] => do
      let env ← putS env i (.fz x)
      let env ← putS env j (.fz y)
      return .nx env
    | _ => none
  | .put i k e, env => do
    let (o, env) ← evE cl e env
    let (d, env) ← esc env o
    if !isOwL env i then none
    let (o2, env) ← evB cl k env
    let dk ← rd env o2
    let n ← intD dk
    match env[i]? with
    | some (.ow io (.lst xs)) => do
      let j ← ixN xs.length n
      return .nx (env.set i (.ow io (.lst (xs.set j d))))
    | _ => none
  | .inc i e, env => do
    match env[i]? with
    | some (.fz (.int a)) => do
      let (o, env) ← evB cl e env
      let d ← rd env o
      let b ← intD d
      let env ← putS env i (.fz (.int (a + b)))
      return .nx env
    | _ => none
  | .expr e, env => do
    let (_, env) ← evE cl e env
    return .nx env
  | .ret e, env => do
    let (o, env) ← evE cl e env
    let (o, env) ← retO env o
    return .rt o env
  | .retn, env => some (.rt (.v .non) env)
  | .ifs c a b, env => do
    let (k, env) ← evC cl c env
    if k then evSs a env else evSs b env
  | .fo t it b, env => do
    let (items, lk, env) ← evI cl it env
    let fl ← foLoop (fun env => evSs b env) t items env
    return fl.free lk
  | .whi c b, env => whE (fun env => evC cl c env) (fun env => evSs b env) env
  | .brk, env => some (.bk env)
  | .cont, env => some (.ct env)
  | .pass, env => some (.nx env)
  | .doc, env => some (.nx env)
  | .never, _ => none
noncomputable def evSs : Ss → En → Option Fl
  | .nil, env => some (.nx env)
  | .cons s ss, env => do
    let fl ← evS s env
    match fl with
    | .nx env => evSs ss env
    | fl => some fl
end
end

/-! ### matching -/
def swB (sc : Scope) (y : Str) (py : Pos) (p : Expr) : Bool := match p with
  | .ListComp _ _ scope pos => sc.names.lookup y == some .local && py.line == pos.line && !(scope.names.any fun (n, k) => n == y && (k == .local || k == .cell))
  | _ => false
def isLc : Expr → Bool
  | .ListComp _ _ _ _ => true
  | _ => false
def isLcE : E → Bool
  | .lc .. => true
  | .lc2 .. => true
  | _ => false
def parB (sc : Scope) (x y : Str) (px py : Pos) (pa pb : Expr) : Bool :=
  sc.names.lookup x == some .local && sc.names.lookup y == some .local && py.line == px.line && !(x == y) && !(foldedForSure 8 pa && foldedForSure 8 pb) && !(constantsAlone 8 pa && constantsAlone 8 pb)
section
variable (Γ : Gm) (N : List Str) (sc : Scope)
mutual
def mS : S → Stmt → Bool
  | .set i e, st => match st with
    | .Assign [.Name x py] p pos => tnB N sc (fun _ => true) i x && mE Γ N e sc p
    | _ => false
  | .unp t e, st => match st with
    | .Assign [.Tuple es k tp] p pos => mT N sc (fun _ => true) t (.Tuple es k tp) && mE Γ N e sc p && (match p with | .Tuple _ _ _ => false | _ => true)
    | _ => false
  | .par i j a b, st => match st with
    | .Assign [.Tuple [.Name x px, .Name y py] kt pt] (.Tuple [pa, pb] k2 pt2) pos => N[i]? == some x && N[j]? == some y && !(i == j) && parB sc x y px py pa pb && mE Γ N a sc pa && mE Γ N b sc pb
    | _ => false
  | .put i k e, st => match st with
    | .Assign [.Subscript (.Name x px) pk p2] p pos => nmB N sc i x && mE Γ N k sc pk && mE Γ N e sc p
    | _ => false
  | .inc i e, st => match st with
    | .AugAssign (.Name x px) .Add p pos => tnB N sc (fun _ => true) i x && mE Γ N e sc p
    | _ => false
  | .expr e, st => match st with
    | .Expr p pos => !isLc p && mE Γ N e sc p
    | _ => false
  | .ret e, st => match st with
    | .Return (some p) pos => mE Γ N e sc p
    | _ => false
  | .retn, st => match st with
    | .Return none pos => true
    | _ => false
  | .ifs c a b, st => match st with
    | .If pc pa pb pos => mC Γ N c sc pc && mSs a pa && mSs b pb
    | _ => false
  | .fo t it b, st => match st with
    | .For tg pit body [] pos => mI Γ N it t.isTup sc pit && mT N sc (fun _ => true) t tg && mSs b body
    | _ => false
  | .whi c b, st => match st with
    | .While pc body [] pos => mC Γ N c sc pc && mSs b body
    | _ => false
  | .brk, st => match st with
    | .Break _ => true
    | _ => false
  | .cont, st => match st with
    | .Continue _ => true
    | _ => false
  | .pass, st => match st with
    | .Pass _ => true
    | _ => false
  | .doc, st => match st with
    | .Expr (.Constant (.str _) _ _) _ => true
    | _ => false
  | .never, _ => true
def mSs : Ss → List Stmt → Bool
  | .nil, ps => ps.isEmpty
  | .cons s ss, ps => match ps with
    | p :: ps => mS s p && mSs ss ps
    | [] => false
end
end

/-! ### meaning -/
/-- nothing but a slot of this def holds it, or it is new -/
def Sl.mine : Sl → Option VI.D
  | .ow false d => some d
  | .lk false d => some d
  | _ => none
def Fr (env : En) (σ : Slots) (H : Hp) (a : Addr) : Prop := H a = none ∨ ∃ (i : Nat) (s : Sl) (d : VI.D), env[i]? = some s ∧ s.mine = some d ∧ σ[i]? = some (some (.ref a))
theorem mine_own {s : Sl} {d : VI.D} (h : s.mine = some d) : s.own = some d := by
  unfold Sl.mine at h
  split at h
  · exact h
  · exact h
  · cases h
def EOk (K : PySem.W.Frag) (F : FS) (H : Hp) (env : En) (σ : Slots) (D : Ends) : Fl → Prop
  | .nx e => ∀ σ' F' H', Pst K F H env σ F' H' e σ' → D.nx σ' H'
  | .bk e => ∀ σ' F' H', Pst K F H env σ F' H' e σ' → D.bk σ' H'
  | .ct e => ∀ σ' F' H', Pst K F H env σ F' H' e σ' → D.ct σ' H'
  | .rt o e => ∀ v σ' F' H', Pst K F H env σ F' H' e σ' → RelOp K F' H' σ' o v → (∀ i, o ≠ .p i) → (∀ d, o = .nw d → ∀ a, v = .ref a → Fr env σ H a ∧ ¬ OA e σ' a) → D.rt v H'
section
variable {K : PySem.W.Frag} {F F1 F2 : FS} {H H1 H2 : Hp} {env env0 env1 env2 : En} {σ σ1 σ2 : Slots} {D : Ends}
theorem Fr.from {a : Addr} (p : Pst K F H env σ F1 H1 env1 σ1) (h : Fr env1 σ1 H1 a) : Fr env σ H a := by
  have nb : H1 a = none → H a = none := fun z => by
    by_cases q : H a = none
    · exact q
    · exact absurd z (p.st.dom a q)
  rcases h with h | ⟨i, s1, d, h1, hm, h2⟩
  · exact .inl (nb h)
  · rcases p.own a ⟨i, s1, d, h1, mine_own hm, h2⟩ with ⟨j, s, d2, h3, h4, h5⟩ | z
    · cases s with
      | un => cases h4
      | fz => cases h4
      | ow io d3 =>
        cases io with
        | false => exact .inr ⟨j, _, d3, h3, rfl, h5⟩
        | true =>
          obtain ⟨⟨d4, h6⟩, h7⟩ := p.io j d3 h3
          have := p.rel.ne i j _ _ _ _ _ h1 (mine_own hm) h6 rfl h2 (by rw [h7]; exact h5)
          subst this
          rw [h1] at h6; cases h6; cases hm
      | lk io d3 =>
        cases io with
        | false => exact .inr ⟨j, _, d3, h3, rfl, h5⟩
        | true =>
          obtain ⟨h6, h7⟩ := p.lk j true d3 h3
          have := p.rel.ne i j _ _ _ _ _ h1 (mine_own hm) h6 rfl h2 (by rw [h7]; exact h5)
          subst this
          rw [h1] at h6; cases h6; cases hm
    · exact .inl z
theorem EOk.from {fl : Fl} (p : Pst K F H env σ F1 H1 env1 σ1) (q : EOk K F H env σ D fl) : EOk K F1 H1 env1 σ1 D fl := by
  cases fl with
  | nx e => exact fun σ' F' H' p' => q σ' F' H' (p.trans p')
  | bk e => exact fun σ' F' H' p' => q σ' F' H' (p.trans p')
  | ct e => exact fun σ' F' H' p' => q σ' F' H' (p.trans p')
  | rt o e => exact fun v σ' F' H' p' r np n => q v σ' F' H' (p.trans p') r np fun d ed a ea => ⟨(n d ed a ea).1.from p, (n d ed a ea).2⟩
theorem st_ok {o : Op} {v : V} {i : Nat} (p : Pst K F H env σ F1 H1 env1 σ) (r : RelOp K F1 H1 σ o v) (hn : ∀ d, o = .nw d → ∀ a, v = .ref a → H a = none ∧ ¬ OA env1 σ a) (e : stO env1 i o = some env2) : ∃ F2, Pst K F H env σ F2 H1 env2 (σ.set i (some v)) := by
  cases o with
  | v d => exact ⟨F1, p.trans (store_pst p.rel e r)⟩
  | nw d =>
    obtain ⟨a, rfl, ho⟩ := r
    obtain ⟨h1, h2⟩ := hn d rfl a rfl
    exact ⟨F1, store_own p e ho h1 h2⟩
  | p j =>
    simp only [stO, Option.bind_eq_some_iff, Prod.exists] at e
    obtain ⟨d, env3, e1, e2⟩ := e
    obtain ⟨F2, p2, iv, _⟩ := esc_ok p r hn e1
    exact ⟨F2, p2.trans (store_pst p2.rel e2 iv)⟩
/-- the slot's list is given away -/
theorem Pst.give (p : Pst K F H env σ F1 H1 env1 σ1) {i : Nat} {d : VI.D} (e : env1[i]? = some (.ow false d)) : Pst K F H env σ F1 H1 (env1.set i .un) σ1 where
  st := p.st
  rel := {
    len := by rw [List.length_set]; exact p.rel.len
    fz := fun j d' h => by
      rcases getset h with ⟨rfl, h, _⟩ | ⟨_, h⟩
      · cases h
      · exact p.rel.fz j d' h
    ow := fun j s d' h hs => by
      rcases getset h with ⟨rfl, h, _⟩ | ⟨hn, h⟩
      · cases h; cases hs
      · exact p.rel.ow j s d' h hs
    ne := fun j k s t d' e' c h hs h' ht q q' => by
      rcases getset h with ⟨rfl, h, _⟩ | ⟨hn, h⟩
      · cases h; cases hs
      · rcases getset h' with ⟨rfl, h', _⟩ | ⟨hn', h'⟩
        · cases h'; cases ht
        · exact p.rel.ne j k s t d' e' c h hs h' ht q q'
    fdm := p.rel.fdm }
  own := fun c ⟨j, s, d', h, hs, q⟩ => by
    rcases getset h with ⟨rfl, h, _⟩ | ⟨hn, h⟩
    · cases h; cases hs
    · exact p.own c ⟨j, s, d', h, hs, q⟩
  io := fun j d' h => by
    obtain ⟨⟨d2, h1⟩, h2⟩ := p.io j d' h
    have hn : i ≠ j := fun z => by subst z; rw [e] at h1; cases h1
    exact ⟨⟨d2, by rw [List.getElem?_set_ne hn]; exact h1⟩, h2⟩
  lk := fun j io d' h => by
    obtain ⟨h1, h2⟩ := p.lk j io d' h
    have hn : i ≠ j := fun z => by subst z; rw [e] at h1; cases h1
    exact ⟨by rw [List.getElem?_set_ne hn]; exact h1, h2⟩
end
section
variable {X : Cx}
def SS (X : Cx) (st : Stmt) (f : En → Option Fl) : Prop := ∀ env fl, f env = some fl → ∀ σ F H D, RelE X.K F H env σ → EOk X.K F H env σ D fl → WS X st D σ H
def SSs (X : Cx) (st : List Stmt) (f : En → Option Fl) : Prop := ∀ env fl, f env = some fl → ∀ σ F H D, RelE X.K F H env σ → EOk X.K F H env σ D fl → WSs X st D σ H
theorem ss_nil {f : En → Option Fl} (hf : ∀ env, f env = some (.nx env)) : SSs X [] f := by
  intro env fl e σ F H D r q
  rw [hf] at e
  cases e
  exact WSs.of pss_nil (q σ F H (.refl r))
theorem ss_cons {st : Stmt} {rest : List Stmt} {fs fss f : En → Option Fl} (hs : SS X st fs) (hss : SSs X rest fss)
    (hf : ∀ env fl, f env = some fl → ∃ fl1, fs env = some fl1 ∧ ((∃ e, fl1 = .nx e ∧ fss e = some fl) ∨ ((∀ e, fl1 ≠ .nx e) ∧ fl = fl1))) : SSs X (st :: rest) f := by
  intro env fl e σ F H D r q
  obtain ⟨fl1, h1, h2⟩ := hf env fl e
  refine WSs.of (pss_cons (pS X st) (pSs X rest)) (hs env fl1 h1 σ F H _ r ?_)
  rcases h2 with ⟨e1, rfl, h2⟩ | ⟨h2, rfl⟩
  · exact fun σ' F' H' p => hss e1 fl h2 σ' F' H' D p.rel (q.from p)
  · cases fl with
    | nx e1 => exact absurd rfl (h2 e1)
    | bk e1 => exact q
    | ct e1 => exact q
    | rt o e1 => exact q
theorem ss_ret {p : Expr} {pos : Pos} {fe : En → Option (Op × En)} {f : En → Option Fl} (he : SE X p fe) (hf : ∀ env fl, f env = some fl → ∃ o env1 o2 env2, fe env = some (o, env1) ∧ retO env1 o = some (o2, env2) ∧ fl = .rt o2 env2) : SS X (.Return (some p) pos) f := by
  intro env fl e σ F H D r q
  obtain ⟨o, env1, o2, env2, h1, h2, rfl⟩ := hf env fl e
  refine WS.of (ps_ret (pE X p)) (he env o env1 h1 σ F H _ r fun v F' H' p' r' n' => ?_)
  cases o with
  | v d =>
    cases h2
    exact q v σ F' H' p' r' (fun i z => by cases z) fun d z => by cases z
  | nw d =>
    cases h2
    exact q v σ F' H' p' r' (fun i z => by cases z) fun d ed a ea => ⟨.inl (n' d ed a ea).1, (n' d ed a ea).2⟩
  | p i =>
    have r' : σ[i]? = some (some v) := r'
    simp only [retO] at h2
    split at h2
    · rename_i d g
      cases h2
      obtain ⟨w, e1, e2⟩ := p'.rel.fz i d g
      rw [r'] at e1; cases e1
      exact q v σ F' H' p' e2 (fun i z => by cases z) fun d z => by cases z
    · rename_i d g
      cases h2
      obtain ⟨a, e1, e2⟩ := p'.rel.ow i _ d g rfl
      rw [r'] at e1; cases e1
      refine q _ σ F' H' (p'.give g) ⟨a, rfl, e2⟩ (fun i z => by cases z) fun d _ b eb => ?_
      cases eb
      refine ⟨(Fr.from p' (.inr ⟨i, _, _, g, rfl, r'⟩)), fun ⟨j, s, d2, h3, h4, h5⟩ => ?_⟩
      rcases getset h3 with ⟨rfl, h3, _⟩ | ⟨hn, h3⟩
      · cases h3; cases h4
      · exact hn (p'.rel.ne i j _ _ _ _ _ g rfl h3 h4 r' h5)
    · cases h2
theorem ss_retn {pos : Pos} {f : En → Option Fl} (hf : ∀ env, f env = some (.rt (.v .non) env)) : SS X (.Return none pos) f := by
  intro env fl e σ F H D r q
  rw [hf] at e
  cases e
  exact WS.of ps_retN (q .non σ F H (.refl r) (by simp [RelOp, Is]) (fun i z => by cases z) fun d z => by cases z)
theorem ss_if {pc : Expr} {pa pb : List Stmt} {pos : Pos} {fc : En → Option (Bool × En)} {fa fb f : En → Option Fl} (hc : SC X pc fc) (ha : SSs X pa fa) (hb : SSs X pb fb)
    (hf : ∀ env fl, f env = some fl → ∃ k env1, fc env = some (k, env1) ∧ (if k = true then fa env1 else fb env1) = some fl) : SS X (.If pc pa pb pos) f := by
  intro env fl e σ F H D r q
  obtain ⟨k, env1, h1, h2⟩ := hf env fl e
  refine WS.of (ps_if (pT X pc) (pSs X pa) (pSs X pb)) (hc env k env1 h1 σ F H _ r fun F' H' p => ?_)
  cases k with
  | true => exact iteT (ha env1 fl h2 σ F' H' D p.rel (q.from p))
  | false => exact iteF (hb env1 fl h2 σ F' H' D p.rel (q.from p))
theorem ss_expr {p : Expr} {pos : Pos} {fe : En → Option (Op × En)} {f : En → Option Fl} (hl : headOk p = true) (hs : swapsWith p none pos.line X.env = pure false) (he : SE X p fe) (hf : ∀ env fl, f env = some fl → ∃ o env1, fe env = some (o, env1) ∧ fl = .nx env1) : SS X (.Expr p pos) f := by
  intro env fl e σ F H D r q
  obtain ⟨o, env1, h1, rfl⟩ := hf env fl e
  exact WS.of (ps_expr (pE X p) hs) (he env o env1 h1 σ F H _ r fun v F' H' p' _ _ => q σ F' H' p')
theorem ss_inc {Γ : Gm} {cl : CallF} {N : List Str} {sc : Scope} (g : Gd Γ cl N sc X) {x : Str} {i : Nat} {p : Expr} {px pos : Pos} {fb : En → Option (Op × En)} {f : En → Option Fl} (hfn : ∀ x, X.fn x = true) (ht : tnB N sc (fun _ => true) i x = true) (hb : SB X p fb)
    (hf : ∀ env fl, f env = some fl → ∃ a o env1 b env2, env[i]? = some (.fz (.int a)) ∧ fb env = some (o, env1) ∧ rd env1 o = some (.int b) ∧ putS env1 i (.fz (.int (a + b))) = some env2 ∧ fl = .nx env2) : SS X (.AugAssign (.Name x px) .Add p pos) f := by
  intro env fl e σ F H D r q
  obtain ⟨a, o, env1, b, env2, h0, h1, h2, h3, rfl⟩ := hf env fl e
  obtain ⟨h4, h5⟩ := ba ht
  obtain ⟨h4, h6⟩ := ba h4
  have hN : X.N[i]? = some x := by rw [g.hN]; simpa using h4
  have hl : Loc X.env.scope x := by
    rw [g.hsc]
    unfold locB at h6
    split at h6
    · rename_i z; exact .inl z
    · rename_i z; exact .inr z
    · cases h6
  obtain ⟨v, e1, e2⟩ := r.fz i _ h0
  simp only [Is] at e2
  subst e2
  refine WS.of (ps_aug g.nd hN hl (pE X p) ip_add (.inl (hfn x))) ⟨_, e1, hb env o env1 h1 σ F H _ r fun v F' H' p' r' n' => ?_⟩
  have e3 := (rd_has p'.rel r' h2).int
  subst e3
  exact ⟨a, b, rfl, rfl, q _ F' H' (p'.trans (store_pst p'.rel h3 (by simp [Is])))⟩
theorem ss_unp {tg p : Expr} {t : T} {pos : Pos} {fe : En → Option (Op × En)} {f : En → Option Fl} (hs : swapsWithSole [tg] p pos.line X.env = pure false) (hw : swappedStores [tg] p X.env = pure none) (h1 : (assignEach [tg] X.env).map (·.2) = [assign tg X.env])
    (he : SE X p fe) (hT : SG X tg t) (hf : ∀ env fl, f env = some fl → ∃ o env1 d env2 env3, fe env = some (o, env1) ∧ esc env1 o = some (d, env2) ∧ t.put env2 d = some env3 ∧ fl = .nx env3) : SS X (.Assign [tg] p pos) f := by
  intro env fl e σ F H D r q
  obtain ⟨o, env1, d, env2, env3, k1, k2, k3, rfl⟩ := hf env fl e
  refine WS.of (ps_asg (pE X p) (pG X tg) hs hw h1) (he env o env1 k1 σ F H _ r fun v F' H' p' r' n' => ?_)
  obtain ⟨F2, p2, iv, _⟩ := esc_ok p' r' n' k2
  exact hT env2 d env3 k3 σ F2 H' v _ p2.rel iv fun σ2 p3 _ => q σ2 F2 H' (p2.trans p3)
theorem ss_put {Γ : Gm} {cl : CallF} {N : List Str} {sc : Scope} (g : Gd Γ cl N sc X) {x : Str} {i : Nat} {pk p : Expr} {px p2 pos : Pos} {fe fk : En → Option (Op × En)} {f : En → Option Fl} (hx : nmB N sc i x = true) (hh : headOk pk = true)
    (hw : swappedStores [.Subscript (.Name x px) pk p2] p X.env = pure none) (hs : swapsWithSole [.Subscript (.Name x px) pk p2] p pos.line X.env = pure false) (he : SE X p fe) (hk : SB X pk fk)
    (hf : ∀ env fl, f env = some fl → ∃ o env1 d env2 o2 env3 io xs n j, fe env = some (o, env1) ∧ esc env1 o = some (d, env2) ∧ (∃ io xs, env2[i]? = some (.ow io (.lst xs))) ∧ fk env2 = some (o2, env3) ∧ rd env3 o2 = some (.int n) ∧ env3[i]? = some (.ow io (.lst xs)) ∧ ixN xs.length n = some j ∧ fl = .nx (env3.set i (.ow io (.lst (xs.set j d))))) : SS X (.Assign [.Subscript (.Name x px) pk p2] p pos) f := by
  intro env fl e σ F H D r q
  obtain ⟨o, env1, d, env2, o2, env3, io, xs, n, j, k1, k2, ⟨io0, xs0, k3⟩, k4, k5, k6, k7, rfl⟩ := hf env fl e
  have ha : ∀ v, assign (.Subscript (.Name x px) pk p2) X.env v = (do
      let ov ← holding [v] (eval (.Name x px) X.env)
      let iv ← holding [v, ov] (eval pk X.env)
      standAt p2
      holding [v, ov, iv] (setItem ov iv v)
      release [v, ov, iv] []) := by
    intro v
    cases pk <;> first | rfl | cases hh
  refine WS.of (ps_asg (pE X p) (pg_sub (pe_nm g hx) (pE X pk) set_list ha) hs hw rfl) (he env o env1 k1 σ F H _ r fun v F' H' p' r' n' => ?_)
  obtain ⟨F2, pp, iv, _⟩ := esc_ok p' r' n' k2
  obtain ⟨a, ea, ho⟩ := pp.rel.ow i _ _ k3 rfl
  refine ⟨_, ea, hk env2 o2 env3 k4 σ F2 H' _ pp.rel fun w F3 H3 p3 r3 n3 => ?_⟩
  have e3 := (rd_has p3.rel r3 k5).int
  subst e3
  obtain ⟨b, eb, hb⟩ := p3.rel.ow i _ _ k6 rfl
  rw [ea] at eb
  cases eb
  obtain ⟨nF, vs, hb2, hb3⟩ := hb
  have p4 := pp.trans p3
  refine ⟨a, vs, n, j, rfl, rfl, hb2, by rw [← hb3.length]; exact k7, ?_⟩
  have iv3 : Is X.K F3 H3 d v := iv.mono p3.st.sub p3.st.agr
  have agr : ∀ c, F3 c → upd H3 a (.lst (vs.set j v)) c = H3 c := fun c f => upd_ne fun z => nF (by rw [← z]; exact f)
  exact q σ F3 _ (p4.mut k6 ea ⟨nF, vs, hb2, hb3⟩ ⟨nF, _, upd_same, (IsL.set j hb3 iv3).mono (fun _ h => h) agr⟩)
theorem ss_set {Γ : Gm} {cl : CallF} {N : List Str} {sc : Scope} (g : Gd Γ cl N sc X) {x : Str} {i : Nat} {p : Expr} {py pos : Pos} {fe : En → Option (Op × En)} {f : En → Option Fl} (hfn : ∀ x, X.fn x = true) (ht : tnB N sc (fun _ => true) i x = true)
    (hs : swapsWith p (some (.Name x py)) pos.line X.env = pure false) (he : SE X p fe) (hf : ∀ env fl, f env = some fl → ∃ o env1 env2, fe env = some (o, env1) ∧ stO env1 i o = some env2 ∧ fl = .nx env2) : SS X (.Assign [.Name x py] p pos) f := by
  intro env fl e σ F H D r q
  obtain ⟨o, env1, env2, h1, h2, rfl⟩ := hf env fl e
  obtain ⟨h4, h5⟩ := ba ht
  obtain ⟨h4, h6⟩ := ba h4
  have hN : X.N[i]? = some x := by rw [g.hN]; simpa using h4
  have hl : Loc X.env.scope x := by
    rw [g.hsc]
    unfold locB at h6
    split at h6
    · rename_i z; exact .inl z
    · rename_i z; exact .inr z
    · cases h6
  refine WS.of (ps_set g.nd hN hl (pE X p) hs (.inl (hfn x))) (he env o env1 h1 σ F H _ r fun v F' H' p' r' n' => ?_)
  obtain ⟨F2, p2⟩ := st_ok p' r' n' h2
  exact q _ F2 H' p2
theorem ss_while {pc : Expr} {body : List Stmt} {pos : Pos} {fc : En → Option (Bool × En)} {fb f : En → Option Fl} (hxe : X.xe = fun _ _ => False) (hc : SC X pc fc) (hb : SSs X body fb) (hf : ∀ env fl, f env = some fl → ∃ n, whLoop fc fb n env = some fl) : SS X (.While pc body [] pos) f := by
  intro env fl e σ F H D r q
  obtain ⟨n, h⟩ := hf env fl e
  refine WS.of (ps_while (by rw [hxe]; exact PassesOwn.never) (pT X pc) (pSs X body)) ⟨fun m σ' H' => ∃ F' e', whLoop fc fb m e' = some fl ∧ Pst X.K F H env σ F' H' e' σ', ⟨n, F, env, h, .refl r⟩, ?_⟩
  rintro m σ1 H1 ⟨F1, e1, hl, p1⟩
  cases m with
  | zero => cases hl
  | succ m =>
    simp only [whLoop, Option.bind_eq_some_iff, Prod.exists] at hl
    obtain ⟨b, e2, h1, h2⟩ := hl
    refine hc e1 b e2 h1 σ1 F1 H1 _ p1.rel fun F2 H2 p2 => ?_
    have p12 := p1.trans p2
    cases b with
    | false =>
      refine iteF ?_
      simp only [Bool.false_eq_true, if_false, Option.some.injEq] at h2
      subst h2
      exact q σ1 F2 H2 p12
    | true =>
      refine iteT ⟨fun σ' H' => ∃ F' e', whLoop fc fb m e' = some fl ∧ Pst X.K F H env σ F' H' e' σ', fun σ' H' z => ⟨m, Nat.lt_succ_self _, z⟩, ?_⟩
      simp only [if_true, Option.bind_eq_some_iff] at h2
      obtain ⟨fl1, h3, h4⟩ := h2
      refine hb e2 fl1 h3 σ1 F2 H2 _ p2.rel ?_
      cases fl1 with
      | nx e3 => exact fun σ' F' H' p3 => ⟨F', e3, h4, p12.trans p3⟩
      | ct e3 => exact fun σ' F' H' p3 => ⟨F', e3, h4, p12.trans p3⟩
      | bk e3 =>
        simp only [Option.some.injEq] at h4
        subst h4
        exact fun σ' F' H' p3 => q σ' F' H' (p12.trans p3)
      | rt o e3 =>
        simp only [Option.some.injEq] at h4
        subst h4
        exact q.from p12
theorem ss_for {tg pit : Expr} {t : T} {body : List Stmt} {pos : Pos} {fi : En → Option (List D × List (Nat × Bool) × En)} {fb f : En → Option Fl} (hxe : X.xe = fun _ _ => False) (hcalm : X.calm = true) (hh : ∀ x, foldedSetIterable pit X.env x = pure x) (hI : SI X tg pit fi) (hT : SG X tg t) (hb : SSs X body fb)
    (hf : ∀ env fl, f env = some fl → ∃ items lk env1 fl1, fi env = some (items, lk, env1) ∧ foLoop fb t items env1 = some fl1 ∧ fl = fl1.free lk) : SS X (.For tg pit body [] pos) f := by
  intro env fl e σ F H D r q
  obtain ⟨items, lk, env1, fl1, h1, h2, rfl⟩ := hf env fl e
  refine WS.of (ps_for (by rw [hxe]; exact PassesOwn.never) hcalm (pI X tg pit) (pG X tg) (pSs X body) hh) (hI env items lk env1 h1 σ F H _ r fun J F1 H1 env0 P p0 rl lks S hP keep => ?_)
  have r1 : RelE X.K F1 H1 env1 σ := rl.rel p0.rel
  have hPk : ∀ {F' H' e σ'}, Pst X.K F1 H1 env1 σ F' H' e σ' → P F' H' := fun {F' H' e σ'} p => keep F' H' p.st.sub p.st.agr fun i io d a hi he ea => by
    obtain ⟨k1, k2⟩ := p.lk i io d he
    obtain ⟨b, k3, k4⟩ := p.rel.ow i _ d k1 rfl
    rw [k2, ea] at k3
    cases k3
    exact k4
  -- the loop's own ends, seen from outside
  have fin : ∀ {σ' F' H' e}, fl1 = .nx e → Pst X.K F1 H1 env1 σ F' H' e σ' → D.nx σ' H' := fun {σ' F' H' e} z p => by
    subst z
    exact q σ' F' H' (p0.trans (lks _ _ _ _ _ _ _ p))
  refine ⟨fun i m σ' H' => ∃ F' e', i ≤ items.length ∧ m = items.length - i ∧ foLoop fb t (items.drop i) e' = some fl1 ∧ Pst X.K F1 H1 env1 σ F' H' e' σ', ⟨items.length, F1, env1, Nat.zero_le _, rfl, h2, .refl r1⟩, ?_⟩
  rintro i m σ1 H2 ⟨F2, e2, hi, rfl, hl, p2⟩
  by_cases hlt : i < items.length
  · refine .inr ⟨S.go i F2 H2 (hPk p2) hlt, fun σ' H' => ∃ F' e', foLoop fb t (items.drop (i + 1)) e' = some fl1 ∧ Pst X.K F1 H1 env1 σ F' H' e' σ', fun σ' H' ⟨F', e', k1, k2⟩ => ⟨items.length - (i + 1), by omega, F', e', hlt, rfl, k1, k2⟩, fun x H' hy => ?_⟩
    rw [List.drop_eq_getElem_cons hlt] at hl
    simp only [foLoop, Option.bind_eq_some_iff] at hl
    obtain ⟨e3, k1, fl2, k2, k3⟩ := hl
    obtain ⟨F3, n3, id3⟩ := S.yld i F2 H2 x H' (hPk p2) p2.rel.fdm hy _ (List.getElem?_eq_getElem hlt)
    have p3 := p2.trans (n3.pst p2.rel)
    refine hT e2 _ e3 k1 σ1 F3 H' x _ p3.rel id3 fun σ2 p4 _ => ?_
    have p34 := p3.trans p4
    refine hb e3 fl2 k2 σ2 F3 H' _ p4.rel ?_
    cases fl2 with
    | nx e4 => exact fun σ' F' H' p5 => ⟨F', e4, k3, p34.trans p5⟩
    | ct e4 => exact fun σ' F' H' p5 => ⟨F', e4, k3, p34.trans p5⟩
    | bk e4 =>
      simp only [Option.some.injEq] at k3
      exact fun σ' F' H' p5 => fin k3.symm (p34.trans p5)
    | rt o e4 =>
      simp only [Option.some.injEq] at k3
      subst k3
      intro v σ' F' H'' p5 rv np nv
      have p15 := p34.trans p5
      refine q v σ' F' H'' (p0.trans (lks _ _ _ _ _ _ _ p15)) ?_ np fun d ed a ea => ?_
      · cases o with
        | v d => exact rv
        | nw d => exact rv
        | p i => exact absurd rfl (np i)
      · obtain ⟨z1, z2⟩ := nv d ed a ea
        refine ⟨?_, fun z => z2 ((unlock_relab lk _).oa z)⟩
        have z3 : Fr env1 σ H1 a := z1.from p34
        refine Fr.from p0 ?_
        rcases z3 with z3 | ⟨j, s, d2, z3, zm, z4⟩
        · exact .inl z3
        · rcases rl.2 j with h | ⟨io, d3, h5, h6⟩ | ⟨io, d3, h5, h6⟩
          · exact .inr ⟨j, s, d2, by rw [← h]; exact z3, zm, z4⟩
          · rw [z3] at h6
            cases h6
            cases io with
            | false => exact .inr ⟨j, _, d3, h5, rfl, z4⟩
            | true => cases zm
          · rw [z3] at h6
            cases h6
            cases io with
            | false => exact .inr ⟨j, _, d3, h5, rfl, z4⟩
            | true => cases zm
  · have e0 : i = items.length := by omega
    subst e0
    rw [List.drop_length] at hl
    simp only [foLoop, Option.some.injEq] at hl
    exact .inl ⟨S.stop _ F2 H2 (hPk p2) rfl, fin hl.symm p2⟩
end
end VI
/-! VI18: statements: what they compute. -/
namespace VI
open PySem PySem.Spec L2
section
variable {Γ : Gm} {cl : CallF} {N : List Str} {sc : Scope} {X : Cx}
theorem sndLc {vs : List Nat} {el : E} {t : T} {it : I} {c : OC} {pel ptg pit : Expr} {pifs : List Expr} {scope : Scope} {pos : Pos} (g : Gd Γ cl N sc X) (h : mE Γ N (.lc vs el t it c) sc (.ListComp pel [⟨ptg, pit, pifs, 0⟩] scope pos) = true) :
    BlkOk X.N X.env.scope scope (vs.map fun i => (N.getD i "", i)) ∧ (∀ x, foldedSetIterable pit X.env x = pure x) ∧
      ∀ env o env', evE cl (.lc vs el t it c) env = some (o, env') → ∀ σ F H Q, RelE X.K F H env σ → QE X.K F H env σ o env' Q → tLc (WI X ptg pit) (tGb X scope ptg) (tCb X scope pifs) (tEb X scope pel) ((vs.map fun i => (N.getD i "", i)).map (·.2)) σ H Q := by
  unfold mE at h
  obtain ⟨h, h6⟩ := ba h
  obtain ⟨h, h5⟩ := ba h
  obtain ⟨h, h4⟩ := ba h
  obtain ⟨h, h3⟩ := ba h
  obtain ⟨h1, h2⟩ := ba h
  have ok : BlkOk X.N X.env.scope scope (vs.map fun i => (N.getD i "", i)) := by rw [g.hN, g.hsc]; exact blkOk_by h1
  have hI := sndI it g (tup_of h3) h2
  have hT : ∀ c, SG (Bk X scope c) ptg t := fun c => sg_of (gd_blk g scope c).hN (gd_blk g scope c).hsc (gd_blk g scope c).nd g.calm (fun x hx => hx) h3
  have hC := fun k => sndOC c (gd_blk g scope k) h5
  have hE := fun k => sndE el (gd_blk g scope k) h6
  refine ⟨ok, sndFold it h2, fun env o env' e σ F H Q r q => ?_⟩
  refine s_lc (cl := cl) (Γ := Γ) g (pos := pos) (own_map vs) ok (sndFold it h2) hI hT hC hE (all_in h4) (f := evE cl (.lc vs el t it c)) (fun env o env' e => ?_) env o env' e σ F H Q r q
  unfold evE at e
  simp only [bind, Option.bind_eq_some_iff, Prod.exists] at e
  obtain ⟨items, lk, env1, e1, e2⟩ := e
  split at e2
  · cases e2
  · rename_i hq
    simp only [Option.bind_eq_some_iff, Prod.exists] at e2
    obtain ⟨outs, env2, e3, e4⟩ := e2
    split at e4
    · rename_i hz
      cases e4
      exact ⟨items, lk, env1, outs, env2, e1, lk_out' hq, e3, hz, rfl, rfl⟩
    · cases e4
theorem sndLc2 {vs vs1 : List Nat} {el : E} {t t1 : T} {it it1 : I} {c c1 : OC} {pel ptg pit ptg1 pit1 : Expr} {pifs pifs1 : List Expr} {scope : Scope} {pos : Pos} (g : Gd Γ cl N sc X) (h : mE Γ N (.lc2 vs vs1 el t it c t1 it1 c1) sc (.ListComp pel [⟨ptg, pit, pifs, 0⟩, ⟨ptg1, pit1, pifs1, 0⟩] scope pos) = true) :
    BlkOk X.N X.env.scope scope (vs.map fun i => (N.getD i "", i)) ∧ (∀ x, foldedSetIterable pit X.env x = pure x) ∧ (∀ env x, foldedSetIterable pit1 env x = pure x) ∧ (∀ i ∈ vs1, i ∈ (vs.map fun i => (N.getD i "", i)).map (·.2)) ∧
      ∀ env o env', evE cl (.lc2 vs vs1 el t it c t1 it1 c1) env = some (o, env') → ∀ σ F H Q, RelE X.K F H env σ → QE X.K F H env σ o env' Q →
        tLc2 (WI X ptg pit) (tGb X scope ptg) (tCb X scope pifs) (tIb X scope ptg1 pit1) (tGb X scope ptg1) (tCb X scope pifs1) (tEb X scope pel) ((vs.map fun i => (N.getD i "", i)).map (·.2)) vs1 σ H Q := by
  unfold mE at h
  obtain ⟨h, h11⟩ := ba h
  obtain ⟨h, h10⟩ := ba h
  obtain ⟨h, h9⟩ := ba h
  obtain ⟨h, h8⟩ := ba h
  obtain ⟨h, h7⟩ := ba h
  obtain ⟨h, h6⟩ := ba h
  obtain ⟨h, h5⟩ := ba h
  obtain ⟨h, h4⟩ := ba h
  obtain ⟨h, h3⟩ := ba h
  obtain ⟨h1, h2⟩ := ba h
  have ok : BlkOk X.N X.env.scope scope (vs.map fun i => (N.getD i "", i)) := by rw [g.hN, g.hsc]; exact blkOk_by h1
  have hI := sndI it g (tup_of h4) h3
  have hT : ∀ c, SG (Bk X scope c) ptg t := fun c => sg_of (gd_blk g scope c).hN (gd_blk g scope c).hsc (gd_blk g scope c).nd g.calm (fun x hx => hx) h4
  have hC := fun k => sndOC c (gd_blk g scope k) h6
  have hI1 := fun k => sndI it1 (gd_blk g scope k) (tup_of h8) h7
  have hT1 : ∀ c, SG (Bk X scope c) ptg1 t1 := fun c => sg_of (gd_blk g scope c).hN (gd_blk g scope c).hsc (gd_blk g scope c).nd g.calm (fun x hx => hx) h8
  have hC1 := fun k => sndOC c1 (gd_blk g scope k) h10
  have hE := fun k => sndE el (gd_blk g scope k) h11
  refine ⟨ok, sndFold it h3, fun env => sndFold it1 h7, by rw [own_map]; exact all_in h2, fun env o env' e σ F H Q r q => ?_⟩
  let inner : En → Option (List D × En) := fun env => do
    let (items1, lk1, env1) ← evI cl it1 env
    if !(lk1.all fun j => !vs1.contains j.1) then none
    let (ys, env2) ← lcLoop (fun env => evOC cl c1 env) (fun env => do let (o, env) ← evE cl el env; esc env o) t1 vs1 items1 (wipeE env1 vs1)
    return (ys, unlock (restE env2 env1 vs1) lk1)
  refine s_lc2 (cl := cl) (Γ := Γ) (inner := inner) g (own_map vs) hI hT hC (all_in h5) hI1 hT1 hC1 (all_in h9) hE ?_ (f := evE cl (.lc2 vs vs1 el t it c t1 it1 c1)) (fun env o env' e => ?_) env o env' e σ F H Q r q
  rotate_left
  · unfold evE at e
    simp only [bind, Option.bind_eq_some_iff, Prod.exists] at e
    obtain ⟨items, lk, env1, e1, e2⟩ := e
    split at e2
    · cases e2
    · rename_i hq
      simp only [Option.bind_eq_some_iff, Prod.exists] at e2
      obtain ⟨outs, env2, e3, e4⟩ := e2
      split at e4
      · rename_i hz
        cases e4
        exact ⟨items, lk, env1, outs, env2, e1, lk_out' hq, e3, hz, rfl, rfl⟩
      · cases e4
  · intro env ys env' e
    simp only [inner, bind, Option.bind_eq_some_iff, Prod.exists] at e
    obtain ⟨items, lk, env1, e1, e2⟩ := e
    split at e2
    · cases e2
    · rename_i hq
      simp only [Option.bind_eq_some_iff, Prod.exists] at e2
      obtain ⟨outs, env2, e3, e4⟩ := e2
      cases e4
      exact ⟨items, lk, env1, env2, e1, lk_out' hq, e3, rfl⟩
theorem sw_cases {p : Expr} {y : Str} {py : Pos} {l : Nat} {env : Env} {e : E} {sc' : Scope} (hk : env.scope.kind = .function) (hsc : env.scope = sc) (hm : mE Γ N e sc' p = true) :
    swapsWith p (some (.Name y py)) l env = pure (swB sc y py p) := by
  have hb : env.blockKind = .function := by unfold Env.blockKind; rw [hk]; rfl
  subst hsc
  have ky : env.kindOf y = env.scope.names.lookup y := rfl
  cases p with
  | ListComp elt gs scope pos =>
    unfold swapsWith
    simp only [hb, ky, Expr.pos, swB]
    rfl
  | SetComp a b c d => cases e <;> (unfold mE at hm; first | cases hm | (unfold neverOk at hm; cases hm))
  | DictComp a b c d f => cases e <;> (unfold mE at hm; first | cases hm | (unfold neverOk at hm; cases hm))
  | _ => rfl
theorem ss_setE {e : E} {x : Str} {i : Nat} {p : Expr} {py pos : Pos} {f : En → Option Fl} (g : Gd Γ cl N sc X) (hk : sc.kind = .function) (hfn : ∀ x, X.fn x = true) (ht : tnB N sc (fun _ => true) i x = true) (hm : mE Γ N e sc p = true)
    (hf : ∀ env fl, f env = some fl → ∃ o env1 env2, evE cl e env = some (o, env1) ∧ stO env1 i o = some env2 ∧ fl = .nx env2) : SS X (.Assign [.Name x py] p pos) f := by
  have hsw := sw_cases (Γ := Γ) (N := N) (sc := sc) (p := p) (y := x) (py := py) (l := pos.line) (env := X.env) (by rw [g.hsc]; exact hk) g.hsc hm
  cases hb : swB sc x py p with
  | false =>
    rw [hb] at hsw
    exact ss_set g hfn ht hsw (sndE e g hm) hf
  | true =>
    rw [hb] at hsw
    cases p with
    | ListComp pel gs scope lpos =>
      have hb' := hb
      simp only [swB] at hb'
      obtain ⟨hb1, hb2⟩ := ba hb'
      obtain ⟨hb1, hb3⟩ := ba hb1
      have hN : X.N[i]? = some x := by
        obtain ⟨h4, h5⟩ := ba ht
        obtain ⟨h4, h6⟩ := ba h4
        rw [g.hN]; simpa using h4
      have hyl : X.env.scope.names.lookup x = some .local := by rw [g.hsc]; simpa using hb1
      intro env fl ev σ F H D r q
      obtain ⟨o, env1, env2, h1, h2, rfl⟩ := hf env fl ev
      have fin : QE X.K F H env σ o env1 (fun v H1 => gName i v σ H1 D.nx) := fun v F' H' p' r' n' => by
        obtain ⟨F2, p2⟩ := st_ok p' r' n' h2
        exact q _ F2 H' p2
      cases e with
      | lc vs el t it c =>
        have hm' := hm
        unfold mE at hm'
        split at hm'
        · rename_i heq
          cases heq
          obtain ⟨ok, fo, go⟩ := sndLc (pos := lpos) g hm
          exact WS.of (ps_setLc g.calm g.nd hN hyl hsw (pI X _ _) ok pgb ptb peb fo) (go env o env1 h1 σ F H _ r fin)
        · cases hm'
      | lc2 vs vs1 el t it c t1 it1 c1 =>
        have hm' := hm
        unfold mE at hm'
        split at hm'
        · rename_i heq
          cases heq
          obtain ⟨ok, fo, fo1, hv, go⟩ := sndLc2 (pos := lpos) g hm
          exact WS.of (ps_setLc2 g.calm g.nd hN hyl hsw (pI X _ _) ok hv pgb ptb pib pgb ptb peb fo fo1) (go env o env1 h1 σ F H _ r fin)
        · cases hm'
      | never => unfold evE at h1; cases h1
      | _ => unfold mE at hm; cases hm
    | _ => cases hb

def isStar : Expr → Bool
  | .Starred _ _ => true
  | _ => false
theorem star_of {p : Expr} (h : headOk p = true) : isStar p = false := by cases p <;> first | rfl | cases h
theorem swapped_two {env : Env} {x y : Str} {px py pt pt2 : Pos} {kt k2 : Nat} {pa pb : Expr} (hk : env.scope.kind = .function) (h : parB env.scope x y px py pa pb = true) (ha : headOk pa = true) (hb : headOk pb = true) :
    swappedStores [.Tuple [.Name x px, .Name y py] kt pt] (.Tuple [pa, pb] k2 pt2) env = pure (some [x, y]) := by
  have hbk : env.blockKind = .function := by unfold Env.blockKind; rw [hk]; rfl
  unfold parB at h
  simp only [Bool.and_eq_true] at h
  obtain ⟨⟨⟨⟨⟨h1, h2⟩, h3⟩, h4⟩, h5⟩, h6⟩ := h
  have kx : (env.kindOf x == some .local) = true := h1
  have ky : (env.kindOf y == some .local) = true := h2
  have hne : y ≠ x := by
    intro e
    subst e
    simp at h4
  have hd : [x, y].eraseDups = [x, y] := by
    simp [List.eraseDups_cons, hne]
  have e5 : [pa, pb].all (foldedForSure 8) = false := by
    simp only [List.all_cons, List.all_nil, Bool.and_true]
    cases hh : (foldedForSure 8 pa && foldedForSure 8 pb) with
    | true => rw [hh] at h5; cases h5
    | false => rfl
  have e6 : [pa, pb].all (constantsAlone 8) = false := by
    simp only [List.all_cons, List.all_nil, Bool.and_true]
    cases hh : (constantsAlone 8 pa && constantsAlone 8 pb) with
    | true => rw [hh] at h6; cases h6
    | false => rfl
  have sa := star_of ha
  have sb := star_of hb
  unfold swappedStores
  simp only [List.length_cons, List.length_nil, List.any_cons, List.any_nil, hbk, List.filterMap_cons, List.filterMap_nil, kx, ky, h3, List.head?_cons, Option.map_some, Option.getD_some, Expr.pos, beq_self_eq_true, Bool.and_self, if_true, hd, e5, e6]
  refine (if_neg (by decide)).trans ?_
  refine (if_neg fun z => ?_).trans ?_
  · have z : (isStar pa || (isStar pb || false)) = true := z
    rw [sa, sb] at z
    cases z
  · rfl
theorem ss_par {x y : Str} {i j : Nat} {pa pb : Expr} {px py pt pt2 pos : Pos} {kt k2 : Nat} {fd : En → Option (List D × En)} {f : En → Option Fl} (g : Gd Γ cl N sc X) (hk : sc.kind = .function) (hi : N[i]? = some x) (hj : N[j]? = some y) (hij : i ≠ j) (h : parB sc x y px py pa pb = true) (ha : headOk pa = true) (hb : headOk pb = true)
    (hd : SD X [pa, pb] fd) (hf : ∀ env fl, f env = some fl → ∃ d e env1 env2 env3, fd env = some ([d, e], env1) ∧ putS env1 i (.fz d) = some env2 ∧ putS env2 j (.fz e) = some env3 ∧ fl = .nx env3) :
    SS X (.Assign [.Tuple [.Name x px, .Name y py] kt pt] (.Tuple [pa, pb] k2 pt2) pos) f := by
  intro env fl e σ F H D r q
  obtain ⟨d, d2, env1, env2, env3, h1, h2, h3, rfl⟩ := hf env fl e
  have h' := h
  unfold parB at h'
  simp only [Bool.and_eq_true] at h'
  obtain ⟨⟨⟨⟨⟨k1, k2⟩, _⟩, _⟩, _⟩, _⟩ := h'
  refine WS.of (ps_par g.calm g.nd (by rw [g.hN]; exact hi) (by rw [g.hN]; exact hj) hij (by rw [g.hsc]; simpa using k1) (by rw [g.hsc]; simpa using k2) (pA X [pa, pb]) (swapped_two (by rw [g.hsc]; exact hk) (by rw [g.hsc]; exact h) ha hb)) ?_
  refine hd env [d, d2] env1 h1 σ F H _ r fun vs F1 H1 p1 i1 => ?_
  simp only [IsL] at i1
  obtain ⟨v, ws, rfl, iv, w, ws2, rfl, iw, rfl⟩ := i1
  refine ⟨v, w, rfl, ?_⟩
  have p2 := store_pst p1.rel h2 iv
  have p3 := store_pst p2.rel h3 iw
  exact q _ F1 H1 (p1.trans (p2.trans p3))
theorem sw_none_sub {o k : Expr} {p2 : Pos} {p : Expr} {env : Env} : swappedStores [.Subscript o k p2] p env = pure none := by cases p <;> rfl
theorem sw_sole_sub {o k : Expr} {p2 : Pos} {p : Expr} {l : Nat} {env : Env} : swapsWithSole [.Subscript o k p2] p l env = pure false := by cases p <;> rfl
theorem sw_sole_tup {es : List Expr} {k : Nat} {p2 : Pos} {p : Expr} {l : Nat} {env : Env} : swapsWithSole [.Tuple es k p2] p l env = pure false := by cases p <;> rfl
theorem sw_none_tup {es : List Expr} {k : Nat} {p2 : Pos} {p : Expr} {env : Env} (h : (match p with | .Tuple _ _ _ => false | _ => true) = true) : swappedStores [.Tuple es k p2] p env = pure none := by
  cases p <;> first | rfl | cases h
theorem sw_expr {p : Expr} {l : Nat} {env : Env} {e : E} {sc' : Scope} (h : isLc p = false) (hm : mE Γ N e sc' p = true) : swapsWith p none l env = pure false := by
  cases p with
  | ListComp a b c d => cases h
  | SetComp a b c d => cases e <;> (unfold mE at hm; first | cases hm | (unfold neverOk at hm; cases hm))
  | DictComp a b c d f => cases e <;> (unfold mE at hm; first | cases hm | (unfold neverOk at hm; cases hm))
  | _ => rfl
theorem intD_eq {d : VI.D} {i : Int} (h : intD d = some i) : d = .int i := by unfold intD at h; split at h <;> cases h; rfl
mutual
theorem sndS : ∀ (s : S) {st : Stmt}, Gd Γ cl N sc X → sc.kind = .function → (∀ x, X.fn x = true) → mS Γ N sc s st = true → SS X st (evS cl s)
  | .set i e, st, g, hk, hfn, h => by
    unfold mS at h
    split at h
    · obtain ⟨h1, h2⟩ := ba h
      refine ss_setE g hk hfn h1 h2 fun env fl ev => ?_
      unfold evS at ev
      simp only [bind, Option.bind_eq_some_iff, Prod.exists] at ev
      obtain ⟨o, env1, e1, env2, e2, e3⟩ := ev
      cases e3
      exact ⟨o, env1, env2, e1, e2, rfl⟩
    · cases h
  | .unp t e, st, g, hk, hfn, h => by
    unfold mS at h
    split at h
    · obtain ⟨h, h3⟩ := ba h
      obtain ⟨h1, h2⟩ := ba h
      refine ss_unp sw_sole_tup (sw_none_tup h3) rfl (sndE e g h2) (sg_of g.hN g.hsc g.nd g.calm (fun x _ => hfn x) h1) fun env fl ev => ?_
      unfold evS at ev
      simp only [bind, Option.bind_eq_some_iff, Prod.exists] at ev
      obtain ⟨o, env1, e1, d, env2, e2, env3, e3, e4⟩ := ev
      cases e4
      exact ⟨o, env1, d, env2, env3, e1, e2, e3, rfl⟩
    · cases h
  | .par i j a b, st, g, hk, hfn, h => by
    unfold mS at h
    split at h
    · obtain ⟨h, h6⟩ := ba h
      obtain ⟨h, h5⟩ := ba h
      obtain ⟨h, h4⟩ := ba h
      obtain ⟨h, h3⟩ := ba h
      obtain ⟨h1, h2⟩ := ba h
      refine ss_par (fd := evDs cl (.cons a (.cons b .nil))) g hk (by simpa using h1) (by simpa using h2) (by simpa using h3) h4 (mE_head h5) (mE_head h6) (sndDs (.cons a (.cons b .nil)) g ?_) fun env fl ev => ?_
      · unfold mEs; unfold mEs; unfold mEs
        simp [h5, h6]
      · unfold evS at ev
        simp only [bind, Option.bind_eq_some_iff, Prod.exists] at ev
        obtain ⟨ds, env1, e1, e2⟩ := ev
        split at e2
        · simp only [Option.bind_eq_some_iff] at e2
          obtain ⟨env2, e3, env3, e4, e5⟩ := e2
          cases e5
          exact ⟨_, _, env1, env2, env3, e1, e3, e4, rfl⟩
        · cases e2
    · cases h
  | .put i k e, st, g, hk, hfn, h => by
    unfold mS at h
    split at h
    · obtain ⟨h, h3⟩ := ba h
      obtain ⟨h1, h2⟩ := ba h
      refine ss_put g h1 (mE_head h2) sw_none_sub sw_sole_sub (sndE e g h3) ((sndE k g h2).b (evB_eq k)) fun env fl ev => ?_
      unfold evS at ev
      simp only [bind, Option.bind_eq_some_iff, Prod.exists] at ev
      obtain ⟨o, env1, e1, d, env2, e2, e3⟩ := ev
      split at e3
      · cases e3
      · rename_i hq
        have hq : isOwL env2 i = true := by simpa using hq
        simp only [Option.bind_eq_some_iff, Prod.exists] at e3
        obtain ⟨o2, env3, e4, dk, e5, n, e6, e7⟩ := e3
        have := intD_eq e6
        subst this
        split at e7
        · rename_i io xs hx
          simp only [Option.bind_eq_some_iff] at e7
          obtain ⟨j, e8, e9⟩ := e7
          cases e9
          refine ⟨o, env1, d, env2, o2, env3, io, xs, n, j, e1, e2, ?_, e4, e5, hx, e8, rfl⟩
          unfold isOwL at hq
          split at hq
          · rename_i io xs q; exact ⟨io, xs, q⟩
          · cases hq
        · cases e7
    · cases h
  | .inc i e, st, g, hk, hfn, h => by
    unfold mS at h
    split at h
    · obtain ⟨h1, h2⟩ := ba h
      refine ss_inc g hfn h1 ((sndE e g h2).b (evB_eq e)) fun env fl ev => ?_
      unfold evS at ev
      simp only [bind] at ev
      split at ev
      · rename_i a ha
        simp only [Option.bind_eq_some_iff, Prod.exists] at ev
        obtain ⟨o, env1, e1, d, e2, b, e3, env2, e4, e5⟩ := ev
        cases e5
        have := intD_eq e3
        subst this
        exact ⟨a, o, env1, b, env2, ha, e1, e2, e4, rfl⟩
      · cases ev
    · cases h
  | .expr e, st, g, hk, hfn, h => by
    unfold mS at h
    split at h
    · obtain ⟨h1, h2⟩ := ba h
      refine ss_expr (mE_head h2) (sw_expr (by simpa using h1) h2) (sndE e g h2) fun env fl ev => ?_
      unfold evS at ev
      simp only [bind, Option.bind_eq_some_iff, Prod.exists] at ev
      obtain ⟨o, env1, e1, e2⟩ := ev
      cases e2
      exact ⟨o, env1, e1, rfl⟩
    · cases h
  | .ret e, st, g, hk, hfn, h => by
    unfold mS at h
    split at h
    · refine ss_ret (sndE e g h) fun env fl ev => ?_
      unfold evS at ev
      simp only [bind, Option.bind_eq_some_iff, Prod.exists] at ev
      obtain ⟨o, env1, e1, o2, env2, e2, e3⟩ := ev
      cases e3
      exact ⟨o, env1, o2, env2, e1, e2, rfl⟩
    · cases h
  | .retn, st, g, hk, hfn, h => by
    unfold mS at h
    split at h
    · exact ss_retn fun env => by unfold evS; rfl
    · cases h
  | .ifs c a b, st, g, hk, hfn, h => by
    unfold mS at h
    split at h
    · obtain ⟨h, h3⟩ := ba h
      obtain ⟨h1, h2⟩ := ba h
      refine ss_if (sndC c g h1) (sndSs a g hk hfn h2) (sndSs b g hk hfn h3) fun env fl ev => ?_
      unfold evS at ev
      simp only [bind, Option.bind_eq_some_iff, Prod.exists] at ev
      exact ev
    · cases h
  | .fo t it b, st, g, hk, hfn, h => by
    unfold mS at h
    split at h
    · obtain ⟨h, h3⟩ := ba h
      obtain ⟨h1, h2⟩ := ba h
      refine ss_for g.xe g.calm (sndFold it h1) (sndI it g (tup_of h2) h1) (sg_of g.hN g.hsc g.nd g.calm (fun x _ => hfn x) h2) (sndSs b g hk hfn h3) fun env fl ev => ?_
      unfold evS at ev
      simp only [bind, Option.bind_eq_some_iff, Prod.exists] at ev
      obtain ⟨items, lk, env1, e1, fl1, e2, e3⟩ := ev
      cases e3
      exact ⟨items, lk, env1, fl1, e1, e2, rfl⟩
    · cases h
  | .whi c b, st, g, hk, hfn, h => by
    unfold mS at h
    split at h
    · obtain ⟨h1, h2⟩ := ba h
      refine ss_while g.xe (sndC c g h1) (sndSs b g hk hfn h2) fun env fl ev => ?_
      unfold evS at ev
      exact whE_ex ev
    · cases h
  | .brk, st, g, hk, hfn, h => by
    unfold mS at h
    split at h
    · intro env fl ev σ F H D r q
      unfold evS at ev
      cases ev
      exact WS.of ps_break (q σ F H (.refl r))
    · cases h
  | .cont, st, g, hk, hfn, h => by
    unfold mS at h
    split at h
    · intro env fl ev σ F H D r q
      unfold evS at ev
      cases ev
      exact WS.of ps_continue (q σ F H (.refl r))
    · cases h
  | .pass, st, g, hk, hfn, h => by
    unfold mS at h
    split at h
    · intro env fl ev σ F H D r q
      unfold evS at ev
      cases ev
      exact WS.of ps_pass (q σ F H (.refl r))
    · cases h
  | .doc, st, g, hk, hfn, h => by
    unfold mS at h
    split at h
    · intro env fl ev σ F H D r q
      unfold evS at ev
      cases ev
      exact WS.of ps_doc (q σ F H (.refl r))
    · cases h
  | .never, st, g, hk, hfn, h => by
    intro env fl ev
    unfold evS at ev
    cases ev
termination_by structural s => s
theorem sndSs : ∀ (ss : Ss) {sts : List Stmt}, Gd Γ cl N sc X → sc.kind = .function → (∀ x, X.fn x = true) → mSs Γ N sc ss sts = true → SSs X sts (evSs cl ss)
  | .nil, sts, g, hk, hfn, h => by
    unfold mSs at h
    cases sts with
    | nil => exact ss_nil fun env => by unfold evSs; rfl
    | cons => cases h
  | .cons s ss, sts, g, hk, hfn, h => by
    unfold mSs at h
    cases sts with
    | nil => cases h
    | cons st sts =>
      obtain ⟨h1, h2⟩ := ba h
      refine ss_cons (sndS s g hk hfn h1) (sndSs ss g hk hfn h2) fun env fl ev => ?_
      unfold evSs at ev
      simp only [bind, Option.bind_eq_some_iff] at ev
      obtain ⟨fl1, e1, e2⟩ := ev
      refine ⟨fl1, e1, ?_⟩
      cases fl1 with
      | nx e => exact .inl ⟨e, rfl, e2⟩
      | bk e => cases e2; exact .inr ⟨(fun e z => by cases z), rfl⟩
      | ct e => cases e2; exact .inr ⟨(fun e z => by cases z), rfl⟩
      | rt o e => cases e2; exact .inr ⟨(fun e z => by cases z), rfl⟩
end
end
end VI
/-! VI19: defs and calls. -/
namespace VI
open PySem PySem.Spec L2
structure FD where
  ps : List Str
  N : List Str
  body : Ss
/-- the defs, by their numbers -/
abbrev Tb := Nat → Option FD
def argOk : Sl → Bool
  | .fz _ => true
  | .ow io _ => io
  | .lk io _ => io
  | .un => false
/-- the lists that were lent, as the def leaves them -/
def finA (args : List Sl) (env : En) : List Sl := args.mapIdx fun i a => match a with
  | .ow _ _ => (env[i]?).getD a
  | a => a
def endF (args : List Sl) : Fl → Option (Op × List Sl)
  | .nx env => some (.v .non, finA args env)
  | .rt (.v d) env => some (.v d, finA args env)
  | .rt (.nw d) env => some (.nw d, finA args env)
  | _ => none
noncomputable def runDef (cl : CallF) (d : FD) (args : List Sl) : Option (Op × List Sl) :=
  if args.length = d.ps.length ∧ args.all argOk = true then (evSs cl d.body (args ++ List.replicate (d.N.length - args.length) .un)).bind (endF args) else none
noncomputable def callN (Δ : Tb) : Nat → CallF
  | 0 => fun _ _ => none
  | k + 1 => fun f args => (Δ f).bind fun d => runDef (callN Δ k) d args

section
variable {K : PySem.W.Frag} {F F' : FS} {H H' : Hp} {args : List Sl} {vs : List V} {n m : Nat} {env : En} {σ' : Slots}
theorem app_get {i : Nat} {s : Sl} (h : (args ++ List.replicate n Sl.un)[i]? = some s) (hs : s ≠ .un) : args[i]? = some s := by
  by_cases hi : i < args.length
  · rwa [List.getElem?_append_left hi] at h
  · rw [List.getElem?_append_right (by omega), List.getElem?_replicate] at h
    split at h
    · cases h; exact absurd rfl hs
    · cases h
theorem app_some {i : Nat} {x : Option V} (h : (vs.map some)[i]? = some x) : (vs.map some ++ List.replicate m none)[i]? = some x := by
  have hi : i < (vs.map some).length := (List.getElem?_eq_some_iff.mp h).1
  rw [List.getElem?_append_left hi]
  exact h
theorem app_own {i : Nat} {s : Sl} {d : D} (h : (args ++ List.replicate n Sl.un)[i]? = some s) (hs : s.own = some d) : args[i]? = some s := app_get h fun z => by subst z; cases hs
theorem app_back {i : Nat} {s : Sl} {x : Option V} (hl : args.length = (vs.map some).length) (ha : args[i]? = some s) (h : (vs.map some ++ List.replicate m none)[i]? = some x) : (vs.map some)[i]? = some x := by
  have hi : i < args.length := (List.getElem?_eq_some_iff.mp ha).1
  rwa [List.getElem?_append_left (by omega)] at h
theorem rel_app (r : RelE K F H args (vs.map some)) (hm : args.length + n = vs.length + m) : RelE K F H (args ++ List.replicate n .un) (vs.map some ++ List.replicate m none) where
  len := by simp; omega
  fz := fun i d h => by
    obtain ⟨v, e1, e2⟩ := r.fz i d (app_get h fun z => by cases z)
    exact ⟨v, app_some e1, e2⟩
  ow := fun i s d h hs => by
    obtain ⟨a, e1, e2⟩ := r.ow i s d (app_own h hs) hs
    exact ⟨a, app_some e1, e2⟩
  ne := fun i j s t d e a h hs h' ht q q' => r.ne i j s t d e a (app_own h hs) hs (app_own h' ht) ht (app_back r.len (app_own h hs) q) (app_back r.len (app_own h' ht) q')
  fdm := r.fdm
theorem finA_get {i : Nat} {s : Sl} (h : (finA args env)[i]? = some s) : ∃ a, args[i]? = some a ∧ s = (match a with
  | .ow _ _ => (env[i]?).getD a
  | a => a) := by
  unfold finA at h
  rw [List.getElem?_mapIdx] at h
  cases e : args[i]? with
  | none => rw [e] at h; cases h
  | some a =>
    rw [e] at h
    cases h
    exact ⟨a, rfl, rfl⟩
/-- behind the def: the caller's view -/
theorem fin_pst (r : RelE K F H args (vs.map some)) (ok : args.all argOk = true) (p : Pst K F H (args ++ List.replicate n .un) (vs.map some ++ List.replicate m none) F' H' env σ') :
    Pst K F H args (vs.map some) F' H' (finA args env) (vs.map some) ∧ ∀ a, OA (finA args env) (vs.map some) a → OA env σ' a ∧ OA args (vs.map some) a := by
  have oka : ∀ {i : Nat} {a : Sl}, args[i]? = some a → argOk a = true := fun {i a} h => List.all_eq_true.mp ok a (List.mem_of_getElem? h)
  have lft : ∀ {i : Nat} {a : Sl}, args[i]? = some a → (args ++ List.replicate n Sl.un)[i]? = some a := fun {i a} h => by
    rw [List.getElem?_append_left (List.getElem?_eq_some_iff.mp h).1]; exact h
  have sg : ∀ {i : Nat} {a : Sl}, args[i]? = some a → (vs.map some ++ List.replicate m none)[i]? = (vs.map some)[i]? := fun {i a} h => by
    have hi : i < args.length := (List.getElem?_eq_some_iff.mp h).1
    have := r.len
    rw [List.getElem?_append_left (by omega)]
  -- an own slot at the end
  have own : ∀ {i : Nat} {s : Sl} {d : D}, (finA args env)[i]? = some s → s.own = some d → env[i]? = some s ∧ σ'[i]? = (vs.map some)[i]? ∧ ∃ a d0, args[i]? = some a ∧ a.own = some d0 := fun {i s d} h hs => by
    obtain ⟨a, h1, h2⟩ := finA_get h
    cases a with
    | un => have := oka h1; cases this
    | fz d0 => subst h2; cases hs
    | ow io d0 =>
      have hio : io = true := oka h1
      subst hio
      obtain ⟨⟨d2, h3⟩, h4⟩ := p.io i d0 (lft h1)
      simp only [h3, Option.getD_some] at h2
      subst h2
      exact ⟨h3, by rw [h4, sg h1], _, d0, h1, rfl⟩
    | lk io d0 =>
      obtain ⟨h3, h4⟩ := p.lk i io d0 (lft h1)
      subst h2
      exact ⟨h3, by rw [h4, sg h1], _, d0, h1, rfl⟩
  have oaf : ∀ a, OA (finA args env) (vs.map some) a → OA env σ' a ∧ OA args (vs.map some) a := fun a ⟨i, s, d, h, hs, q⟩ => by
    obtain ⟨h1, h2, b, d0, h3, h4⟩ := own h hs
    exact ⟨⟨i, s, d, h1, hs, by rw [h2]; exact q⟩, ⟨i, b, d0, h3, h4, q⟩⟩
  refine ⟨⟨p.st.less fun a ⟨i, s, d, h, hs, q⟩ => ⟨i, s, d, app_own h hs, hs, app_back r.len (app_own h hs) q⟩, ⟨?_, ?_, ?_, ?_, p.rel.fdm⟩, fun a h => .inl (oaf a h).2, fun j d h => ?_, fun j io d h => ?_⟩, oaf⟩
  · rw [← r.len]; unfold finA; simp
  · intro i d h
    obtain ⟨a, h1, h2⟩ := finA_get h
    cases a with
    | un => cases h2
    | fz d0 =>
      cases h2
      obtain ⟨v, e1, e2⟩ := r.fz i d h1
      exact ⟨v, e1, e2.mono p.st.sub p.st.agr⟩
    | ow io d0 =>
      have hio : io = true := oka h1
      subst hio
      obtain ⟨⟨d2, h3⟩, h4⟩ := p.io i d0 (lft h1)
      simp only [h3, Option.getD_some] at h2
      cases h2
    | lk io d0 => cases h2
  · intro i s d h hs
    obtain ⟨h1, h2, _⟩ := own h hs
    obtain ⟨a, e1, e2⟩ := p.rel.ow i s d h1 hs
    exact ⟨a, by rw [← h2]; exact e1, e2⟩
  · intro i j s t d e a h hs h' ht q q'
    obtain ⟨h1, h2, _⟩ := own h hs
    obtain ⟨h3, h4, _⟩ := own h' ht
    exact p.rel.ne i j s t d e a h1 hs h3 ht (by rw [h2]; exact q) (by rw [h4]; exact q')
  · obtain ⟨⟨d2, h3⟩, _⟩ := p.io j d (lft h)
    refine ⟨⟨d2, ?_⟩, rfl⟩
    unfold finA
    rw [List.getElem?_mapIdx, h]
    simp [h3]
  · refine ⟨?_, rfl⟩
    unfold finA
    rw [List.getElem?_mapIdx, h]
    rfl
end
theorem callN_len {Δ : Tb} {k f : Nat} {d : FD} {args : List Sl} {r : Op} {fin : List Sl} (hd : Δ f = some d) (h : callN Δ k f args = some (r, fin)) : args.length = d.ps.length := by
  cases k with
  | zero => cases h
  | succ k =>
    simp only [callN, hd, Option.bind_some, runDef] at h
    split at h
    · rename_i q; exact q.1
    · cases h
theorem callN_np {Δ : Tb} {k f : Nat} {args : List Sl} {r : Op} {fin : List Sl} (h : callN Δ k f args = some (r, fin)) : ∀ i, r ≠ .p i := by
  intro i
  cases k with
  | zero => cases h
  | succ k =>
    simp only [callN, Option.bind_eq_some_iff, runDef] at h
    obtain ⟨d, _, h⟩ := h
    split at h
    · simp only [Option.bind_eq_some_iff] at h
      obtain ⟨fl, _, h⟩ := h
      unfold endF at h
      split at h <;> (cases h; try (intro z; cases z))
    · cases h
/-- what stands behind the names of a program -/
structure Tab (K : PySem.W.Frag) (mg : Str → Option Value) (Δ : Tb) (tp : Nat → Stmt) (Γ : Gm) : Prop where
  fr : ∀ x, Γ.frees.contains x = true → mg x = none
  gc : Γ.gc = true → mg "gcd" = some (.builtin "math.gcd")
  fn : ∀ x i, Γ.fns.contains (x, i) = true → ∃ d a fd, Δ i = some d ∧ FunD K x x (defArgs (tp i)) (defBody (tp i)) (defScope (tp i)) [] [] a fd ∧ mg x = some (.ref a) ∧ Binds K fd d.ps []
  ok : ∀ x i, Γ.fns.contains (x, i) = true → ∀ d, Δ i = some d → FnScope d.N d.ps (defScope (tp i)) ∧ mSs Γ d.N (defScope (tp i)) d.body (defBody (tp i)) = true
theorem tab_fn {P : Program} {w : World} {K : PySem.W.Frag} {mg : Str → Option Value} {base : Heap} {Δ : Tb} {tp : Nat → Stmt} {Γ : Gm} (T : Tab K mg Δ tp Γ) : ∀ (k i : Nat) (x : Str) (d : FD) (a : Addr) (fd : FuncData), Γ.fns.contains (x, i) = true → Δ i = some d → FunD K x x (defArgs (tp i)) (defBody (tp i)) (defScope (tp i)) [] [] a fd →
    FnOk P w K mg base CX0 k a fd d.ps (spOf K (callN Δ k) i d.ps.length)
  | 0, i, x, d, a, fd, hx, hd, F => ⟨fun vs H Q E h => h.1, fun A outer s H args us vs Q E hr e0 hb hv h => by
      obtain ⟨_, F, args, r, fin, h1, _⟩ := h
      cases h1⟩
  | k + 1, i, x, d, a, fd, hx, hd, F => by
    obtain ⟨S, M⟩ := T.ok x i hx d hd
    refine F.ok S (fun vs H Q E h => h.1) fun cdv A outer s H vs Q E hr h => ?_
    refine ⟨WSs (cxOf CX0 P w K mg base d.N x (defScope (tp i)) a cdv A outer s H E).nox (defBody (tp i)), (pSs _ _).nox, ?_⟩
    obtain ⟨hl, F0, args, r, fin, hc, rel, hQ⟩ := h
    simp only [callN, hd, Option.bind_some, runDef] at hc
    split at hc
    · rename_i ok
      simp only [Option.bind_eq_some_iff] at hc
      obtain ⟨fl, hev, hend⟩ := hc
      have g : Gd Γ (callN Δ k) d.N (defScope (tp i)) (cxOf CX0 P w K mg base d.N x (defScope (tp i)) a cdv A outer s H E).nox :=
        ⟨rfl, rfl, S.nd, rfl, rfl, (by have := hr.un; show (A.deeper _).units + 100 < cLine; omega), T.fr, fun y f hy => by
          obtain ⟨d', a', fd', h1, h2, h3, h4⟩ := T.fn y f hy
          exact ⟨⟨k, a', fd', d'.ps, tab_fn T k f y d' a' fd' hy h1 h2, hr, h3, h2.kp, h4, fun args r fin e => callN_len h1 e⟩, fun args r fin e => callN_np e⟩, T.gc⟩
      have hle : d.ps.length ≤ d.N.length := by have := congrArg List.length S.pre; rw [List.length_take] at this; omega
      have r0 := rel_app (n := d.N.length - args.length) (m := d.N.length - vs.length) rel (by omega)
      refine sndSs d.body g S.kind (fun _ => rfl) M _ fl hev (start d.N vs) F0 H _ r0 ?_
      cases fl with
      | nx e =>
        simp only [endF, Option.some.injEq, Prod.mk.injEq] at hend
        obtain ⟨rfl, rfl⟩ := hend
        exact fun σ' F' H' p => hQ .non F' H' (fin_pst rel ok.2 p).1 (by simp [RelOp, Is]) fun d z => by cases z
      | bk e => cases hend
      | ct e => cases hend
      | rt o e =>
        intro v σ' F' H' p ro np nw
        obtain ⟨p1, p2⟩ := fin_pst rel ok.2 p
        cases o with
        | v d0 =>
          simp only [endF, Option.some.injEq, Prod.mk.injEq] at hend
          obtain ⟨rfl, rfl⟩ := hend
          exact hQ v F' H' p1 ro fun d z => by cases z
        | nw d0 =>
          simp only [endF, Option.some.injEq, Prod.mk.injEq] at hend
          obtain ⟨rfl, rfl⟩ := hend
          refine hQ v F' H' p1 ro fun d _ b eb => ?_
          obtain ⟨z1, z2⟩ := nw d0 rfl b eb
          refine ⟨?_, fun z => z2 (p2 b z).1⟩
          rcases z1 with z1 | ⟨j, s1, d2, h1, h2, _⟩
          · exact z1
          · have h3 := app_own h1 (mine_own h2)
            have h4 := List.all_eq_true.mp ok.2 s1 (List.mem_of_getElem? h3)
            cases s1 with
            | un => cases h2
            | fz => cases h2
            | ow io d3 => have : io = true := h4; subst this; cases h2
            | lk io d3 => have : io = true := h4; subst this; cases h2
        | p j => cases hend
    · cases hc
end VI
/-! VI20: from the evaluation of a law to the law. -/
namespace VI
open PySem PySem.Spec L2
def mkD (tp : Nat → Stmt) (p : Str × Nat) : He.DefD := ⟨(p.1, none), p.1, p.1, defArgs (tp p.2), defBody (tp p.2), defScope (tp p.2), [], []⟩
def fnL (names : List (Str × Nat)) (tp : Nat → Stmt) : List He.DefD := names.map (mkD tp)
def faL (names : List (Str × Nat)) (frees : List Str) : List He.Fa := names.map (fun p => .glo p.1) ++ frees.map .free
def gmL (names : List (Str × Nat)) (frees : List Str) (gc : Bool := false) : Gm := ⟨names, frees, gc⟩
def BindsOk (st : Stmt) (ps : List Str) : Prop := ∀ (x : Str) (kV doc pm : Value) (an : Option Addr) (cdv ct : Value) (us : List Value), us.length = ps.length → bindArgs (PySem.W.fnOf x x (defArgs st) (defBody st) (defScope st) .none kV doc pm an cdv ct) ⟨us, []⟩ = pure (ps.zip us)
def okFD (Γ : Gm) (st : Stmt) (d : FD) : Bool := C8.scC d.N d.ps (defScope st) && mSs Γ d.N (defScope st) d.body (defBody st)
/-- def p of the text is def p.2 of the table -/
def OkAt (Δ : Tb) (tp : Nat → Stmt) (Γ : Gm) (p : Str × Nat) : Prop := ∃ d, Δ p.2 = some d ∧ BindsOk (tp p.2) d.ps ∧ okFD Γ (tp p.2) d = true
section
variable {K : PySem.W.Frag} {h : Heap} {mg : Str → Option Value} {names : List (Str × Nat)} {frees : List Str} {Δ : Tb} {tp : Nat → Stmt}
theorem tab_of {gc : Bool} (X : K.In h) (G : h.Ns mainGlobals mg) (c : He.SaysD (faL names frees) (fnL names tp) K) (hgc : gc = true → mg "gcd" = some (.builtin "math.gcd")) (hok : ∀ p ∈ names, OkAt Δ tp (gmL names frees gc) p) : Tab K mg Δ tp (gmL names frees gc) where
  gc := hgc
  fr := fun x hx => by
    have hx : x ∈ frees := by simpa [gmL] using hx
    obtain ⟨i, hi⟩ := List.getElem?_of_mem hx
    refine He.free_ok X G (c.fact (names.length + i) (f := .free x) ?_)
    unfold faL
    rw [List.getElem?_append_right (by simp), List.length_map, Nat.add_sub_cancel_left, List.getElem?_map, hi]
    rfl
  fn := fun x i hx => by
    have hx : (x, i) ∈ names := by simpa [gmL] using hx
    obtain ⟨j, hj⟩ := List.getElem?_of_mem hx
    obtain ⟨d, h1, h2, h3⟩ := hok _ hx
    obtain ⟨fd, F⟩ := c.def_ j (d := mkD tp (x, i)) (by unfold fnL; rw [List.getElem?_map, hj]; rfl)
    have gl := He.glo_ok X G (c.fact j (f := .glo x) (by
      unfold faL
      rw [List.getElem?_append_left (by rw [List.length_map]; exact (List.getElem?_eq_some_iff.mp hj).1), List.getElem?_map, hj]
      rfl))
    exact ⟨d, _, fd, h1, F, gl, FunD.bindsN F (h2 x)⟩
  ok := fun x i hx d hd => by
    have hx : (x, i) ∈ names := by simpa [gmL] using hx
    obtain ⟨d', h1, h2, h3⟩ := hok _ hx
    have h1 : Δ i = some d' := h1
    rw [hd] at h1
    cases h1
    obtain ⟨h1, h2⟩ := ba h3
    exact ⟨C8.fnScope_by h1, h2⟩
theorem law_F {gc : Bool} {P : Program} {w : World} {n k i : Nat} {fa : Addr} (X : K.In h) (G : h.Ns mainGlobals mg) (c : He.SaysD (faL names frees) (fnL names tp) K) (hmg : mg ("law" : Str) = some (.ref fa)) (hgc : ∀ base : Heap, base.Ns mainGlobals mg → K.In base → gc = true → mg "gcd" = some (.builtin "math.gcd")) (hok : ∀ p ∈ names, OkAt Δ tp (gmL names frees gc) p)
    (hn : (("law" : Str), i) ∈ names) (hps : ∀ d, Δ i = some d → d.ps = [("script" : Str)]) (hlaw : ∀ ns : List Int, ns.length ≤ n → ∃ fin, callN Δ k i [.fz (.scr ns)] = some (.v (.bl true), fin)) :
    ∃ (fd : FuncData) (sp : Sp), (∀ (s : Shared) (u : Value), BindsTo s fd ⟨[u], []⟩ [("script", u)]) ∧
      (∀ (H : Hp) (a : Addr) (ns : List Int), ns.length ≤ n → SqL K H a (ns.map V.int) → sp [.ref a] H (fun v _ => v = .bl true) fun _ _ _ => False) ∧
      ∀ base : Heap, K.In base → base.Ns mainGlobals mg → FnOk P w K mg base CX0 k fa fd ["script"] sp := by
  obtain ⟨j, hj⟩ := List.getElem?_of_mem hn
  obtain ⟨d, hd, hb, hok1⟩ := hok _ hn
  have hd : Δ i = some d := hd
  have hps := hps d hd
  obtain ⟨fd, F⟩ := c.def_ j (d := mkD tp ("law", i)) (by unfold fnL; rw [List.getElem?_map, hj]; rfl)
  have gl := He.glo_ok X G (c.fact j (f := .glo "law") (by
    unfold faL
    rw [List.getElem?_append_left (by rw [List.length_map]; exact (List.getElem?_eq_some_iff.mp hj).1), List.getElem?_map, hj]
    rfl))
  have e := hmg.symm.trans gl
  cases e
  have b := FunD.bindsA F (hb "law")
  refine ⟨fd, spOf K (callN Δ k) i d.ps.length, fun s u => ?_, fun H a ns hns hS => ?_, fun base KB GB => ?_⟩
  · have := b s [u] (by rw [hps]; rfl)
    rw [hps] at this
    exact this
  · obtain ⟨fin, hf⟩ := hlaw ns hns
    have hfin : fin = [.fz (.scr ns)] := by
      cases k with
      | zero => cases hf
      | succ k =>
        simp only [callN, hd, Option.bind_some, runDef] at hf
        split at hf
        · simp only [Option.bind_eq_some_iff] at hf
          obtain ⟨fl, _, hf⟩ := hf
          unfold endF at hf
          split at hf <;> first | (cases hf; rfl) | cases hf
        · cases hf
    refine ⟨by rw [hps]; rfl, fun b => b = a ∧ Rd H a (.lst (ns.map .int)), [.fz (.scr ns)], _, fin, hf, ⟨rfl, ?_, ?_, ?_, ?_⟩, ?_⟩
    · intro j d' hj
      match j, hj with
      | 0, hj =>
        cases hj
        refine ⟨.ref a, rfl, ?_⟩
        simp only [Is]
        refine ⟨a, rfl, ?_⟩
        rcases hS with hS | hS
        · exact .inl ⟨⟨rfl, hS⟩, hS⟩
        · exact .inr hS
      | j + 1, hj => cases hj
    · intro j s d' hj hs
      match j, hj with
      | 0, hj => cases hj; cases hs
      | j + 1, hj => cases hj
    · intro j j' s t d' e' c hj hs
      match j, hj with
      | 0, hj => cases hj; cases hs
      | j + 1, hj => cases hj
    · rintro b ⟨rfl, hr⟩
      rcases hr with hr | ⟨o, hr⟩ <;> (rw [hr]; simp)
    · intro v F' H' p r _
      have r : Is K F' H' (.bl true) v := r
      simpa only [Is] using r
  · have T := tab_of KB GB c (hgc base GB KB) hok
    have := tab_fn (P := P) (w := w) (base := base) T k i "law" d _ fd (by simpa [gmL] using hn) hd F
    rw [← hps]
    exact this
end
end VI
/-! PL: plain lemmas on the operations. -/
namespace VI
open PySem
theorem deq_int {a b : Int} : deq (.int a) (.int b) = (a == b) := by unfold deq; simp [D.toP, PyData.eqv]
theorem deq_bl {a b : Bool} : deq (.bl a) (.bl b) = (a == b) := by unfold deq; simp [D.toP, PyData.eqv]
theorem deq_non : deq .non .non = true := by unfold deq; simp [D.toP, PyData.eqv]
theorem okD_int {a : Int} : okD (.int a) = true := by unfold okD; simp [D.toP, SeqAt.shaped, PyData.canLay0, PyData.depth]
theorem okD_bl {a : Bool} : okD (.bl a) = true := by unfold okD; simp [D.toP, SeqAt.shaped, PyData.canLay0, PyData.depth]
theorem okD_non : okD .non = true := by unfold okD; simp [D.toP, SeqAt.shaped, PyData.canLay0, PyData.depth]
mutual
def lay : D → Bool
  | .non => true | .bl _ => true | .int _ => true | .str _ => false | .tup xs => lays xs | .lst xs => lays xs | .scr _ => false
def lays : List D → Bool
  | [] => true | x :: xs => lay x && lays xs
end
mutual
def dep : D → Nat
  | .tup xs => deps xs + 1 | .lst xs => deps xs + 1 | _ => 0
def deps : List D → Nat
  | [] => 0 | x :: xs => max (dep x) (deps xs)
end
mutual
theorem lay_ok : ∀ {d : D}, lay d = true → d.toP.canLay0 = true
  | .non, _ => rfl
  | .bl _, _ => rfl
  | .int _, _ => rfl
  | .str _, h => by simp [lay] at h
  | .tup xs, h => by simp only [lay] at h; simp only [D.toP, PyData.canLay0]; exact lays_ok h
  | .lst xs, h => by simp only [lay] at h; simp only [D.toP, PyData.canLay0]; exact lays_ok h
  | .scr _, h => by simp [lay] at h
theorem lays_ok : ∀ {ds : List D}, lays ds = true → PyData.canLayAll0 (toPs ds) = true
  | [], _ => rfl
  | d :: ds, h => by
    simp only [lays, Bool.and_eq_true] at h
    simp only [toPs, PyData.canLayAll0, Bool.and_eq_true]
    exact ⟨lay_ok h.1, lays_ok h.2⟩
end
mutual
theorem dep_ok : ∀ {d : D}, lay d = true → d.toP.depth ≤ dep d
  | .non, _ => by simp [D.toP, PyData.depth]
  | .bl _, _ => by simp [D.toP, PyData.depth]
  | .int _, _ => by simp [D.toP, PyData.depth]
  | .str _, h => by simp [lay] at h
  | .tup xs, h => by simp only [lay] at h; simp only [D.toP, PyData.depth, dep]; have := deps_ok h; omega
  | .lst xs, h => by simp only [lay] at h; simp only [D.toP, PyData.depth, dep]; have := deps_ok h; omega
  | .scr _, h => by simp [lay] at h
theorem deps_ok : ∀ {ds : List D}, lays ds = true → PyData.depthAll (toPs ds) ≤ deps ds
  | [], _ => by simp [toPs, PyData.depthAll]
  | d :: ds, h => by
    simp only [lays, Bool.and_eq_true] at h
    simp only [toPs, PyData.depthAll, deps]
    have := dep_ok h.1
    have := deps_ok h.2
    omega
end
theorem okD_of {d : D} (h1 : lay d = true) (h2 : dep d ≤ 64) : okD d = true := by
  unfold okD SeqAt.shaped
  rw [lay_ok h1]
  have := dep_ok h1
  simp; omega
theorem lays_map {α : Type} {f : α → D} (h : ∀ x, lay (f x) = true) : ∀ l : List α, lays (l.map f) = true
  | [] => rfl
  | x :: l => by simp only [List.map_cons, lays, h, lays_map h l, Bool.and_self]
theorem deps_map {α : Type} {f : α → D} {n : Nat} (h : ∀ x, dep (f x) ≤ n) : ∀ l : List α, deps (l.map f) ≤ n
  | [] => Nat.zero_le _
  | x :: l => by simp only [List.map_cons, deps]; have := h x; have := deps_map h l; omega
theorem okD_ints {l : List Int} : okD (.lst (l.map .int)) = true := okD_of (by simp only [lay]; exact lays_map (fun _ => rfl) l) (by simp only [dep]; have := deps_map (f := D.int) (n := 0) (fun _ => Nat.le_refl _) l; omega)
theorem eq_int {a b : Int} : cmpS .Eq (.int a) (.int b) = some (a == b) := by simp [cmpS, okD_int, deq_int]
theorem ne_int {a b : Int} : cmpS .NotEq (.int a) (.int b) = some (!(a == b)) := by simp [cmpS, okD_int, deq_int]
theorem eq_bl {a b : Bool} : cmpS .Eq (.bl a) (.bl b) = some (a == b) := by simp [cmpS, okD_bl, deq_bl]
theorem ne_bl {a b : Bool} : cmpS .NotEq (.bl a) (.bl b) = some (!(a == b)) := by simp [cmpS, okD_bl, deq_bl]
theorem lt_int {a b : Int} : cmpS .Lt (.int a) (.int b) = some (decide (a < b)) := rfl
theorem le_int {a b : Int} : cmpS .LtE (.int a) (.int b) = some (decide (a ≤ b)) := rfl
theorem gt_int {a b : Int} : cmpS .Gt (.int a) (.int b) = some (decide (b < a)) := rfl
theorem ge_int {a b : Int} : cmpS .GtE (.int a) (.int b) = some (decide (b ≤ a)) := rfl
theorem is_non {a : D} : cmpS .Is a .non = some (isNon a) := by cases a <;> rfl
theorem isnot_non {a : D} : cmpS .IsNot a .non = some (!isNon a) := by cases a <;> rfl
theorem in_ints {a : Int} {l : List Int} : cmpS .In (.int a) (.lst (l.map .int)) = some (decide (a ∈ l)) := by
  simp only [cmpS, inS, okD_int, okD_ints, Bool.and_self, if_true, Option.some.injEq]
  rw [List.any_map, Bool.eq_iff_iff]
  simp [deq_int]
theorem notin_ints {a : Int} {l : List Int} : cmpS .NotIn (.int a) (.lst (l.map .int)) = some (!decide (a ∈ l)) := by
  have := in_ints (a := a) (l := l)
  simp only [cmpS] at this ⊢
  rw [this]; rfl
theorem in_tupI {a : Int} {l : List Int} : cmpS .In (.int a) (.tup (l.map .int)) = some (decide (a ∈ l)) := by
  have h : (l.map D.int).all flatD = true := by simp [flatD]
  simp only [cmpS, inS, flatD, h, Bool.and_self, if_true, Option.some.injEq]
  rw [List.any_map, Bool.eq_iff_iff]
  simp [deq_int]
theorem intsD_map : ∀ l : List Int, intsD (l.map .int) = some l
  | [] => rfl
  | x :: l => by simp [intsD, intsD_map l]
theorem blsD_map : ∀ l : List Bool, blsD (l.map .bl) = some l
  | [] => rfl
  | x :: l => by simp [blsD, blsD_map l]
theorem pairsD_map : ∀ l : List (Int × Int), pairsD (l.map fun p => .tup [.int p.1, .int p.2]) = some l
  | [] => rfl
  | x :: l => by simp [pairsD, pairsD_map l]
/-! evaluation, step by step -/
def Ev {α : Type} (o : Option α) (Q : α → Prop) : Prop := ∃ a, o = some a ∧ Q a
theorem ev_mono {α : Type} {o : Option α} {Q Q' : α → Prop} (h : Ev o Q) (i : ∀ a, Q a → Q' a) : Ev o Q' := let ⟨a, e, q⟩ := h; ⟨a, e, i a q⟩
/-- a def is entered -/
theorem enter {cl : CallF} {d : FD} {args : List Sl} {Q : Op × List Sl → Prop} (hl : args.length = d.ps.length ∧ args.all argOk = true) (h : Ev (evSs cl d.body (args ++ List.replicate (d.N.length - args.length) .un)) fun fl => Ev (endF args fl) Q) : Ev (runDef cl d args) Q := by
  obtain ⟨fl, h1, r, h2, q⟩ := h
  refine ⟨r, ?_, q⟩
  unfold runDef
  rw [if_pos hl, h1]
  exact h2
theorem c_nx {cl : CallF} {s : S} {ss : Ss} {env env1 : En} {Q : Fl → Prop} (h1 : evS cl s env = some (.nx env1)) (h2 : Ev (evSs cl ss env1) Q) : Ev (evSs cl (.cons s ss) env) Q := by
  obtain ⟨fl, e, q⟩ := h2
  refine ⟨fl, ?_, q⟩
  unfold evSs
  simp only [bind, Option.bind_eq_some_iff]
  exact ⟨_, h1, e⟩
theorem c_rt {cl : CallF} {s : S} {ss : Ss} {env env1 : En} {o : Op} {Q : Fl → Prop} (h1 : evS cl s env = some (.rt o env1)) (h2 : Q (.rt o env1)) : Ev (evSs cl (.cons s ss) env) Q := by
  refine ⟨_, ?_, h2⟩
  unfold evSs
  simp only [bind, Option.bind_eq_some_iff]
  exact ⟨_, h1, rfl⟩
theorem c_nil {cl : CallF} {env : En} {Q : Fl → Prop} (h : Q (.nx env)) : Ev (evSs cl .nil env) Q := ⟨_, by unfold evSs; rfl, h⟩
/-- one statement whose end is told by a property -/
theorem c_ev {cl : CallF} {s : S} {ss : Ss} {env : En} {Q : Fl → Prop} (h1 : Ev (evS cl s env) fun fl => match fl with
    | .nx e => Ev (evSs cl ss e) Q
    | fl => Q fl) : Ev (evSs cl (.cons s ss) env) Q := by
  obtain ⟨fl, e, q⟩ := h1
  cases fl with
  | nx e1 => exact c_nx e q
  | bk e1 =>
    refine ⟨_, ?_, q⟩
    unfold evSs
    simp only [bind, Option.bind_eq_some_iff]
    exact ⟨_, e, rfl⟩
  | ct e1 =>
    refine ⟨_, ?_, q⟩
    unfold evSs
    simp only [bind, Option.bind_eq_some_iff]
    exact ⟨_, e, rfl⟩
  | rt o e1 => exact c_rt e q
abbrev LI (ds : List Int) : D := .lst (ds.map .int)
theorem ev_bind {α β : Type} {o : Option α} {f : α → Option β} {Q : β → Prop} : Ev (o.bind f) Q ↔ Ev o fun a => Ev (f a) Q := by
  constructor
  · rintro ⟨b, h, q⟩
    obtain ⟨a, h1, h2⟩ := Option.bind_eq_some_iff.mp h
    exact ⟨a, h1, b, h2, q⟩
  · rintro ⟨a, h1, b, h2, q⟩
    exact ⟨b, by rw [h1]; exact h2, q⟩
theorem ev_some {α : Type} {a : α} {Q : α → Prop} : Ev (some a) Q ↔ Q a := ⟨fun ⟨b, h, q⟩ => by cases h; exact q, fun q => ⟨a, rfl, q⟩⟩
theorem ev_of {α : Type} {o : Option α} {a : α} {Q : α → Prop} (h : o = some a) (q : Q a) : Ev o Q := ⟨a, h, q⟩
/-- a for loop, by place -/
theorem fo_ind {body : En → Option Fl} {t : T} {items : List D} {Q : Fl → Prop} (P : Nat → En → Prop)
    (hs : ∀ i (hi : i < items.length) e, P i e → Ev (t.put e items[i]) fun e1 => Ev (body e1) fun fl => match fl with
      | .nx e2 => P (i + 1) e2
      | .ct e2 => P (i + 1) e2
      | .bk e2 => Q (.nx e2)
      | .rt o e2 => Q (.rt o e2)) (hd : ∀ e, P items.length e → Q (.nx e)) {env : En} (h0 : P 0 env) : Ev (foLoop body t items env) Q := by
  suffices h : ∀ (k i : Nat) (e : En), k = items.length - i → i ≤ items.length → P i e → Ev (foLoop body t (items.drop i) e) Q by
    simpa using h items.length 0 env (by omega) (by omega) h0
  intro k
  induction k with
  | zero =>
    intro i e hk hi hp
    have : i = items.length := by omega
    subst this
    rw [List.drop_length]
    exact ⟨_, rfl, hd e hp⟩
  | succ k ih =>
    intro i e hk hi hp
    have hlt : i < items.length := by omega
    rw [List.drop_eq_getElem_cons hlt]
    obtain ⟨e1, h1, fl, h2, h3⟩ := hs i hlt e hp
    simp only [foLoop, h1, h2, Option.bind_some]
    cases fl with
    | nx e2 => exact ih (i + 1) e2 (by omega) hlt h3
    | ct e2 => exact ih (i + 1) e2 (by omega) hlt h3
    | bk e2 => exact ⟨_, rfl, h3⟩
    | rt o e2 => exact ⟨_, rfl, h3⟩
/-- a comprehension, by place -/
theorem lc_ind {c : En → Option (Bool × En)} {el : En → Option (D × En)} {t : T} {vs : List Nat} {items : List D} {Q : List D × En → Prop} (P : Nat → List D → En → Prop)
    (hs : ∀ i (hi : i < items.length) acc e, P i acc e → Ev (t.put e items[i]) fun e1 => Ev (c e1) fun z => if z.1 = true then Ev (el z.2) fun y => P (i + 1) (acc ++ [y.1]) (wipeE y.2 vs) else P (i + 1) acc (wipeE z.2 vs))
    (hd : ∀ acc e, P items.length acc e → Q (acc, e)) {env : En} (h0 : P 0 [] env) : Ev (lcLoop c el t vs items env) Q := by
  suffices h : ∀ (k i : Nat) (acc : List D) (e : En) (Q' : List D × En → Prop), k = items.length - i → i ≤ items.length → P i acc e → (∀ out e, P items.length (acc ++ out) e → Q' (out, e)) → Ev (lcLoop c el t vs (items.drop i) e) Q' by
    simpa using h items.length 0 [] env Q (by omega) (by omega) h0 (fun out e hp => hd _ e (by simpa using hp))
  intro k
  induction k with
  | zero =>
    intro i acc e Q' hk hi hp hq
    have : i = items.length := by omega
    subst this
    rw [List.drop_length]
    exact ⟨_, rfl, hq [] e (by simpa using hp)⟩
  | succ k ih =>
    intro i acc e Q' hk hi hp hq
    have hlt : i < items.length := by omega
    rw [List.drop_eq_getElem_cons hlt]
    obtain ⟨e1, h1, ⟨b, e2⟩, h2, h3⟩ := hs i hlt acc e hp
    cases b with
    | false =>
      simp only [Bool.false_eq_true, if_false] at h3
      obtain ⟨a, h4, h5⟩ := ih (i + 1) acc _ Q' (by omega) hlt h3 hq
      refine ⟨a, ?_, h5⟩
      simp only [lcLoop, h1, h2, bind, Option.bind_some, Bool.false_eq_true, if_false]
      exact h4
    | true =>
      simp only [if_true] at h3
      obtain ⟨⟨y, e3⟩, h4, h5⟩ := h3
      obtain ⟨⟨out, e4⟩, h6, h7⟩ := ih (i + 1) (acc ++ [y]) _ (fun z => Q' (y :: z.1, z.2)) (by omega) hlt h5 (fun out e hp => hq _ e (by simpa using hp))
      refine ⟨(y :: out, e4), ?_, h7⟩
      simp only [lcLoop, h1, h2, h4, h6, bind, Option.bind_some, if_true]
      rfl
/-- .. that leaves the slots as they are and keeps all -/
theorem lc_map {α : Type} {c : En → Option (Bool × En)} {el : En → Option (D × En)} {t : T} {vs : List Nat} {xs : List α} {f g : α → D} {env : En}
    (h : ∀ x ∈ xs, ∃ e1 e2 e3, t.put env (f x) = some e1 ∧ c e1 = some (true, e2) ∧ el e2 = some (g x, e3) ∧ wipeE e3 vs = env) : lcLoop c el t vs (xs.map f) env = some (xs.map g, env) := by
  induction xs with
  | nil => rfl
  | cons x xs ih =>
    obtain ⟨e1, e2, e3, h1, h2, h3, h4⟩ := h x (List.mem_cons_self ..)
    simp only [List.map_cons, lcLoop, h1, h2, h3, h4, bind, Option.bind_some, if_true, ih fun y hy => h y (List.mem_cons_of_mem _ hy)]
    rfl
/-- .. with a test -/
theorem lc_filter {α : Type} {c : En → Option (Bool × En)} {el : En → Option (D × En)} {t : T} {vs : List Nat} {xs : List α} {f g : α → D} {p : α → Bool} {env : En}
    (h : ∀ x ∈ xs, ∃ e1 e2, t.put env (f x) = some e1 ∧ c e1 = some (p x, e2) ∧ (p x = true → ∃ e3, el e2 = some (g x, e3) ∧ wipeE e3 vs = env) ∧ (p x = false → wipeE e2 vs = env)) : lcLoop c el t vs (xs.map f) env = some ((xs.filter p).map g, env) := by
  induction xs with
  | nil => rfl
  | cons x xs ih =>
    obtain ⟨e1, e2, h1, h2, h3, h4⟩ := h x (List.mem_cons_self ..)
    have ih := ih fun y hy => h y (List.mem_cons_of_mem _ hy)
    cases hp : p x with
    | true =>
      obtain ⟨e3, h5, h6⟩ := h3 hp
      rw [hp] at h2
      simp only [List.map_cons, lcLoop, h1, h2, h5, h6, bind, Option.bind_some, if_true, ih, List.filter_cons, hp]
      rfl
    | false =>
      have h6 := h4 hp
      rw [hp] at h2
      simp only [List.map_cons, lcLoop, h1, h2, h6, bind, Option.bind_some, Bool.false_eq_true, if_false, ih, List.filter_cons, hp]
theorem c_ex {α : Type} {cl : CallF} {s : S} {ss : Ss} {env : En} {Q : Fl → Prop} (e : α → En) (p : α → Prop) (h : ∃ a, p a ∧ evS cl s env = some (.nx (e a))) (h2 : ∀ a, p a → Ev (evSs cl ss (e a)) Q) : Ev (evSs cl (.cons s ss) env) Q :=
  let ⟨a, h1, h3⟩ := h
  c_nx h3 (h2 a h1)
theorem getD_get {l : List Int} {i : Nat} (h : i < l.length) : l[i]? = some (l.getD i 0) := by
  rw [List.getD_eq_getElem?_getD, List.getElem?_eq_getElem h]; rfl
theorem ixN_nat {n i : Nat} (h : i < n) : L2.ixN n (i : Int) = some i := by
  unfold L2.ixN
  rw [if_pos (by omega), if_pos (by omega)]
  simp
theorem ixN_int {n : Nat} {i : Int} (h0 : 0 ≤ i) (h : i < n) : L2.ixN n i = some i.toNat := by
  unfold L2.ixN
  rw [if_pos h0, if_pos h]
theorem atI_map {α : Type} {f : α → D} {l : List α} {i : Nat} {x : α} (h : l[i]? = some x) : L2.atI (l.map f) (i : Int) = some (f x) := by
  unfold L2.atI
  have hl : i < l.length := (List.getElem?_eq_some_iff.mp h).1
  rw [ixN_nat (by simpa using hl)]
  simp [h]
/-- a slot that may be stored to -/
def fr : Sl → Bool
  | .un => true
  | .fz _ => true
  | .ow false _ => true
  | _ => false
theorem putS_at {env : En} {i : Nat} {x : Sl} (h : (env[i]?).any fr = true) : putS env i x = some (env.set i x) := by
  unfold putS
  cases e : env[i]? with
  | none => rw [e] at h; cases h
  | some s =>
    rw [e] at h
    have h : fr s = true := h
    unfold fr at h
    split at h
    · rfl
    · rfl
    · rfl
    · cases h
theorem idx_ints {l : List Int} {p : Int} (h0 : 0 ≤ p) (h : p < l.length) : idxS (.lst (l.map .int)) (.int p) = some (.int (l.getD p.toNat 0)) := by
  have : p = (p.toNat : Nat) := by omega
  rw [this]
  exact atI_map (getD_get (by omega))
theorem mul_r {a b : Int} (h : -(2 ^ 64) < b ∧ b < 2 ^ 64) : binS .Mult (.int a) (.int b) = some (.v (.int (a * b))) := by
  show (if mulOk a b = true then some (Op.v (.int (a * b))) else none) = _
  rw [if_pos]
  unfold mulOk
  rw [decide_eq_true (show L2.CMul a b from .inr h)]
  rfl
theorem mul_l {a b : Int} (h : -(2 ^ 64) < a ∧ a < 2 ^ 64) : binS .Mult (.int a) (.int b) = some (.v (.int (a * b))) := by
  show (if mulOk a b = true then some (Op.v (.int (a * b))) else none) = _
  rw [if_pos]
  unfold mulOk
  rw [decide_eq_true (show L2.CMul a b from .inl h)]
  rfl
theorem div_c {a b : Int} (h : 0 < b ∧ b < 1073741824) : binS .FloorDiv (.int a) (.int b) = some (.v (.int (a / b))) := by
  show (if divOk a b = true then some (Op.v (.int (a / b))) else none) = _
  rw [if_pos]
  unfold divOk
  rw [decide_eq_true (show L2.CDiv a b from h)]
  rfl
theorem mod_p {a b : Int} (h : 0 < b) : binS .Mod (.int a) (.int b) = some (.v (.int (a % b))) := by
  show (if 0 < b then some (Op.v (.int (a % b))) else none) = _
  rw [if_pos h]
theorem pow_c {a b : Int} (h : L2.CPow a b) : binS .Pow (.int a) (.int b) = some (.v (.int (a ^ b.toNat))) := by
  show (if L2.CPow a b then some (Op.v (.int (a ^ b.toNat))) else none) = _
  rw [if_pos h]
theorem add_i {a b : Int} : binS .Add (.int a) (.int b) = some (.v (.int (a + b))) := rfl
theorem sub_i {a b : Int} : binS .Sub (.int a) (.int b) = some (.v (.int (a - b))) := rfl
/-- a for statement -/
theorem s_fo {cl : CallF} {t : T} {it : I} {b : Ss} {env env1 : En} {items : List D} {lk : List (Nat × Bool)} {Q : Fl → Prop} (h1 : evI cl it env = some (items, lk, env1)) (h2 : Ev (foLoop (fun env => evSs cl b env) t items env1) fun fl => Q (fl.free lk)) : Ev (evS cl (.fo t it b) env) Q := by
  obtain ⟨fl, e, q⟩ := h2
  refine ⟨_, ?_, q⟩
  unfold evS
  simp only [bind, Option.bind_eq_some_iff, Prod.exists]
  exact ⟨items, lk, env1, h1, fl, e, rfl⟩
theorem rngS_ok {n : Int} (h : 0 ≤ n ∧ n < 2 ^ 62) : rngS 0 n = some ((List.range n.toNat).map fun k => .int (k : Nat)) := by
  unfold rngS
  rw [if_pos (by omega)]
  simp
theorem ite_and {α : Type} {p q : Bool} {e : α} : (if p = true then some (q, e) else some (false, e)) = some (p && q, e) := by cases p <;> rfl
theorem ite_or {α : Type} {p q : Bool} {e : α} : (if p = true then some (true, e) else some (q, e)) = some (p || q, e) := by cases p <;> rfl
theorem s_ifs {cl : CallF} {c : C} {a b : Ss} {env env1 : En} {k : Bool} {Q : Fl → Prop} (h1 : evC cl c env = some (k, env1)) (h2 : k = true → Ev (evSs cl a env1) Q) (h3 : k = false → Ev (evSs cl b env1) Q) : Ev (evS cl (.ifs c a b) env) Q := by
  have e : evS cl (.ifs c a b) env = if k = true then evSs cl a env1 else evSs cl b env1 := by
    conv => lhs; unfold evS
    simp only [h1, bind, Option.bind_some]
  rw [e]
  cases k with
  | true => exact h2 rfl
  | false => exact h3 rfl
theorem c_one {cl : CallF} {s : S} {env : En} {Q : Fl → Prop} (h : Ev (evS cl s env) Q) : Ev (evSs cl (.cons s .nil) env) Q := by
  refine c_ev (ev_mono h fun fl q => ?_)
  cases fl with
  | nx e => exact c_nil q
  | bk e => exact q
  | ct e => exact q
  | rt o e => exact q
theorem pow_10 : binS .Pow (.int 10) (.int 18) = some (.v (.int 1000000000000000000)) := by
  rw [pow_c (show L2.CPow 10 18 by unfold L2.CPow; decide)]
  rfl
theorem bl_int {i : Int} : bltS .int [.int i] = some (.v (.int i)) := rfl
theorem bl_intb {b : Bool} : bltS .int [.bl b] = some (.v (.int (if b then 1 else 0))) := rfl
theorem bl_len_l {xs : List D} : bltS .len [.lst xs] = some (.v (.int xs.length)) := rfl
theorem bl_len_t {xs : List D} : bltS .len [.tup xs] = some (.v (.int xs.length)) := rfl
theorem bl_tup_l {xs : List D} : bltS .tuple [.lst xs] = some (.v (.tup xs)) := rfl
theorem bl_tup_t {xs : List D} : bltS .tuple [.tup xs] = some (.v (.tup xs)) := rfl
theorem bl_lst_l {xs : List D} : bltS .list [.lst xs] = some (.nw (.lst xs)) := rfl
theorem bl_lst_t {xs : List D} : bltS .list [.tup xs] = some (.nw (.lst xs)) := rfl
theorem frz_v {d : D} : (Op.v d).frz = .v d := rfl
theorem frz_nw {d : D} : (Op.nw d).frz = .v d := rfl
theorem frz_p {i : Nat} : (Op.p i).frz = .p i := rfl
theorem app_1 {xs : List D} {d : D} (h : xs.length < sizeLine) : mthS .append xs [d] = some (.non, xs ++ [d]) := by
  show (if xs.length < sizeLine then some (D.non, xs ++ [d]) else none) = _
  rw [if_pos h]
theorem mod_ex (a b : Int) (h : 0 < b) : ∃ r, binS .Mod (.int a) (.int b) = some (.v (.int r)) ∧ 0 ≤ r ∧ r < b := ⟨a % b, mod_p h, Int.emod_nonneg _ (by omega), Int.emod_lt_of_pos _ h⟩
theorem e_lc {cl : CallF} {vs : List Nat} {el : E} {t : T} {it : I} {c : OC} {env env1 : En} {items : List D} {lk : List (Nat × Bool)} {Q : List D → En → Prop} (h1 : evI cl it env = some (items, lk, env1)) (h2 : (lk.all fun j => !vs.contains j.1) = true)
    (h3 : Ev (lcLoop (fun env => evOC cl c env) (fun env => (evE cl el env).bind fun z => esc z.2 z.1) t vs items (wipeE env1 vs)) fun z => z.1.length ≤ sizeLine ∧ Q z.1 (unlock (restE z.2 env1 vs) lk)) :
    ∃ outs env', evE cl (.lc vs el t it c) env = some (.nw (.lst outs), env') ∧ Q outs env' := by
  obtain ⟨⟨outs, env2⟩, h4, h5, h6⟩ := h3
  refine ⟨outs, _, ?_, h6⟩
  unfold evE
  simp only [bind, Option.bind_eq_some_iff, Prod.exists]
  refine ⟨items, lk, env1, h1, ?_⟩
  rw [h2]
  simp only [Bool.not_true, Bool.false_eq_true, if_false]
  refine Option.bind_eq_some_iff.mpr ⟨(outs, env2), h4, ?_⟩
  show (if outs.length ≤ sizeLine then _ else none) = _
  rw [if_pos h5]
  rfl
theorem rgS_ok' {n : Int} (h : 0 ≤ n ∧ n ≤ 2 ^ 24) : rgS 0 n = some ((List.range n.toNat).map fun k => .int (k : Nat)) := by
  unfold rgS
  rw [if_pos (by omega)]
  simp
theorem rng_ints (n : Nat) : ((List.range n).map fun k : Nat => D.int (k : Nat)) = ((List.range n).map fun k : Nat => (k : Int)).map D.int := by simp
theorem s_ret' {cl : CallF} {e : E} {env env1 env2 : En} {o o2 : Op} (h1 : evE cl e env = some (o, env1)) (h2 : retO env1 o = some (o2, env2)) : evS cl (.ret e) env = some (.rt o2 env2) := by
  unfold evS
  simp only [h1, h2, bind, Option.bind_some, pure]
theorem e_blt1 {cl : CallF} {b : Bf} {e : E} {env env1 : En} {o r : Op} {d : D} (h1 : evE cl e env = some (o, env1)) (h2 : rd env1 o.frz = some d) (h3 : bltS b [d] = some r) : evE cl (.blt b (.cons e .nil)) env = some (r, env1) := by
  simp -implicitDefEqProofs only [evE, evBs, evB, h1, bind, Option.bind_some, pure, rds, h2, Option.map_some, h3]
theorem s_set' {cl : CallF} {i : Nat} {e : E} {env env1 env2 : En} {o : Op} (h1 : evE cl e env = some (o, env1)) (h2 : stO env1 i o = some env2) : evS cl (.set i e) env = some (.nx env2) := by
  unfold evS
  simp only [h1, h2, bind, Option.bind_some, pure]
theorem e_srt {cl : CallF} {e : E} {env env1 : En} {o : Op} {ns : List Int} (h1 : evE cl e env = some (o, env1)) (h2 : rd env1 o.frz = some (LI ns)) (h3 : ns.length < 64) : evE cl (.srtset e) env = some (.nw (LI (VIS.srtU ns)), env1) := by
  conv => lhs; unfold evE
  simp -implicitDefEqProofs only [evB, h1, bind, Option.bind_some, pure, h2, seqD, intsD_map]
  rw [if_pos h3]
theorem s_app {cl : CallF} {i : Nat} {e : E} {env env1 env2 : En} {o : Op} {d : D} {io : Bool} {xs : List D} (h0 : isOwL env i = true) (h1 : evE cl e env = some (o, env1)) (h2 : esc env1 o = some (d, env2)) (h3 : env2[i]? = some (.ow io (.lst xs))) (h4 : xs.length < sizeLine) :
    evS cl (.expr (.mth .append i (.cons e .nil))) env = some (.nx (env2.set i (.ow io (.lst (xs ++ [d]))))) := by
  unfold evS
  have h : evE cl (.mth .append i (.cons e .nil)) env = some (.v .non, env2.set i (.ow io (.lst (xs ++ [d])))) := by
    unfold evE
    simp -implicitDefEqProofs only [h0, Bool.not_true, Bool.false_eq_true, if_false, evDs, h1, h2, h3, bind, Option.bind_some, pure, app_1 h4]
  simp -implicitDefEqProofs only [h, bind, Option.bind_some, pure]
end VI
/-! PV: walking by rewriting. -/
namespace VI
open PySem
theorem ev_none {α : Type} {Q : α → Prop} : Ev (none : Option α) Q ↔ False := by
  constructor
  · rintro ⟨_, h, _⟩
    cases h
  · intro h
    exact h.elim
theorem ev_map {α β : Type} {o : Option α} {f : α → β} {Q : β → Prop} : Ev (o.map f) Q ↔ Ev o fun a => Q (f a) := by
  constructor
  · rintro ⟨b, h, q⟩
    obtain ⟨a, h1, rfl⟩ := Option.map_eq_some_iff.mp h
    exact ⟨a, h1, q⟩
  · rintro ⟨a, h1, q⟩
    exact ⟨f a, by rw [h1]; rfl, q⟩
theorem ev_iff {α : Type} {c : Prop} [Decidable c] {a b : Option α} {Q : α → Prop} : Ev (if c then a else b) Q ↔ (c → Ev a Q) ∧ (¬ c → Ev b Q) := by
  by_cases h : c <;> simp [h]
theorem ev_ifn {α : Type} {c : Prop} [Decidable c] {a : Option α} {Q : α → Prop} : Ev (if c then a else none) Q ↔ c ∧ Ev a Q := by
  by_cases h : c <;> simp [h, ev_none]
theorem some_bind {α β : Type} (a : α) (f : α → Option β) : (some a).bind f = f a := rfl
theorem ite_andE {α : Type} {p : Bool} {q : Bool} {e : α} : (if p = true then some (q, e) else some (false, e)) = some (p && q, e) := by cases p <;> rfl
theorem ite_orE {α : Type} {p : Bool} {q : Bool} {e : α} : (if p = true then some (true, e) else some (q, e)) = some (p || q, e) := by cases p <;> rfl
/-- a branch of the walk -/
def iteQ {α : Type} (b : Bool) (x y : α) : α := if b = true then x else y
theorem iteQ_t {α : Type} {x y : α} : iteQ true x y = x := rfl
theorem iteQ_f {α : Type} {x y : α} : iteQ false x y = y := rfl
theorem iteQ_and {α : Type} {p q : Bool} {e : α} : iteQ p (some (q, e)) (some (false, e)) = some (p && q, e) := by cases p <;> rfl
theorem iteQ_or {α : Type} {p q : Bool} {e : α} : iteQ p (some (true, e)) (some (q, e)) = some (p || q, e) := by cases p <;> rfl
theorem iteQ_andE {α : Type} {p q : Bool} {e : α} : iteQ p (some (Op.v (.bl q), e)) (some (Op.v (.bl false), e)) = some (Op.v (.bl (p && q)), e) := by cases p <;> rfl
theorem iteQ_orE {α : Type} {p q : Bool} {e : α} : iteQ p (some (Op.v (.bl true), e)) (some (Op.v (.bl q), e)) = some (Op.v (.bl (p || q)), e) := by cases p <;> rfl
theorem ev_iteQ {α : Type} {b : Bool} {x y : Option α} {Q : α → Prop} : Ev (iteQ b x y) Q ↔ (b = true → Ev x Q) ∧ (b = false → Ev y Q) := by cases b <;> simp [iteQ]
section
variable (cl : CallF) (env : En)
def LcE (vs : List Nat) (el : E) (t : T) (c : OC) (items : List D) (env : En) (Q : List D → En → Prop) : Prop :=
  Ev (lcLoop (fun env => evOC cl c env) (fun env => (evE cl el env).bind fun z => esc z.2 z.1) t vs items env) fun z => Q z.1 z.2
/-- the inner walk of two -/
def inQ (vs1 : List Nat) (el : E) (t1 : T) (it1 : I) (c1 : OC) (env : En) : Option (List D × En) := do
  let (items1, lk1, env1) ← evI cl it1 env
  if !(lk1.all fun j => !vs1.contains j.1) then none
  let (ys, env2) ← lcLoop (fun env => evOC cl c1 env) (fun env => do let (o, env) ← evE cl el env; esc env o) t1 vs1 items1 (wipeE env1 vs1)
  return (ys, unlock (restE env2 env1 vs1) lk1)
def Lc2E (vs vs1 : List Nat) (el : E) (t : T) (c : OC) (t1 : T) (it1 : I) (c1 : OC) (items : List D) (env : En) (Q : List D → En → Prop) : Prop :=
  Ev (lcLoop2 (fun env => evOC cl c env) (inQ cl vs1 el t1 it1 c1) t vs items env) fun z => Q z.1 z.2
def FoE (t : T) (b : Ss) (items : List D) (env : En) (Q : Fl → Prop) : Prop := Ev (foLoop (fun env => evSs cl b env) t items env) Q
/-- what stands behind a statement -/
def Kt (ss : Ss) (Q : Fl → Prop) : Fl → Prop
  | .nx e => Ev (evSs cl ss e) Q
  | fl => Q fl
theorem kt_nx (ss : Ss) (Q : Fl → Prop) (e : En) : Kt cl ss Q (.nx e) = Ev (evSs cl ss e) Q := rfl
theorem kt_bk (ss : Ss) (Q : Fl → Prop) (e : En) : Kt cl ss Q (.bk e) = Q (.bk e) := rfl
theorem kt_ct (ss : Ss) (Q : Fl → Prop) (e : En) : Kt cl ss Q (.ct e) = Q (.ct e) := rfl
theorem kt_rt (ss : Ss) (Q : Fl → Prop) (o : Op) (e : En) : Kt cl ss Q (.rt o e) = Q (.rt o e) := rfl
theorem kt {cl : CallF} {s : S} {ss : Ss} {env : En} {Q : Fl → Prop} (h : Ev (evS cl s env) (Kt cl ss Q)) : Ev (evSs cl (.cons s ss) env) Q := by
  refine c_ev (ev_mono h fun fl q => ?_)
  cases fl <;> exact q
theorem w_nm (i : Nat) : evE cl (.nm i) env = (match env[i]? with
    | some (.fz d) => some (.v d, env)
    | some (.ow _ _) => some (.p i, env)
    | some (.lk _ _) => some (.p i, env)
    | _ => none) := by first | (rw [evE]; done) | (rw [evE]; rfl)
theorem w_lit (d : D) : evE cl (.lit d) env = some (.v d, env) := by rw [evE]
theorem w_bin (op : Operator) (a b : E) : evE cl (.bin op a b) env = (evB cl a env).bind fun x => (evB cl b x.2).bind fun y => (rd y.2 x.1).bind fun dx => (rd y.2 y.1).bind fun dy => (binS op dx dy).bind fun r => some (r, y.2) := by rw [evE]; rfl
theorem w_un (op : UnaryOp) (a : E) : evE cl (.un op a) env = (evB cl a env).bind fun x => (rd x.2 x.1).bind fun dx => (unS op dx).bind fun r => some (.v r, x.2) := by rw [evE]; rfl
theorem w_cmp (op : CmpOp) (a b : E) : evE cl (.cmp op a b) env = (evB cl a env).bind fun x => (evB cl b x.2).bind fun y => (rd y.2 x.1).bind fun dx => (rd y.2 y.1).bind fun dy => (cmpS op dx dy).bind fun r => some (.v (.bl r), y.2) := by rw [evE]; rfl
theorem w_cmp2 (op op' : CmpOp) (a b c : E) : evE cl (.cmp2 op op' a b c) env = (evB cl a env).bind fun x => (evB cl b x.2).bind fun y => (rd y.2 x.1).bind fun dx => (rd y.2 y.1).bind fun dy => (cmpS op dx dy).bind fun r =>
    iteQ r ((evB cl c y.2).bind fun z => (rd z.2 y.1).bind fun dy => (rd z.2 z.1).bind fun dz => (cmpS op' dy dz).bind fun r => some (.v (.bl r), z.2)) (some (.v (.bl false), y.2)) := by rw [evE]; rfl
theorem w_and (es : Es) : evE cl (.and es) env = evAnd cl es env := by rw [evE]
theorem w_or (es : Es) : evE cl (.or es) env = evOr cl es env := by rw [evE]
theorem w_ifx (c : C) (a b : E) : evE cl (.ifx c a b) env = (evC cl c env).bind fun z => iteQ z.1 (evE cl a z.2) (evE cl b z.2) := by rw [evE]; rfl
theorem w_tup (es : Es) : evE cl (.tup es) env = (evDs cl es env).bind fun z => if z.1.length ≤ 16777216 then some (.v (.tup z.1), z.2) else none := by rw [evE]; rfl
theorem w_lst (es : Es) : evE cl (.lst es) env = (evDs cl es env).bind fun z => if z.1.length ≤ 16777216 then some (.nw (.lst z.1), z.2) else none := by rw [evE]; rfl
theorem w_idx (a b : E) : evE cl (.idx a b) env = (evB cl a env).bind fun x => (evB cl b x.2).bind fun y => (rd y.2 x.1).bind fun dx => (rd y.2 y.1).bind fun dy => (idxS dx dy).bind fun r => some (.v r, y.2) := by rw [evE]; rfl
theorem w_sli (a : E) (lo hi : OE) : evE cl (.sli a lo hi) env = (evB cl a env).bind fun x => (evO cl lo x.2).bind fun l => (evO cl hi l.2).bind fun h => (rd h.2 x.1).bind fun dx => (slS dx l.1 h.1).bind fun r => some (r, h.2) := by rw [evE]; rfl
theorem w_call (f : Nat) (es : Es) : evE cl (.call f es) env = (evBs cl es env).bind fun z => (toArgs z.2 z.1).bind fun args => if (lent z.2 z.1).Nodup then (cl f args).bind fun r => some (r.1, backArgs z.2 z.1 r.2) else none := by rw [evE]; rfl
theorem w_blt (b : Bf) (es : Es) : evE cl (.blt b es) env = (evBs cl es env).bind fun z => (rds z.2 z.1).bind fun ds => (bltS b ds).bind fun r => some (r, z.2) := by rw [evE]; rfl
def rngQ (h : Option Int) (i : Int) : Option (List D) := match h with
  | none => rgS 0 i
  | some j => rgS i j
theorem w_rng (tp : Bool) (a : E) (b : OE) : evE cl (.rng tp a b) env = (evB cl a env).bind fun x => (evO cl b x.2).bind fun h => (rd h.2 x.1).bind fun dx => (intD dx).bind fun i => (rngQ h.1 i).bind fun ds => some (if tp = true then .v (.tup ds) else .nw (.lst ds), h.2) := by
  rw [evE]
  cases h1 : evB cl a env with
  | none => rfl
  | some x =>
    obtain ⟨x, e1⟩ := x
    simp only [bind, Option.bind_some]
    cases h2 : evO cl b e1 with
    | none => rfl
    | some y =>
      obtain ⟨y, e2⟩ := y
      simp only [bind, Option.bind_some]
      cases h3 : rd e2 x with
      | none => rfl
      | some dx =>
        simp only [Option.bind_some]
        cases intD dx with
        | none => rfl
        | some i => cases y <;> rfl
theorem w_isi (a : E) (ts : List Ty) : evE cl (.isi a ts) env = (evB cl a env).bind fun x => (rd x.2 x.1).bind fun dx => some (.v (.bl (ts.any fun t => t.has dx)), x.2) := by rw [evE]; rfl
def mthQ (m : Mf) (i : Nat) (env : En) (ds : List D) : Option (Op × En) := match env[i]? with
  | some (.ow io (.lst xs)) => (mthS m xs ds).bind fun r => some (.v r.1, env.set i (.ow io (.lst r.2)))
  | _ => none
theorem w_mth (m : Mf) (i : Nat) (es : Es) : evE cl (.mth m i es) env = if isOwL env i = true then (evDs cl es env).bind fun z => mthQ m i z.2 z.1 else none := by
  rw [evE]
  unfold mthQ
  cases isOwL env i <;> rfl
theorem w_srtset (e : E) : evE cl (.srtset e) env = (evB cl e env).bind fun x => (rd x.2 x.1).bind fun dx => (seqD dx).bind fun xs => (intsD xs).bind fun ns => if ns.length < 64 then some (.nw (.lst ((VIS.srtU ns).map .int)), x.2) else none := by rw [evE]; rfl
def dflQ (mx : Bool) (dx dy : D) : Option D := if flatD dy = true then (match dx with
    | .lst xs => (intsD xs).map fun ns => if ns.length = 0 then dy else .int (if mx = true then maxL ns else minL ns)
    | _ => none) else none
theorem w_dfl (mx : Bool) (a d : E) : evE cl (.dfl mx a d) env = (evB cl a env).bind fun x => (evB cl d x.2).bind fun y => (rd y.2 x.1).bind fun dx => (rd y.2 y.1).bind fun dy => (dflQ mx dx dy).bind fun r => some (.v r, y.2) := by
  rw [evE]
  cases h1 : evB cl a env with
  | none => rfl
  | some x =>
    obtain ⟨x, e1⟩ := x
    simp only [bind, Option.bind_some]
    cases h2 : evB cl d e1 with
    | none => rfl
    | some y =>
      obtain ⟨y, e2⟩ := y
      simp only [bind, Option.bind_some]
      cases h3 : rd e2 x with
      | none => rfl
      | some dx =>
        cases h4 : rd e2 y with
        | none => rfl
        | some dy =>
          simp only [Option.bind_some]
          unfold dflQ
          cases flatD dy with
          | false => rfl
          | true =>
            cases dx with
            | lst xs =>
              cases h5 : intsD xs with
              | none => simp [h5]
              | some ns => simp [h5]
            | _ => rfl
theorem w_bits (a : E) : evE cl (.bits a) env = (evB cl a env).bind fun x => (rd x.2 x.1).bind fun dx => (intD dx).bind fun i => some (.v (.int (Builtin.Int.intBits i : Nat)), x.2) := by rw [evE]; rfl
theorem w_gcd (a b : E) : evE cl (.gcd a b) env = (evB cl a env).bind fun x => (evB cl b x.2).bind fun y => (rd y.2 x.1).bind fun dx => (rd y.2 y.1).bind fun dy => (intD dx).bind fun i => (intD dy).bind fun j => some (.v (.int (Nat.gcd i.natAbs j.natAbs : Nat)), y.2) := by rw [evE]; rfl
theorem w_ixof (a b : E) : evE cl (.ixof a b) env = (evB cl a env).bind fun x => (rd x.2 x.1).bind fun d0 => (evB cl b x.2).bind fun y => (rd y.2 x.1).bind fun dx => (rd y.2 y.1).bind fun dy => (ixS d0 dx dy).bind fun r => some (.v (.int r), y.2) := by rw [evE]; rfl
theorem w_B (e : E) : evB cl e env = (evE cl e env).bind fun z => some (z.1.frz, z.2) := by rw [evB]; rfl
theorem w_and1 (e : E) : evAnd cl (.cons e .nil) env = evE cl e env := by rw [evAnd]
theorem w_and2 (e e2 : E) (es : Es) : evAnd cl (.cons e (.cons e2 es)) env = (evB cl e env).bind fun x => (rd x.2 x.1).bind fun dx => (blD dx).bind fun b => iteQ b (evAnd cl (.cons e2 es) x.2) (some (.v (.bl false), x.2)) := by
  rw [evAnd]
  · rfl
  · intro h; cases h
theorem w_or1 (e : E) : evOr cl (.cons e .nil) env = evE cl e env := by rw [evOr]
theorem w_or2 (e e2 : E) (es : Es) : evOr cl (.cons e (.cons e2 es)) env = (evB cl e env).bind fun x => (rd x.2 x.1).bind fun dx => (blD dx).bind fun b => iteQ b (some (.v (.bl true), x.2)) (evOr cl (.cons e2 es) x.2) := by
  rw [evOr]
  · rfl
  · intro h; cases h
theorem w_Bn : evBs cl .nil env = some ([], env) := by rw [evBs]
theorem w_Bc (e : E) (es : Es) : evBs cl (.cons e es) env = (evB cl e env).bind fun x => (evBs cl es x.2).bind fun y => some (x.1 :: y.1, y.2) := by rw [evBs]; rfl
theorem w_Dn : evDs cl .nil env = some ([], env) := by rw [evDs]
theorem w_Dc (e : E) (es : Es) : evDs cl (.cons e es) env = (evE cl e env).bind fun x => (esc x.2 x.1).bind fun d => (evDs cl es d.2).bind fun y => some (d.1 :: y.1, y.2) := by rw [evDs]; rfl
theorem w_On : evO cl .no env = some (none, env) := by rw [evO]
theorem w_Os (e : E) : evO cl (.so e) env = (evB cl e env).bind fun x => (rd x.2 x.1).bind fun d => (intD d).bind fun i => some (some i, x.2) := by rw [evO]; rfl
theorem w_Cif (c : C) (a b : E) : evC cl (.ifc c a b) env = (evC cl c env).bind fun z => (iteQ z.1 (evB cl a z.2) (evB cl b z.2)).bind fun x => (rd x.2 x.1).bind fun d => (blD d).bind fun b => some (b, x.2) := by
  rw [evC]
  show (evC cl c env).bind _ = _
  congr 1
  funext z
  obtain ⟨r, e⟩ := z
  cases r <;> rfl
theorem w_Cv (e : E) : evC cl (.val e) env = (evB cl e env).bind fun x => (rd x.2 x.1).bind fun d => (blD d).bind fun b => some (b, x.2) := by rw [evC]; rfl
theorem w_Ca (cs : VI.Cs) : evC cl (.and cs) env = evCand cl cs env := by rw [evC]
theorem w_Co (cs : VI.Cs) : evC cl (.or cs) env = evCor cl cs env := by rw [evC]
theorem w_Cn (c : C) : evC cl (.not c) env = (evC cl c env).bind fun z => some (!z.1, z.2) := by rw [evC]; rfl
theorem w_Cc (op : CmpOp) (a b : E) : evC cl (.cmp op a b) env = (evB cl a env).bind fun x => (evB cl b x.2).bind fun y => (rd y.2 x.1).bind fun dx => (rd y.2 y.1).bind fun dy => (cmpS op dx dy).bind fun r => some (r, y.2) := by rw [evC]; rfl
theorem w_Cc2 (op op' : CmpOp) (a b c : E) : evC cl (.cmp2 op op' a b c) env = (evB cl a env).bind fun x => (evB cl b x.2).bind fun y => (rd y.2 x.1).bind fun dx => (rd y.2 y.1).bind fun dy => (cmpS op dx dy).bind fun r =>
    iteQ r ((evB cl c y.2).bind fun z => (rd z.2 y.1).bind fun dy => (rd z.2 z.1).bind fun dz => (cmpS op' dy dz).bind fun r => some (r, z.2)) (some (false, y.2)) := by rw [evC]; rfl
theorem w_Ca1 (c : C) : evCand cl (.cons c .nil) env = evC cl c env := by rw [evCand]
theorem w_Ca2 (c c2 : C) (cs : VI.Cs) : evCand cl (.cons c (.cons c2 cs)) env = (evC cl c env).bind fun z => iteQ z.1 (evCand cl (.cons c2 cs) z.2) (some (false, z.2)) := by
  rw [evCand]
  · rfl
  · intro h; cases h
theorem w_Co1 (c : C) : evCor cl (.cons c .nil) env = evC cl c env := by rw [evCor]
theorem w_Co2 (c c2 : C) (cs : VI.Cs) : evCor cl (.cons c (.cons c2 cs)) env = (evC cl c env).bind fun z => iteQ z.1 (some (true, z.2)) (evCor cl (.cons c2 cs) z.2) := by
  rw [evCor]
  · rfl
  · intro h; cases h
theorem w_OCn : evOC cl .no env = some (true, env) := by rw [evOC]
theorem w_OCs (c : C) : evOC cl (.so c) env = evC cl c env := by rw [evOC]
theorem w_Is (e : E) : evI cl (.seq e) env = (evB cl e env).bind fun x => (rd x.2 x.1).bind fun d => (itemsOf d).bind fun ds => some (ds, (lockS x.2 x.1).2, (lockS x.2 x.1).1) := by rw [evI]; rfl
theorem w_I1 (a : E) : evI cl (.rng1 a) env = (evB cl a env).bind fun x => (rd x.2 x.1).bind fun dx => (intD dx).bind fun i => (rngS 0 i).bind fun ds => some (ds, [], x.2) := by rw [evI]; rfl
theorem w_I2 (a b : E) : evI cl (.rng2 a b) env = (evB cl a env).bind fun x => (evB cl b x.2).bind fun y => (rd y.2 x.1).bind fun dx => (rd y.2 y.1).bind fun dy => (intD dx).bind fun i => (intD dy).bind fun j => (rngS i j).bind fun ds => some (ds, [], y.2) := by rw [evI]; rfl
theorem w_Ie (e : E) : evI cl (.enum e) env = (evB cl e env).bind fun x => (rd x.2 x.1).bind fun d => (itemsOf d).bind fun ds => some (enumD 0 ds, (lockS x.2 x.1).2, (lockS x.2 x.1).1) := by rw [evI]; rfl
theorem w_Iz3 (a b c : E) : evI cl (.zip3 a b c) env = (evB cl a env).bind fun x => (evB cl b x.2).bind fun y => (evB cl c y.2).bind fun z => (rd z.2 x.1).bind fun dx => (rd z.2 y.1).bind fun dy => (rd z.2 z.1).bind fun dz => (zip3S dx dy dz).bind fun ds => some (ds, (lockS (lockS (lockS z.2 x.1).1 y.1).1 z.1).2 ++ ((lockS (lockS z.2 x.1).1 y.1).2 ++ (lockS z.2 x.1).2), (lockS (lockS (lockS z.2 x.1).1 y.1).1 z.1).1) := by rw [evI]; rfl
theorem w_Iz (a b : E) : evI cl (.zip a b) env = (evB cl a env).bind fun x => (evB cl b x.2).bind fun y => (rd y.2 x.1).bind fun dx => (rd y.2 y.1).bind fun dy => (zipS dx dy).bind fun ds => some (ds, (lockS (lockS y.2 x.1).1 y.1).2 ++ (lockS y.2 x.1).2, (lockS (lockS y.2 x.1).1 y.1).1) := by rw [evI]; rfl
theorem w_Ir (e : E) : evI cl (.rev e) env = (evB cl e env).bind fun x => (rd x.2 x.1).bind fun d => (itemsOf d).bind fun ds => some (ds.reverse, (lockS x.2 x.1).2, (lockS x.2 x.1).1) := by rw [evI]; rfl
/-! statements -/
theorem x_set (i : Nat) (e : E) : evS cl (.set i e) env = (evE cl e env).bind fun x => (stO x.2 i x.1).bind fun e => some (.nx e) := by rw [evS]; rfl
theorem x_unp (t : T) (e : E) : evS cl (.unp t e) env = (evE cl e env).bind fun x => (esc x.2 x.1).bind fun d => (t.put d.2 d.1).bind fun e => some (.nx e) := by rw [evS]; rfl
theorem x_par (i j : Nat) (a b : E) : evS cl (.par i j a b) env = (evDs cl (.cons a (.cons b .nil)) env).bind fun z => match z.1 with
    | [x, y] => (putS z.2 i (.fz x)).bind fun e => (putS e j (.fz y)).bind fun e => some (.nx e)
    | _ => none := by rw [evS]; rfl
def putQ (i : Nat) (env : En) (n : Int) (d : D) : Option Fl := match env[i]? with
  | some (.ow io (.lst xs)) => (L2.ixN xs.length n).bind fun j => some (.nx (env.set i (.ow io (.lst (xs.set j d)))))
  | _ => none
theorem x_put (i : Nat) (k e : E) : evS cl (.put i k e) env = (evE cl e env).bind fun x => (esc x.2 x.1).bind fun d => if isOwL d.2 i = true then (evB cl k d.2).bind fun z => (rd z.2 z.1).bind fun dk => (intD dk).bind fun n => putQ i z.2 n d.1 else none := by
  rw [evS]
  simp only [bind]
  congr 1
  funext x
  congr 1
  funext d
  cases isOwL d.2 i <;> rfl
def incQ (cl : CallF) (i : Nat) (e : E) (env : En) : Option Fl := match env[i]? with
  | some (.fz (.int a)) => (evB cl e env).bind fun x => (rd x.2 x.1).bind fun d => (intD d).bind fun b => (putS x.2 i (.fz (.int (a + b)))).bind fun e => some (.nx e)
  | _ => none
theorem x_inc (i : Nat) (e : E) : evS cl (.inc i e) env = incQ cl i e env := by rw [evS]; rfl
theorem x_expr (e : E) : evS cl (.expr e) env = (evE cl e env).bind fun x => some (.nx x.2) := by rw [evS]; rfl
theorem x_ret (e : E) : evS cl (.ret e) env = (evE cl e env).bind fun x => (retO x.2 x.1).bind fun y => some (.rt y.1 y.2) := by rw [evS]; rfl
theorem x_retn : evS cl .retn env = some (.rt (.v .non) env) := by rw [evS]
theorem x_if (c : C) (a b : Ss) : evS cl (.ifs c a b) env = (evC cl c env).bind fun z => iteQ z.1 (evSs cl a z.2) (evSs cl b z.2) := by rw [evS]; rfl
theorem x_brk : evS cl .brk env = some (.bk env) := by rw [evS]
theorem x_cont : evS cl .cont env = some (.ct env) := by rw [evS]
theorem x_pass : evS cl .pass env = some (.nx env) := by rw [evS]
theorem x_doc : evS cl .doc env = some (.nx env) := by rw [evS]
theorem x_nil : evSs cl .nil env = some (.nx env) := by rw [evSs]
theorem ev_fo {t : T} {it : I} {b : Ss} {Q : Fl → Prop} : Ev (evS cl (.fo t it b) env) Q ↔ Ev (evI cl it env) fun z => FoE cl t b z.1 z.2.2 fun fl => Q (fl.free z.2.1) := by
  rw [evS]
  simp only [bind, pure, ev_bind, ev_some, FoE]
theorem ev_lc {vs : List Nat} {el : E} {t : T} {it : I} {c : OC} {Q : Op × En → Prop} : Ev (evE cl (.lc vs el t it c) env) Q ↔ Ev (evI cl it env) fun z => (z.2.1.all fun j => !vs.contains j.1) = true ∧ LcE cl vs el t c z.1 (wipeE z.2.2 vs) fun outs e => outs.length ≤ 16777216 ∧ Q (.nw (.lst outs), unlock (restE e z.2.2 vs) z.2.1) := by
  rw [evE]
  simp only [bind, ev_bind, LcE]
  refine iff_of_eq (congrArg _ (funext fun z => ?_))
  obtain ⟨items, lk, e1⟩ := z
  show Ev _ _ = _
  cases lk.all fun j => !vs.contains j.1 with
  | false => simp [ev_none]
  | true =>
    simp only [Bool.not_true, Bool.false_eq_true, if_false, true_and, pure, ev_bind, ev_ifn, ev_some]
    rfl
theorem ev_lc2 {vs vs1 : List Nat} {el : E} {t t1 : T} {it it1 : I} {c c1 : OC} {Q : Op × En → Prop} : Ev (evE cl (.lc2 vs vs1 el t it c t1 it1 c1) env) Q ↔ Ev (evI cl it env) fun z => (z.2.1.all fun j => !vs.contains j.1) = true ∧ Lc2E cl vs vs1 el t c t1 it1 c1 z.1 (wipeE z.2.2 vs) fun outs e => outs.length ≤ 16777216 ∧ Q (.nw (.lst outs), unlock (restE e z.2.2 vs) z.2.1) := by
  rw [evE]
  simp only [bind, ev_bind, Lc2E, inQ]
  refine iff_of_eq (congrArg _ (funext fun z => ?_))
  obtain ⟨items, lk, e1⟩ := z
  show Ev _ _ = _
  cases lk.all fun j => !vs.contains j.1 with
  | false => simp [ev_none]
  | true =>
    simp only [Bool.not_true, Bool.false_eq_true, if_false, true_and, pure, ev_bind, ev_ifn, ev_some]
    rfl
end
def finB (env : En) (i : Nat) : Sl → Sl
  | .ow _ _ => (env[i]?).getD .un
  | a => a
def finC (env : En) : Nat → List Sl → List Sl
  | _, [] => []
  | i, a :: as => (match a with
    | .ow io d => (env[i]?).getD (.ow io d)
    | a => a) :: finC env (i + 1) as
theorem finA_go {env : En} {args : List Sl} : finA args env = finC env 0 args := by
  have h : ∀ (as : List Sl) (i : Nat), (as.mapIdx fun j a => match a with
    | .ow _ _ => (env[i + j]?).getD a
    | a => a) = finC env i as := by
    intro as
    induction as with
    | nil => intro i; rfl
    | cons a as ih =>
      intro i
      rw [List.mapIdx_cons]
      unfold finC
      rw [← ih (i + 1)]
      congr 1
      · cases a <;> rfl
      · congr 1
        funext j a
        cases a with
        | ow io d => simp only []; rw [show i + (j + 1) = i + 1 + j by omega]
        | _ => rfl
  have := h args 0
  simp only [Nat.zero_add] at this
  exact this
theorem finA_nil {env : En} {i : Nat} : finC env i [] = [] := rfl
theorem finA_cons {env : En} {i : Nat} {a : Sl} {as : List Sl} : finC env i (a :: as) = (match a with
    | .ow io d => (env[i]?).getD (.ow io d)
    | a => a) :: finC env (i + 1) as := rfl
theorem finB_fz : True := trivial
theorem finB_ow : True := trivial
theorem finB_lk : True := trivial
/-- the end of a def -/
def Ed (args : List Sl) (Q : Op × List Sl → Prop) (fl : Fl) : Prop := Ev (endF args fl) Q
theorem ed_nx {args : List Sl} {Q : Op × List Sl → Prop} {e : En} : Ed args Q (.nx e) ↔ Q (.v .non, finA args e) := ev_some
theorem ed_v {args : List Sl} {Q : Op × List Sl → Prop} {d : D} {e : En} : Ed args Q (.rt (.v d) e) ↔ Q (.v d, finA args e) := ev_some
theorem ed_nw {args : List Sl} {Q : Op × List Sl → Prop} {d : D} {e : En} : Ed args Q (.rt (.nw d) e) ↔ Q (.nw d, finA args e) := ev_some
theorem enter2 {cl : CallF} {d : FD} {args : List Sl} {Q : Op × List Sl → Prop} (hl : args.length = d.ps.length ∧ args.all argOk = true) (h : Ev (evSs cl d.body (args ++ List.replicate (d.N.length - args.length) .un)) (Ed args Q)) : Ev (runDef cl d args) Q := enter hl h
section
variable {env : En} {d : D} {i : Nat}
theorem rd_v : rd env (.v d) = some d := rfl
theorem rd_nw : rd env (.nw d) = some d := rfl
theorem rd_p : rd env (.p i) = (match env[i]? with
    | some (.fz d) => some d
    | some (.ow _ d) => some d
    | some (.lk _ d) => some d
    | _ => none) := rfl
theorem rds_nil : rds env [] = some [] := rfl
theorem rds_cons {o : Op} {os : List Op} : rds env (o :: os) = (rd env o).bind fun d => (rds env os).map fun ds => d :: ds := rfl
theorem esc_v : esc env (.v d) = some (d, env) := rfl
theorem esc_nw : esc env (.nw d) = some (d, env) := rfl
theorem esc_p : esc env (.p i) = (match env[i]? with
    | some (.fz d) => some (d, env)
    | some (.ow false d) => some (d, env.set i (.fz d))
    | _ => none) := rfl
theorem toA_v : toArg env (.v d) = some (.fz d) := rfl
theorem toA_nw : toArg env (.nw d) = some (.fz d) := rfl
theorem toA_p : toArg env (.p i) = (match env[i]? with
    | some (.fz d) => some (.fz d)
    | some (.ow _ d) => some (.ow true d)
    | some (.lk _ d) => some (.lk true d)
    | _ => none) := rfl
theorem toAs_nil : toArgs env [] = some [] := rfl
theorem toAs_cons {o : Op} {os : List Op} : toArgs env (o :: os) = (toArg env o).bind fun a => (toArgs env os).map (a :: ·) := rfl
theorem stO_v : stO env i (.v d) = putS env i (.fz d) := rfl
theorem stO_nw : stO env i (.nw d) = putS env i (.ow false d) := rfl
theorem stO_p {j : Nat} : stO env i (.p j) = (esc env (.p j)).bind fun z => putS z.2 i (.fz z.1) := rfl
theorem retO_v : retO env (.v d) = some (.v d, env) := rfl
theorem retO_nw : retO env (.nw d) = some (.nw d, env) := rfl
theorem retO_p : retO env (.p i) = (match env[i]? with
    | some (.fz d) => some (.v d, env)
    | some (.ow false d) => some (.nw d, env.set i .un)
    | _ => none) := rfl
theorem lockS_v : lockS env (.v d) = (env, []) := rfl
theorem lockS_nw : lockS env (.nw d) = (env, []) := rfl
theorem lockS_p : lockS env (.p i) = (match env[i]? with
    | some (.ow io d) => (env.set i (.lk io d), [(i, true)])
    | some (.lk _ _) => (env, [(i, false)])
    | _ => (env, [])) := rfl
theorem int_i {i : Int} : intD (.int i) = some i := rfl
theorem bl_b {b : Bool} : blD (.bl b) = some b := rfl
theorem items_l {xs : List D} : itemsOf (.lst xs) = some xs := rfl
theorem items_t {xs : List D} : itemsOf (.tup xs) = some xs := rfl
theorem items_s {ns : List Int} : itemsOf (.scr ns) = some (ns.map .int) := rfl
theorem rngQ_n {i : Int} : rngQ none i = rgS 0 i := rfl
theorem rngQ_s {i j : Int} : rngQ (some j) i = rgS i j := rfl
theorem pop_last {xs : List D} {d : D} : mthS .pop (xs ++ [d]) [] = some (d, xs) := by simp [mthS]
theorem put_nm {d : D} : (T.nm i).put env d = putS env i (.fz d) := by unfold T.put; rfl
theorem put_tt {ts : Ts} {ds : List D} : (T.tup ts).put env (.tup ds) = ts.put env ds := by rw [T.put]
theorem put_tl {ts : Ts} {ds : List D} : (T.tup ts).put env (.lst ds) = ts.put env ds := by rw [T.put]
theorem put_tn : Ts.nil.put env [] = some env := by rw [Ts.put]
theorem put_tc {t : T} {ts : Ts} {ds : List D} : (Ts.cons t ts).put env (d :: ds) = (t.put env d).bind fun e => ts.put e ds := by rw [Ts.put]
theorem any_of {α : Type} {xs : List α} {f : α → Bool} : True := trivial
theorem max_n {l : List Int} (h : 0 < l.length) : bltS .max [.lst (l.map .int)] = some (.v (.int (maxL l))) := by
  show (intsD (l.map .int)).bind _ = _
  rw [intsD_map]
  show (if 0 < l.length then _ else none) = _
  rw [if_pos h]
theorem min_n {l : List Int} (h : 0 < l.length) : bltS .min [.lst (l.map .int)] = some (.v (.int (minL l))) := by
  show (intsD (l.map .int)).bind _ = _
  rw [intsD_map]
  show (if 0 < l.length then _ else none) = _
  rw [if_pos h]
theorem minp_n {l : List (Int × Int)} (h : 0 < l.length) : bltS .minp [.lst (l.map fun p => .tup [.int p.1, .int p.2])] = some (.v (.tup [.int (minPr l).1, .int (minPr l).2])) := by
  show (pairsD _).bind _ = _
  rw [pairsD_map]
  show (if 0 < l.length then _ else none) = _
  rw [if_pos h]
theorem sum_n {l : List Int} : bltS .sum [.lst (l.map .int)] = some (.v (.int l.sum)) := by
  show (intsD (l.map .int)).map _ = _
  rw [intsD_map]
  rfl
theorem srt_n {l : List Int} : bltS .sorted [.lst (l.map .int)] = some (.nw (LI (l.mergeSort (· ≤ ·)))) := by
  show (intsD (l.map .int)).map _ = _
  rw [intsD_map]
  rfl
theorem any_n {l : List Bool} : bltS .any [.lst (l.map .bl)] = some (.v (.bl (l.any id))) := by
  show (blsD (l.map .bl)).map _ = _
  rw [blsD_map]
  rfl
theorem all_n {l : List Bool} : bltS .all [.lst (l.map .bl)] = some (.v (.bl (l.all id))) := by
  show (blsD (l.map .bl)).map _ = _
  rw [blsD_map]
  rfl
theorem rngS2 {m n : Int} (h1 : -(2 ^ 62) ≤ m) (h2 : m < 2 ^ 62) (h3 : -(2 ^ 62) ≤ n) (h4 : n < 2 ^ 62) : rngS m n = some ((List.range (n - m).toNat).map fun k => .int (m + (k : Nat))) := by
  unfold rngS
  rw [if_pos ⟨h1, h2, h3, h4⟩]
theorem rngS1 {n : Int} (h1 : 0 ≤ n) (h2 : n < 2 ^ 62) : rngS 0 n = some ((List.range n.toNat).map fun k => .int (k : Nat)) := rngS_ok ⟨h1, h2⟩
theorem rgS1 {n : Int} (h1 : 0 ≤ n) (h2 : n ≤ 2 ^ 24) : rgS 0 n = some ((List.range n.toNat).map fun k => .int (k : Nat)) := rgS_ok' ⟨h1, h2⟩
theorem mul_r1 {a b : Int} (h1 : -(2 ^ 64) < b) (h2 : b < 2 ^ 64) : binS .Mult (.int a) (.int b) = some (.v (.int (a * b))) := mul_r ⟨h1, h2⟩
theorem mul_l1 {a b : Int} (h1 : -(2 ^ 64) < a) (h2 : a < 2 ^ 64) : binS .Mult (.int a) (.int b) = some (.v (.int (a * b))) := mul_l ⟨h1, h2⟩
theorem div_c1 {a b : Int} (h1 : 0 < b) (h2 : b < 1073741824) : binS .FloorDiv (.int a) (.int b) = some (.v (.int (a / b))) := div_c ⟨h1, h2⟩
theorem rep_n {x : D} {n : Nat} (h : n ≤ 16777216) : binS .Mult (.lst [x]) (.int (n : Nat)) = some (.nw (.lst (List.replicate n x))) := by
  have hs : sizeLine = 16777216 := rfl
  simp only [binS]
  rw [if_pos (by simp; omega)]
  simp
theorem add_lst1 {xs ys : List D} (h : xs.length + ys.length ≤ 16777216) : binS .Add (.lst xs) (.lst ys) = some (.nw (.lst (xs ++ ys))) := by
  simp only [binS]
  rw [if_pos (show xs.length + ys.length ≤ sizeLine from h)]
theorem add_tup1 {xs ys : List D} (h : xs.length + ys.length ≤ 16777216) : binS .Add (.tup xs) (.tup ys) = some (.v (.tup (xs ++ ys))) := by
  simp only [binS]
  rw [if_pos (show xs.length + ys.length ≤ sizeLine from h)]
theorem app_16 {xs : List D} {d : D} (h : xs.length < 16777216) : mthS .append xs [d] = some (.non, xs ++ [d]) := app_1 h
end
/-! loops -/
section
variable {cl : CallF}
/-- a for statement by place -/
theorem foE {t : T} {b : Ss} {items : List D} {Q : Fl → Prop} {env : En} (P : Nat → En → Prop) (h0 : P 0 env)
    (hs : ∀ i (hi : i < items.length) e, P i e → Ev (t.put e items[i]) fun e1 => Ev (evSs cl b e1) fun fl => match fl with
      | .nx e2 => P (i + 1) e2
      | .ct e2 => P (i + 1) e2
      | .bk e2 => Q (.nx e2)
      | .rt o e2 => Q (.rt o e2)) (hd : ∀ e, P items.length e → Q (.nx e)) : FoE cl t b items env Q := fo_ind P hs hd h0
/-- what a turn ends in -/
def Tn (P : En → Prop) (Q : Fl → Prop) : Fl → Prop
  | .nx e => P e
  | .ct e => P e
  | .bk e => Q (.nx e)
  | .rt o e => Q (.rt o e)
theorem tn_nx {P : En → Prop} {Q : Fl → Prop} {e : En} : Tn P Q (.nx e) = P e := rfl
theorem tn_ct {P : En → Prop} {Q : Fl → Prop} {e : En} : Tn P Q (.ct e) = P e := rfl
theorem tn_bk {P : En → Prop} {Q : Fl → Prop} {e : En} : Tn P Q (.bk e) = Q (.nx e) := rfl
theorem tn_rt {P : En → Prop} {Q : Fl → Prop} {o : Op} {e : En} : Tn P Q (.rt o e) = Q (.rt o e) := rfl
/-- .. over the images of a list, by place -/
theorem foM {α : Type} {f : α → D} {t : T} {b : Ss} {xs : List α} {Q : Fl → Prop} {env : En} (P : Nat → En → Prop) (h0 : P 0 env)
    (hs : ∀ i x, xs[i]? = some x → ∀ e, P i e → Ev (t.put e (f x)) fun e1 => Ev (evSs cl b e1) (Tn (P (i + 1)) Q)) (hd : ∀ e, P xs.length e → Q (.nx e)) : FoE cl t b (xs.map f) env Q := by
  refine foE P h0 (fun i hi e hp => ?_) (fun e hp => hd e (by simpa using hp))
  have hi' : i < xs.length := by simpa using hi
  have := hs i xs[i] (List.getElem?_eq_getElem hi') e hp
  rw [show (xs.map f)[i] = f xs[i] by simp]
  refine ev_mono this fun e1 h1 => ev_mono h1 fun fl h2 => ?_
  cases fl <;> exact h2
/-- .. over range(n) -/
theorem foR {n : Nat} {f : Nat → D} {t : T} {b : Ss} {Q : Fl → Prop} {env : En} (P : Nat → En → Prop) (h0 : P 0 env)
    (hs : ∀ i, i < n → ∀ e, P i e → Ev (t.put e (f i)) fun e1 => Ev (evSs cl b e1) (Tn (P (i + 1)) Q)) (hd : ∀ e, P n e → Q (.nx e)) : FoE cl t b ((List.range n).map f) env Q := by
  refine foM (xs := List.range n) P h0 (fun i x hx e hp => ?_) (fun e hp => hd e (by simpa using hp))
  obtain ⟨h1, h2⟩ := List.getElem?_eq_some_iff.mp hx
  simp at h1 h2
  subst h2
  exact hs i h1 e hp
theorem enumD_eq (k : Int) : ∀ ds : List D, enumD k ds = (ds.zipIdx).map fun p => .tup [.int (k + p.2), p.1] := by
  intro ds
  have h : ∀ (ds : List D) (k : Int) (j : Nat), enumD (k + j) ds = (ds.zipIdx j).map fun p => .tup [.int (k + p.2), p.1] := by
    intro ds
    induction ds with
    | nil => intro k j; rfl
    | cons d ds ih =>
      intro k j
      simp only [enumD, List.zipIdx_cons, List.map_cons]
      rw [← ih k (j + 1)]
      congr 2
      simp; omega
  have := h ds k 0
  simpa using this
/-- .. over enumerate -/
theorem foN {α : Type} {f : α → D} {t : T} {b : Ss} {xs : List α} {Q : Fl → Prop} {env : En} (P : Nat → En → Prop) (h0 : P 0 env)
    (hs : ∀ (i : Nat) x, xs[i]? = some x → ∀ e, P i e → Ev (t.put e (.tup [.int i, f x])) fun e1 => Ev (evSs cl b e1) (Tn (P (i + 1)) Q)) (hd : ∀ e, P xs.length e → Q (.nx e)) : FoE cl t b (enumD 0 (xs.map f)) env Q := by
  rw [enumD_eq]
  refine foM (xs := (xs.map f).zipIdx) P h0 (fun i p hp e hP => ?_) (fun e hP => hd e (by simpa using hP))
  rw [List.getElem?_zipIdx] at hp
  simp only [List.getElem?_map, Option.map_map, Option.map_eq_some_iff] at hp
  obtain ⟨x, hx, rfl⟩ := hp
  have := hs i x hx e hP
  simpa using this
/-- a comprehension by place -/
theorem lcE {vs : List Nat} {el : E} {t : T} {c : OC} {items : List D} {Q : List D → En → Prop} {env : En} (P : Nat → List D → En → Prop) (h0 : P 0 [] env)
    (hs : ∀ i (hi : i < items.length) acc e, P i acc e → Ev (t.put e items[i]) fun e1 => Ev (evOC cl c e1) fun z => if z.1 = true then Ev (evE cl el z.2) fun y => Ev (esc y.2 y.1) fun w => P (i + 1) (acc ++ [w.1]) (wipeE w.2 vs) else P (i + 1) acc (wipeE z.2 vs))
    (hd : ∀ acc e, P items.length acc e → Q acc e) : LcE cl vs el t c items env Q := by
  refine lc_ind P (fun i hi acc e hp => ev_mono (hs i hi acc e hp) fun e1 h1 => ev_mono h1 fun z h2 => ?_) hd h0
  split at h2
  · rename_i hz
    rw [if_pos hz]
    exact ev_bind.mpr h2
  · rename_i hz
    rw [if_neg hz]
    exact h2
/-- one turn of a comprehension -/
def Lt (cl : CallF) (vs : List Nat) (el : E) (P : List D → En → Prop) (acc : List D) (z : Bool × En) : Prop :=
  if z.1 = true then Ev (evE cl el z.2) fun y => Ev (esc y.2 y.1) fun w => P (acc ++ [w.1]) (wipeE w.2 vs) else P acc (wipeE z.2 vs)
theorem lt_t {vs : List Nat} {el : E} {P : List D → En → Prop} {acc : List D} {e : En} : Lt cl vs el P acc (true, e) = Ev (evE cl el e) fun y => Ev (esc y.2 y.1) fun w => P (acc ++ [w.1]) (wipeE w.2 vs) := rfl
theorem lt_b {vs : List Nat} {el : E} {P : List D → En → Prop} {acc : List D} {e : En} {b : Bool} : Lt cl vs el P acc (b, e) ↔ (b = true → Ev (evE cl el e) fun y => Ev (esc y.2 y.1) fun w => P (acc ++ [w.1]) (wipeE w.2 vs)) ∧ (b = false → P acc (wipeE e vs)) := by cases b <;> simp [Lt]
theorem lcM {α : Type} {f : α → D} {vs : List Nat} {el : E} {t : T} {c : OC} {xs : List α} {Q : List D → En → Prop} {env : En} (P : Nat → List D → En → Prop) (h0 : P 0 [] env)
    (hs : ∀ i x, xs[i]? = some x → ∀ acc e, P i acc e → Ev (t.put e (f x)) fun e1 => Ev (evOC cl c e1) (Lt cl vs el (P (i + 1)) acc)) (hd : ∀ acc e, P xs.length acc e → Q acc e) : LcE cl vs el t c (xs.map f) env Q := by
  refine lcE P h0 (fun i hi acc e hp => ?_) (fun acc e hp => hd acc e (by simpa using hp))
  have hi' : i < xs.length := by simpa using hi
  have := hs i xs[i] (List.getElem?_eq_getElem hi') acc e hp
  rw [show (xs.map f)[i] = f xs[i] by simp]
  exact this
theorem lcR {n : Nat} {f : Nat → D} {vs : List Nat} {el : E} {t : T} {c : OC} {Q : List D → En → Prop} {env : En} (P : Nat → List D → En → Prop) (h0 : P 0 [] env)
    (hs : ∀ i, i < n → ∀ acc e, P i acc e → Ev (t.put e (f i)) fun e1 => Ev (evOC cl c e1) (Lt cl vs el (P (i + 1)) acc)) (hd : ∀ acc e, P n acc e → Q acc e) : LcE cl vs el t c ((List.range n).map f) env Q := by
  refine lcM (xs := List.range n) P h0 (fun i x hx acc e hp => ?_) (fun acc e hp => hd acc e (by simpa using hp))
  obtain ⟨h1, h2⟩ := List.getElem?_eq_some_iff.mp hx
  simp at h1 h2
  subst h2
  exact hs i h1 acc e hp
/-- a comprehension that keeps the slots: [g x for x in xs if p x] -/
theorem lcF {α : Type} {f : α → D} (g : α → D) (p : α → Bool) {vs : List Nat} {el : E} {t : T} {c : OC} {xs : List α} {Q : List D → En → Prop} {env : En}
    (hs : ∀ x ∈ xs, Ev (t.put env (f x)) fun e1 => Ev (evOC cl c e1) fun z => z.1 = p x ∧ (p x = true → Ev (evE cl el z.2) fun y => Ev (esc y.2 y.1) fun w => w.1 = g x ∧ wipeE w.2 vs = env) ∧ (p x = false → wipeE z.2 vs = env))
    (hd : Q ((xs.filter p).map g) env) : LcE cl vs el t c (xs.map f) env Q := by
  refine ⟨_, lc_filter (g := g) (p := p) fun x hx => ?_, hd⟩
  obtain ⟨e1, h1, ⟨b, e2⟩, h2, rfl, h3, h4⟩ := hs x hx
  refine ⟨e1, e2, h1, h2, fun hp => ?_, h4⟩
  obtain ⟨⟨o, e3⟩, h5, ⟨d, e4⟩, h6, rfl, h7⟩ := h3 hp
  exact ⟨e4, by rw [h5]; exact h6, h7⟩
/-- .. without a test -/
theorem lcG {α : Type} {f : α → D} (g : α → D) {vs : List Nat} {el : E} {t : T} {c : OC} {xs : List α} {Q : List D → En → Prop} {env : En}
    (hs : ∀ x ∈ xs, Ev (t.put env (f x)) fun e1 => Ev (evOC cl c e1) fun z => z.1 = true ∧ Ev (evE cl el z.2) fun y => Ev (esc y.2 y.1) fun w => w.1 = g x ∧ wipeE w.2 vs = env)
    (hd : Q (xs.map g) env) : LcE cl vs el t c (xs.map f) env Q := by
  refine ⟨_, lc_map (g := g) fun x hx => ?_, hd⟩
  obtain ⟨e1, h1, ⟨b, e2⟩, h2, h3, ⟨o, e3⟩, h5, ⟨d, e4⟩, h6, rfl, h7⟩ := hs x hx
  have h3 : b = true := h3
  subst h3
  exact ⟨e1, e2, e4, h1, h2, by rw [h5]; exact h6, h7⟩
end
def frO : Option Sl → Bool
  | some s => fr s
  | none => false
theorem putS_q {env : En} {i : Nat} {x : Sl} : putS env i x = if frO env[i]? = true then some (env.set i x) else none := by
  by_cases h : frO env[i]? = true
  · rw [if_pos h]
    refine putS_at ?_
    cases e : env[i]? with
    | none => rw [e] at h; cases h
    | some s => rw [e] at h; exact h
  · rw [if_neg h]
    unfold putS
    cases e : env[i]? with
    | none => rfl
    | some s =>
      rw [e] at h
      cases s with
      | un => exact absurd rfl h
      | fz d => exact absurd rfl h
      | ow io d => cases io <;> first | rfl | exact absurd rfl h
      | lk io d => rfl
theorem frO_some {s : Sl} : frO (some s) = fr s := rfl
theorem fr_un : fr .un = true := rfl
theorem fr_fz {d : D} : fr (.fz d) = true := rfl
theorem fr_ow {d : D} : fr (.ow false d) = true := rfl
theorem isN_n : isNon .non = true := rfl
theorem isN_i {i : Int} : isNon (.int i) = false := rfl
theorem isN_b {i : Bool} : isNon (.bl i) = false := rfl
theorem isN_s {i : Str} : isNon (.str i) = false := rfl
theorem isN_t {i : List D} : isNon (.tup i) = false := rfl
theorem isN_l {i : List D} : isNon (.lst i) = false := rfl
theorem idx_tint {l : List Int} {p : Int} (h0 : 0 ≤ p) (h : p < l.length) : idxS (.tup (l.map .int)) (.int p) = some (.int (l.getD p.toNat 0)) := idx_ints h0 h
/-! the same, slot by slot -/
def nmS (i : Nat) (env : En) : Option Sl → Option (Op × En)
  | some (.fz d) => some (.v d, env)
  | some (.ow _ _) => some (.p i, env)
  | some (.lk _ _) => some (.p i, env)
  | _ => none
def rdS : Option Sl → Option D
  | some (.fz d) => some d
  | some (.ow _ d) => some d
  | some (.lk _ d) => some d
  | _ => none
def escS (env : En) (i : Nat) : Option Sl → Option (D × En)
  | some (.fz d) => some (d, env)
  | some (.ow false d) => some (d, env.set i (.fz d))
  | _ => none
def toAS : Option Sl → Option Sl
  | some (.fz d) => some (.fz d)
  | some (.ow _ d) => some (.ow true d)
  | some (.lk _ d) => some (.lk true d)
  | _ => none
def retS (env : En) (i : Nat) : Option Sl → Option (Op × En)
  | some (.fz d) => some (.v d, env)
  | some (.ow false d) => some (.nw d, env.set i .un)
  | _ => none
def lckS (env : En) (i : Nat) : Option Sl → En × List (Nat × Bool)
  | some (.ow io d) => (env.set i (.lk io d), [(i, true)])
  | some (.lk _ _) => (env, [(i, false)])
  | _ => (env, [])
def mthW (m : Mf) (i : Nat) (env : En) (ds : List D) : Option Sl → Option (Op × En)
  | some (.ow io (.lst xs)) => (mthS m xs ds).bind fun r => some (.v r.1, env.set i (.ow io (.lst r.2)))
  | _ => none
def putW (i : Nat) (env : En) (n : Int) (d : D) : Option Sl → Option Fl
  | some (.ow io (.lst xs)) => (L2.ixN xs.length n).bind fun j => some (.nx (env.set i (.ow io (.lst (xs.set j d)))))
  | _ => none
def incW (cl : CallF) (i : Nat) (e : E) (env : En) : Option Sl → Option Fl
  | some (.fz (.int a)) => (evB cl e env).bind fun x => (rd x.2 x.1).bind fun d => (intD d).bind fun b => (putS x.2 i (.fz (.int (a + b)))).bind fun e => some (.nx e)
  | _ => none
def bakS (env : En) (i : Nat) (d : D) : Option Sl → En
  | some (.ow io _) => env.set i (.ow io d)
  | _ => env
def lenS (i : Nat) : Option Sl → List Nat → List Nat
  | some (.ow _ _), l => i :: l
  | some (.lk _ _), l => i :: l
  | _, l => l
def unlS (env : En) (i : Nat) : Option Sl → En
  | some (.lk io d) => env.set i (.ow io d)
  | _ => env
def resS (env : En) (v : Nat) : Option Sl → En
  | some s => env.set v s
  | none => env
def isOwS : Option Sl → Bool
  | some (.ow _ (.lst _)) => true
  | _ => false
def finS (o : Option Sl) : Sl → Sl
  | .ow io d => o.getD (.ow io d)
  | a => a
section
variable {env env0 : En} {i : Nat} {d : D} {io : Bool}
theorem w_nm' (cl : CallF) : evE cl (.nm i) env = nmS i env env[i]? := by
  rw [w_nm]
  cases env[i]? with
  | none => rfl
  | some s => cases s <;> rfl
theorem nm_fz : nmS i env (some (.fz d)) = some (.v d, env) := rfl
theorem nm_ow : nmS i env (some (.ow io d)) = some (.p i, env) := rfl
theorem nm_lk : nmS i env (some (.lk io d)) = some (.p i, env) := rfl
theorem rd_p' : rd env (.p i) = rdS env[i]? := by
  rw [rd_p]
  cases env[i]? with
  | none => rfl
  | some s => cases s <;> rfl
theorem rdS_fz : rdS (some (.fz d)) = some d := rfl
theorem rdS_ow : rdS (some (.ow io d)) = some d := rfl
theorem rdS_lk : rdS (some (.lk io d)) = some d := rfl
theorem esc_p' : esc env (.p i) = escS env i env[i]? := by
  rw [esc_p]
  cases env[i]? with
  | none => rfl
  | some s =>
    cases s with
    | ow io d => cases io <;> rfl
    | _ => rfl
theorem escS_fz : escS env i (some (.fz d)) = some (d, env) := rfl
theorem escS_ow : escS env i (some (.ow false d)) = some (d, env.set i (.fz d)) := rfl
theorem toA_p' : toArg env (.p i) = toAS env[i]? := by
  rw [toA_p]
  cases env[i]? with
  | none => rfl
  | some s => cases s <;> rfl
theorem toAS_fz : toAS (some (.fz d)) = some (.fz d) := rfl
theorem toAS_ow : toAS (some (.ow io d)) = some (.ow true d) := rfl
theorem toAS_lk : toAS (some (.lk io d)) = some (.lk true d) := rfl
theorem retO_p' : retO env (.p i) = retS env i env[i]? := by
  rw [retO_p]
  cases env[i]? with
  | none => rfl
  | some s =>
    cases s with
    | ow io d => cases io <;> rfl
    | _ => rfl
theorem retS_fz : retS env i (some (.fz d)) = some (.v d, env) := rfl
theorem retS_ow : retS env i (some (.ow false d)) = some (.nw d, env.set i .un) := rfl
theorem lockS_p' : lockS env (.p i) = lckS env i env[i]? := by
  rw [lockS_p]
  cases env[i]? with
  | none => rfl
  | some s => cases s <;> rfl
theorem lckS_fz : lckS env i (some (.fz d)) = (env, []) := rfl
theorem lckS_ow : lckS env i (some (.ow io d)) = (env.set i (.lk io d), [(i, true)]) := rfl
theorem lckS_lk : lckS env i (some (.lk io d)) = (env, [(i, false)]) := rfl
theorem mthQ' {m : Mf} {ds : List D} : mthQ m i env ds = mthW m i env ds env[i]? := rfl
theorem mthW_ow {m : Mf} {ds xs : List D} : mthW m i env ds (some (.ow io (.lst xs))) = (mthS m xs ds).bind fun r => some (.v r.1, env.set i (.ow io (.lst r.2))) := rfl
theorem putQ' {n : Int} : putQ i env n d = putW i env n d env[i]? := rfl
theorem putW_ow {n : Int} {xs : List D} : putW i env n d (some (.ow io (.lst xs))) = (L2.ixN xs.length n).bind fun j => some (.nx (env.set i (.ow io (.lst (xs.set j d))))) := rfl
theorem incQ' {cl : CallF} {e : E} : incQ cl i e env = incW cl i e env env[i]? := rfl
theorem incW_i {cl : CallF} {e : E} {a : Int} : incW cl i e env (some (.fz (.int a))) = (evB cl e env).bind fun x => (rd x.2 x.1).bind fun d => (intD d).bind fun b => (putS x.2 i (.fz (.int (a + b)))).bind fun e => some (.nx e) := rfl
theorem bak_p {os : List Op} {fs : List Sl} : backArgs env (.p i :: os) (.ow io d :: fs) = backArgs (bakS env i d env[i]?) os fs := by
  conv => lhs; unfold backArgs
  cases h : env[i]? with
  | none => rfl
  | some s => cases s <;> rfl
theorem bak_pf {d' : D} {os : List Op} {fs : List Sl} : backArgs env (.p i :: os) (.fz d' :: fs) = backArgs env os fs := rfl
theorem bak_pl {d' : D} {os : List Op} {fs : List Sl} : backArgs env (.p i :: os) (.lk io d' :: fs) = backArgs env os fs := rfl
theorem bak_v {os : List Op} {f : Sl} {fs : List Sl} : backArgs env (.v d :: os) (f :: fs) = backArgs env os fs := rfl
theorem bak_w {os : List Op} {f : Sl} {fs : List Sl} : backArgs env (.nw d :: os) (f :: fs) = backArgs env os fs := rfl
theorem bak_n {fs : List Sl} : backArgs env [] fs = env := by cases fs <;> rfl
theorem bakS_ow {d' : D} : bakS env i d (some (.ow io d')) = env.set i (.ow io d) := rfl
theorem bakS_fz {d' : D} : bakS env i d (some (.fz d')) = env := rfl
theorem bakS_lk {d' : D} : bakS env i d (some (.lk io d')) = env := rfl
theorem len_p {os : List Op} : lent env (.p i :: os) = lenS i env[i]? (lent env os) := by
  conv => lhs; unfold lent
  cases h : env[i]? with
  | none => rfl
  | some s => cases s <;> rfl
theorem len_v {os : List Op} : lent env (.v d :: os) = lent env os := rfl
theorem len_w {os : List Op} : lent env (.nw d :: os) = lent env os := rfl
theorem len_n : lent env [] = [] := rfl
theorem lenS_ow {l : List Nat} : lenS i (some (.ow io d)) l = i :: l := rfl
theorem lenS_lk {l : List Nat} : lenS i (some (.lk io d)) l = i :: l := rfl
theorem lenS_fz {l : List Nat} : lenS i (some (.fz d)) l = l := rfl
theorem unl_n : unlock env [] = env := rfl
theorem unl_t {is : List (Nat × Bool)} : unlock env ((i, true) :: is) = unlock (unlS env i env[i]?) is := by
  conv => lhs; unfold unlock
  cases h : env[i]? with
  | none => rfl
  | some s => cases s <;> rfl
theorem unl_f {is : List (Nat × Bool)} : unlock env ((i, false) :: is) = unlock env is := rfl
theorem unlS_lk : unlS env i (some (.lk io d)) = env.set i (.ow io d) := rfl
theorem res_n : restE env env0 [] = env := rfl
theorem res_c {vs : List Nat} : restE env env0 (i :: vs) = resS (restE env env0 vs) i env0[i]? := by
  conv => lhs; unfold restE
  cases h : env0[i]? with
  | none => rfl
  | some s => rfl
theorem resS_s {s : Sl} : resS env i (some s) = env.set i s := rfl
theorem isOw' : isOwL env i = isOwS env[i]? := rfl
theorem isOwS_ow {xs : List D} : isOwS (some (.ow io (.lst xs))) = true := rfl
theorem wip_n : wipeE env [] = env := rfl
theorem wip_c {vs : List Nat} : wipeE env (i :: vs) = (wipeE env vs).set i .un := rfl
theorem fin_c {a : Sl} {as : List Sl} : finC env i (a :: as) = finS env[i]? a :: finC env (i + 1) as := by
  rw [finA_cons]
  cases a <;> rfl
theorem finS_ow {s : Sl} : finS (some s) (.ow io d) = s := rfl
theorem finS_fz {o : Option Sl} : finS o (.fz d) = .fz d := rfl
theorem finS_lk {o : Option Sl} : finS o (.lk io d) = .lk io d := rfl
end
theorem free_nx {lk : List (Nat × Bool)} {e : En} : Fl.free lk (.nx e) = .nx (unlock e lk) := rfl
theorem free_bk {lk : List (Nat × Bool)} {e : En} : Fl.free lk (.bk e) = .bk (unlock e lk) := rfl
theorem free_ct {lk : List (Nat × Bool)} {e : En} : Fl.free lk (.ct e) = .ct (unlock e lk) := rfl
theorem free_rt {lk : List (Nat × Bool)} {o : Op} {e : En} : Fl.free lk (.rt o e) = .rt o (unlock e lk) := rfl
theorem ix_mem {z : List D} {l : List Int} {a : Int} (h : a ∈ l) : ixS (.lst z) (.lst (l.map .int)) (.int a) = some ((l.idxOf a : Nat) : Int) := by
  have h1 : okD (.lst (l.map D.int)) = true := okD_of (by simp only [lay]; exact lays_map (fun _ => rfl) l) (by simp only [dep]; have := deps_map (f := D.int) (n := 0) (fun _ => Nat.le_refl _) l; omega)
  simp only [ixS, h1, okD_int, Bool.and_self, if_true]
  have e : ((l.map D.int).findIdx? fun z => deq z (.int a)) = l.findIdx? fun x => x == a := by
    rw [List.findIdx?_map]
    exact congrArg (fun f => l.findIdx? f) (funext fun x => deq_int)
  rw [e]
  have : l.findIdx? (fun x => x == a) = some (l.idxOf a) := by
    rw [List.findIdx?_eq_some_iff_getElem]
    have hl := List.idxOf_lt_length_iff.mpr h
    refine ⟨hl, by simp, fun j hj => ?_⟩
    have := List.not_of_lt_findIdx (p := fun x => x == a) (xs := l) hj
    simpa using this
  rw [this]
  rfl
theorem seq_l {xs : List D} : seqD (.lst xs) = some xs := rfl
theorem seq_t {xs : List D} : seqD (.tup xs) = some xs := rfl
end VI
namespace G
open PySem VI
local macro_rules | `(tactic| simp_arith! [$ls,*]) => `(tactic| simp -implicitDefEqProofs (disch := first | omega | exact rfl | assumption | (simp -implicitDefEqProofs; done) | (simp -implicitDefEqProofs; omega)) only [w_nm', nm_fz, nm_ow, nm_lk, w_lit, w_bin, w_un, w_cmp, w_cmp2, w_and, w_or, w_ifx, w_tup, w_lst, w_idx, w_sli, w_call, w_blt, w_rng, w_isi, w_mth, w_srtset, w_dfl, w_bits, w_gcd, w_ixof, w_B, w_and1, w_and2, w_or1, w_or2, w_Bn, w_Bc, w_Dn, w_Dc, w_On, w_Os, w_Cv, w_Cif, w_Ca, w_Co, w_Cn, w_Cc, w_Cc2, w_Ca1, w_Ca2, w_Co1, w_Co2, w_OCn, w_OCs, w_Is, w_I1, w_I2, w_Ie, w_Iz, w_Iz3, zip3S, w_Ir, x_set, x_unp, x_par, x_put, x_inc, x_expr, x_ret, x_retn, x_if, x_brk, x_cont, x_pass, x_doc, x_nil, ev_fo, ev_lc, ev_lc2, ev_none, ev_some, ev_map, ev_bind, ev_ifn, ev_iteQ, iteQ_t, iteQ_f, iteQ_and, iteQ_or, iteQ_andE, iteQ_orE, Bool.and_eq_false_iff, Bool.or_eq_false_iff, some_bind, Option.bind_some, Option.map_some, kt_nx, kt_bk, kt_ct, kt_rt, ed_nx, ed_v, ed_nw, finA_nil, fin_c, finS_ow, finS_fz, finS_lk, finA_go, Option.getD_some, List.getElem?_cons_zero, List.getElem?_cons_succ, List.set_cons_zero, List.set_cons_succ, frz_v, frz_nw, frz_p, rd_v, rd_nw, rd_p', rdS_fz, rdS_ow, rdS_lk, rds_nil, rds_cons, esc_v, esc_nw, esc_p', escS_fz, escS_ow, toAs_nil, toAs_cons, toA_v, toA_nw, toA_p', toAS_fz, toAS_ow, toAS_lk, bak_p, bak_pf, bak_pl, bak_v, bak_w, bak_n, bakS_ow, bakS_fz, bakS_lk, len_p, len_v, len_w, len_n, lenS_ow, lenS_lk, lenS_fz, lockS_v, lockS_nw, lockS_p', lckS_fz, lckS_ow, lckS_lk, unl_n, unl_t, unl_f, unlS_lk, res_n, res_c, resS_s, wip_n, wip_c, stO_v, stO_nw, stO_p, putS_q, frO_some, fr_un, fr_fz, fr_ow, put_nm, put_tt, put_tl, put_tn, put_tc, retO_v, retO_nw, retO_p', retS_fz, retS_ow, isOw', isOwS_ow, mthQ', mthW_ow, putQ', putW_ow, incQ', incW_i, rngQ_n, rngQ_s, int_i, bl_b, items_l, items_t, items_s, Option.any_some, dflQ, flatD, List.nodup_cons, List.not_mem_nil, List.nodup_nil, not_false_eq_true, and_self, and_true, true_and, if_true, if_false, Bool.true_and, Bool.and_true, Bool.false_and, Bool.and_false, Bool.or_false, Bool.false_or, Bool.or_true, Bool.true_or, Bool.not_true, Bool.not_false, Bool.false_eq_true, false_implies, true_implies, implies_true, ne_self_iff_false, or_self, false_or, reduceCtorEq, List.all_nil, List.all_cons, List.append_nil, List.nil_append, List.cons_append, List.contains_nil, List.contains_cons, Nat.reduceBEq, List.mem_cons, or_false, Nat.reduceEqDiff, not_true_eq_false, List.length_map, List.length_range, List.length_cons, List.length_nil, Nat.zero_add, Nat.reduceAdd, Nat.reduceSub, Nat.reduceLeDiff, List.reduceReplicate, eq_int, ne_int, eq_bl, ne_bl, lt_int, le_int, gt_int, ge_int, is_non, isnot_non, isN_n, isN_i, isN_t, isN_l, isN_b, isN_s, in_ints, notin_ints, in_tupI, intsD_map, seq_l, seq_t, blsD_map, add_i, sub_i, mod_p, div_c1, mul_r1, mul_l1, bl_int, bl_intb, bl_len_l, bl_len_t, bl_tup_l, bl_tup_t, bl_lst_l, bl_lst_t, rngS1, rngS2, rgS1, app_16, rep_n, max_n, min_n, minp_n, sum_n, srt_n, any_n, all_n, add_lst1, add_tup1, pop_last, tn_nx, tn_ct, tn_bk, tn_rt, lt_t, lt_b, List.length_append, List.length_replicate, List.length_zip, List.length_reverse, List.length_set,  idx_ints, idx_tint, ixN_int, Int.sub_zero, Int.zero_add, Int.add_zero, Int.toNat_natCast, Int.add_sub_cancel, Int.reduceAdd, Int.reduceSub, Int.reduceNeg, Int.reduceLT, Int.reduceLE, Ty.has, List.any_cons, List.any_nil, decide_eq_true_eq, beq_iff_eq, bne_iff_ne, Bool.not_eq_true', decide_eq_false_iff_not, beq_eq_false_iff_ne, Bool.and_eq_true, Bool.or_eq_true, Bool.not_eq_eq_eq_not, Option.isSome_none, Option.isSome_some, free_nx, free_bk, free_ct, free_rt, $ls,*]) | `(tactic| walk_at "s") => `(tactic| (refine kt ?_; simp_arith! [])) | `(tactic| walk_at "in") => `(tactic| (refine enter2 ⟨rfl, rfl⟩ ?_; simp -implicitDefEqProofs only [List.cons_append, List.nil_append, List.length_cons, List.length_nil, Nat.zero_add, Nat.reduceAdd, Nat.reduceSub, List.reduceReplicate]))
/-- behind_costs -/
def b0 : Ss := (.cons (.ret (.lc [3, 4] (.ifx (.cmp .Is (.idx (.nm 0) (.nm 3)) (.lit .non)) (.lit .non) (.bin .Add (.nm 4) (.idx (.idx (.nm 0) (.nm 3)) (.lit (.int 0))))) (.tup (.cons (.nm 3) (.cons (.nm 4) .nil))) (.zip (.nm 1) (.nm 2)) .no)) .nil)
/-- next_cost -/
def b1 : Ss := (.cons (.set 3 (.lc [4] (.nm 4) (.nm 4) (.seq (.nm 2)) (.so (.cmp .IsNot (.nm 4) (.lit .non))))) (.cons (.ifs (.cmp .Eq (.nm 1) (.nm 0)) (.cons (.ret (.dfl false (.nm 3) (.lit .non))) .nil) .nil) (.cons (.ret (.ifx (.cmp .Eq (.blt .len (.cons (.nm 3) .nil)) (.blt .len (.cons (.nm 2) .nil))) (.blt .max (.cons (.nm 2) .nil)) (.lit .non))) .nil)))
/-- cost_ranks -/
def b2 : Ss := (.cons (.set 4 (.lc [7] (.ifx (.cmp .In (.nm 7) (.nm 2)) (.tup (.cons (.lit (.int 0)) (.cons (.lit (.int 0)) .nil))) (.lit .non)) (.nm 7) (.rng1 (.blt .len (.cons (.nm 0) .nil))) .no)) (.cons (.fo (.nm 5) (.rng2 (.lit (.int 1)) (.bin .Add (.blt .len (.cons (.nm 0) .nil)) (.lit (.int 1)))) (.cons (.set 6 (.lit .non)) (.cons (.fo (.tup (.cons (.nm 7) (.cons (.tup (.cons (.nm 8) (.cons (.nm 9) .nil))) .nil))) (.enum (.nm 0)) (.cons (.ifs (.cmp .Is (.idx (.nm 4) (.nm 7)) (.lit .non)) (.cons (.set 10 (.call 1 (.cons (.nm 1) (.cons (.nm 8) (.cons (.call 0 (.cons (.nm 4) (.cons (.nm 9) (.cons (.idx (.nm 3) (.nm 7)) .nil)))) .nil))))) (.cons (.ifs (.and (.cons (.cmp .IsNot (.nm 10) (.lit .non)) (.cons (.or (.cons (.cmp .Is (.nm 6) (.lit .non)) (.cons (.cmp .Lt (.nm 10) (.idx (.nm 6) (.lit (.int 0)))) .nil))) .nil))) (.cons (.set 6 (.tup (.cons (.nm 10) (.cons (.nm 7) .nil)))) .nil) .nil) .nil)) .nil) .nil)) (.cons (.ifs (.cmp .IsNot (.nm 6) (.lit .non)) (.cons (.put 4 (.idx (.nm 6) (.lit (.int 1))) (.tup (.cons (.idx (.nm 6) (.lit (.int 0))) (.cons (.nm 5) .nil)))) .nil) .nil) .nil)))) (.cons (.ret (.blt .tuple (.cons (.nm 4) .nil))) .nil)))
/-- reaching_costs -/
def b3 : Ss := (.cons (.ret (.blt .tuple (.cons (.lc [4] (.ifx (.cmp .Is (.nm 4) (.lit .non)) (.lit .non) (.idx (.nm 4) (.lit (.int 0)))) (.nm 4) (.seq (.call 2 (.cons (.nm 0) (.cons (.nm 1) (.cons (.nm 2) (.cons (.nm 3) .nil)))))) .no) .nil))) .nil)
/-- _law_draws -/
def b4 : Ss := (.cons (.set 2 (.lc [8] (.blt .int (.cons (.nm 8) .nil)) (.nm 8) (.seq (.nm 0)) .no)) (.cons (.ifs (.cmp .Eq (.blt .len (.cons (.nm 2) .nil)) (.lit (.int 0))) (.cons (.expr (.mth .append 2 (.cons (.lit (.int 0)) .nil))) .nil) .nil) (.cons (.set 3 (.blt .list (.cons (.nm 2) .nil))) (.cons (.set 4 (.lst .nil)) (.cons (.fo (.nm 5) (.rng1 (.nm 1)) (.cons (.set 6 (.bin .Mod (.blt .int (.cons (.nm 5) .nil)) (.blt .len (.cons (.nm 2) .nil)))) (.cons (.ifs (.and (.cons (.cmp .GtE (.idx (.nm 2) (.nm 6)) (.bin .Pow (.lit (.int 10)) (.lit (.int 18)))) (.cons (.cmp .Gt (.idx (.nm 3) (.nm 6)) (.lit (.int 0))) .nil))) (.cons (.expr (.mth .append 4 (.cons (.bin .Mod (.blt .int (.cons (.idx (.nm 3) (.nm 6)) .nil)) (.lit (.int 1000))) .nil))) (.cons (.put 3 (.nm 6) (.bin .FloorDiv (.idx (.nm 3) (.nm 6)) (.lit (.int 1000)))) .nil)) (.cons (.set 7 (.bin .Mod (.blt .int (.cons (.bin .Add (.bin .Add (.bin .Mult (.idx (.nm 2) (.nm 6)) (.lit (.int 48271))) (.bin .Mult (.nm 5) (.lit (.int 69621)))) (.lit (.int 11))) .nil)) (.lit (.int 2147483647)))) (.cons (.expr (.mth .append 4 (.cons (.bin .Mod (.blt .int (.cons (.bin .Add (.bin .Add (.bin .Mult (.nm 7) (.nm 7)) (.bin .Mult (.lit (.int 3)) (.nm 7))) (.nm 5)) .nil)) (.lit (.int 1000003))) .nil))) .nil))) .nil))) (.cons (.expr (.mth .reverse 4 .nil)) (.cons (.ret (.nm 4)) .nil)))))))
/-- _law_take -/
def b5 : Ss := (.cons (.ifs (.cmp .Eq (.blt .len (.cons (.nm 0) .nil)) (.lit (.int 0))) (.cons (.ret (.lit (.int 0))) .nil) .nil) (.cons (.ret (.bin .Mod (.blt .int (.cons (.mth .pop 0 .nil) .nil)) (.nm 1))) .nil))
/-- _law_pick -/
def b6 : Ss := (.cons (.ret (.idx (.nm 1) (.call 5 (.cons (.nm 0) (.cons (.blt .len (.cons (.nm 1) .nil)) .nil))))) .nil)
/-- _law_same -/
def b7 : Ss := (.cons (.ifs (.val (.isi (.nm 1) [.tuple, .list])) (.cons (.ifs (.or (.cons (.cmp .NotEq (.isi (.nm 0) [.tuple]) (.isi (.nm 1) [.tuple])) (.cons (.cmp .NotEq (.isi (.nm 0) [.list]) (.isi (.nm 1) [.list])) .nil))) (.cons (.ret (.lit (.bl false))) .nil) .nil) (.cons (.ifs (.cmp .NotEq (.blt .len (.cons (.nm 0) .nil)) (.blt .len (.cons (.nm 1) .nil))) (.cons (.ret (.lit (.bl false))) .nil) .nil) (.cons (.ret (.cmp .NotIn (.lit (.bl false)) (.lc [2] (.call 7 (.cons (.idx (.nm 0) (.nm 2)) (.cons (.idx (.nm 1) (.nm 2)) .nil))) (.nm 2) (.rng1 (.blt .len (.cons (.nm 1) .nil))) .no))) .nil))) .nil) (.cons (.ifs (.or (.cons (.cmp .NotEq (.isi (.nm 0) [.bool]) (.isi (.nm 1) [.bool])) (.cons (.cmp .NotEq (.isi (.nm 0) [.int]) (.isi (.nm 1) [.int])) .nil))) (.cons (.ret (.lit (.bl false))) .nil) .nil) (.cons (.ifs (.or (.cons (.cmp .NotEq (.isi (.nm 0) [.str]) (.isi (.nm 1) [.str])) (.cons (.cmp .NotEq (.cmp .Is (.nm 0) (.lit .non)) (.cmp .Is (.nm 1) (.lit .non))) .nil))) (.cons (.ret (.lit (.bl false))) .nil) .nil) (.cons (.ret (.cmp .Eq (.nm 0) (.nm 1))) .nil))))
/-- _law_shuffled -/
def b8 : Ss := (.cons (.set 2 (.blt .list (.cons (.nm 1) .nil))) (.cons (.set 3 (.lst .nil)) (.cons (.fo (.nm 4) (.rng1 (.blt .len (.cons (.nm 2) .nil))) (.cons (.expr (.mth .append 3 (.cons (.mth .pop 2 (.cons (.call 5 (.cons (.nm 0) (.cons (.blt .len (.cons (.nm 2) .nil)) .nil))) .nil)) .nil))) .nil)) (.cons (.ret (.nm 3)) .nil))))
/-- _law_some_of -/
def b9 : Ss := (.cons (.set 3 (.lst .nil)) (.cons (.fo (.nm 4) (.rng1 (.bin .Add (.lit (.int 1)) (.call 5 (.cons (.nm 0) (.cons (.nm 2) .nil))))) (.cons (.set 5 (.call 6 (.cons (.nm 0) (.cons (.nm 1) .nil)))) (.cons (.ifs (.cmp .NotIn (.nm 5) (.nm 3)) (.cons (.expr (.mth .append 3 (.cons (.nm 5) .nil))) .nil) .nil) .nil))) (.cons (.ret (.blt .sorted (.cons (.nm 3) .nil))) .nil)))
/-- _law_arena -/
def b10 : Ss := (.cons (.ret (.blt .tuple (.cons (.lc [3] (.tup (.cons (.call 5 (.cons (.nm 0) (.cons (.lit (.int 2)) .nil))) (.cons (.blt .tuple (.cons (.call 9 (.cons (.nm 0) (.cons (.rng false (.nm 1) .no) (.cons (.nm 2) .nil)))) .nil)) .nil))) (.nm 3) (.rng1 (.nm 1)) .no) .nil))) .nil)
/-- _law_renamed -/
def b11 : Ss := (.cons (.set 2 (.bin .Mult (.lst (.cons (.lit .non) .nil)) (.blt .len (.cons (.nm 0) .nil)))) (.cons (.fo (.nm 3) (.rng1 (.blt .len (.cons (.nm 0) .nil))) (.cons (.put 2 (.idx (.nm 1) (.nm 3)) (.tup (.cons (.idx (.idx (.nm 0) (.nm 3)) (.lit (.int 0))) (.cons (.blt .tuple (.cons (.blt .sorted (.cons (.lc [4] (.idx (.nm 1) (.nm 4)) (.nm 4) (.seq (.idx (.idx (.nm 0) (.nm 3)) (.lit (.int 1)))) .no) .nil)) .nil)) .nil)))) .nil)) (.cons (.ret (.blt .tuple (.cons (.nm 2) .nil))) .nil)))
/-- _law_row_arena -/
def b12 : Ss := (.cons (.set 3 (.lst .nil)) (.cons (.fo (.nm 4) (.rng1 (.bin .Sub (.nm 1) (.lit (.int 1)))) (.cons (.set 5 (.call 5 (.cons (.nm 0) (.cons (.lit (.int 2)) .nil)))) (.cons (.set 6 (.lc [7] (.call 5 (.cons (.nm 0) (.cons (.bin .Add (.nm 4) (.lit (.int 1))) .nil))) (.nm 7) (.rng1 (.bin .Mult (.call 5 (.cons (.nm 0) (.cons (.lit (.int 5)) .nil))) (.blt .int (.cons (.cmp .Eq (.nm 5) (.nm 2)) .nil)))) .no)) (.cons (.expr (.mth .append 3 (.cons (.tup (.cons (.nm 5) (.cons (.blt .tuple (.cons (.srtset (.bin .Add (.nm 6) (.lst (.cons (.bin .Add (.nm 4) (.lit (.int 1))) .nil)))) .nil)) .nil))) .nil))) .nil)))) (.cons (.ret (.blt .tuple (.cons (.bin .Add (.nm 3) (.lst (.cons (.tup (.cons (.call 5 (.cons (.nm 0) (.cons (.lit (.int 2)) .nil))) (.cons (.tup (.cons (.bin .Sub (.nm 1) (.lit (.int 1))) .nil)) .nil))) .nil))) .nil))) .nil)))
/-- _law_some_places -/
def b13 : Ss := (.cons (.ret (.blt .tuple (.cons (.srtset (.lc [2] (.call 5 (.cons (.nm 0) (.cons (.nm 1) .nil))) (.nm 2) (.rng1 (.call 6 (.cons (.nm 0) (.cons (.lst (.cons (.lit (.int 1)) (.cons (.lit (.int 1)) (.cons (.lit (.int 2)) (.cons (.lit (.int 0)) (.cons (.lit (.int 7)) .nil)))))) .nil)))) .no)) .nil))) .nil)
/-- _law_prices -/
def b14 : Ss := (.cons (.set 2 (.lst .nil)) (.cons (.fo (.nm 3) (.seq (.nm 1)) (.cons (.expr (.mth .append 2 (.cons (.blt .tuple (.cons (.lc [4] (.call 6 (.cons (.nm 0) (.cons (.lst (.cons (.lit (.int 0)) (.cons (.lit (.int 0)) (.cons (.lit (.int 1)) (.cons (.lit (.int 1)) (.cons (.lit (.int 2)) (.cons (.lit (.int 3)) (.cons (.lit (.int 5)) (.cons (.lit (.int 9)) (.cons (.lit (.int 4)) (.cons (.bin .Add (.bin .Pow (.lit (.int 10)) (.lit (.int 15))) (.lit (.int 37))) .nil))))))))))) .nil))) (.nm 4) (.seq (.idx (.nm 3) (.lit (.int 1)))) .no) .nil)) .nil))) .nil)) (.cons (.ret (.blt .tuple (.cons (.nm 2) .nil))) .nil)))
/-- _law_costs -/
def b15 : Ss := (.cons (.set 4 (.bin .Mult (.lst (.cons (.lit .non) .nil)) (.blt .len (.cons (.nm 0) .nil)))) (.cons (.set 5 (.bin .Mult (.lst (.cons (.lit .non) .nil)) (.blt .len (.cons (.nm 0) .nil)))) (.cons (.fo (.nm 6) (.seq (.nm 2)) (.cons (.put 4 (.nm 6) (.lit (.int 0))) (.cons (.put 5 (.nm 6) (.lit (.int 0))) .nil))) (.cons (.fo (.nm 7) (.rng2 (.lit (.int 1)) (.bin .Add (.blt .len (.cons (.nm 0) .nil)) (.lit (.int 1)))) (.cons (.set 8 (.lst .nil)) (.cons (.fo (.nm 6) (.rng1 (.blt .len (.cons (.nm 0) .nil))) (.cons (.ifs (.cmp .Is (.idx (.nm 4) (.nm 6)) (.lit .non)) (.cons (.unp (.tup (.cons (.nm 9) (.cons (.nm 10) .nil))) (.idx (.nm 0) (.nm 6))) (.cons (.set 11 (.lc [14] (.nm 14) (.nm 14) (.rng1 (.blt .len (.cons (.nm 10) .nil))) (.so (.cmp .IsNot (.idx (.nm 4) (.idx (.nm 10) (.nm 14))) (.lit .non))))) (.cons (.set 12 (.lc [14] (.bin .Add (.idx (.idx (.nm 3) (.nm 6)) (.nm 14)) (.idx (.nm 4) (.idx (.nm 10) (.nm 14)))) (.nm 14) (.seq (.nm 11)) .no)) (.cons (.ifs (.and (.cons (.cmp .Eq (.nm 9) (.nm 1)) (.cons (.cmp .Gt (.blt .len (.cons (.nm 12) .nil)) (.lit (.int 0))) .nil))) (.cons (.expr (.mth .append 8 (.cons (.tup (.cons (.blt .min (.cons (.nm 12) .nil)) (.cons (.nm 6) .nil))) .nil))) .nil) (.cons (.ifs (.and (.cons (.cmp .NotEq (.nm 9) (.nm 1)) (.cons (.cmp .Eq (.blt .len (.cons (.nm 12) .nil)) (.blt .len (.cons (.nm 10) .nil))) .nil))) (.cons (.expr (.mth .append 8 (.cons (.tup (.cons (.blt .max (.cons (.nm 12) .nil)) (.cons (.nm 6) .nil))) .nil))) .nil) .nil) .nil)) .nil)))) .nil) .nil)) (.cons (.ifs (.cmp .Eq (.blt .len (.cons (.nm 8) .nil)) (.lit (.int 0))) (.cons .brk .nil) .nil) (.cons (.unp (.tup (.cons (.nm 13) (.cons (.nm 6) .nil))) (.blt .minp (.cons (.nm 8) .nil))) (.cons (.put 4 (.nm 6) (.nm 13)) (.cons (.put 5 (.nm 6) (.nm 7)) .nil))))))) (.cons (.ret (.lst (.cons (.blt .tuple (.cons (.nm 4) .nil)) (.cons (.blt .tuple (.cons (.nm 5) .nil)) .nil)))) .nil)))))
def T0 : Tb := fun i => match i with
  | 0 => some ⟨["pairs", "moves", "row"], ["pairs", "moves", "row", "move", "weight"], b0⟩
  | 1 => some ⟨["side", "owner", "costs"], ["side", "owner", "costs", "there", "cost"], b1⟩
  | 2 => some ⟨["arena", "side", "target", "weights"], ["arena", "side", "target", "weights", "pairs", "rank", "best", "place", "owner", "moves", "cost"], b2⟩
  | 3 => some ⟨["arena", "side", "target", "weights"], ["arena", "side", "target", "weights", "pair"], b3⟩
  | 4 => some ⟨["script", "many"], ["script", "many", "cells", "left", "draws", "k", "place", "mixed", "cell"], b4⟩
  | 5 => some ⟨["draws", "many"], ["draws", "many"], b5⟩
  | 6 => some ⟨["draws", "row"], ["draws", "row"], b6⟩
  | 7 => some ⟨["actual", "due"], ["actual", "due", "k"], b7⟩
  | 8 => some ⟨["draws", "row"], ["draws", "row", "left", "told", "k"], b8⟩
  | 9 => some ⟨["draws", "things", "many"], ["draws", "things", "many", "found", "k", "thing"], b9⟩
  | 10 => some ⟨["draws", "many", "most"], ["draws", "many", "most", "k"], b10⟩
  | 11 => some ⟨["arena", "order"], ["arena", "order", "places", "k", "move"], b11⟩
  | 12 => some ⟨["draws", "many", "side"], ["draws", "many", "side", "told", "k", "owner", "back", "j"], b12⟩
  | 13 => some ⟨["draws", "many"], ["draws", "many", "k"], b13⟩
  | 14 => some ⟨["draws", "arena"], ["draws", "arena", "told", "place", "move"], b14⟩
  | 15 => some ⟨["arena", "side", "target", "weights"], ["arena", "side", "target", "weights", "costs", "ranks", "place", "turn", "best", "owner", "goals", "known", "sums", "cost", "k"], b15⟩
  | _ => none
class A0 (Δ : Tb) : Prop where
  h : ∀ i, 0 ≤ i → i < 16 → Δ i = T0 i
theorem fn0 (Δ : Tb) [A0 Δ] (k : Nat) : callN Δ (k + 1) 0 = runDef (callN Δ k) ⟨["pairs", "moves", "row"], ["pairs", "moves", "row", "move", "weight"], b0⟩ := by
  show (fun args => (Δ 0).bind fun d => runDef (callN Δ k) d args) = _
  rw [show Δ 0 = T0 0 from A0.h 0 (by decide) (by decide)]
  rfl
theorem fn1 (Δ : Tb) [A0 Δ] (k : Nat) : callN Δ (k + 1) 1 = runDef (callN Δ k) ⟨["side", "owner", "costs"], ["side", "owner", "costs", "there", "cost"], b1⟩ := by
  show (fun args => (Δ 1).bind fun d => runDef (callN Δ k) d args) = _
  rw [show Δ 1 = T0 1 from A0.h 1 (by decide) (by decide)]
  rfl
theorem fn2 (Δ : Tb) [A0 Δ] (k : Nat) : callN Δ (k + 1) 2 = runDef (callN Δ k) ⟨["arena", "side", "target", "weights"], ["arena", "side", "target", "weights", "pairs", "rank", "best", "place", "owner", "moves", "cost"], b2⟩ := by
  show (fun args => (Δ 2).bind fun d => runDef (callN Δ k) d args) = _
  rw [show Δ 2 = T0 2 from A0.h 2 (by decide) (by decide)]
  rfl
theorem fn3 (Δ : Tb) [A0 Δ] (k : Nat) : callN Δ (k + 1) 3 = runDef (callN Δ k) ⟨["arena", "side", "target", "weights"], ["arena", "side", "target", "weights", "pair"], b3⟩ := by
  show (fun args => (Δ 3).bind fun d => runDef (callN Δ k) d args) = _
  rw [show Δ 3 = T0 3 from A0.h 3 (by decide) (by decide)]
  rfl
theorem fn4 (Δ : Tb) [A0 Δ] (k : Nat) : callN Δ (k + 1) 4 = runDef (callN Δ k) ⟨["script", "many"], ["script", "many", "cells", "left", "draws", "k", "place", "mixed", "cell"], b4⟩ := by
  show (fun args => (Δ 4).bind fun d => runDef (callN Δ k) d args) = _
  rw [show Δ 4 = T0 4 from A0.h 4 (by decide) (by decide)]
  rfl
theorem fn5 (Δ : Tb) [A0 Δ] (k : Nat) : callN Δ (k + 1) 5 = runDef (callN Δ k) ⟨["draws", "many"], ["draws", "many"], b5⟩ := by
  show (fun args => (Δ 5).bind fun d => runDef (callN Δ k) d args) = _
  rw [show Δ 5 = T0 5 from A0.h 5 (by decide) (by decide)]
  rfl
theorem fn6 (Δ : Tb) [A0 Δ] (k : Nat) : callN Δ (k + 1) 6 = runDef (callN Δ k) ⟨["draws", "row"], ["draws", "row"], b6⟩ := by
  show (fun args => (Δ 6).bind fun d => runDef (callN Δ k) d args) = _
  rw [show Δ 6 = T0 6 from A0.h 6 (by decide) (by decide)]
  rfl
theorem fn7 (Δ : Tb) [A0 Δ] (k : Nat) : callN Δ (k + 1) 7 = runDef (callN Δ k) ⟨["actual", "due"], ["actual", "due", "k"], b7⟩ := by
  show (fun args => (Δ 7).bind fun d => runDef (callN Δ k) d args) = _
  rw [show Δ 7 = T0 7 from A0.h 7 (by decide) (by decide)]
  rfl
theorem fn8 (Δ : Tb) [A0 Δ] (k : Nat) : callN Δ (k + 1) 8 = runDef (callN Δ k) ⟨["draws", "row"], ["draws", "row", "left", "told", "k"], b8⟩ := by
  show (fun args => (Δ 8).bind fun d => runDef (callN Δ k) d args) = _
  rw [show Δ 8 = T0 8 from A0.h 8 (by decide) (by decide)]
  rfl
theorem fn9 (Δ : Tb) [A0 Δ] (k : Nat) : callN Δ (k + 1) 9 = runDef (callN Δ k) ⟨["draws", "things", "many"], ["draws", "things", "many", "found", "k", "thing"], b9⟩ := by
  show (fun args => (Δ 9).bind fun d => runDef (callN Δ k) d args) = _
  rw [show Δ 9 = T0 9 from A0.h 9 (by decide) (by decide)]
  rfl
theorem fn10 (Δ : Tb) [A0 Δ] (k : Nat) : callN Δ (k + 1) 10 = runDef (callN Δ k) ⟨["draws", "many", "most"], ["draws", "many", "most", "k"], b10⟩ := by
  show (fun args => (Δ 10).bind fun d => runDef (callN Δ k) d args) = _
  rw [show Δ 10 = T0 10 from A0.h 10 (by decide) (by decide)]
  rfl
theorem fn11 (Δ : Tb) [A0 Δ] (k : Nat) : callN Δ (k + 1) 11 = runDef (callN Δ k) ⟨["arena", "order"], ["arena", "order", "places", "k", "move"], b11⟩ := by
  show (fun args => (Δ 11).bind fun d => runDef (callN Δ k) d args) = _
  rw [show Δ 11 = T0 11 from A0.h 11 (by decide) (by decide)]
  rfl
theorem fn12 (Δ : Tb) [A0 Δ] (k : Nat) : callN Δ (k + 1) 12 = runDef (callN Δ k) ⟨["draws", "many", "side"], ["draws", "many", "side", "told", "k", "owner", "back", "j"], b12⟩ := by
  show (fun args => (Δ 12).bind fun d => runDef (callN Δ k) d args) = _
  rw [show Δ 12 = T0 12 from A0.h 12 (by decide) (by decide)]
  rfl
theorem fn13 (Δ : Tb) [A0 Δ] (k : Nat) : callN Δ (k + 1) 13 = runDef (callN Δ k) ⟨["draws", "many"], ["draws", "many", "k"], b13⟩ := by
  show (fun args => (Δ 13).bind fun d => runDef (callN Δ k) d args) = _
  rw [show Δ 13 = T0 13 from A0.h 13 (by decide) (by decide)]
  rfl
theorem fn14 (Δ : Tb) [A0 Δ] (k : Nat) : callN Δ (k + 1) 14 = runDef (callN Δ k) ⟨["draws", "arena"], ["draws", "arena", "told", "place", "move"], b14⟩ := by
  show (fun args => (Δ 14).bind fun d => runDef (callN Δ k) d args) = _
  rw [show Δ 14 = T0 14 from A0.h 14 (by decide) (by decide)]
  rfl
theorem fn15 (Δ : Tb) [A0 Δ] (k : Nat) : callN Δ (k + 1) 15 = runDef (callN Δ k) ⟨["arena", "side", "target", "weights"], ["arena", "side", "target", "weights", "costs", "ranks", "place", "turn", "best", "owner", "goals", "known", "sums", "cost", "k"], b15⟩ := by
  show (fun args => (Δ 15).bind fun d => runDef (callN Δ k) d args) = _
  rw [show Δ 15 = T0 15 from A0.h 15 (by decide) (by decide)]
  rfl
theorem draws_ok (Δ : Tb) [A0 Δ] (k : Nat) (ns : List Int) (m : Int) (hns : ns.length ≤ 63) (hm : 0 ≤ m ∧ m ≤ 2 ^ 24) :
    Ev (callN Δ (k + 1) 4 [.fz (.scr ns), .fz (.int m)]) fun z => ∃ ds, z = (.nw (LI ds), [.fz (.scr ns), .fz (.int m)]) := by
  rw [fn4]
  generalize callN Δ k = cl
  refine enter ⟨rfl, rfl⟩ ?_
  show Ev (evSs cl b4 [.fz (.scr ns), .fz (.int m), .un, .un, .un, .un, .un, .un, .un]) _
  apply c_nx
  · simp -implicitDefEqProofs [evS, evSs, evC, evB, evE, evBs, evI, evOC, Op.frz, rds, rd, itemsOf, lockS, wipeE]
    rw [lc_map (f := D.int) (g := D.int)]
    · have h : ns.length ≤ sizeLine := by have : sizeLine = 16777216 := rfl; omega
      simp -implicitDefEqProofs [h, restE, unlock, stO, putS]
      rfl
    · intro x hx
      simp -implicitDefEqProofs [T.put, putS, evE, evBs, evB, Op.frz, rds, rd, bltS, esc, wipeE]
  · refine c_ex (fun cs : List Int => [.fz (.scr ns), .fz (.int m), .ow false (LI cs), .un, .un, .un, .un, .un, .un]) (fun cs => 0 < cs.length ∧ cs.length ≤ 64) ?_ ?_
    · rcases ns with _ | ⟨n, ns⟩
      · refine ⟨[0], by simp, ?_⟩
        simp -implicitDefEqProofs [evS, evSs, evC, evB, evE, evBs, evDs, Op.frz, rds, rd, bltS, eq_int, isOwL, mthS, esc, sizeLine]
      · refine ⟨n :: ns, by simp at hns ⊢; omega, ?_⟩
        have h : ((ns.length : Int) + 1 == 0) = false := by simp; omega
        simp -implicitDefEqProofs [evS, evSs, evC, evB, evE, evBs, evDs, Op.frz, rds, rd, bltS, eq_int, h]
    rintro cs ⟨hc0, hc⟩
    apply c_nx
    · simp -implicitDefEqProofs [evS, evE, evBs, evB, Op.frz, rds, rd, bltS, stO, putS]
      rfl
    apply c_nx
    · simp -implicitDefEqProofs [evS, evE, evDs, stO, putS]
      rfl
    apply c_ev
    refine s_fo (items := (List.range m.toNat).map fun k => .int (k : Nat)) (lk := []) (env1 := [.fz (.scr ns), .fz (.int m), .ow false (LI cs), .ow false (LI cs), .ow false (LI []), .un, .un, .un, .un]) ?_ ?_
    · simp -implicitDefEqProofs [evI, evB, evE, Op.frz, rd, intD, rngS_ok (show 0 ≤ m ∧ m < 2 ^ 62 by omega)]
    refine fo_ind (fun i e => ∃ (lf ds : List Int) (s1 s2 s3 : Sl), fr s1 = true ∧ fr s2 = true ∧ fr s3 = true ∧ lf.length = cs.length ∧ ds.length = i ∧ e = [.fz (.scr ns), .fz (.int m), .ow false (LI cs), .ow false (LI lf), .ow false (LI ds), s1, s2, s3, .un]) ?_ ?_ ⟨cs, [], .un, .un, .un, rfl, rfl, rfl, rfl, rfl, rfl⟩
    · rintro i hi e ⟨lf, ds, s1, s2, s3, f1, f2, f3, hl, hd, rfl⟩
      simp only [List.length_map, List.length_range] at hi
      refine ev_of (a := [.fz (.scr ns), .fz (.int m), .ow false (LI cs), .ow false (LI lf), .ow false (LI ds), .fz (.int (i : Nat)), s2, s3, .un]) ?_ ?_
      · simp -implicitDefEqProofs [T.put, putS_at, f1]
      have hp0 : 0 ≤ (i : Int) % cs.length := Int.emod_nonneg _ (by omega)
      have hp1 : (i : Int) % cs.length < cs.length := Int.emod_lt_of_pos _ (by omega)
      apply c_nx
      · simp -implicitDefEqProofs [evS, evE, evBs, evB, Op.frz, rds, rd, bltS, mod_p (show 0 < (cs.length : Int) by omega), stO, putS_at, f2]
        rfl
      generalize (i : Int) % cs.length = p at hp0 hp1
      obtain ⟨u, iu⟩ : ∃ u, idxS (LI cs) (.int p) = some (.int u) := ⟨_, idx_ints hp0 hp1⟩
      obtain ⟨v, iv⟩ : ∃ v, idxS (LI lf) (.int p) = some (.int v) := ⟨_, idx_ints hp0 (by omega)⟩
      have ip : L2.ixN lf.length p = some p.toNat := ixN_int hp0 (by omega)
      have hz : ds.length < sizeLine := by have : sizeLine = 16777216 := rfl; omega
      apply c_one
      refine s_ifs (env1 := [.fz (.scr ns), .fz (.int m), .ow false (LI cs), .ow false (LI lf), .ow false (LI ds), .fz (.int (i : Nat)), .fz (.int p), s3, .un]) (k := decide (1000000000000000000 ≤ u) && decide (0 < v)) ?_ (fun hk => ?_) (fun hk => ?_)
      · simp -implicitDefEqProofs [evC, evCand, evE, evB, frz_v, frz_p, rd, iu, iv, pow_10, ge_int, gt_int, blD]
        by_cases h1 : (1000000000000000000 : Int) ≤ u <;> simp -implicitDefEqProofs [h1]
      · apply c_nx
        · simp -implicitDefEqProofs [evS, evE, evDs, evBs, evB, frz_v, frz_p, rd, rds, isOwL, iv, bl_int, mod_p (show (0 : Int) < 1000 by decide), esc, app_1 (show (ds.map D.int).length < sizeLine by simpa using hz)]
          rfl
        apply c_nx
        · simp -implicitDefEqProofs [evS, evE, evB, frz_v, frz_p, rd, isOwL, iv, div_c (show (0 : Int) < 1000 ∧ (1000 : Int) < 1073741824 by decide), esc, intD, ip]
          rfl
        apply c_nil
        exact ⟨lf.set p.toNat (v / 1000), ds ++ [v % 1000], .fz (.int (i : Nat)), .fz (.int p), s3, rfl, rfl, f3, by simpa using hl, by simp -implicitDefEqProofs [hd], by simp -implicitDefEqProofs [List.map_set]⟩
      · obtain ⟨x, ix, hx0, hx1⟩ := mod_ex (u * 48271 + (i : Int) * 69621 + 11) 2147483647 (by omega)
        obtain ⟨y, iy, _, _⟩ := mod_ex (x * x + 3 * x + (i : Int)) 1000003 (by omega)
        have m1 : binS .Mult (.int u) (.int 48271) = some (.v (.int (u * 48271))) := mul_r (by omega)
        have m2 : binS .Mult (.int (i : Nat)) (.int 69621) = some (.v (.int ((i : Int) * 69621))) := mul_r (by omega)
        have m3 : ∀ a, binS .Mult (.int a) (.int x) = some (.v (.int (a * x))) := fun a => mul_r (by omega)
        apply c_nx
        · simp -implicitDefEqProofs [evS, evE, evBs, evB, frz_v, frz_p, rd, rds, iu, bl_int, m1, m2, ix, add_i, stO, putS_at, f3]
          rfl
        apply c_nx
        · simp -implicitDefEqProofs [evS, evE, evDs, evBs, evB, frz_v, frz_p, rd, rds, isOwL, bl_int, m3, iy, add_i, esc, app_1 (show (ds.map D.int).length < sizeLine by simpa using hz)]
          rfl
        apply c_nil
        exact ⟨lf, ds ++ [y], .fz (.int (i : Nat)), .fz (.int p), .fz (.int x), rfl, rfl, rfl, hl, by simp -implicitDefEqProofs [hd], by simp⟩
    · rintro e ⟨lf, ds, s1, s2, s3, f1, f2, f3, hl, hd, rfl⟩
      show Ev (evSs cl _ _) _
      apply c_nx
      · simp -implicitDefEqProofs [evS, evE, evDs, isOwL, mthS, unlock]
        rfl
      · apply c_rt
        · simp -implicitDefEqProofs [evS, evE, retO]
          exact ⟨rfl, rfl⟩
        · exact ⟨_, rfl, ds.reverse, by simp -implicitDefEqProofs [finA]⟩
theorem take_ok (Δ : Tb) [A0 Δ] (k : Nat) (ds : List Int) (m : Int) (hm : 0 < m) :
    Ev (callN Δ (k + 1) 5 [.ow true (LI ds), .fz (.int m)]) fun z => ∃ r ds', z = (.v (.int r), [.ow true (LI ds'), .fz (.int m)]) ∧ 0 ≤ r ∧ r < m := by
  rw [fn5]
  generalize callN Δ k = cl
  refine enter ⟨rfl, rfl⟩ ?_
  show Ev (evSs cl b5 [.ow true (LI ds), .fz (.int m)]) _
  rcases List.eq_nil_or_concat ds with rfl | ⟨ds, d, rfl⟩
  · apply c_rt
    · simp -implicitDefEqProofs [evS, evSs, evC, evB, evE, evBs, Op.frz, rds, rd, bltS, eq_int, retO]
      exact ⟨rfl, rfl⟩
    · exact ⟨_, rfl, 0, [], rfl, by omega, hm⟩
  · apply c_nx
    · have h : ((ds.length : Int) + 1 == 0) = false := by simp; omega
      simp -implicitDefEqProofs [evS, evSs, evC, evB, evE, evBs, Op.frz, rds, rd, bltS, eq_int, retO, h]
      rfl
    · apply c_rt
      · simp -implicitDefEqProofs [evS, evSs, evC, evB, evE, evBs, evDs, Op.frz, rds, rd, bltS, eq_int, retO, isOwL, mthS, binS, hm]
        exact ⟨rfl, rfl⟩
      · exact ⟨_, rfl, _, ds, rfl, Int.emod_nonneg _ (by omega), Int.emod_lt_of_pos _ hm⟩
/-- what _law_take promises -/
def TakeOk (cl : CallF) : Prop := ∀ (ds : List Int) (m : Int), 0 < m → ∃ r ds', cl 5 [.ow true (LI ds), .fz (.int m)] = some (.v (.int r), [.ow true (LI ds'), .fz (.int m)]) ∧ 0 ≤ r ∧ r < m
theorem takeOk (Δ : Tb) [A0 Δ] (k : Nat) : TakeOk (callN Δ (k + 1)) := fun ds m hm => by
  obtain ⟨z, h, r, ds', e, h1, h2⟩ := take_ok Δ k ds m hm
  exact ⟨r, ds', by rw [h, e], h1, h2⟩
theorem idx_lst {xs : List D} {i : Int} (h0 : 0 ≤ i) (h : i < xs.length) : ∃ d, idxS (.lst xs) (.int i) = some d ∧ d ∈ xs := by
  have hl : i.toNat < xs.length := by omega
  refine ⟨xs[i.toNat], ?_, List.getElem_mem hl⟩
  show L2.atI xs i = _
  unfold L2.atI
  rw [ixN_int h0 h]
  simp [hl]
theorem idx_tup {xs : List D} {i : Int} (h0 : 0 ≤ i) (h : i < xs.length) : ∃ d, idxS (.tup xs) (.int i) = some d ∧ d ∈ xs := idx_lst h0 h
theorem pick_ok (Δ : Tb) [A0 Δ] (k : Nat) (ds : List Int) (xs : List D) (hx : 0 < xs.length) :
    ∃ d ds', callN Δ (k + 2) 6 [.ow true (LI ds), .fz (.lst xs)] = some (.v d, [.ow true (LI ds'), .fz (.lst xs)]) ∧ d ∈ xs := by
  suffices h : Ev (callN Δ (k + 2) 6 [.ow true (LI ds), .fz (.lst xs)]) fun z => ∃ d ds', z = (.v d, [.ow true (LI ds'), .fz (.lst xs)]) ∧ d ∈ xs by
    obtain ⟨z, h, d, ds', e, hd⟩ := h
    exact ⟨d, ds', by rw [h, e], hd⟩
  rw [fn6]
  have ht := takeOk Δ k
  generalize callN Δ (k + 1) = cl at ht
  refine enter ⟨rfl, rfl⟩ ?_
  show Ev (evSs cl b6 [.ow true (LI ds), .fz (.lst xs)]) _
  obtain ⟨r, ds', h1, h2, h3⟩ := ht ds xs.length (by omega)
  obtain ⟨d, h4, h5⟩ := idx_lst h2 h3
  apply c_rt
  · simp -implicitDefEqProofs [evS, evE, evBs, evB, frz_v, frz_p, rd, rds, bl_len_l, toArgs, toArg, lent, h1, backArgs, h4, retO]
    exact ⟨rfl, rfl⟩
  · exact ⟨_, rfl, d, ds', rfl, h5⟩
def PickOk (cl : CallF) : Prop := ∀ (ds : List Int) (xs : List D), 0 < xs.length → ∃ d ds', cl 6 [.ow true (LI ds), .fz (.lst xs)] = some (.v d, [.ow true (LI ds'), .fz (.lst xs)]) ∧ d ∈ xs
theorem pickOk (Δ : Tb) [A0 Δ] (k : Nat) : PickOk (callN Δ (k + 2)) := pick_ok Δ k
theorem bl_sorted {l : List Int} : bltS .sorted [LI l] = some (.nw (LI (l.mergeSort (· ≤ ·)))) := by
  show (intsD (l.map .int)).map _ = _
  rw [intsD_map]
  rfl
theorem some_ok (Δ : Tb) [A0 Δ] (k : Nat) (ds ts : List Int) (m : Int) (ht : 0 < ts.length) (hm : 0 < m ∧ m ≤ 1000) :
    Ev (callN Δ (k + 3) 9 [.ow true (LI ds), .fz (LI ts), .fz (.int m)]) fun z => ∃ rs ds', z = (.nw (LI rs), [.ow true (LI ds'), .fz (LI ts), .fz (.int m)]) ∧ 0 < rs.length ∧ rs.length ≤ 1000 ∧ ∀ x ∈ rs, x ∈ ts := by
  rw [fn9]
  have hp := pickOk Δ k
  have hk := takeOk Δ (k + 1)
  generalize callN Δ (k + 2) = cl at hp hk
  refine enter ⟨rfl, rfl⟩ ?_
  show Ev (evSs cl b9 [.ow true (LI ds), .fz (LI ts), .fz (.int m), .un, .un, .un]) _
  apply c_nx
  · simp -implicitDefEqProofs [evS, evE, evDs, stO, putS]
    rfl
  obtain ⟨r, ds1, h1, h2, h3⟩ := hk ds m hm.1
  apply c_ev
  refine s_fo (items := (List.range (1 + r).toNat).map fun k => .int (k : Nat)) (lk := []) (env1 := [.ow true (LI ds1), .fz (LI ts), .fz (.int m), .ow false (LI []), .un, .un]) ?_ ?_
  · simp -implicitDefEqProofs [evI, evB, evE, evBs, frz_v, frz_p, rd, rds, toArgs, toArg, lent, h1, backArgs, add_i, intD, rngS_ok (show 0 ≤ 1 + r ∧ 1 + r < 2 ^ 62 by omega)]
  refine fo_ind (fun i e => ∃ (ds fs : List Int) (s1 s2 : Sl), fr s1 = true ∧ fr s2 = true ∧ fs.length ≤ i ∧ (0 < i → 0 < fs.length) ∧ (∀ x ∈ fs, x ∈ ts) ∧ e = [.ow true (LI ds), .fz (LI ts), .fz (.int m), .ow false (LI fs), s1, s2]) ?_ ?_ ⟨ds1, [], .un, .un, rfl, rfl, Nat.le_refl _, fun h => absurd h (Nat.lt_irrefl _), (fun x h => nomatch h), rfl⟩
  · rintro i hi e ⟨ds, fs, s1, s2, f1, f2, hl, hne, hin, rfl⟩
    simp only [List.length_map, List.length_range] at hi
    refine ev_of (a := [.ow true (LI ds), .fz (LI ts), .fz (.int m), .ow false (LI fs), .fz (.int (i : Nat)), s2]) ?_ ?_
    · simp [T.put, putS_at, f1]
    obtain ⟨d, ds', h4, h5⟩ := hp ds (ts.map .int) (by simpa using ht)
    obtain ⟨t, h6, rfl⟩ := List.mem_map.mp h5
    apply c_nx
    · simp -implicitDefEqProofs [evS, evE, evBs, evB, frz_v, frz_p, toArgs, toArg, lent, h4, backArgs, stO, putS_at, f2]
      rfl
    apply c_one
    refine s_ifs (env1 := [.ow true (LI ds'), .fz (LI ts), .fz (.int m), .ow false (LI fs), .fz (.int (i : Nat)), .fz (.int t)]) (k := !decide (t ∈ fs)) ?_ (fun hk => ?_) (fun hk => ?_)
    · simp -implicitDefEqProofs [evC, evE, evB, frz_v, frz_p, rd, notin_ints]
    · have hz : (fs.map D.int).length < sizeLine := by have : sizeLine = 16777216 := rfl; simp; omega
      apply c_nx
      · simp -implicitDefEqProofs [evS, evE, evDs, isOwL, esc, app_1 hz]
        rfl
      apply c_nil
      refine ⟨ds', fs ++ [t], .fz (.int (i : Nat)), .fz (.int t), rfl, rfl, by simp; omega, fun _ => by simp, fun x hx => ?_, by simp⟩
      rcases List.mem_append.mp hx with hx | hx
      · exact hin x hx
      · simp at hx; subst hx; exact h6
    · apply c_nil
      have hk : t ∈ fs := by simpa using hk
      exact ⟨ds', fs, .fz (.int (i : Nat)), .fz (.int t), rfl, rfl, by omega, fun _ => List.length_pos_of_mem hk, hin, rfl⟩
  · rintro e ⟨ds, fs, s1, s2, f1, f2, hl, hne, hin, rfl⟩
    simp only [List.length_map, List.length_range] at hl hne
    show Ev (evSs cl _ _) _
    apply c_rt
    · simp -implicitDefEqProofs [evS, evE, evBs, evB, frz_p, rd, rds, unlock, bl_sorted, retO]
      exact ⟨rfl, rfl⟩
    · have hp := List.mergeSort_perm fs (fun a b => decide (a ≤ b))
      refine ⟨_, rfl, fs.mergeSort (fun a b => decide (a ≤ b)), ds, by simp [finA], ?_, ?_, fun x hx => hin x (hp.mem_iff.mp hx)⟩
      · rw [hp.length_eq]; exact hne (by omega)
      · rw [hp.length_eq]; omega
def SomeOk (cl : CallF) : Prop := ∀ (ds ts : List Int) (m : Int), 0 < ts.length → 0 < m ∧ m ≤ 1000 → ∃ rs ds', cl 9 [.ow true (LI ds), .fz (LI ts), .fz (.int m)] = some (.nw (LI rs), [.ow true (LI ds'), .fz (LI ts), .fz (.int m)]) ∧ 0 < rs.length ∧ rs.length ≤ 1000 ∧ ∀ x ∈ rs, x ∈ ts
theorem someOk (Δ : Tb) [A0 Δ] (k : Nat) : SomeOk (callN Δ (k + 3)) := fun ds ts m ht hm => by
  obtain ⟨z, h, rs, ds', e, h1, h2, h3⟩ := some_ok Δ k ds ts m ht hm
  exact ⟨rs, ds', by rw [h, e], h1, h2, h3⟩
/-- an arena: owners and moves -/
def plD (p : Int × List Int) : D := .tup [.int p.1, .tup (p.2.map .int)]
def arD (ar : List (Int × List Int)) : D := .tup (ar.map plD)
def GoodP (n : Int) (p : Int × List Int) : Prop := (p.1 = 0 ∨ p.1 = 1) ∧ 0 < p.2.length ∧ p.2.length ≤ 1000 ∧ ∀ x ∈ p.2, 0 ≤ x ∧ x < n
theorem arena_ok (Δ : Tb) [A0 Δ] (k : Nat) (ds : List Int) (n m : Int) (hn : 0 < n ∧ n ≤ 1000) (hm : 0 < m ∧ m ≤ 1000) :
    Ev (callN Δ (k + 4) 10 [.ow true (LI ds), .fz (.int n), .fz (.int m)]) fun z => ∃ ar ds', z = (.v (arD ar), [.ow true (LI ds'), .fz (.int n), .fz (.int m)]) ∧ (ar.length : Int) = n ∧ ∀ p ∈ ar, GoodP n p := by
  rw [fn10]
  have hk := takeOk Δ (k + 2)
  have hs := someOk Δ k
  generalize callN Δ (k + 3) = cl at hk hs
  refine enter ⟨rfl, rfl⟩ ?_
  show Ev (evSs cl b10 [.ow true (LI ds), .fz (.int n), .fz (.int m), .un]) _
  have hlc := e_lc (cl := cl) (vs := [3]) (el := .tup (.cons (.call 5 (.cons (.nm 0) (.cons (.lit (.int 2)) .nil))) (.cons (.blt .tuple (.cons (.call 9 (.cons (.nm 0) (.cons (.rng false (.nm 1) .no) (.cons (.nm 2) .nil)))) .nil)) .nil))) (t := .nm 3) (it := .rng1 (.nm 1)) (c := .no)
    (env := [.ow true (LI ds), .fz (.int n), .fz (.int m), .un]) (env1 := [.ow true (LI ds), .fz (.int n), .fz (.int m), .un]) (items := (List.range n.toNat).map fun k => .int (k : Nat)) (lk := [])
    (Q := fun outs e => ∃ (ar : List (Int × List Int)) (ds' : List Int), outs = ar.map plD ∧ e = [.ow true (LI ds'), .fz (.int n), .fz (.int m), .un] ∧ (ar.length : Int) = n ∧ ∀ p ∈ ar, GoodP n p) ?_ rfl ?_
  · obtain ⟨outs, env', h1, ar, ds', rfl, rfl, h2, h3⟩ := hlc
    apply c_rt
    · exact s_ret' (e_blt1 h1 rfl bl_tup_l) rfl
    · exact ⟨_, rfl, ar, ds', rfl, h2, h3⟩
  · simp -implicitDefEqProofs [evI, evB, evE, frz_v, rd, intD, rngS_ok (show 0 ≤ n ∧ n < 2 ^ 62 by omega)]
  · refine lc_ind (fun i acc e => ∃ (ar : List (Int × List Int)) (ds : List Int), ar.length = i ∧ acc = ar.map plD ∧ e = [.ow true (LI ds), .fz (.int n), .fz (.int m), .un] ∧ ∀ p ∈ ar, GoodP n p) ?_ ?_ ⟨[], ds, rfl, rfl, rfl, fun p h => nomatch h⟩
    · rintro i hi acc e ⟨ar, ds, hl, rfl, rfl, hg⟩
      refine ev_of (a := [.ow true (LI ds), .fz (.int n), .fz (.int m), .fz (.int (i : Nat))]) ?_ ?_
      · simp [T.put, putS]
      refine ev_of (a := (true, [.ow true (LI ds), .fz (.int n), .fz (.int m), .fz (.int (i : Nat))])) ?_ ?_
      · simp [evOC]
      rw [if_pos rfl]
      obtain ⟨r, ds1, h1, h2, h3⟩ := hk ds 2 (by omega)
      obtain ⟨rs, ds2, h4, h5, h6, h7⟩ := hs ds1 ((List.range n.toNat).map fun k : Nat => (k : Int)) m (by simp; omega) hm
      simp only [LI] at h4
      rw [← rng_ints] at h4
      refine ev_of (a := (plD (r, rs), [.ow true (LI ds2), .fz (.int n), .fz (.int m), .fz (.int (i : Nat))])) ?_ ?_
      · simp -implicitDefEqProofs [evE, evDs, evBs, evB, evO, frz_v, frz_p, frz_nw, rd, rds, toArgs, toArg, lent, h1, h4, backArgs, intD, rgS_ok' (show 0 ≤ n ∧ n ≤ 2 ^ 24 by omega), esc, bl_tup_l, plD, sizeLine]
      · refine ⟨ar ++ [(r, rs)], ds2, by simp [hl], by simp, by simp [wipeE], fun p hp => ?_⟩
        rcases List.mem_append.mp hp with hp | hp
        · exact hg p hp
        · simp at hp
          subst hp
          refine ⟨by show r = 0 ∨ r = 1; omega, h5, h6, fun x hx => ?_⟩
          have := h7 x hx
          simp at this
          obtain ⟨a, ha, rfl⟩ := this
          omega
    · rintro acc e ⟨ar, ds, hl, rfl, rfl, hg⟩
      simp only [List.length_map, List.length_range] at hl
      refine ⟨by have : sizeLine = 16777216 := rfl; simp; omega, ar, ds, rfl, by simp [restE, unlock], by omega, hg⟩
theorem places_ok (Δ : Tb) [A0 Δ] (k : Nat) (ds : List Int) (n : Int) (hn : 0 < n) :
    Ev (callN Δ (k + 3) 13 [.ow true (LI ds), .fz (.int n)]) fun z => ∃ (rs ds' : List Int), z = (.v (.tup (rs.map .int)), [.ow true (LI ds'), .fz (.int n)]) ∧ ∀ x ∈ rs, 0 ≤ x ∧ x < n := by
  rw [fn13]
  have hk := takeOk Δ (k + 1)
  have hp := pickOk Δ k
  generalize callN Δ (k + 2) = cl at hk hp
  refine enter ⟨rfl, rfl⟩ ?_
  show Ev (evSs cl b13 [.ow true (LI ds), .fz (.int n), .un]) _
  obtain ⟨d, ds1, h1, h2⟩ := hp ds [.int 1, .int 1, .int 2, .int 0, .int 7] (by decide)
  obtain ⟨c, rfl, hc0, hc1⟩ : ∃ c : Int, d = .int c ∧ 0 ≤ c ∧ c ≤ 7 := by
    simp at h2
    rcases h2 with rfl | rfl | rfl | rfl <;> exact ⟨_, rfl, by omega, by omega⟩
  have hlc := e_lc (cl := cl) (vs := [2]) (el := .call 5 (.cons (.nm 0) (.cons (.nm 1) .nil))) (t := .nm 2) (it := .rng1 (.call 6 (.cons (.nm 0) (.cons (.lst (.cons (.lit (.int 1)) (.cons (.lit (.int 1)) (.cons (.lit (.int 2)) (.cons (.lit (.int 0)) (.cons (.lit (.int 7)) .nil)))))) .nil)))) (c := .no)
    (env := [.ow true (LI ds), .fz (.int n), .un]) (env1 := [.ow true (LI ds1), .fz (.int n), .un]) (items := (List.range c.toNat).map fun k => .int (k : Nat)) (lk := [])
    (Q := fun outs e => ∃ (rs : List Int) (ds' : List Int), outs = rs.map .int ∧ e = [.ow true (LI ds'), .fz (.int n), .un] ∧ (rs.length : Int) = c ∧ ∀ x ∈ rs, 0 ≤ x ∧ x < n) ?_ rfl ?_
  · obtain ⟨outs, env', h3, rs, ds', rfl, rfl, h4, h5⟩ := hlc
    apply c_rt
    · exact s_ret' (e_blt1 (e_srt h3 rfl (by omega)) rfl bl_tup_l) rfl
    · exact ⟨_, rfl, VIS.srtU rs, ds', rfl, fun x hx => h5 x (VIS.mem_srtU.mp hx)⟩
  · simp -implicitDefEqProofs [evI, evB, evE, evBs, evDs, frz_v, frz_p, frz_nw, rd, toArgs, toArg, lent, esc, sizeLine, h1, backArgs, intD, rngS_ok (show 0 ≤ c ∧ c < 2 ^ 62 by omega)]
  · refine lc_ind (fun i acc e => ∃ (rs : List Int) (ds : List Int), rs.length = i ∧ acc = rs.map .int ∧ e = [.ow true (LI ds), .fz (.int n), .un] ∧ ∀ x ∈ rs, 0 ≤ x ∧ x < n) ?_ ?_ ⟨[], ds1, rfl, rfl, rfl, fun p h => nomatch h⟩
    · rintro i hi acc e ⟨rs, ds, hl, rfl, rfl, hg⟩
      refine ev_of (a := [.ow true (LI ds), .fz (.int n), .fz (.int (i : Nat))]) ?_ ?_
      · simp [T.put, putS]
      refine ev_of (a := (true, [.ow true (LI ds), .fz (.int n), .fz (.int (i : Nat))])) ?_ ?_
      · simp [evOC]
      rw [if_pos rfl]
      obtain ⟨r, ds1, h1, h2, h3⟩ := hk ds n hn
      refine ev_of (a := (.int r, [.ow true (LI ds1), .fz (.int n), .fz (.int (i : Nat))])) ?_ ?_
      · simp -implicitDefEqProofs [evE, evBs, evB, frz_v, frz_p, toArgs, toArg, lent, h1, backArgs, esc]
      · refine ⟨rs ++ [r], ds1, by simp [hl], by simp, by simp [wipeE], fun p hp => ?_⟩
        rcases List.mem_append.mp hp with hp | hp
        · exact hg p hp
        · simp at hp
          subst hp
          exact ⟨h2, h3⟩
    · rintro acc e ⟨rs, ds, hl, rfl, rfl, hg⟩
      simp only [List.length_map, List.length_range] at hl
      refine ⟨by have : sizeLine = 16777216 := rfl; simp; omega, rs, ds, rfl, by simp [restE, unlock], by omega, hg⟩
theorem pow_15 : binS .Pow (.int 10) (.int 15) = some (.v (.int 1000000000000000)) := by
  rw [pow_c (show L2.CPow 10 15 by unfold L2.CPow; decide)]
  rfl
def tupI (w : List Int) : D := .tup (w.map .int)
def Fits (ar : List (Int × List Int)) (ws : List (List Int)) : Prop := ws.length = ar.length ∧ ∀ (i : Nat) (p : Int × List Int) (w : List Int), ar[i]? = some p → ws[i]? = some w → w.length = p.2.length
theorem prices_ok (Δ : Tb) [A0 Δ] (k : Nat) (ds : List Int) (ar : List (Int × List Int)) (ha : ar.length ≤ 1000) (hp2 : ∀ p ∈ ar, p.2.length ≤ 1000) :
    Ev (callN Δ (k + 3) 14 [.ow true (LI ds), .fz (arD ar)]) fun z => ∃ (ws : List (List Int)) (ds' : List Int), z = (.v (.tup (ws.map tupI)), [.ow true (LI ds'), .fz (arD ar)]) ∧ Fits ar ws := by
  rw [fn14]
  have hp := pickOk Δ k
  generalize callN Δ (k + 2) = cl at hp
  refine enter ⟨rfl, rfl⟩ ?_
  show Ev (evSs cl b14 [.ow true (LI ds), .fz (arD ar), .un, .un, .un]) _
  apply c_nx
  · simp -implicitDefEqProofs [evS, evE, evDs, stO, putS]
    rfl
  apply c_ev
  refine s_fo (items := ar.map plD) (lk := []) (env1 := [.ow true (LI ds), .fz (arD ar), .ow false (.lst []), .un, .un]) ?_ ?_
  · simp -implicitDefEqProofs [evI, evB, evE, frz_v, rd, arD, itemsOf, lockS]
  refine fo_ind (fun i e => ∃ (ds : List Int) (ws : List (List Int)) (s1 : Sl), fr s1 = true ∧ ws.length = i ∧ (∀ (j : Nat) (p : Int × List Int) (w : List Int), ar[j]? = some p → ws[j]? = some w → w.length = p.2.length) ∧ e = [.ow true (LI ds), .fz (arD ar), .ow false (.lst (ws.map tupI)), s1, .un]) ?_ ?_ ⟨ds, [], .un, rfl, rfl, fun j p w _ h => by simp at h, rfl⟩
  · rintro i hi e ⟨ds, ws, s1, f1, hl, hw, rfl⟩
    have hi' : i < ar.length := by simpa using hi
    refine ev_of (a := [.ow true (LI ds), .fz (arD ar), .ow false (.lst (ws.map tupI)), .fz (plD ar[i]), .un]) ?_ ?_
    · simp [T.put, putS_at, f1]
    have hlen := hp2 _ (List.getElem_mem hi')
    have hai : ar[i]? = some ar[i] := List.getElem?_eq_getElem hi'
    generalize ar[i] = p at hlen hai
    have hlc := e_lc (cl := cl) (vs := [4]) (el := .call 6 (.cons (.nm 0) (.cons (.lst (.cons (.lit (.int 0)) (.cons (.lit (.int 0)) (.cons (.lit (.int 1)) (.cons (.lit (.int 1)) (.cons (.lit (.int 2)) (.cons (.lit (.int 3)) (.cons (.lit (.int 5)) (.cons (.lit (.int 9)) (.cons (.lit (.int 4)) (.cons (.bin .Add (.bin .Pow (.lit (.int 10)) (.lit (.int 15))) (.lit (.int 37))) .nil))))))))))) .nil))) (t := .nm 4) (it := .seq (.idx (.nm 3) (.lit (.int 1)))) (c := .no)
      (env := [.ow true (LI ds), .fz (arD ar), .ow false (.lst (ws.map tupI)), .fz (plD p), .un]) (env1 := [.ow true (LI ds), .fz (arD ar), .ow false (.lst (ws.map tupI)), .fz (plD p), .un]) (items := p.2.map .int) (lk := [])
      (Q := fun outs e => ∃ (rs : List Int) (ds' : List Int), outs = rs.map .int ∧ e = [.ow true (LI ds'), .fz (arD ar), .ow false (.lst (ws.map tupI)), .fz (plD p), .un] ∧ rs.length = p.2.length) ?_ rfl ?_
    · obtain ⟨outs, env', h3, rs, ds', rfl, rfl, h4⟩ := hlc
      have hz : (ws.map tupI).length < sizeLine := by have : sizeLine = 16777216 := rfl; simp; omega
      have h5 := e_blt1 h3 rfl bl_tup_l
      apply c_nx
      · exact s_app (env2 := [.ow true (LI ds'), .fz (arD ar), .ow false (.lst (ws.map tupI)), .fz (plD p), .un]) rfl h5 rfl rfl hz
      apply c_nil
      refine ⟨ds', ws ++ [rs], .fz (plD p), rfl, by simp [hl], fun j p' w h1 h2 => ?_, by simp [tupI]⟩
      rcases Nat.lt_or_ge j ws.length with hj | hj
      · rw [List.getElem?_append_left hj] at h2
        exact hw j p' w h1 h2
      · rw [List.getElem?_append_right hj] at h2
        have : j - ws.length = 0 := by
          rcases Nat.eq_zero_or_pos (j - ws.length) with h | h
          · exact h
          · rw [List.getElem?_eq_none (by simp; omega)] at h2; cases h2
        have hji : j = i := by omega
        subst hji
        rw [this] at h2
        simp at h2
        subst h2
        rw [hai] at h1
        cases h1
        exact h4
    · simp -implicitDefEqProofs [evI, evB, evE, frz_v, rd, plD, itemsOf, lockS, idxS, L2.atI, L2.ixN]
    · refine lc_ind (fun i acc e => ∃ (rs : List Int) (ds' : List Int), acc = rs.map .int ∧ e = [.ow true (LI ds'), .fz (arD ar), .ow false (.lst (ws.map tupI)), .fz (plD p), .un] ∧ rs.length = i) ?_ ?_ ⟨[], ds, rfl, rfl, rfl⟩
      · rintro m hm acc e ⟨rs, ds, rfl, rfl, hr⟩
        simp only [List.getElem_map]
        refine ev_of (a := [.ow true (LI ds), .fz (arD ar), .ow false (.lst (ws.map tupI)), .fz (plD p), .fz (.int (p.2[m]'(by simpa using hm)))]) ?_ ?_
        · simp [T.put, putS]
        refine ev_of (a := (true, [.ow true (LI ds), .fz (arD ar), .ow false (.lst (ws.map tupI)), .fz (plD p), .fz (.int (p.2[m]'(by simpa using hm)))])) ?_ ?_
        · simp [evOC]
        rw [if_pos rfl]
        obtain ⟨d, ds1, h1, h2⟩ := hp ds [.int 0, .int 0, .int 1, .int 1, .int 2, .int 3, .int 5, .int 9, .int 4, .int 1000000000000037] (by simp)
        obtain ⟨c, rfl⟩ : ∃ c : Int, d = .int c := by
          simp at h2
          rcases h2 with rfl | rfl | rfl | rfl | rfl | rfl | rfl | rfl <;> exact ⟨_, rfl⟩
        refine ev_of (a := (.int c, [.ow true (LI ds1), .fz (arD ar), .ow false (.lst (ws.map tupI)), .fz (plD p), .fz (.int (p.2[m]'(by simpa using hm)))])) ?_ ?_
        · simp -implicitDefEqProofs [evE, evBs, evDs, evB, frz_v, frz_nw, frz_p, rd, toArgs, toArg, lent, esc, sizeLine, pow_15, add_i, h1, backArgs]
        · exact ⟨rs ++ [c], ds1, by simp, by simp [wipeE], by simp [hr]⟩
      · rintro acc e ⟨rs, ds, rfl, rfl, hr⟩
        simp only [List.length_map] at hr
        exact ⟨by have : sizeLine = 16777216 := rfl; simp; omega, rs, ds, rfl, by simp [restE, unlock], hr⟩
  · rintro e ⟨ds, ws, s1, f1, hl, hw, rfl⟩
    simp only [List.length_map] at hl
    show Ev (evSs cl _ _) _
    apply c_rt
    · simp -implicitDefEqProofs [evS, evE, evBs, evB, frz_p, rd, rds, unlock, bl_tup_l, retO]
      exact ⟨rfl, rfl⟩
    · exact ⟨_, rfl, ws, ds, by simp [finA], hl, hw⟩
theorem er_map : ∀ (l : List Int) (n : Nat), (l.map D.int).eraseIdx n = (l.eraseIdx n).map D.int
  | [], _ => rfl
  | x :: l, 0 => rfl
  | x :: l, n + 1 => by simp only [List.map_cons, List.eraseIdx_cons_succ, er_map l n]
theorem er_perm : ∀ (l : List Int) (n : Nat) (h : n < l.length), (l[n] :: l.eraseIdx n).Perm l
  | x :: l, 0, _ => List.Perm.refl _
  | x :: l, n + 1, h => by
    simp only [List.getElem_cons_succ, List.eraseIdx_cons_succ]
    exact (List.Perm.swap x _ _).trans (List.Perm.cons x (er_perm l n (by simpa using h)))
theorem pop_at {l : List Int} {r : Int} (h0 : 0 ≤ r) (h1 : r < l.length) (h2 : l.length ≤ 1000) : mthS .pop (l.map .int) [.int r] = some (.int (l.getD r.toNat 0), (l.eraseIdx r.toNat).map .int) := by
  have hl : r.toNat < l.length := by omega
  have e1 : L2.ixN (l.map D.int).length r = some r.toNat := ixN_int h0 (by simpa using h1)
  have e2 : (l.map D.int)[r.toNat]? = some (.int (l.getD r.toNat 0)) := by rw [List.getElem?_map, getD_get hl]; rfl
  simp only [mthS, e1, e2]
  rw [if_pos (by omega)]
  rw [er_map]
theorem shuffled_ok (Δ : Tb) [A0 Δ] (k : Nat) (ds row : List Int) (hr : row.length ≤ 1000) :
    Ev (callN Δ (k + 2) 8 [.ow true (LI ds), .fz (LI row)]) fun z => ∃ (rs ds' : List Int), z = (.nw (LI rs), [.ow true (LI ds'), .fz (LI row)]) ∧ rs.Perm row := by
  rw [fn8]
  have hk := takeOk Δ k
  generalize callN Δ (k + 1) = cl at hk
  refine enter ⟨rfl, rfl⟩ ?_
  show Ev (evSs cl b8 [.ow true (LI ds), .fz (LI row), .un, .un, .un]) _
  apply c_nx
  · simp -implicitDefEqProofs [evS, evE, evBs, evB, frz_v, rds, rd, bl_lst_l, stO, putS]
    rfl
  apply c_nx
  · simp -implicitDefEqProofs [evS, evE, evDs, stO, putS]
    rfl
  apply c_ev
  refine s_fo (items := (List.range row.length).map fun k => .int (k : Nat)) (lk := []) (env1 := [.ow true (LI ds), .fz (LI row), .ow false (LI row), .ow false (LI []), .un]) ?_ ?_
  · simp -implicitDefEqProofs [evI, evB, evE, evBs, frz_v, frz_p, rd, rds, bl_len_l, intD, rngS_ok (show 0 ≤ (row.length : Int) ∧ (row.length : Int) < 2 ^ 62 by omega)]
  refine fo_ind (fun i e => ∃ (ds lf told : List Int) (s1 : Sl), fr s1 = true ∧ told.length = i ∧ (told ++ lf).Perm row ∧ e = [.ow true (LI ds), .fz (LI row), .ow false (LI lf), .ow false (LI told), s1]) ?_ ?_ ⟨ds, row, [], .un, rfl, rfl, List.Perm.refl _, rfl⟩
  · rintro i hi e ⟨ds, lf, told, s1, f1, hl, hp, rfl⟩
    simp only [List.length_map, List.length_range] at hi
    refine ev_of (a := [.ow true (LI ds), .fz (LI row), .ow false (LI lf), .ow false (LI told), .fz (.int (i : Nat))]) ?_ ?_
    · simp [T.put, putS_at, f1]
    have hlen := hp.length_eq
    rw [List.length_append] at hlen
    obtain ⟨r, ds1, h1, h2, h3⟩ := hk ds lf.length (by omega)
    have hpop := pop_at h2 h3 (by omega)
    have hz : (told.map D.int).length < sizeLine := by have : sizeLine = 16777216 := rfl; simp; omega
    apply c_nx
    · refine s_app (o := .v (.int (lf.getD r.toNat 0))) (env1 := [.ow true (LI ds1), .fz (LI row), .ow false (LI (lf.eraseIdx r.toNat)), .ow false (LI told), .fz (.int (i : Nat))]) (env2 := [.ow true (LI ds1), .fz (LI row), .ow false (LI (lf.eraseIdx r.toNat)), .ow false (LI told), .fz (.int (i : Nat))]) rfl ?_ rfl rfl hz
      simp -implicitDefEqProofs [evE, evDs, evBs, evB, isOwL, frz_v, frz_p, rd, rds, bl_len_l, toArgs, toArg, lent, h1, backArgs, esc, hpop]
    apply c_nil
    refine ⟨ds1, lf.eraseIdx r.toNat, told ++ [lf.getD r.toNat 0], .fz (.int (i : Nat)), rfl, by simp [hl], ?_, by simp⟩
    refine List.Perm.trans ?_ hp
    rw [List.append_assoc]
    refine List.Perm.append_left _ ?_
    have hl2 : r.toNat < lf.length := by omega
    have e : lf.getD r.toNat 0 = lf[r.toNat] := by rw [List.getD_eq_getElem?_getD, List.getElem?_eq_getElem hl2]; rfl
    rw [e]
    exact er_perm lf r.toNat hl2
  · rintro e ⟨ds, lf, told, s1, f1, hl, hp, rfl⟩
    simp only [List.length_map, List.length_range] at hl
    have hlen := hp.length_eq
    rw [List.length_append] at hlen
    have : lf = [] := List.length_eq_zero_iff.mp (by omega)
    subst this
    rw [List.append_nil] at hp
    show Ev (evSs cl _ _) _
    apply c_rt
    · simp -implicitDefEqProofs [evS, evE, unlock, retO]
      exact ⟨rfl, rfl⟩
    · exact ⟨_, rfl, told, ds, by simp [finA], hp⟩
theorem s_put' {cl : CallF} {i j : Nat} {k e : E} {env env1 env2 env3 : En} {o o2 : Op} {d : D} {n : Int} {io : Bool} {xs : List D} (h1 : evE cl e env = some (o, env1)) (h2 : esc env1 o = some (d, env2)) (h3 : isOwL env2 i = true) (h4 : evE cl k env2 = some (o2, env3)) (h5 : rd env3 o2.frz = some (.int n)) (h6 : env3[i]? = some (.ow io (.lst xs))) (h7 : L2.ixN xs.length n = some j) :
    evS cl (.put i k e) env = some (.nx (env3.set i (.ow io (.lst (xs.set j d))))) := by
  unfold evS
  simp -implicitDefEqProofs only [h1, h2, h3, Bool.not_true, Bool.false_eq_true, if_false, evB, h4, h5, intD, h6, h7, bind, Option.bind_some, pure]
theorem e_tup2 {cl : CallF} {a b : E} {env env1 env2 env3 env4 : En} {o o2 : Op} {d d2 : D} (h1 : evE cl a env = some (o, env1)) (h2 : esc env1 o = some (d, env2)) (h3 : evE cl b env2 = some (o2, env3)) (h4 : esc env3 o2 = some (d2, env4)) : evE cl (.tup (.cons a (.cons b .nil))) env = some (.v (.tup [d, d2]), env4) := by
  unfold evE
  simp -implicitDefEqProofs only [evDs, h1, h2, h3, h4, bind, Option.bind_some, pure]
  rw [if_pos (by have : sizeLine = 16777216 := rfl; simp; omega)]
theorem rep_one {d : D} {n : Nat} (h : n ≤ 1000) : binS .Mult (.lst [d]) (.int (n : Nat)) = some (.nw (.lst (List.replicate n d))) := by
  simp only [binS]
  rw [if_pos ⟨by omega, by omega, by have : sizeLine = 16777216 := rfl; simp; omega⟩]
  simp
theorem all_pl {n : Int} : ∀ {pl : List D}, (∀ d ∈ pl, ∃ p, GoodP n p ∧ d = plD p) → ∃ ar : List (Int × List Int), pl = ar.map plD ∧ ∀ p ∈ ar, GoodP n p
  | [], _ => ⟨[], rfl, fun p h => nomatch h⟩
  | d :: pl, h => by
    obtain ⟨p, h1, rfl⟩ := h d (List.mem_cons_self ..)
    obtain ⟨ar, rfl, h2⟩ := all_pl fun d hd => h d (List.mem_cons_of_mem _ hd)
    exact ⟨p :: ar, rfl, fun q hq => (List.mem_cons.mp hq).elim (fun e => by rw [e]; exact h1) (h2 q)⟩
theorem idx_ar {ar : List (Int × List Int)} {i : Nat} {p : Int × List Int} (h : ar[i]? = some p) : idxS (arD ar) (.int (i : Nat)) = some (plD p) := atI_map h
theorem renamed_ok (Δ : Tb) [A0 Δ] (k : Nat) (ar : List (Int × List Int)) (od : List Int) (n : Int) (hn : n ≤ 1000) (hl : (ar.length : Int) = n) (hg : ∀ p ∈ ar, GoodP n p) (hol : (od.length : Int) = n) (ho : ∀ x, x ∈ od ↔ 0 ≤ x ∧ x < n) :
    Ev (callN Δ (k + 1) 11 [.fz (arD ar), .ow true (LI od)]) fun z => ∃ ar', z = (.v (arD ar'), [.fz (arD ar), .ow true (LI od)]) ∧ (ar'.length : Int) = n ∧ ∀ p ∈ ar', GoodP n p := by
  rw [fn11]
  generalize callN Δ k = cl
  refine enter ⟨rfl, rfl⟩ ?_
  show Ev (evSs cl b11 [.fz (arD ar), .ow true (LI od), .un, .un, .un]) _
  apply c_nx
  · have h2 := rep_one (d := .non) (n := ar.length) (by omega)
    refine s_set' (o := .nw (.lst (List.replicate ar.length D.non))) (env1 := [.fz (arD ar), .ow true (LI od), .un, .un, .un]) ?_ (by simp [stO, putS]; rfl)
    simp -implicitDefEqProofs [evE, evBs, evDs, evB, frz_v, frz_nw, rd, rds, arD, bl_len_t, esc, sizeLine, h2]
  apply c_ev
  refine s_fo (items := (List.range ar.length).map fun k => .int (k : Nat)) (lk := []) (env1 := [.fz (arD ar), .ow true (LI od), .ow false (.lst (List.replicate ar.length D.non)), .un, .un]) ?_ ?_
  · simp -implicitDefEqProofs [evI, evB, evE, evBs, frz_v, frz_p, rd, rds, arD, bl_len_t, intD, rngS_ok (show 0 ≤ (ar.length : Int) ∧ (ar.length : Int) < 2 ^ 62 by omega)]
  refine fo_ind (fun i e => ∃ (pl : List D) (s1 : Sl), fr s1 = true ∧ pl.length = ar.length ∧ (∀ j x, j < i → od[j]? = some x → ∃ p, GoodP n p ∧ pl[x.toNat]? = some (plD p)) ∧ e = [.fz (arD ar), .ow true (LI od), .ow false (.lst pl), s1, .un]) ?_ ?_ ⟨_, .un, rfl, List.length_replicate, fun j x h => absurd h (Nat.not_lt_zero _), rfl⟩
  · rintro i hi e ⟨pl, s1, f1, hpl, hin, rfl⟩
    simp only [List.length_map, List.length_range] at hi
    obtain ⟨p, hp⟩ : ∃ p, ar[i]? = some p := ⟨_, List.getElem?_eq_getElem hi⟩
    have hgp := hg p (List.mem_of_getElem? hp)
    have ip := idx_ar hp
    obtain ⟨x, hx⟩ : ∃ x, od[i]? = some x := ⟨_, List.getElem?_eq_getElem (by omega)⟩
    have ix : idxS (LI od) (.int (i : Nat)) = some (.int x) := atI_map hx
    have hxb := (ho x).mp (List.mem_of_getElem? hx)
    have in1 : L2.ixN pl.length x = some x.toNat := ixN_int hxb.1 (by omega)
    refine ev_of (a := [.fz (arD ar), .ow true (LI od), .ow false (.lst pl), .fz (.int (i : Nat)), .un]) ?_ ?_
    · simp [T.put, putS_at, f1]
    have i1 : idxS (plD p) (.int 0) = some (.int p.1) := rfl
    have i2 : idxS (plD p) (.int 1) = some (.tup (p.2.map .int)) := rfl
    have hlc := e_lc (cl := cl) (vs := [4]) (el := .idx (.nm 1) (.nm 4)) (t := .nm 4) (it := .seq (.idx (.idx (.nm 0) (.nm 3)) (.lit (.int 1)))) (c := .no)
      (env := [.fz (arD ar), .ow true (LI od), .ow false (.lst pl), .fz (.int (i : Nat)), .un]) (env1 := [.fz (arD ar), .ow true (LI od), .ow false (.lst pl), .fz (.int (i : Nat)), .un]) (items := p.2.map .int) (lk := [])
      (Q := fun outs e => ∃ (rs : List Int), outs = rs.map .int ∧ e = [.fz (arD ar), .ow true (LI od), .ow false (.lst pl), .fz (.int (i : Nat)), .un] ∧ rs.length = p.2.length ∧ ∀ x ∈ rs, 0 ≤ x ∧ x < n) ?_ rfl ?_
    · obtain ⟨outs, env', h3, rs, rfl, rfl, h4, h5⟩ := hlc
      have h6 := e_blt1 (e_blt1 h3 rfl bl_sorted) rfl bl_tup_l
      apply c_nx
      · have h7 : evE cl (.idx (.idx (.nm 0) (.nm 3)) (.lit (.int 0))) [.fz (arD ar), .ow true (LI od), .ow false (.lst pl), .fz (.int (i : Nat)), .un] = some (.v (.int p.1), [.fz (arD ar), .ow true (LI od), .ow false (.lst pl), .fz (.int (i : Nat)), .un]) := by
          simp -implicitDefEqProofs [evE, evB, frz_v, rd, ip, i1]
        have h8 : evE cl (.idx (.nm 1) (.nm 3)) [.fz (arD ar), .ow true (LI od), .ow false (.lst pl), .fz (.int (i : Nat)), .un] = some (.v (.int x), [.fz (arD ar), .ow true (LI od), .ow false (.lst pl), .fz (.int (i : Nat)), .un]) := by
          simp -implicitDefEqProofs only [evE, evB, frz_v, frz_p, rd, ix, List.getElem?_cons_succ, List.getElem?_cons_zero, bind, Option.bind_some, pure]
        exact s_put' (e_tup2 h7 rfl h6 rfl) rfl rfl h8 rfl rfl in1
      apply c_nil
      refine ⟨pl.set x.toNat (plD (p.1, rs.mergeSort fun a b => decide (a ≤ b))), .fz (.int (i : Nat)), rfl, by simpa using hpl, fun j y hj hy => ?_, rfl⟩
      have hperm := List.mergeSort_perm rs (fun a b => decide (a ≤ b))
      have hgq : GoodP n (p.1, rs.mergeSort fun a b => decide (a ≤ b)) := ⟨hgp.1, by show 0 < (rs.mergeSort fun a b => decide (a ≤ b)).length; rw [hperm.length_eq, h4]; exact hgp.2.1, by show (rs.mergeSort fun a b => decide (a ≤ b)).length ≤ 1000; rw [hperm.length_eq, h4]; exact hgp.2.2.1, fun z hz => h5 z (hperm.mem_iff.mp hz)⟩
      have hyb := (ho y).mp (List.mem_of_getElem? hy)
      by_cases hxy : x.toNat = y.toNat
      · rw [← hxy, List.getElem?_set_self (by omega)]
        exact ⟨_, hgq, rfl⟩
      · rw [List.getElem?_set_ne hxy]
        rcases Nat.lt_or_ge j i with hji | hji
        · exact hin j y hji hy
        · have : j = i := by omega
          subst this
          rw [hx] at hy
          cases hy
          exact absurd rfl hxy
    · simp -implicitDefEqProofs [evI, evB, evE, frz_v, rd, ip, i2, itemsOf, lockS]
    · refine lc_ind (fun m acc e => ∃ (rs : List Int), acc = rs.map .int ∧ e = [.fz (arD ar), .ow true (LI od), .ow false (.lst pl), .fz (.int (i : Nat)), .un] ∧ rs.length = m ∧ ∀ x ∈ rs, 0 ≤ x ∧ x < n) ?_ ?_ ⟨[], rfl, rfl, rfl, fun x h => nomatch h⟩
      · rintro m hm acc e ⟨rs, rfl, rfl, hr, hb⟩
        have hm' : m < p.2.length := by simpa using hm
        simp only [List.getElem_map]
        have hy := hgp.2.2.2 _ (List.getElem_mem hm')
        generalize p.2[m] = y at hy
        refine ev_of (a := [.fz (arD ar), .ow true (LI od), .ow false (.lst pl), .fz (.int (i : Nat)), .fz (.int y)]) ?_ ?_
        · simp [T.put, putS]
        refine ev_of (a := (true, [.fz (arD ar), .ow true (LI od), .ow false (.lst pl), .fz (.int (i : Nat)), .fz (.int y)])) ?_ ?_
        · simp [evOC]
        rw [if_pos rfl]
        have iy := idx_ints (l := od) hy.1 (by omega)
        have hz := (ho (od.getD y.toNat 0)).mp (List.mem_of_getElem? (getD_get (show y.toNat < od.length by omega)))
        refine ev_of (a := (.int (od.getD y.toNat 0), [.fz (arD ar), .ow true (LI od), .ow false (.lst pl), .fz (.int (i : Nat)), .fz (.int y)])) ?_ ?_
        · simp -implicitDefEqProofs only [evE, evB, frz_v, frz_p, rd, iy, esc, List.getElem?_cons_succ, List.getElem?_cons_zero, bind, Option.bind_some, pure]
        · refine ⟨rs ++ [od.getD y.toNat 0], by simp, by simp [wipeE], by simp [hr], fun z hz' => ?_⟩
          rcases List.mem_append.mp hz' with h | h
          · exact hb z h
          · simp only [List.mem_singleton] at h
            rw [h]
            exact hz
      · rintro acc e ⟨rs, rfl, rfl, hr, hb⟩
        simp only [List.length_map] at hr
        refine ⟨?_, rs, rfl, by simp [restE, unlock], hr, hb⟩
        have : sizeLine = 16777216 := rfl
        have := hgp.2.2.1
        simp; omega
  · rintro e ⟨pl, s1, f1, hpl, hin, rfl⟩
    simp only [List.length_map, List.length_range] at hin
    have hall : ∀ d ∈ pl, ∃ p, GoodP n p ∧ d = plD p := fun d hd => by
      obtain ⟨q, hq, rfl⟩ := List.mem_iff_getElem.mp hd
      obtain ⟨j, hj⟩ := List.mem_iff_getElem?.mp ((ho (q : Int)).mpr (by omega))
      have hjl : j < od.length := (List.getElem?_eq_some_iff.mp hj).1
      obtain ⟨p, h1, h2⟩ := hin j q (by omega) hj
      rw [show ((q : Int)).toNat = q from by omega, List.getElem?_eq_getElem hq] at h2
      exact ⟨p, h1, by simpa using h2⟩
    obtain ⟨ar', rfl, h2⟩ := all_pl hall
    show Ev (evSs cl _ _) _
    apply c_rt
    · simp -implicitDefEqProofs [evS, evE, evBs, evB, frz_p, rd, rds, unlock, bl_tup_l, retO]
      exact ⟨rfl, rfl⟩
    · refine ⟨_, rfl, ar', by simp [finA, arD], ?_, h2⟩
      rw [← hl, ← hpl]; simp
def oD : Option Int → D
  | none => .non
  | some i => .int i
theorem same_flat (Δ : Tb) [A0 Δ] (k : Nat) (x : Option Int) : callN Δ (k + 1) 7 [.fz (oD x), .fz (oD x)] = some (.v (.bl true), [.fz (oD x), .fz (oD x)]) := by
  suffices h : Ev (callN Δ (k + 1) 7 [.fz (oD x), .fz (oD x)]) fun z => z = (.v (.bl true), [.fz (oD x), .fz (oD x)]) by
    obtain ⟨z, h, rfl⟩ := h
    exact h
  rw [fn7]
  generalize callN Δ k = cl
  refine enter ⟨rfl, rfl⟩ ?_
  show Ev (evSs cl b7 [.fz (oD x), .fz (oD x), .un]) _
  have eqn : cmpS .Eq .non .non = some true := by simp [cmpS, okD_non, deq_non]
  cases x with
  | none =>
    apply c_nx
    · simp -implicitDefEqProofs [evS, evSs, evC, evE, evB, frz_v, rd, oD, Ty.has, blD]
      rfl
    apply c_nx
    · simp -implicitDefEqProofs [evS, evSs, evC, evCor, evE, evB, frz_v, rd, Ty.has, blD, ne_bl]
      rfl
    apply c_nx
    · simp -implicitDefEqProofs [evS, evSs, evC, evCor, evE, evB, frz_v, rd, Ty.has, blD, ne_bl, is_non, isNon]
      rfl
    apply c_rt
    · simp -implicitDefEqProofs [evS, evE, evB, frz_v, rd, eqn, retO]
      exact ⟨rfl, rfl⟩
    · exact ⟨_, rfl, rfl⟩
  | some i =>
    apply c_nx
    · simp -implicitDefEqProofs [evS, evSs, evC, evE, evB, frz_v, rd, oD, Ty.has, blD]
      rfl
    apply c_nx
    · simp -implicitDefEqProofs [evS, evSs, evC, evCor, evE, evB, frz_v, rd, Ty.has, blD, ne_bl]
      rfl
    apply c_nx
    · simp -implicitDefEqProofs [evS, evSs, evC, evCor, evE, evB, frz_v, rd, Ty.has, blD, ne_bl, is_non, isNon]
      rfl
    apply c_rt
    · simp -implicitDefEqProofs [evS, evE, evB, frz_v, rd, eq_int, retO]
      exact ⟨rfl, rfl⟩
    · exact ⟨_, rfl, rfl⟩
theorem notin_trues {α : Type} (l : List α) : cmpS .NotIn (.bl false) (.lst (l.map fun _ => D.bl true)) = some true := by
  have h1 : okD (.lst (l.map fun _ => D.bl true)) = true := okD_of (by simp only [lay]; exact lays_map (fun _ => rfl) l) (by simp only [dep]; have := deps_map (f := fun _ : α => D.bl true) (n := 0) (fun _ => Nat.le_refl _) l; omega)
  simp only [cmpS, inS, okD_bl, h1, Bool.and_self, if_true, Option.map_some]
  congr 1
  rw [List.any_map]
  simp [deq_bl]
theorem same_tup (Δ : Tb) [A0 Δ] (k : Nat) (xs : List (Option Int)) (hx : xs.length ≤ 1000) : callN Δ (k + 2) 7 [.fz (.tup (xs.map oD)), .fz (.tup (xs.map oD))] = some (.v (.bl true), [.fz (.tup (xs.map oD)), .fz (.tup (xs.map oD))]) := by
  suffices h : Ev (callN Δ (k + 2) 7 [.fz (.tup (xs.map oD)), .fz (.tup (xs.map oD))]) fun z => z = (.v (.bl true), [.fz (.tup (xs.map oD)), .fz (.tup (xs.map oD))]) by
    obtain ⟨z, h, rfl⟩ := h
    exact h
  rw [fn7]
  have hs := same_flat Δ k
  generalize callN Δ (k + 1) = cl at hs
  refine enter ⟨rfl, rfl⟩ ?_
  show Ev (evSs cl b7 [.fz (.tup (xs.map oD)), .fz (.tup (xs.map oD)), .un]) _
  have hlc := e_lc (cl := cl) (vs := [2]) (el := .call 7 (.cons (.idx (.nm 0) (.nm 2)) (.cons (.idx (.nm 1) (.nm 2)) .nil))) (t := .nm 2) (it := .rng1 (.blt .len (.cons (.nm 1) .nil))) (c := .no)
    (env := [.fz (.tup (xs.map oD)), .fz (.tup (xs.map oD)), .un]) (env1 := [.fz (.tup (xs.map oD)), .fz (.tup (xs.map oD)), .un]) (items := (List.range xs.length).map fun k => .int (k : Nat)) (lk := [])
    (Q := fun outs e => outs = (List.range xs.length).map (fun _ => D.bl true) ∧ e = [.fz (.tup (xs.map oD)), .fz (.tup (xs.map oD)), .un]) ?_ rfl ?_
  · obtain ⟨outs, env', h1, rfl, rfl⟩ := hlc
    have h2 : evE cl (.cmp .NotIn (.lit (.bl false)) (.lc [2] (.call 7 (.cons (.idx (.nm 0) (.nm 2)) (.cons (.idx (.nm 1) (.nm 2)) .nil))) (.nm 2) (.rng1 (.blt .len (.cons (.nm 1) .nil))) .no)) [.fz (.tup (xs.map oD)), .fz (.tup (xs.map oD)), .un] = some (.v (.bl true), [.fz (.tup (xs.map oD)), .fz (.tup (xs.map oD)), .un]) := by
      conv => lhs; unfold evE
      have h3 : evB cl (.lit (.bl false)) [.fz (.tup (xs.map oD)), .fz (.tup (xs.map oD)), .un] = some (.v (.bl false), [.fz (.tup (xs.map oD)), .fz (.tup (xs.map oD)), .un]) := by simp [evB, evE, frz_v]
      have h4 : ∀ e, evB cl e [.fz (.tup (xs.map oD)), .fz (.tup (xs.map oD)), .un] = (evE cl e [.fz (.tup (xs.map oD)), .fz (.tup (xs.map oD)), .un]).bind fun z => some (z.1.frz, z.2) := fun e => by unfold evB; rfl
      simp -implicitDefEqProofs only [h3, h4, h1, bind, Option.bind_some, pure, frz_nw, rd, notin_trues]
    apply c_ev
    refine s_ifs (k := true) (env1 := [.fz (.tup (xs.map oD)), .fz (.tup (xs.map oD)), .un]) ?_ (fun _ => ?_) (fun h => by cases h)
    · simp -implicitDefEqProofs [evC, evE, evB, frz_v, rd, Ty.has, blD]
    apply c_nx
    · simp -implicitDefEqProofs [evS, evSs, evC, evCor, evE, evB, frz_v, rd, Ty.has, blD, ne_bl]
      rfl
    apply c_nx
    · simp -implicitDefEqProofs [evS, evSs, evC, evE, evBs, evB, frz_v, rd, rds, bl_len_t, ne_int]
      rfl
    apply c_rt
    · exact s_ret' h2 rfl
    · exact ⟨_, rfl, rfl⟩
  · simp -implicitDefEqProofs [evI, evB, evE, evBs, frz_v, rd, rds, bl_len_t, intD, rngS_ok (show 0 ≤ (xs.length : Int) ∧ (xs.length : Int) < 2 ^ 62 by omega)]
  · refine ev_of (a := ((List.range xs.length).map (fun _ => D.bl true), [.fz (.tup (xs.map oD)), .fz (.tup (xs.map oD)), .un])) ?_ ⟨by have : sizeLine = 16777216 := rfl; simp; omega, rfl, by simp [restE, unlock]⟩
    have hw : wipeE [Sl.fz (.tup (xs.map oD)), .fz (.tup (xs.map oD)), .un] [2] = [.fz (.tup (xs.map oD)), .fz (.tup (xs.map oD)), .un] := by simp [wipeE]
    rw [hw]
    refine lc_map fun j hj => ?_
    obtain ⟨x, hxj⟩ : ∃ x, xs[j]? = some x := ⟨_, List.getElem?_eq_getElem (by simpa using hj)⟩
    have ij : idxS (.tup (xs.map oD)) (.int (j : Nat)) = some (oD x) := atI_map hxj
    refine ⟨[.fz (.tup (xs.map oD)), .fz (.tup (xs.map oD)), .fz (.int (j : Nat))], [.fz (.tup (xs.map oD)), .fz (.tup (xs.map oD)), .fz (.int (j : Nat))], [.fz (.tup (xs.map oD)), .fz (.tup (xs.map oD)), .fz (.int (j : Nat))], ?_, ?_, ?_, ?_⟩
    · simp [T.put, putS]
    · simp [evOC]
    · simp -implicitDefEqProofs [evE, evBs, evB, frz_v, rd, ij, toArgs, toArg, lent, hs, backArgs, esc]
    · simp [wipeE]
theorem len_ins (x : Int) : ∀ l : List Int, (VIS.insU x l).length ≤ l.length + 1
  | [] => by simp [VIS.insU]
  | y :: r => by
    unfold VIS.insU
    split
    · simp
    · split
      · simp
      · have := len_ins x r; simp; omega
theorem len_srt : ∀ l : List Int, (VIS.srtU l).length ≤ l.length
  | [] => by simp [VIS.srtU]
  | x :: l => by have := len_srt l; have := len_ins x (VIS.srtU l); simp only [VIS.srtU, List.length_cons]; omega
theorem add_lst {xs ys : List D} (h : xs.length + ys.length ≤ 16777216) : binS .Add (.lst xs) (.lst ys) = some (.nw (.lst (xs ++ ys))) := by
  simp only [binS]
  rw [if_pos (show xs.length + ys.length ≤ sizeLine from h)]
theorem row_ok (Δ : Tb) [A0 Δ] (k : Nat) (ds : List Int) (n sd : Int) (hn : 0 < n ∧ n ≤ 1000) :
    Ev (callN Δ (k + 2) 12 [.ow true (LI ds), .fz (.int n), .fz (.int sd)]) fun z => ∃ (ar : List (Int × List Int)) (ds' : List Int), z = (.v (arD ar), [.ow true (LI ds'), .fz (.int n), .fz (.int sd)]) ∧ (ar.length : Int) = n ∧ ∀ p ∈ ar, GoodP n p := by
  rw [fn12]
  have hk := takeOk Δ k
  generalize callN Δ (k + 1) = cl at hk
  refine enter ⟨rfl, rfl⟩ ?_
  show Ev (evSs cl b12 [.ow true (LI ds), .fz (.int n), .fz (.int sd), .un, .un, .un, .un, .un]) _
  apply c_nx
  · simp -implicitDefEqProofs [evS, evE, evDs, stO, putS]
    rfl
  apply c_ev
  refine s_fo (items := (List.range (n - 1).toNat).map fun k => .int (k : Nat)) (lk := []) (env1 := [.ow true (LI ds), .fz (.int n), .fz (.int sd), .ow false (.lst []), .un, .un, .un, .un]) ?_ ?_
  · simp -implicitDefEqProofs [evI, evB, evE, frz_v, rd, sub_i, intD, rngS_ok (show 0 ≤ n - 1 ∧ n - 1 < 2 ^ 62 by omega)]
  refine fo_ind (fun i e => ∃ (ds : List Int) (ar : List (Int × List Int)) (s1 s2 s3 s4 : Sl), fr s1 = true ∧ fr s2 = true ∧ fr s3 = true ∧ fr s4 = true ∧ ar.length = i ∧ (∀ p ∈ ar, GoodP n p) ∧ e = [.ow true (LI ds), .fz (.int n), .fz (.int sd), .ow false (.lst (ar.map plD)), s1, s2, s3, s4]) ?_ ?_ ⟨ds, [], .un, .un, .un, .un, rfl, rfl, rfl, rfl, rfl, (fun p h => nomatch h), rfl⟩
  · rintro i hi e ⟨ds, ar, s1, s2, s3, s4, f1, f2, f3, f4, hl, hg, rfl⟩
    simp only [List.length_map, List.length_range] at hi
    refine ev_of (a := [.ow true (LI ds), .fz (.int n), .fz (.int sd), .ow false (.lst (ar.map plD)), .fz (.int (i : Nat)), s2, s3, s4]) ?_ ?_
    · simp [T.put, putS_at, f1]
    obtain ⟨ow, ds1, h1, h2, h3⟩ := hk ds 2 (by omega)
    apply c_nx
    · simp -implicitDefEqProofs [evS, evE, evBs, evB, frz_v, frz_p, toArgs, toArg, lent, h1, backArgs, stO, putS_at, f2]
      rfl
    obtain ⟨c, ds2, h4, h5, h6⟩ := hk ds1 5 (by omega)
    obtain ⟨b, hb, hb0, hb1⟩ : ∃ b : Int, (if ow = sd then (1 : Int) else 0) = b ∧ 0 ≤ b ∧ b ≤ 1 := by
      refine ⟨_, rfl, ?_, ?_⟩ <;> split <;> omega
    have hq0 : 0 ≤ c * b := Int.mul_nonneg h5 hb0
    have hq1 : c * b ≤ 4 := by
      have : b = 0 ∨ b = 1 := by omega
      rcases this with rfl | rfl <;> omega
    have hm : binS .Mult (.int c) (.int b) = some (.v (.int (c * b))) := mul_l (by omega)
    generalize c * b = q at hq0 hq1 hm
    have hlc := e_lc (cl := cl) (vs := [7]) (el := .call 5 (.cons (.nm 0) (.cons (.bin .Add (.nm 4) (.lit (.int 1))) .nil))) (t := .nm 7) (it := .rng1 (.bin .Mult (.call 5 (.cons (.nm 0) (.cons (.lit (.int 5)) .nil))) (.blt .int (.cons (.cmp .Eq (.nm 5) (.nm 2)) .nil)))) (c := .no)
      (env := [.ow true (LI ds1), .fz (.int n), .fz (.int sd), .ow false (.lst (ar.map plD)), .fz (.int (i : Nat)), .fz (.int ow), s3, s4]) (env1 := [.ow true (LI ds2), .fz (.int n), .fz (.int sd), .ow false (.lst (ar.map plD)), .fz (.int (i : Nat)), .fz (.int ow), s3, s4]) (items := (List.range q.toNat).map fun k => .int (k : Nat)) (lk := [])
      (Q := fun outs e => ∃ (bk ds' : List Int), outs = bk.map .int ∧ e = [.ow true (LI ds'), .fz (.int n), .fz (.int sd), .ow false (.lst (ar.map plD)), .fz (.int (i : Nat)), .fz (.int ow), s3, s4] ∧ bk.length ≤ 4 ∧ ∀ x ∈ bk, 0 ≤ x ∧ x < n) ?_ rfl ?_
    · obtain ⟨outs, env', h7, bk, ds3, rfl, rfl, h8, h9⟩ := hlc
      apply c_nx
      · exact s_set' h7 (env2 := [.ow true (LI ds3), .fz (.int n), .fz (.int sd), .ow false (.lst (ar.map plD)), .fz (.int (i : Nat)), .fz (.int ow), .ow false (LI bk), s4]) (by simp [stO, putS_at, f3])
      have hadd : binS .Add (LI bk) (.lst [.int ((i : Int) + 1)]) = some (.nw (LI (bk ++ [(i : Int) + 1]))) := by
        rw [add_lst (by simp; omega)]; simp
      have e1 : evE cl (.bin .Add (.nm 6) (.lst (.cons (.bin .Add (.nm 4) (.lit (.int 1))) .nil))) [.ow true (LI ds3), .fz (.int n), .fz (.int sd), .ow false (.lst (ar.map plD)), .fz (.int (i : Nat)), .fz (.int ow), .ow false (LI bk), s4] = some (.nw (LI (bk ++ [(i : Int) + 1])), [.ow true (LI ds3), .fz (.int n), .fz (.int sd), .ow false (.lst (ar.map plD)), .fz (.int (i : Nat)), .fz (.int ow), .ow false (LI bk), s4]) := by
        simp -implicitDefEqProofs [evE, evB, evDs, frz_p, frz_v, frz_nw, rd, add_i, esc, sizeLine, hadd]
      have e2 := e_blt1 (e_srt e1 rfl (by simp; omega)) rfl bl_tup_l
      have e3 : evE cl (.nm 5) [.ow true (LI ds3), .fz (.int n), .fz (.int sd), .ow false (.lst (ar.map plD)), .fz (.int (i : Nat)), .fz (.int ow), .ow false (LI bk), s4] = some (.v (.int ow), [.ow true (LI ds3), .fz (.int n), .fz (.int sd), .ow false (.lst (ar.map plD)), .fz (.int (i : Nat)), .fz (.int ow), .ow false (LI bk), s4]) := by
        simp [evE]
      apply c_nx
      · exact s_app rfl (e_tup2 e3 rfl e2 rfl) rfl rfl (by have : sizeLine = 16777216 := rfl; simp; omega)
      apply c_nil
      refine ⟨ds3, ar ++ [(ow, VIS.srtU (bk ++ [(i : Int) + 1]))], _, _, _, s4, rfl, rfl, rfl, f4, by simp [hl], fun p hp => ?_, by simp [plD]; exact ⟨rfl, rfl, rfl⟩⟩
      rcases List.mem_append.mp hp with hp | hp
      · exact hg p hp
      · simp only [List.mem_singleton] at hp
        subst hp
        have hmem : (i : Int) + 1 ∈ VIS.srtU (bk ++ [(i : Int) + 1]) := VIS.mem_srtU.mpr (by simp)
        have hle := len_srt (bk ++ [(i : Int) + 1])
        simp only [List.length_append, List.length_cons, List.length_nil] at hle
        refine ⟨by show ow = 0 ∨ ow = 1; omega, List.length_pos_of_mem hmem, by show (VIS.srtU _).length ≤ 1000; omega, fun x hx => ?_⟩
        have hx := VIS.mem_srtU.mp hx
        rcases List.mem_append.mp hx with hx | hx
        · exact h9 x hx
        · simp at hx; omega
    · simp -implicitDefEqProofs [evI, evB, evE, evBs, frz_v, frz_p, rd, rds, toArgs, toArg, lent, h4, backArgs, eq_int, bl_intb, intD, hb, hm, rngS_ok (show 0 ≤ q ∧ q < 2 ^ 62 by omega)]
    · refine lc_ind (fun m acc e => ∃ (bk ds' : List Int), acc = bk.map .int ∧ e = [.ow true (LI ds'), .fz (.int n), .fz (.int sd), .ow false (.lst (ar.map plD)), .fz (.int (i : Nat)), .fz (.int ow), s3, .un] ∧ bk.length = m ∧ ∀ x ∈ bk, 0 ≤ x ∧ x < n) ?_ ?_ ⟨[], ds2, rfl, by simp [wipeE], rfl, fun x h => nomatch h⟩
      · rintro m hm acc e ⟨bk, ds, rfl, rfl, hr, hb⟩
        refine ev_of (a := [.ow true (LI ds), .fz (.int n), .fz (.int sd), .ow false (.lst (ar.map plD)), .fz (.int (i : Nat)), .fz (.int ow), s3, .fz (.int (m : Nat))]) ?_ ?_
        · simp [T.put, putS]
        refine ev_of (a := (true, [.ow true (LI ds), .fz (.int n), .fz (.int sd), .ow false (.lst (ar.map plD)), .fz (.int (i : Nat)), .fz (.int ow), s3, .fz (.int (m : Nat))])) ?_ ?_
        · simp [evOC]
        rw [if_pos rfl]
        obtain ⟨r, ds3, g1, g2, g3⟩ := hk ds ((i : Int) + 1) (by omega)
        refine ev_of (a := (.int r, [.ow true (LI ds3), .fz (.int n), .fz (.int sd), .ow false (.lst (ar.map plD)), .fz (.int (i : Nat)), .fz (.int ow), s3, .fz (.int (m : Nat))])) ?_ ?_
        · simp -implicitDefEqProofs [evE, evBs, evB, frz_v, frz_p, rd, add_i, toArgs, toArg, lent, g1, backArgs, esc]
        · refine ⟨bk ++ [r], ds3, by simp, by simp [wipeE], by simp [hr], fun x hx => ?_⟩
          rcases List.mem_append.mp hx with h | h
          · exact hb x h
          · simp at h; subst h; omega
      · rintro acc e ⟨bk, ds, rfl, rfl, hr, hb⟩
        simp only [List.length_map, List.length_range] at hr
        exact ⟨by have : sizeLine = 16777216 := rfl; simp; omega, bk, ds, rfl, by simp [restE, unlock], by omega, hb⟩
  · rintro e ⟨ds, ar, s1, s2, s3, s4, f1, f2, f3, f4, hl, hg, rfl⟩
    simp only [List.length_map, List.length_range] at hl
    obtain ⟨ow, ds1, h1, h2, h3⟩ := hk ds 2 (by omega)
    show Ev (evSs cl _ _) _
    have ha : binS .Add (.lst (ar.map plD)) (.lst [plD (ow, [n - 1])]) = some (.nw (.lst ((ar ++ [(ow, [n - 1])]).map plD))) := by
      rw [add_lst (by simp; omega)]; simp
    apply c_rt
    · have ha' : binS .Add (.lst (ar.map plD)) (.lst [.tup [.int ow, .tup [.int (n - 1)]]]) = some (.nw (.lst ((ar ++ [(ow, [n - 1])]).map plD))) := ha
      simp -implicitDefEqProofs [evS, evE, evBs, evDs, evB, frz_p, frz_v, frz_nw, rd, rds, unlock, sub_i, toArgs, toArg, lent, h1, backArgs, esc, sizeLine, ha', bl_tup_l, retO]
      exact ⟨rfl, rfl⟩
    · refine ⟨_, rfl, ar ++ [(ow, [n - 1])], ds1, by simp [finA, arD], by simp; omega, fun p hp => ?_⟩
      rcases List.mem_append.mp hp with hp | hp
      · exact hg p hp
      · simp at hp
        subst hp
        exact ⟨by show ow = 0 ∨ ow = 1; omega, by simp, by simp, fun x hx => by simp at hx; omega⟩
/-! the costs, purely -/
abbrev Cs := List (Option Int)
/-- what a move costs, if its goal's cost is known -/
def beh (cs : Cs) (mw : Int × Int) : Option Int := (cs.getD mw.1.toNat none).map (mw.2 + ·)
/-- the cost of a place by the costs of its moves -/
def nc (sd ow : Int) (l : Cs) : Option Int :=
  if ow = sd then (if (l.filterMap id).length = 0 then none else some (minL (l.filterMap id))) else if (l.filterMap id).length = l.length then some (maxL (l.filterMap id)) else none
theorem filt_oD : ∀ l : Cs, (l.filter fun x => x.isSome).map oD = (l.filterMap id).map D.int
  | [] => rfl
  | none :: l => by simpa using filt_oD l
  | some x :: l => by simpa [oD] using filt_oD l
theorem filt_all : ∀ {l : Cs}, (l.filterMap id).length = l.length → l.map oD = (l.filterMap id).map D.int
  | [], _ => rfl
  | none :: l, h => by
    have := List.length_filterMap_le id l
    simp at h; omega
  | some x :: l, h => by
    have h' : (l.filterMap id).length = l.length := Nat.succ.inj h
    have := filt_all h'
    simp only [List.map_cons, this]
    rfl
theorem isNon_oD (x : Option Int) : isNon (oD x) = !x.isSome := by cases x <;> rfl
theorem next_ok (Δ : Tb) [A0 Δ] (k : Nat) (sd ow : Int) (l : Cs) (hl : 0 < l.length ∧ l.length ≤ 1000) :
    callN Δ (k + 1) 1 [.fz (.int sd), .fz (.int ow), .fz (.lst (l.map oD))] = some (.v (oD (nc sd ow l)), [.fz (.int sd), .fz (.int ow), .fz (.lst (l.map oD))]) := by
  suffices h : Ev (callN Δ (k + 1) 1 [.fz (.int sd), .fz (.int ow), .fz (.lst (l.map oD))]) fun z => z = (.v (oD (nc sd ow l)), [.fz (.int sd), .fz (.int ow), .fz (.lst (l.map oD))]) by
    obtain ⟨z, h, rfl⟩ := h
    exact h
  rw [fn1]
  generalize callN Δ k = cl
  refine enter ⟨rfl, rfl⟩ ?_
  show Ev (evSs cl b1 [.fz (.int sd), .fz (.int ow), .fz (.lst (l.map oD)), .un, .un]) _
  have hle := List.length_filterMap_le id l
  have hlc := e_lc (cl := cl) (vs := [4]) (el := .nm 4) (t := .nm 4) (it := .seq (.nm 2)) (c := .so (.cmp .IsNot (.nm 4) (.lit .non)))
    (env := [.fz (.int sd), .fz (.int ow), .fz (.lst (l.map oD)), .un, .un]) (env1 := [.fz (.int sd), .fz (.int ow), .fz (.lst (l.map oD)), .un, .un]) (items := l.map oD) (lk := [])
    (Q := fun outs e => outs = (l.filterMap id).map D.int ∧ e = [.fz (.int sd), .fz (.int ow), .fz (.lst (l.map oD)), .un, .un]) ?_ rfl ?_
  · obtain ⟨outs, env', h1, rfl, rfl⟩ := hlc
    generalize hth : l.filterMap id = th at *
    apply c_nx
    · exact s_set' h1 (env2 := [.fz (.int sd), .fz (.int ow), .fz (.lst (l.map oD)), .ow false (LI th), .un]) rfl
    apply c_ev
    refine s_ifs (k := (ow == sd)) (env1 := [.fz (.int sd), .fz (.int ow), .fz (.lst (l.map oD)), .ow false (LI th), .un]) ?_ (fun hk => ?_) (fun hk => ?_)
    · simp -implicitDefEqProofs [evC, evE, evB, frz_v, rd, eq_int]
    · apply c_rt
      · simp -implicitDefEqProofs [evS, evE, evB, frz_v, frz_p, rd, flatD, intsD_map, retO]
        exact ⟨rfl, rfl⟩
      · refine ⟨_, rfl, ?_⟩
        have hk : ow = sd := by simpa using hk
        simp only [nc, hth, hk, if_true]
        by_cases h0 : th.length = 0
        · have : th = [] := List.length_eq_zero_iff.mp h0
          subst this
          simp [oD, finA]
        · have : th ≠ [] := fun z => h0 (by rw [z]; rfl)
          simp [oD, finA, this]
    · apply c_nil
      have hk : ¬ ow = sd := by simpa using hk
      by_cases h0 : th.length = l.length
      · have hall : l.map oD = th.map D.int := by rw [← hth]; exact filt_all (by rw [hth]; exact h0)
        have hmx : bltS .max [.lst (l.map oD)] = some (.v (.int (maxL th))) := by
          rw [hall]
          show (intsD (th.map .int)).bind _ = _
          rw [intsD_map]
          show (if 0 < th.length then _ else none) = _
          rw [if_pos (by omega)]
        apply c_rt
        · have hq : ((th.length : Int) == (l.length : Int)) = true := by simp [h0]
          simp -implicitDefEqProofs [evS, evC, evE, evBs, evB, frz_v, frz_p, rd, rds, bl_len_l, eq_int, hq, hmx, retO]
          exact ⟨rfl, rfl⟩
        · exact ⟨_, rfl, by simp [nc, hth, hk, h0, oD, finA]⟩
      · apply c_rt
        · have hq : ((th.length : Int) == (l.length : Int)) = false := by simp; omega
          simp -implicitDefEqProofs [evS, evC, evE, evBs, evB, frz_v, frz_p, rd, rds, bl_len_l, eq_int, hq, retO]
          exact ⟨rfl, rfl⟩
        · exact ⟨_, rfl, by simp [nc, hth, hk, h0, oD, finA]⟩
  · simp -implicitDefEqProofs [evI, evB, evE, frz_v, rd, itemsOf, lockS]
  · have hw : wipeE [Sl.fz (.int sd), .fz (.int ow), .fz (.lst (l.map oD)), .un, .un] [4] = [.fz (.int sd), .fz (.int ow), .fz (.lst (l.map oD)), .un, .un] := by simp [wipeE]
    rw [hw]
    refine ev_of (lc_filter (f := oD) (g := oD) (p := fun x => x.isSome) fun x hx => ?_) ⟨?_, filt_oD l, by simp [restE, unlock]⟩
    · refine ⟨[.fz (.int sd), .fz (.int ow), .fz (.lst (l.map oD)), .un, .fz (oD x)], [.fz (.int sd), .fz (.int ow), .fz (.lst (l.map oD)), .un, .fz (oD x)], by simp [T.put, putS], ?_, fun _ => ⟨[.fz (.int sd), .fz (.int ow), .fz (.lst (l.map oD)), .un, .fz (oD x)], ?_, by simp [wipeE]⟩, fun _ => by simp [wipeE]⟩
      · simp -implicitDefEqProofs [evOC, evC, evE, evB, frz_v, rd, isnot_non, isNon_oD]
      · simp -implicitDefEqProofs [evE, esc]
    · have : sizeLine = 16777216 := rfl
      show ((l.filter fun x => x.isSome).map oD).length ≤ sizeLine
      rw [filt_oD, List.length_map]
      omega
abbrev Ps := List (Option (Int × Int))
def pD : Option (Int × Int) → D
  | none => .non
  | some p => .tup [.int p.1, .int p.2]
theorem zip_ints : ∀ (a b : List Int), zipD (a.map .int) (b.map .int) = (a.zip b).map fun p => .tup [.int p.1, .int p.2]
  | [], _ => by simp [zipD]
  | _ :: _, [] => by simp [zipD]
  | x :: a, y :: b => by simp [zipD, zip_ints a b]
def behP (ps : Ps) (mw : Int × Int) : Option Int := (ps.getD mw.1.toNat none).map fun p => mw.2 + p.1
theorem idx_ps {ps : Ps} {m : Int} (h0 : 0 ≤ m) (h1 : m < ps.length) : idxS (.lst (ps.map pD)) (.int m) = some (pD (ps.getD m.toNat none)) := by
  have hl : m.toNat < ps.length := by omega
  obtain ⟨j, rfl⟩ : ∃ j : Nat, m = (j : Nat) := ⟨m.toNat, by omega⟩
  simp only [Int.toNat_natCast] at hl ⊢
  refine atI_map ?_
  rw [List.getD_eq_getElem?_getD, List.getElem?_eq_getElem hl]
  rfl
theorem isNon_pD (x : Option (Int × Int)) : isNon (pD x) = !x.isSome := by cases x <;> rfl
theorem behind_ok (Δ : Tb) [A0 Δ] (k : Nat) (ps : Ps) (mv row : List Int) (hm : ∀ m ∈ mv, 0 ≤ m ∧ m < ps.length) (hl : mv.length ≤ 1000) :
    callN Δ (k + 1) 0 [.ow true (.lst (ps.map pD)), .fz (tupI mv), .fz (tupI row)] = some (.nw (.lst (((mv.zip row).map (behP ps)).map oD)), [.ow true (.lst (ps.map pD)), .fz (tupI mv), .fz (tupI row)]) := by
  suffices h : Ev (callN Δ (k + 1) 0 [.ow true (.lst (ps.map pD)), .fz (tupI mv), .fz (tupI row)]) fun z => z = (.nw (.lst (((mv.zip row).map (behP ps)).map oD)), [.ow true (.lst (ps.map pD)), .fz (tupI mv), .fz (tupI row)]) by
    obtain ⟨z, h, rfl⟩ := h
    exact h
  rw [fn0]
  generalize callN Δ k = cl
  refine enter ⟨rfl, rfl⟩ ?_
  show Ev (evSs cl b0 [.ow true (.lst (ps.map pD)), .fz (tupI mv), .fz (tupI row), .un, .un]) _
  have hlc := e_lc (cl := cl) (vs := [3, 4]) (el := .ifx (.cmp .Is (.idx (.nm 0) (.nm 3)) (.lit .non)) (.lit .non) (.bin .Add (.nm 4) (.idx (.idx (.nm 0) (.nm 3)) (.lit (.int 0))))) (t := .tup (.cons (.nm 3) (.cons (.nm 4) .nil))) (it := .zip (.nm 1) (.nm 2)) (c := .no)
    (env := [.ow true (.lst (ps.map pD)), .fz (tupI mv), .fz (tupI row), .un, .un]) (env1 := [.ow true (.lst (ps.map pD)), .fz (tupI mv), .fz (tupI row), .un, .un]) (items := (mv.zip row).map fun p => .tup [.int p.1, .int p.2]) (lk := [])
    (Q := fun outs e => outs = ((mv.zip row).map (behP ps)).map oD ∧ e = [.ow true (.lst (ps.map pD)), .fz (tupI mv), .fz (tupI row), .un, .un]) ?_ rfl ?_
  · obtain ⟨outs, env', h1, rfl, rfl⟩ := hlc
    apply c_rt
    · exact s_ret' h1 rfl
    · exact ⟨_, rfl, by simp [finA]⟩
  · simp -implicitDefEqProofs [evI, evB, evE, frz_v, rd, tupI, zipS, zip_ints, lockS]
  · have hw : wipeE [Sl.ow true (.lst (ps.map pD)), .fz (tupI mv), .fz (tupI row), .un, .un] [3, 4] = [.ow true (.lst (ps.map pD)), .fz (tupI mv), .fz (tupI row), .un, .un] := by simp [wipeE]
    rw [hw]
    refine ev_of (lc_map (g := fun p => oD (behP ps p)) fun p hp => ?_) ⟨?_, by simp, by simp [restE, unlock]⟩
    · have hm1 := hm p.1 (List.of_mem_zip hp).1
      have ix := idx_ps hm1.1 hm1.2
      refine ⟨[.ow true (.lst (ps.map pD)), .fz (tupI mv), .fz (tupI row), .fz (.int p.1), .fz (.int p.2)], [.ow true (.lst (ps.map pD)), .fz (tupI mv), .fz (tupI row), .fz (.int p.1), .fz (.int p.2)], [.ow true (.lst (ps.map pD)), .fz (tupI mv), .fz (tupI row), .fz (.int p.1), .fz (.int p.2)], by simp [T.put, Ts.put, putS], by simp [evOC], ?_, by simp [wipeE]⟩
      unfold behP
      cases hx : ps.getD p.1.toNat none with
      | none =>
        rw [hx] at ix
        simp -implicitDefEqProofs [evE, evC, evB, frz_v, frz_p, rd, ix, pD, is_non, isNon, esc, oD]
      | some c =>
        rw [hx] at ix
        have i0 : idxS (pD (some c)) (.int 0) = some (.int c.1) := rfl
        have isn : isNon (pD (some c)) = false := rfl
        simp -implicitDefEqProofs [evE, evC, evB, frz_v, frz_p, rd, ix, i0, is_non, isn, add_i, esc, oD]
    · have : sizeLine = 16777216 := rfl
      have := List.length_zip (l₁ := mv) (l₂ := row)
      simp; omega
/-- the costs of the pairs -/
def csOf (ps : Ps) : Cs := ps.map fun x => x.map (·.1)
theorem behP_eq (ps : Ps) (mw : Int × Int) : behP ps mw = beh (csOf ps) mw := by
  unfold behP beh csOf
  rw [List.getD_eq_getElem?_getD, List.getD_eq_getElem?_getD, List.getElem?_map]
  cases ps[mw.1.toNat]? with
  | none => rfl
  | some x => cases x <;> rfl
/-- what place i may cost -/
def candAt (ar : List (Int × List Int)) (ws : List (List Int)) (sd : Int) (cs : Cs) (i : Nat) : Option Int :=
  if (cs.getD i none).isSome then none else nc sd (ar.getD i (0, [])).1 ((((ar.getD i (0, [])).2).zip (ws.getD i [])).map (beh cs))
/-- the leftmost of the least -/
def upd1 (b : Option (Int × Int)) (c : Option Int) (i : Int) : Option (Int × Int) :=
  match c with
  | none => b
  | some c => match b with
    | none => some (c, i)
    | some q => if c < q.1 then some (c, i) else b
def bestTo (ar : List (Int × List Int)) (ws : List (List Int)) (sd : Int) (cs : Cs) : Nat → Option (Int × Int)
  | 0 => none
  | i + 1 => upd1 (bestTo ar ws sd cs i) (candAt ar ws sd cs i) i
/-- all that may be taken, in order of place -/
def candsTo (ar : List (Int × List Int)) (ws : List (List Int)) (sd : Int) (cs : Cs) : Nat → List (Int × Int)
  | 0 => []
  | i + 1 => candsTo ar ws sd cs i ++ (match candAt ar ws sd cs i with | none => [] | some c => [(c, (i : Int))])
theorem cands_lt {ar ws sd cs} : ∀ {i : Nat} {p : Int × Int}, p ∈ candsTo ar ws sd cs i → p.2 < i
  | 0, p, h => nomatch h
  | i + 1, p, h => by
    unfold candsTo at h
    rcases List.mem_append.mp h with h | h
    · have := cands_lt h; omega
    · split at h
      · cases h
      · simp at h; subst h; show ((i : Nat) : Int) < _; omega
theorem minPr_uniq {l : List (Int × Int)} {m : Int × Int} (hm : m ∈ l) (h : ∀ y ∈ l, SrtO.lexB y m = false) : minPr l = m := by
  have hp : 0 < l.length := List.length_pos_of_mem hm
  have a := SrtO.lexB_no.mp (h _ (minPr_mem hp))
  have b := SrtO.lexB_no.mp (minPr_le hm)
  exact Prod.ext (by omega) (by omega)
theorem best_cands {ar ws sd cs} : ∀ i : Nat, bestTo ar ws sd cs i = if (candsTo ar ws sd cs i).length = 0 then none else some (minPr (candsTo ar ws sd cs i))
  | 0 => rfl
  | i + 1 => by
    have ih := best_cands (ar := ar) (ws := ws) (sd := sd) (cs := cs) i
    have hlt : ∀ p ∈ candsTo ar ws sd cs i, p.2 < i := fun p h => cands_lt h
    unfold bestTo candsTo
    generalize candsTo ar ws sd cs i = l at ih hlt
    rw [ih]
    cases candAt ar ws sd cs i with
    | none => simp [upd1]
    | some c =>
      by_cases h0 : l.length = 0
      · have : l = [] := List.length_eq_zero_iff.mp h0
        subst this
        simp [upd1, minPr]
      · have hp : 0 < l.length := by omega
        have hmem := minPr_mem hp
        have hm2 := hlt _ hmem
        simp only [h0, if_false, upd1, List.length_append, List.length_cons, List.length_nil]
        have e2 : ¬ (l.length + (0 + 1) = 0) := by omega
        simp only [e2, if_false]
        by_cases hc : c < (minPr l).1
        · rw [if_pos hc]
          congr 1
          refine (minPr_uniq (by simp) fun y hy => ?_).symm
          rcases List.mem_append.mp hy with hy | hy
          · have := SrtO.lexB_no.mp (minPr_le hy)
            exact SrtO.lexB_no.mpr (by simp only; omega)
          · simp at hy; subst hy
            exact SrtO.lexB_no.mpr (by omega)
        · rw [if_neg hc]
          congr 1
          refine (minPr_uniq (by simp [hmem]) fun y hy => ?_).symm
          rcases List.mem_append.mp hy with hy | hy
          · exact minPr_le hy
          · simp at hy; subst hy
            exact SrtO.lexB_no.mpr (by simp only; omega)
def wsD (ws : List (List Int)) : D := .tup (ws.map tupI)
def stepC (ar : List (Int × List Int)) (ws : List (List Int)) (sd : Int) (cs : Cs) : Cs :=
  match bestTo ar ws sd cs ar.length with
  | none => cs
  | some q => cs.set q.2.toNat (some q.1)
def iterC (ar : List (Int × List Int)) (ws : List (List Int)) (sd : Int) (cs : Cs) : Nat → Cs
  | 0 => cs
  | i + 1 => stepC ar ws sd (iterC ar ws sd cs i)
def startC (n : Nat) (tg : List Int) : Cs := (List.range n).map fun j : Nat => if (j : Int) ∈ tg then some 0 else none
def start (n : Nat) (tg : List Int) : Ps := (List.range n).map fun j : Nat => if (j : Int) ∈ tg then some (0, 0) else none
theorem start_cs (n : Nat) (tg : List Int) : csOf (start n tg) = startC n tg := by
  unfold csOf start startC
  rw [List.map_map]
  apply List.map_congr_left
  intro j _
  show Option.map _ (if (j : Int) ∈ tg then some (0, 0) else none) = _
  split <;> rfl
def step (ar : List (Int × List Int)) (ws : List (List Int)) (sd : Int) (rank : Int) (ps : Ps) : Ps :=
  match bestTo ar ws sd (csOf ps) ar.length with
  | none => ps
  | some q => ps.set q.2.toNat (some (q.1, rank))
theorem step_cs {ar ws sd rank ps} : csOf (step ar ws sd rank ps) = stepC ar ws sd (csOf ps) := by
  unfold step stepC
  cases bestTo ar ws sd (csOf ps) ar.length with
  | none => rfl
  | some q => unfold csOf; rw [List.map_set]; rfl
theorem step_len {ar ws sd rank ps} : (step ar ws sd rank ps).length = ps.length := by
  unfold step
  split <;> simp
/-- the arena, the weights that fit -/
structure Okay (ar : List (Int × List Int)) (ws : List (List Int)) : Prop where
  n : ar.length ≤ 1000
  g : ∀ p ∈ ar, GoodP ar.length p
  f : Fits ar ws
theorem Okay.row {ar ws} (h : Okay ar ws) {i : Nat} {p : Int × List Int} (hp : ar[i]? = some p) : ∃ w, ws[i]? = some w ∧ w.length = p.2.length := by
  have hl : i < ws.length := by rw [h.f.1]; exact (List.getElem?_eq_some_iff.mp hp).1
  exact ⟨ws[i], List.getElem?_eq_getElem hl, h.f.2 i p _ hp (List.getElem?_eq_getElem hl)⟩
theorem best_range {ar ws sd cs} {i : Nat} {q : Int × Int} (h : bestTo ar ws sd cs i = some q) : 0 ≤ q.2 ∧ q.2 < i := by
  induction i with
  | zero => cases h
  | succ i ih =>
    unfold bestTo upd1 at h
    split at h
    · have := ih h; omega
    · split at h
      · cases h; show (0 : Int) ≤ (i : Nat) ∧ ((i : Nat) : Int) < _; omega
      · rename_i q' hq
        split at h
        · cases h; show (0 : Int) ≤ (i : Nat) ∧ ((i : Nat) : Int) < _; omega
        · have := ih h; omega
def iterP (ar : List (Int × List Int)) (ws : List (List Int)) (sd : Int) (ps : Ps) : Nat → Ps
  | 0 => ps
  | i + 1 => step ar ws sd ((i : Int) + 1) (iterP ar ws sd ps i)
theorem iterP_len {ar ws sd ps} : ∀ {i}, (iterP ar ws sd ps i).length = ps.length
  | 0 => rfl
  | i + 1 => by unfold iterP; rw [step_len, iterP_len]
theorem iterP_cs {ar ws sd ps} : ∀ {i}, csOf (iterP ar ws sd ps i) = iterC ar ws sd (csOf ps) i
  | 0 => rfl
  | i + 1 => by unfold iterP iterC; rw [step_cs, iterP_cs]
/-- the best so far, as data -/
def bD : Option (Int × Int) → D := pD
theorem csOf_get {ps : Ps} {i : Nat} : (csOf ps).getD i none = (ps.getD i none).map (·.1) := by
  unfold csOf
  rw [List.getD_eq_getElem?_getD, List.getD_eq_getElem?_getD, List.getElem?_map]
  cases ps[i]? <;> rfl
theorem start_len {n tg} : (start n tg).length = n := by simp [start]
theorem ar_len {ar : List (Int × List Int)} : bltS .len [arD ar] = some (.v (.int ar.length)) := by unfold arD; rw [bl_len_t, List.length_map]
theorem ar_items {ar : List (Int × List Int)} : itemsOf (arD ar) = some (ar.map plD) := rfl
theorem ranks_ok (Δ : Tb) [A0 Δ] (k : Nat) (ar : List (Int × List Int)) (ws : List (List Int)) (sd : Int) (tg : List Int) (h : Okay ar ws) :
    callN Δ (k + 2) 2 [.fz (arD ar), .fz (.int sd), .fz (tupI tg), .fz (wsD ws)] = some (.v (.tup ((iterP ar ws sd (start ar.length tg) ar.length).map pD)), [.fz (arD ar), .fz (.int sd), .fz (tupI tg), .fz (wsD ws)]) := by
  suffices h : Ev (callN Δ (k + 2) 2 [.fz (arD ar), .fz (.int sd), .fz (tupI tg), .fz (wsD ws)]) fun z => z = (.v (.tup ((iterP ar ws sd (start ar.length tg) ar.length).map pD)), [.fz (arD ar), .fz (.int sd), .fz (tupI tg), .fz (wsD ws)]) by
    obtain ⟨z, h, rfl⟩ := h
    exact h
  have h0 := behind_ok Δ k
  have h1 := next_ok Δ k
  rw [fn2]
  generalize callN Δ (k + 1) = cl at h0 h1
  have hn := h.n
  walk_at "in"
  unfold b2
  refine kt ?_
  simp_arith! [ar_len]
  refine lcR (fun i acc e => acc = (start i tg).map pD ∧ e = [Sl.fz (arD ar), Sl.fz (.int sd), Sl.fz (tupI tg), Sl.fz (wsD ws), Sl.un, Sl.un, Sl.un, Sl.un, Sl.un, Sl.un, Sl.un]) ⟨rfl, rfl⟩ ?_ ?_
  · rintro i hi acc e ⟨rfl, rfl⟩
    simp_arith! [tupI]
    exact ⟨fun h => by simp [start, List.range_succ, h, pD], fun h => by simp [start, List.range_succ, h, pD]⟩
  rintro acc e ⟨rfl, rfl⟩
  simp_arith! []
  refine ⟨by rw [start_len]; omega, ?_⟩
  refine kt ?_
  simp_arith! [ar_len]
  refine foR (fun i e => ∃ s5 s6 s7 s8 s9 s10, fr s5 = true ∧ fr s6 = true ∧ fr s7 = true ∧ fr s8 = true ∧ fr s9 = true ∧ fr s10 = true ∧ e = [Sl.fz (arD ar), Sl.fz (.int sd), Sl.fz (tupI tg), Sl.fz (wsD ws), .ow false (.lst ((iterP ar ws sd (start ar.length tg) i).map pD)), s5, s6, s7, s8, s9, s10]) ⟨_, _, _, _, _, _, rfl, rfl, rfl, rfl, rfl, rfl, rfl⟩ ?_ ?_
  · rintro i hi e ⟨s5, s6, s7, s8, s9, s10, f5, f6, f7, f8, f9, f10, rfl⟩
    simp_arith! [f5]
    refine kt ?_
    simp_arith! [f6]
    refine kt ?_
    simp_arith! [ar_items]
    have hpl : (iterP ar ws sd (start ar.length tg) i).length = ar.length := by rw [iterP_len, start_len]
    simp only [iterP]
    generalize iterP ar ws sd (start ar.length tg) i = ps at hpl
    refine foN (fun j e => ∃ s7 s8 s9 s10, fr s7 = true ∧ fr s8 = true ∧ fr s9 = true ∧ fr s10 = true ∧ e = [Sl.fz (arD ar), Sl.fz (.int sd), Sl.fz (tupI tg), Sl.fz (wsD ws), .ow false (.lst (ps.map pD)), .fz (.int (1 + (i : Nat))), .fz (pD (bestTo ar ws sd (csOf ps) j)), s7, s8, s9, s10]) ⟨_, _, _, _, f7, f8, f9, f10, rfl⟩ ?_ ?_
    · rintro j x hx e ⟨s7, s8, s9, s10, f7, f8, f9, f10, rfl⟩
      obtain ⟨w, hw, hwl⟩ := h.row hx
      have hj : j < ar.length := (List.getElem?_eq_some_iff.mp hx).1
      have hg := h.g x (List.mem_of_getElem? hx)
      have ip := idx_ps (ps := ps) (m := j) (by omega) (by omega)
      have iw : idxS (wsD ws) (.int j) = some (tupI w) := atI_map hw
      simp only [plD]
      simp_arith! [f7, f8, f9]
      refine kt ?_
      simp_arith! [ip, isNon_pD]
      have hcs : (csOf ps).getD j none = (ps.getD j none).map (·.1) := csOf_get
      refine ⟨fun hs => ?_, fun hs => ?_⟩
      · have hca : candAt ar ws sd (csOf ps) j = nc sd x.1 ((x.2.zip w).map (behP ps)) := by
          unfold candAt
          have e1 : ar.getD j (0, []) = x := by rw [List.getD_eq_getElem?_getD, hx]; rfl
          have e2 : ws.getD j [] = w := by rw [List.getD_eq_getElem?_getD, hw]; rfl
          have e3 : ((csOf ps).getD j none).isSome = false := by rw [hcs]; simpa using hs
          rw [e1, e2, e3, List.map_congr_left fun mw _ => behP_eq ps mw]
          rfl
        have hlz : ((x.2.zip w).map (behP ps)).length = x.2.length := by simp [hwl]
        have b0 := h0 ps x.2 w (fun m hm => by have := hg.2.2.2 m hm; omega) hg.2.2.1
        have b1 := h1 sd x.1 ((x.2.zip w).map (behP ps)) ⟨by rw [hlz]; exact hg.2.1, by rw [hlz]; exact hg.2.2.1⟩
        rw [← hca] at b1
        simp only [tupI] at b0 iw
        refine kt ?_
        simp_arith! [iw, b0, b1, f10]
        refine kt ?_
        rw [show bestTo ar ws sd (csOf ps) (j + 1) = upd1 (bestTo ar ws sd (csOf ps) j) (candAt ar ws sd (csOf ps) j) j from rfl]
        clear b1 hca
        generalize bestTo ar ws sd (csOf ps) j = b
        generalize candAt ar ws sd (csOf ps) j = c
        cases c with
        | none =>
          simp_arith! [oD]
          exact ⟨_, _, _, _, rfl, rfl, rfl, rfl, rfl⟩
        | some c =>
          cases b with
          | none =>
            simp_arith! [oD, pD]
            refine kt ?_
            simp_arith! []
            exact ⟨_, _, _, _, rfl, rfl, rfl, rfl, rfl⟩
          | some q =>
            have i0 : idxS (.tup [.int q.1, .int q.2]) (.int 0) = some (.int q.1) := rfl
            simp_arith! [oD, pD, i0]
            refine ⟨fun hq => ?_, fun hq => ?_⟩
            · refine kt ?_
              simp_arith! [upd1, hq]
              exact ⟨_, _, _, _, rfl, rfl, rfl, rfl, rfl⟩
            · simp_arith! [upd1, hq]
              exact ⟨_, _, _, _, rfl, rfl, rfl, rfl, rfl⟩
      · have hb : bestTo ar ws sd (csOf ps) (j + 1) = bestTo ar ws sd (csOf ps) j := by
          have e3 : ((csOf ps).getD j none).isSome = true := by rw [hcs, Option.isSome_map]; simpa only [Bool.not_eq_false] using hs
          show upd1 _ (candAt ar ws sd (csOf ps) j) _ = _
          unfold candAt
          rw [e3]
          rfl
        rw [hb]
        exact ⟨_, _, _, _, rfl, rfl, rfl, f10, rfl⟩
    · rintro e ⟨s7, s8, s9, s10, f7, f8, f9, f10, rfl⟩
      simp_arith! []
      refine kt ?_
      simp_arith! [isNon_pD]
      unfold step
      have hr := fun q => best_range (ar := ar) (ws := ws) (sd := sd) (cs := csOf ps) (i := ar.length) (q := q)
      generalize bestTo ar ws sd (csOf ps) ar.length = b at hr
      cases b with
      | none =>
        simp_arith! []
        exact ⟨_, _, _, _, _, _, rfl, rfl, f7, f8, f9, f10, rfl⟩
      | some q =>
        have hq := hr q rfl
        simp_arith! []
        refine kt ?_
        have i0 : idxS (.tup [.int q.1, .int q.2]) (.int 0) = some (.int q.1) := rfl
        have i1 : idxS (.tup [.int q.1, .int q.2]) (.int 1) = some (.int q.2) := rfl
        simp_arith! [pD, i0, i1]
        exact ⟨_, _, _, _, _, _, rfl, rfl, f7, f8, f9, f10, by rw [List.map_set, Int.add_comm]; rfl⟩
  · rintro e ⟨s5, s6, s7, s8, s9, s10, f5, f6, f7, f8, f9, f10, rfl⟩
    simp_arith! []
    refine kt ?_
    simp_arith! []
theorem reach_ok (Δ : Tb) [A0 Δ] (k : Nat) (ar : List (Int × List Int)) (ws : List (List Int)) (sd : Int) (tg : List Int) (h : Okay ar ws) :
    callN Δ (k + 3) 3 [.fz (arD ar), .fz (.int sd), .fz (tupI tg), .fz (wsD ws)] = some (.v (.tup ((csOf (iterP ar ws sd (start ar.length tg) ar.length)).map oD)), [.fz (arD ar), .fz (.int sd), .fz (tupI tg), .fz (wsD ws)]) := by
  suffices h : Ev (callN Δ (k + 3) 3 [.fz (arD ar), .fz (.int sd), .fz (tupI tg), .fz (wsD ws)]) fun z => z = (.v (.tup ((csOf (iterP ar ws sd (start ar.length tg) ar.length)).map oD)), [.fz (arD ar), .fz (.int sd), .fz (tupI tg), .fz (wsD ws)]) by
    obtain ⟨z, h, rfl⟩ := h
    exact h
  have h0 := ranks_ok Δ k ar ws sd tg h
  rw [fn3]
  generalize callN Δ (k + 2) = cl at h0
  have hl : (iterP ar ws sd (start ar.length tg) ar.length).length = ar.length := by rw [iterP_len, start_len]
  have hn := h.n
  walk_at "in"
  unfold b3
  refine kt ?_
  simp_arith! [h0]
  generalize iterP ar ws sd (start ar.length tg) ar.length = ps at hl
  refine lcG (fun x => oD (x.map (·.1))) (fun x hx => ?_) ?_
  · simp_arith! [isNon_pD]
    cases x with
    | none => exact ⟨fun _ => rfl, fun h => by cases h⟩
    | some q =>
      have i0 : idxS (pD (some q)) (.int 0) = some (.int q.1) := rfl
      simp_arith! [i0]
      rfl
  · simp_arith! []
    refine ⟨by omega, ?_⟩
    unfold csOf
    rw [List.map_map]
    rfl
def rkOf (ps : Ps) : Cs := ps.map fun x => x.map (·.2)
def prD (p : Int × Int) : D := .tup [.int p.1, .int p.2]
theorem idx_os {cs : Cs} {m : Int} (h0 : 0 ≤ m) (h1 : m < cs.length) : idxS (.lst (cs.map oD)) (.int m) = some (oD (cs.getD m.toNat none)) := by
  have hl : m.toNat < cs.length := by omega
  obtain ⟨j, rfl⟩ : ∃ j : Nat, m = (j : Nat) := ⟨m.toNat, by omega⟩
  simp only [Int.toNat_natCast] at hl ⊢
  refine atI_map ?_
  rw [List.getD_eq_getElem?_getD, List.getElem?_eq_getElem hl]
  rfl
theorem fm_split {α : Type} (f : α → Option Int) : ∀ xs : List α, xs.filterMap f = (xs.filter fun x => (f x).isSome).map fun x => (f x).getD 0
  | [] => rfl
  | x :: xs => by
    have := fm_split f xs
    cases h : f x <;> simp [List.filterMap_cons, List.filter_cons, h, this]
theorem range_getD {α : Type} (d : α) (l : List α) : (List.range l.length).map (fun k => l.getD k d) = l := by
  apply List.ext_getElem?
  intro i
  rw [List.getElem?_map]
  by_cases h : i < l.length
  · rw [List.getElem?_range h, List.getElem?_eq_getElem h]
    simp [h]
  · rw [List.getElem?_eq_none (by simpa using h), List.getElem?_eq_none (by omega)]
    rfl
theorem there_eq (l : Cs) : l.filterMap id = ((List.range l.length).filter fun k => (l.getD k none).isSome).map fun k => (l.getD k none).getD 0 := by
  rw [← fm_split fun k => l.getD k none]
  conv => lhs; rw [← range_getD none l]
  rw [List.filterMap_map]
  rfl
theorem iterP_stop {ar ws sd ps} {i : Nat} (h : bestTo ar ws sd (csOf (iterP ar ws sd ps i)) ar.length = none) : ∀ j, iterP ar ws sd ps (i + j) = iterP ar ws sd ps i
  | 0 => rfl
  | j + 1 => by
    have ih := iterP_stop h j
    show step ar ws sd _ (iterP ar ws sd ps (i + j)) = _
    rw [ih]
    unfold step
    rw [h]
theorem set_start {n : Nat} {tg : List Int} {i : Nat} {x : Int} (hx : tg[i]? = some x) (h0 : 0 ≤ x) (f : Option Int → D) :
    (((List.range n).map fun j : Nat => if (j : Int) ∈ tg.take i then some (0 : Int) else none).map oD).set x.toNat (.int 0) = ((List.range n).map fun j : Nat => if (j : Int) ∈ tg.take (i + 1) then some (0 : Int) else none).map oD := by
  have ht : tg.take (i + 1) = tg.take i ++ [x] := by rw [List.take_succ, hx]; rfl
  apply List.ext_getElem?
  intro k
  rw [ht, List.getElem?_set]
  simp only [List.length_map, List.length_range, List.getElem?_map, List.mem_append, List.mem_singleton]
  by_cases hk : k < n
  · rw [List.getElem?_range hk]
    by_cases e : x.toNat = k
    · have : (k : Int) = x := by omega
      simp [e, hk, this, oD]
    · have : ¬ (k : Int) = x := by omega
      simp [e, this]
  · rw [List.getElem?_eq_none (l := List.range n) (by simpa using hk)]
    by_cases e : x.toNat = k <;> simp [e, hk]
theorem cands_len {ar ws sd cs} : ∀ j : Nat, (candsTo ar ws sd cs j).length ≤ j
  | 0 => Nat.le_refl _
  | j + 1 => by
    have := cands_len (ar := ar) (ws := ws) (sd := sd) (cs := cs) j
    unfold candsTo
    cases candAt ar ws sd cs j <;> simp <;> omega
theorem lcosts_ok (Δ : Tb) [A0 Δ] (k : Nat) (ar : List (Int × List Int)) (ws : List (List Int)) (sd : Int) (tg : List Int) (h : Okay ar ws) (ht : ∀ x ∈ tg, 0 ≤ x ∧ x < ar.length) :
    callN Δ (k + 1) 15 [.fz (arD ar), .fz (.int sd), .fz (tupI tg), .fz (wsD ws)] = some (.nw (.lst [.tup ((csOf (iterP ar ws sd (start ar.length tg) ar.length)).map oD), .tup ((rkOf (iterP ar ws sd (start ar.length tg) ar.length)).map oD)]), [.fz (arD ar), .fz (.int sd), .fz (tupI tg), .fz (wsD ws)]) := by
  suffices h : Ev (callN Δ (k + 1) 15 [.fz (arD ar), .fz (.int sd), .fz (tupI tg), .fz (wsD ws)]) fun z => z = (.nw (.lst [.tup ((csOf (iterP ar ws sd (start ar.length tg) ar.length)).map oD), .tup ((rkOf (iterP ar ws sd (start ar.length tg) ar.length)).map oD)]), [.fz (arD ar), .fz (.int sd), .fz (tupI tg), .fz (wsD ws)]) by
    obtain ⟨z, h, rfl⟩ := h
    exact h
  rw [fn15]
  generalize callN Δ k = cl
  have hn := h.n
  walk_at "in"
  unfold b15
  refine kt ?_
  simp_arith! [ar_len]
  refine kt ?_
  simp_arith! [ar_len]
  refine kt ?_
  simp_arith! [tupI]
  refine foM (fun i e => ∃ s6, fr s6 = true ∧ e = [Sl.fz (arD ar), .fz (.int sd), .fz (tupI tg), .fz (wsD ws), .ow false (.lst (((List.range ar.length).map fun j : Nat => if (j : Int) ∈ tg.take i then some (0 : Int) else none).map oD)), .ow false (.lst (((List.range ar.length).map fun j : Nat => if (j : Int) ∈ tg.take i then some (0 : Int) else none).map oD)), s6, .un, .un, .un, .un, .un, .un, .un, .un]) ⟨.un, rfl, ?_⟩ ?_ ?_
  · have : (List.replicate ar.length D.non) = ((List.range ar.length).map fun j : Nat => if (j : Int) ∈ tg.take 0 then some (0 : Int) else none).map oD := by
      apply List.ext_getElem
      · simp
      · intro i h1 h2; simp [oD]
    rw [this]
    rfl
  · rintro i x hx e ⟨s6, f6, rfl⟩
    have hx2 := ht x (List.mem_of_getElem? hx)
    simp_arith! [f6]
    refine kt ?_
    simp_arith! []
    refine kt ?_
    simp_arith! []
    exact ⟨_, rfl, by rw [set_start hx hx2.1 oD]⟩
  rintro e ⟨s6, f6, rfl⟩
  rw [List.take_length]
  simp_arith! []
  refine kt ?_
  simp_arith! [ar_len]
  have hst : (List.range ar.length).map (fun j : Nat => if (j : Int) ∈ tg then some (0 : Int) else none) = csOf (start ar.length tg) := (start_cs _ _).symm
  have hst2 : (List.range ar.length).map (fun j : Nat => if (j : Int) ∈ tg then some (0 : Int) else none) = rkOf (start ar.length tg) := by
    unfold rkOf start
    rw [List.map_map]
    apply List.map_congr_left
    intro j _
    show _ = Option.map _ (if (j : Int) ∈ tg then some (0, 0) else none)
    split <;> rfl
  refine foR (fun i e => ∃ s6 s7 s8 s9 s10 s11 s12 s13, fr s6 = true ∧ fr s7 = true ∧ fr s8 = true ∧ fr s9 = true ∧ fr s10 = true ∧ fr s11 = true ∧ fr s12 = true ∧ fr s13 = true ∧
    e = [Sl.fz (arD ar), .fz (.int sd), .fz (tupI tg), .fz (wsD ws), .ow false (.lst ((csOf (iterP ar ws sd (start ar.length tg) i)).map oD)), .ow false (.lst ((rkOf (iterP ar ws sd (start ar.length tg) i)).map oD)), s6, s7, s8, s9, s10, s11, s12, s13, .un])
    ⟨s6, .un, .un, .un, .un, .un, .un, .un, f6, rfl, rfl, rfl, rfl, rfl, rfl, rfl, ?_⟩ ?_ ?_
  · show _ = [Sl.fz (arD ar), .fz (.int sd), .fz (tupI tg), .fz (wsD ws), .ow false (.lst ((csOf (start ar.length tg)).map oD)), .ow false (.lst ((rkOf (start ar.length tg)).map oD)), s6, .un, .un, .un, .un, .un, .un, .un, .un]
    rw [← hst, ← hst2]
  · rintro i hi e ⟨s6, s7, s8, s9, s10, s11, s12, s13, f6, f7, f8, f9, f10, f11, f12, f13, rfl⟩
    simp_arith! [f7]
    refine kt ?_
    simp_arith! [f8]
    refine kt ?_
    simp_arith! [ar_len]
    have hpl : (iterP ar ws sd (start ar.length tg) i).length = ar.length := by rw [iterP_len, start_len]
    have hstop := iterP_stop (ar := ar) (ws := ws) (sd := sd) (ps := start ar.length tg) (i := i)
    have hnx : iterP ar ws sd (start ar.length tg) (i + 1) = step ar ws sd ((i : Int) + 1) (iterP ar ws sd (start ar.length tg) i) := rfl
    rw [hnx]
    generalize iterP ar ws sd (start ar.length tg) i = ps at hpl hstop
    have hcl : (csOf ps).length = ar.length := by rw [← hpl]; simp [csOf]
    have hrl : (rkOf ps).length = ar.length := by rw [← hpl]; simp [rkOf]
    refine foR (fun j e => ∃ s6 s9 s10 s11 s12, fr s6 = true ∧ fr s9 = true ∧ fr s10 = true ∧ fr s11 = true ∧ fr s12 = true ∧
      e = [Sl.fz (arD ar), .fz (.int sd), .fz (tupI tg), .fz (wsD ws), .ow false (.lst ((csOf ps).map oD)), .ow false (.lst ((rkOf ps).map oD)), s6, .fz (.int (1 + (i : Nat))), .ow false (.lst ((candsTo ar ws sd (csOf ps) j).map prD)), s9, s10, s11, s12, s13, .un])
      ⟨_, _, _, _, _, f6, f9, f10, f11, f12, rfl⟩ ?_ ?_
    · rintro j hj e ⟨s6, s9, s10, s11, s12, f6, f9, f10, f11, f12, rfl⟩
      obtain ⟨x, hx⟩ : ∃ x, ar[j]? = some x := ⟨_, List.getElem?_eq_getElem hj⟩
      obtain ⟨w, hw, hwl⟩ := h.row hx
      have hg := h.g x (List.mem_of_getElem? hx)
      have ip := idx_os (cs := csOf ps) (m := j) (by omega) (by omega)
      have ia : idxS (arD ar) (.int j) = some (plD x) := atI_map hx
      have iw : idxS (wsD ws) (.int j) = some (tupI w) := atI_map hw
      have hca : candAt ar ws sd (csOf ps) j = if ((csOf ps).getD j none).isSome then none else nc sd x.1 ((x.2.zip w).map (beh (csOf ps))) := by
        unfold candAt
        rw [show ar.getD j (0, []) = x by rw [List.getD_eq_getElem?_getD, hx]; rfl, show ws.getD j [] = w by rw [List.getD_eq_getElem?_getD, hw]; rfl]
      have hcn : candsTo ar ws sd (csOf ps) (j + 1) = candsTo ar ws sd (csOf ps) j ++ (match candAt ar ws sd (csOf ps) j with | none => [] | some c => [(c, (j : Int))]) := rfl
      have hcz : (candsTo ar ws sd (csOf ps) j).length ≤ j := cands_len j
      simp_arith! [f6]
      refine kt ?_
      simp_arith! [ip, isNon_oD]
      refine ⟨fun hs => ?_, fun hs => ?_⟩
      · rw [hs, if_neg (by decide)] at hca
        simp only [plD] at ia
        simp only [tupI] at iw
        have hg1 := hg.2.1
        have hg2 := hg.2.2.1
        refine kt ?_
        simp_arith! [ia, f9, f10]
        refine kt ?_
        simp_arith! []
        have hle : ((x.2.zip w).map (beh (csOf ps))).length = x.2.length := by simp [hwl]
        have hth := there_eq ((x.2.zip w).map (beh (csOf ps)))
        rw [hle] at hth
        have hat : ∀ q, q < x.2.length → ∃ m v, x.2[q]? = some m ∧ w[q]? = some v ∧ (0 ≤ m ∧ m < ar.length) ∧ ((x.2.zip w).map (beh (csOf ps))).getD q none = ((csOf ps).getD m.toNat none).map (v + ·) := by
          intro q hq
          have h1 : x.2[q]? = some x.2[q] := List.getElem?_eq_getElem hq
          have h2 : w[q]? = some w[q] := List.getElem?_eq_getElem (by omega)
          refine ⟨_, _, h1, h2, hg.2.2.2 _ (List.getElem_mem hq), ?_⟩
          rw [List.getD_eq_getElem?_getD, List.getElem?_map, List.zip_eq_zipWith, List.getElem?_zipWith, h1, h2]
          rfl
        generalize hL : (x.2.zip w).map (beh (csOf ps)) = l at hle hth hat hca
        refine lcF (xs := List.range x.2.length) (f := fun k : Nat => D.int k) (fun k : Nat => D.int k) (fun q => (l.getD q none).isSome) (fun q hq => ?_) ?_
        · obtain ⟨m, v, e1, e2, hm, e3⟩ := hat q (by simpa using hq)
          have i1 : idxS (.tup (x.2.map .int)) (.int q) = some (.int m) := atI_map e1
          have i2 := idx_os (cs := csOf ps) (m := m) hm.1 (by omega)
          simp_arith! [i1, i2, isNon_oD, e3, Option.isSome_map]
        simp_arith! [f11]
        have hfl : ∀ p : Nat → Bool, ((List.range x.2.length).filter p).length ≤ x.2.length := fun p => by
          have := List.length_filter_le p (List.range x.2.length)
          rwa [List.length_range] at this
        have hf1 := hfl fun q => (l.getD q none).isSome
        refine ⟨by omega, ?_⟩
        refine kt ?_
        simp_arith! []
        refine lcG (fun q : Nat => .int ((l.getD q none).getD 0)) (fun q hq => ?_) ?_
        · obtain ⟨hq1, hq2⟩ := List.mem_filter.mp hq
          obtain ⟨m, v, e1, e2, hm, e3⟩ := hat q (by simpa using hq1)
          have i1 : idxS (.tup (x.2.map .int)) (.int q) = some (.int m) := atI_map e1
          have i2 := idx_os (cs := csOf ps) (m := m) hm.1 (by omega)
          have i3 : idxS (.tup (w.map .int)) (.int q) = some (.int v) := atI_map e2
          rw [e3] at hq2 ⊢
          cases hc : (csOf ps).getD m.toNat none with
          | none => rw [hc] at hq2; cases hq2
          | some c => simp_arith! [i1, i2, i3, iw, hc, oD]
        rw [show ((List.range x.2.length).filter fun q => (l.getD q none).isSome).map (fun q => D.int ((l.getD q none).getD 0)) = (l.filterMap id).map .int by rw [hth, List.map_map]; rfl]
        have hS : (l.filterMap id).length ≤ x.2.length := by rw [hth, List.length_map]; exact hf1
        simp_arith! [f12]
        refine ⟨by omega, ?_⟩
        unfold nc at hca
        generalize l.filterMap id = S at hca hS
        refine kt ?_
        simp_arith! []
        refine ⟨fun hc => ?_, fun hc => ?_⟩
        · refine kt ?_
          simp_arith! []
          rw [hcn, hca, if_pos hc.1, if_neg (by omega)]
          simp only [List.map_append, List.map_cons, List.map_nil]
          exact ⟨_, _, _, _, _, rfl, rfl, rfl, rfl, rfl, rfl⟩
        · refine kt ?_
          simp_arith! []
          refine ⟨fun hd => ?_, fun hd => ?_⟩
          · have hlen : S.length = l.length := by omega
            refine kt ?_
            simp_arith! []
            rw [hcn, hca, if_neg hd.1, if_pos hlen]
            simp only [List.map_append, List.map_cons, List.map_nil]
            exact ⟨_, _, _, _, _, rfl, rfl, rfl, rfl, rfl, rfl⟩
          · have : candAt ar ws sd (csOf ps) j = none := by
              rw [hca]
              by_cases hx1 : x.1 = sd
              · rw [if_pos hx1, if_pos]
                rcases hc with hc | hc
                · exact absurd hx1 hc
                · omega
              · rw [if_neg hx1, if_neg]
                rcases hd with hd | hd
                · exact absurd hd hx1
                · omega
            rw [hcn, this, List.append_nil]
            exact ⟨_, _, _, _, _, rfl, rfl, rfl, rfl, rfl, rfl⟩
      · rw [hs, if_pos rfl] at hca
        rw [hcn, hca, List.append_nil]
        exact ⟨_, _, _, _, _, rfl, f9, f10, f11, f12, rfl⟩
    · rintro e ⟨s6, s9, s10, s11, s12, f6, f9, f10, f11, f12, rfl⟩
      simp_arith! []
      have hbc := best_cands (ar := ar) (ws := ws) (sd := sd) (cs := csOf ps) ar.length
      have hcz : (candsTo ar ws sd (csOf ps) ar.length).length ≤ ar.length := cands_len _
      have hbr := fun q => best_range (ar := ar) (ws := ws) (sd := sd) (cs := csOf ps) (i := ar.length) (q := q)
      generalize candsTo ar ws sd (csOf ps) ar.length = L at hbc hcz
      refine kt ?_
      simp_arith! []
      refine ⟨fun hz => ?_, fun hz => ?_⟩
      · refine kt ?_
        simp_arith! []
        rw [if_pos (by omega)] at hbc
        have hfin := hstop hbc (ar.length - i)
        rw [show i + (ar.length - i) = ar.length by omega] at hfin
        refine kt ?_
        simp_arith! []
        rw [hfin]
      · rw [if_neg (by omega)] at hbc
        have hmp : bltS .minp [.lst (L.map prD)] = some (.v (.tup [.int (minPr L).1, .int (minPr L).2])) := minp_n (by omega)
        have hq := hbr _ hbc
        unfold step
        rw [hbc]
        generalize minPr L = q at hmp hq
        refine kt ?_
        simp_arith! [hmp, f13, f6]
        refine kt ?_
        simp_arith! []
        refine kt ?_
        simp_arith! []
        have e1 : csOf (ps.set q.2.toNat (some (q.1, (i : Int) + 1))) = (csOf ps).set q.2.toNat (some q.1) := by simp [csOf, List.map_set]
        have e2 : rkOf (ps.set q.2.toNat (some (q.1, (i : Int) + 1))) = (rkOf ps).set q.2.toNat (some (1 + (i : Int))) := by simp [rkOf, List.map_set, Int.add_comm]
        rw [e1, e2, List.map_set, List.map_set]
        exact ⟨_, _, _, _, _, _, _, _, rfl, rfl, rfl, f9, f10, f11, f12, rfl, rfl⟩
  · rintro e ⟨s6, s7, s8, s9, s10, s11, s12, s13, f6, f7, f8, f9, f10, f11, f12, f13, rfl⟩
    simp_arith! []
    refine kt ?_
    simp_arith! []
def b17_0 : Ss := .cons (.ret (.and (.cons (.isi (.nm 0) [.tuple]) (.cons (.cmp .Eq (.blt .len (.cons (.nm 0) .nil)) (.nm 1)) .nil)))) .nil
/-- is_row -/
def b17 : Ss := b17_0
def b18_0 : Ss := .cons (.ret (.and (.cons (.isi (.nm 0) [.int]) (.cons (.cmp .GtE (.nm 0) (.lit (.int 0))) .nil)))) .nil
/-- is_natural -/
def b18 : Ss := b18_0
def b19_0 : Ss := .cons (.ret (.and (.cons (.call 17 (.cons (.nm 0) (.cons (.lit (.int 2)) .nil))) (.cons (.blt .all (.cons (.lc [1] (.call 18 (.cons (.nm 1) .nil)) (.nm 1) (.seq (.nm 0)) .no) .nil)) .nil)))) .nil
/-- is_pair -/
def b19 : Ss := b19_0
def b20_0 : Ss := .cons (.ret (.lit (.bl false))) .nil
def b20_1 : Ss := .cons (.ret (.blt .any (.cons (.lc [8, 9] (.and (.cons (.cmp .Eq (.nm 8) (.nm 5)) (.cons (.nm 9) .nil))) (.tup (.cons (.nm 8) (.cons (.nm 9) .nil))) (.zip (.nm 4) (.nm 7)) .no) .nil))) .nil
def b20_2 : Ss := .cons (.ifs (.val (.blt .any (.cons (.lc [8] (.and (.cons (.cmp .IsNot (.nm 8) (.lit .non)) (.cons (.cmp .Lt (.nm 8) (.nm 5)) .nil))) (.nm 8) (.seq (.nm 4)) .no) .nil))) b20_0 .nil) b20_1
def b20_3 : Ss := .cons (.ret (.and (.cons (.blt .all (.cons (.nm 7) .nil)) (.cons (.cmp .Eq (.blt .max (.cons (.nm 4) .nil)) (.nm 5)) .nil)))) .nil
def b20_4 : Ss := .cons (.ifs (.cmp .Eq (.nm 1) (.nm 0)) b20_2 .nil) b20_3
def b20_5 : Ss := .cons (.set 7 (.lc [8] (.and (.cons (.cmp .IsNot (.nm 8) (.lit .non)) (.cons (.cmp .Lt (.idx (.nm 8) (.lit (.int 1))) (.nm 6)) .nil))) (.nm 8) (.seq (.nm 3)) .no)) b20_4
def b20_6 : Ss := .cons (.unp (.tup (.cons (.nm 5) (.cons (.nm 6) .nil))) (.nm 2)) b20_5
/-- is_right_pair -/
def b20 : Ss := b20_6
def b21_0 : Ss := .cons (.ret (.ifx (.cmp .Eq (.nm 1) (.nm 0)) (.blt .all (.cons (.nm 3) .nil)) (.blt .any (.cons (.nm 3) .nil)))) .nil
def b21_1 : Ss := .cons (.set 3 (.lc [4] (.cmp .Is (.nm 4) (.lit .non)) (.nm 4) (.seq (.nm 2)) .no)) b21_0
/-- is_right_nothing -/
def b21 : Ss := b21_1
def b22_0 : Ss := .cons (.ret (.call 21 (.cons (.nm 0) (.cons (.nm 1) (.cons (.nm 3) .nil))))) .nil
def b22_1 : Ss := .cons (.ret (.call 20 (.cons (.nm 0) (.cons (.nm 1) (.cons (.nm 2) (.cons (.nm 3) (.cons (.nm 4) .nil))))))) .nil
def b22_2 : Ss := .cons (.ifs (.cmp .Is (.nm 2) (.lit .non)) b22_0 .nil) b22_1
/-- is_right_at -/
def b22 : Ss := b22_2
def b23_0 : Ss := .cons (.ret (.lit (.bl false))) .nil
def b23_1 : Ss := .cons (.ret (.lit (.bl false))) .nil
def b23_2 : Ss := .cons (.ifs (.cmp .NotEq (.idx (.nm 4) (.nm 5)) (.tup (.cons (.lit (.int 0)) (.cons (.lit (.int 0)) .nil)))) b23_1 .nil) .nil
def b23_3 : Ss := .cons (.ret (.lit (.bl false))) .nil
def b23_4 : Ss := .cons (.ifs (.not (.val (.call 22 (.cons (.nm 1) (.cons (.nm 6) (.cons (.idx (.nm 4) (.nm 5)) (.cons (.nm 8) (.cons (.nm 9) .nil)))))))) b23_3 .nil) .nil
def b23_5 : Ss := .cons (.ifs (.cmp .In (.nm 5) (.nm 2)) b23_2 b23_4) .nil
def b23_6 : Ss := .cons (.set 9 (.call 0 (.cons (.nm 4) (.cons (.nm 7) (.cons (.idx (.nm 3) (.nm 5)) .nil))))) b23_5
def b23_7 : Ss := .cons (.set 8 (.lc [11] (.idx (.nm 4) (.nm 11)) (.nm 11) (.seq (.nm 7)) .no)) b23_6
def b23_8 : Ss := .cons (.ret (.lit (.bl true))) .nil
def b23_9 : Ss := .cons (.fo (.tup (.cons (.nm 5) (.cons (.tup (.cons (.nm 6) (.cons (.nm 7) .nil))) .nil))) (.enum (.nm 0)) b23_7) b23_8
def b23_10 : Ss := .cons (.ifs (.or (.cons (.not (.val (.call 17 (.cons (.nm 4) (.cons (.blt .len (.cons (.nm 0) .nil)) .nil))))) (.cons (.not (.val (.blt .all (.cons (.lc [10] (.or (.cons (.cmp .Is (.nm 10) (.lit .non)) (.cons (.call 19 (.cons (.nm 10) .nil)) .nil))) (.nm 10) (.seq (.nm 4)) .no) .nil)))) .nil))) b23_0 .nil) b23_9
/-- judge_costs -/
def b23 : Ss := b23_10
def b24_0 : Ss := .cons (.ret (.and (.cons (.isi (.nm 0) [.int]) (.cons (.un .Not (.isi (.nm 0) [.bool])) .nil)))) .nil
/-- _law_is_int -/
def b24 : Ss := b24_0
def b25_0 : Ss := .cons (.ret (.bin .Add (.bin .Add (.sli (.nm 0) .no (.so (.nm 1))) (.tup (.cons (.nm 2) .nil))) (.sli (.nm 0) (.so (.bin .Add (.nm 1) (.lit (.int 1)))) .no))) .nil
/-- _law_put -/
def b25 : Ss := b25_0
def b26_0 : Ss := .cons (.ret (.lst (.cons (.tup .nil) (.cons (.sli (.nm 0) .no (.so (.un .USub (.lit (.int 1))))) (.cons (.bin .Add (.nm 0) (.sli (.nm 0) .no (.so (.lit (.int 1))))) (.cons (.tup (.cons (.nm 0) .nil)) (.cons (.call 25 (.cons (.nm 0) (.cons (.nm 1) (.cons (.tup (.cons (.idx (.nm 0) (.nm 1)) .nil)) .nil)))) .nil))))))) .nil
def b26_1 : Ss := .cons (.set 1 (.bin .FloorDiv (.blt .len (.cons (.nm 0) .nil)) (.lit (.int 2)))) b26_0
/-- _law_misshapen -/
def b26 : Ss := b26_1
def b27_0 : Ss := .cons (.put 3 (.nm 4) (.lit (.int 0))) .nil
def b27_1 : Ss := .cons (.expr (.mth .append 6 (.cons (.nm 4) .nil))) .nil
def b27_2 : Ss := .cons (.ifs (.or (.cons (.and (.cons (.cmp .Eq (.idx (.idx (.nm 0) (.nm 4)) (.lit (.int 0))) (.nm 1)) (.cons (.cmp .In (.lit (.bl true)) (.nm 7)) .nil))) (.cons (.and (.cons (.cmp .NotEq (.idx (.idx (.nm 0) (.nm 4)) (.lit (.int 0))) (.nm 1)) (.cons (.cmp .NotIn (.lit (.bl false)) (.nm 7)) .nil))) .nil))) b27_1 .nil) .nil
def b27_3 : Ss := .cons (.set 7 (.lc [8] (.cmp .IsNot (.idx (.nm 3) (.nm 8)) (.lit .non)) (.nm 8) (.seq (.idx (.idx (.nm 0) (.nm 4)) (.lit (.int 1)))) .no)) b27_2
def b27_4 : Ss := .cons (.ifs (.cmp .Is (.idx (.nm 3) (.nm 4)) (.lit .non)) b27_3 .nil) .nil
def b27_5 : Ss := .cons (.put 3 (.nm 4) (.nm 5)) .nil
def b27_6 : Ss := .cons (.fo (.nm 4) (.seq (.nm 6)) b27_5) .nil
def b27_7 : Ss := .cons (.fo (.nm 4) (.rng1 (.blt .len (.cons (.nm 0) .nil))) b27_4) b27_6
def b27_8 : Ss := .cons (.set 6 (.lst .nil)) b27_7
def b27_9 : Ss := .cons (.ret (.blt .tuple (.cons (.nm 3) .nil))) .nil
def b27_10 : Ss := .cons (.fo (.nm 5) (.rng2 (.lit (.int 1)) (.blt .len (.cons (.nm 0) .nil))) b27_8) b27_9
def b27_11 : Ss := .cons (.fo (.nm 4) (.seq (.nm 2)) b27_0) b27_10
def b27_12 : Ss := .cons (.set 3 (.bin .Mult (.lst (.cons (.lit .non) .nil)) (.blt .len (.cons (.nm 0) .nil)))) b27_11
/-- _law_ranks -/
def b27 : Ss := b27_12
def b28_0 : Ss := .cons (.ret (.blt .tuple (.cons (.lc [4] (.nm 4) (.nm 4) (.rng1 (.blt .len (.cons (.nm 0) .nil))) (.so (.cmp .Is (.idx (.nm 3) (.nm 4)) (.lit .non)))) .nil))) .nil
def b28_1 : Ss := .cons (.set 3 (.call 27 (.cons (.nm 0) (.cons (.nm 1) (.cons (.nm 2) .nil))))) b28_0
/-- _law_trap -/
def b28 : Ss := b28_1
def b29_0 : Ss := .cons (.expr (.mth .append 7 (.cons (.lit .non) .nil))) .nil
def b29_1 : Ss := .cons (.expr (.mth .append 7 (.cons (.tup (.cons (.idx (.nm 5) (.nm 8)) (.cons (.bin .Mult (.nm 4) (.idx (.nm 6) (.nm 8))) .nil))) .nil))) .nil
def b29_2 : Ss := .cons (.ifs (.cmp .Is (.idx (.nm 5) (.nm 8)) (.lit .non)) b29_0 b29_1) .nil
def b29_3 : Ss := .cons (.ret (.blt .tuple (.cons (.nm 7) .nil))) .nil
def b29_4 : Ss := .cons (.fo (.nm 8) (.rng1 (.blt .len (.cons (.nm 0) .nil))) b29_2) b29_3
def b29_5 : Ss := .cons (.set 7 (.lst .nil)) b29_4
def b29_6 : Ss := .cons (.unp (.tup (.cons (.nm 5) (.cons (.nm 6) .nil))) (.call 15 (.cons (.nm 0) (.cons (.nm 1) (.cons (.nm 2) (.cons (.nm 3) .nil)))))) b29_5
/-- _law_cost_pairs -/
def b29 : Ss := b29_6
def b30_0 : Ss := .cons (.ret (.and (.cons (.cmp .Eq (.blt .len (.cons (.nm 9) .nil)) (.blt .len (.cons (.nm 6) .nil))) (.cons (.cmp .NotIn (.lit (.bl false)) (.nm 11)) (.cons (.cmp .Eq (.blt .max (.cons (.nm 10) .nil)) (.nm 7)) .nil))))) .nil
def b30_1 : Ss := .cons (.ret (.and (.cons (.cmp .In (.lit (.bl true)) (.nm 12)) (.cons (.cmp .Eq (.blt .min (.cons (.nm 10) .nil)) (.nm 7)) .nil)))) .nil
def b30_2 : Ss := .cons (.set 12 (.lc [14] (.and (.cons (.cmp .Eq (.idx (.nm 10) (.nm 14)) (.nm 7)) (.cons (.idx (.nm 11) (.nm 14)) .nil))) (.nm 14) (.rng1 (.blt .len (.cons (.nm 10) .nil))) .no)) b30_1
def b30_3 : Ss := .cons (.ifs (.cmp .NotEq (.nm 5) (.nm 1)) b30_0 .nil) b30_2
def b30_4 : Ss := .cons (.set 11 (.lc [13] (.cmp .Lt (.idx (.idx (.nm 3) (.idx (.nm 6) (.nm 13))) (.lit (.int 1))) (.nm 8)) (.nm 13) (.seq (.nm 9)) .no)) b30_3
def b30_5 : Ss := .cons (.set 10 (.lc [13] (.bin .Add (.idx (.idx (.nm 2) (.nm 4)) (.nm 13)) (.idx (.idx (.nm 3) (.idx (.nm 6) (.nm 13))) (.lit (.int 0)))) (.nm 13) (.seq (.nm 9)) .no)) b30_4
def b30_6 : Ss := .cons (.set 9 (.lc [13] (.nm 13) (.nm 13) (.rng1 (.blt .len (.cons (.nm 6) .nil))) (.so (.cmp .IsNot (.idx (.nm 3) (.idx (.nm 6) (.nm 13))) (.lit .non))))) b30_5
def b30_7 : Ss := .cons (.unp (.tup (.cons (.nm 7) (.cons (.nm 8) .nil))) (.idx (.nm 3) (.nm 4))) b30_6
def b30_8 : Ss := .cons (.unp (.tup (.cons (.nm 5) (.cons (.nm 6) .nil))) (.idx (.nm 0) (.nm 4))) b30_7
/-- _law_pair_is_shown -/
def b30 : Ss := b30_8
def b31_0 : Ss := .cons (.ret (.lit (.bl false))) .nil
def b31_1 : Ss := .cons (.ret (.lit (.bl false))) .nil
def b31_2 : Ss := .cons (.ret (.lit (.bl false))) .nil
def b31_3 : Ss := .cons (.ifs (.or (.cons (.not (.val (.isi (.nm 7) [.tuple]))) (.cons (.cmp .NotEq (.blt .len (.cons (.nm 7) .nil)) (.lit (.int 2))) (.cons (.cmp .In (.lit (.bl false)) (.lc [8] (.call 24 (.cons (.nm 8) .nil)) (.nm 8) (.seq (.nm 7)) .no)) .nil)))) b31_2 .nil) .nil
def b31_4 : Ss := .cons (.ifs (.cmp .IsNot (.nm 7) (.lit .non)) b31_3 .nil) .nil
def b31_5 : Ss := .cons (.ifs (.cmp .NotEq (.cmp .Is (.nm 7) (.lit .non)) (.cmp .In (.nm 6) (.nm 5))) b31_1 .nil) b31_4
def b31_6 : Ss := .cons (.set 7 (.idx (.nm 4) (.nm 6))) b31_5
def b31_7 : Ss := .cons (.ret (.lit (.bl false))) .nil
def b31_8 : Ss := .cons (.ifs (.cmp .NotEq (.idx (.nm 4) (.nm 6)) (.tup (.cons (.lit (.int 0)) (.cons (.lit (.int 0)) .nil)))) b31_7 .nil) .nil
def b31_9 : Ss := .cons (.ret (.lit (.bl false))) .nil
def b31_10 : Ss := .cons (.ifs (.and (.cons (.cmp .IsNot (.idx (.nm 4) (.nm 6)) (.lit .non)) (.cons (.not (.val (.call 30 (.cons (.nm 0) (.cons (.nm 1) (.cons (.nm 3) (.cons (.nm 4) (.cons (.nm 6) .nil)))))))) .nil))) b31_9 .nil) .nil
def b31_11 : Ss := .cons (.ifs (.cmp .In (.nm 6) (.nm 2)) b31_8 b31_10) .nil
def b31_12 : Ss := .cons (.ret (.lit (.bl true))) .nil
def b31_13 : Ss := .cons (.fo (.nm 6) (.rng1 (.blt .len (.cons (.nm 0) .nil))) b31_11) b31_12
def b31_14 : Ss := .cons (.fo (.nm 6) (.rng1 (.blt .len (.cons (.nm 0) .nil))) b31_6) b31_13
def b31_15 : Ss := .cons (.set 5 (.call 28 (.cons (.nm 0) (.cons (.nm 1) (.cons (.nm 2) .nil))))) b31_14
def b31_16 : Ss := .cons (.ifs (.or (.cons (.not (.val (.isi (.nm 4) [.tuple]))) (.cons (.cmp .NotEq (.blt .len (.cons (.nm 4) .nil)) (.blt .len (.cons (.nm 0) .nil))) .nil))) b31_0 .nil) b31_15
/-- _law_shows_costs -/
def b31 : Ss := b31_16
def b32_0 : Ss := .cons (.ret (.call 25 (.cons (.nm 1) (.cons (.nm 2) (.cons (.lit .non) .nil))))) .nil
def b32_1 : Ss := .cons (.ret (.call 25 (.cons (.call 25 (.cons (.nm 1) (.cons (.nm 2) (.cons (.idx (.nm 1) (.nm 3)) .nil)))) (.cons (.nm 3) (.cons (.idx (.nm 1) (.nm 2)) .nil))))) .nil
def b32_2 : Ss := .cons (.ret (.call 25 (.cons (.nm 1) (.cons (.nm 2) (.cons (.call 6 (.cons (.nm 0) (.cons (.lst (.cons (.tup (.cons (.lit (.int 0)) (.cons (.lit (.int 0)) .nil))) (.cons (.tup (.cons (.lit (.int 1)) (.cons (.lit (.int 1)) .nil))) (.cons (.tup (.cons (.lit (.int 0)) (.cons (.lit (.int 1)) .nil))) (.cons (.tup .nil) (.cons (.tup (.cons (.lit (.int 0)) .nil)) (.cons (.tup (.cons (.bin .Pow (.lit (.int 10)) (.lit (.int 20))) (.cons (.bin .Pow (.lit (.int 10)) (.lit (.int 20))) .nil))) (.cons (.tup (.cons (.lit .non) (.cons (.lit (.int 0)) .nil))) .nil)))))))) .nil))) .nil))))) .nil
def b32_3 : Ss := .cons (.ret (.call 25 (.cons (.nm 1) (.cons (.nm 2) (.cons (.call 6 (.cons (.nm 0) (.cons (.lst (.cons (.tup (.cons (.nm 6) (.cons (.nm 5) .nil))) (.cons (.tup (.cons (.nm 5) (.cons (.nm 6) (.cons (.lit (.int 0)) .nil)))) (.cons (.tup (.cons (.nm 5) .nil)) (.cons (.tup (.cons (.nm 5) (.cons (.lit .non) .nil))) (.cons (.tup (.cons (.tup (.cons (.nm 5) .nil)) (.cons (.nm 6) .nil))) .nil)))))) .nil))) .nil))))) .nil
def b32_4 : Ss := .cons (.ret (.call 25 (.cons (.nm 1) (.cons (.nm 2) (.cons (.tup (.cons (.bin .Add (.nm 5) (.call 6 (.cons (.nm 0) (.cons (.lst (.cons (.lit (.int 1)) (.cons (.bin .Sub (.lit (.int 0)) (.lit (.int 1))) (.cons (.bin .Pow (.lit (.int 10)) (.lit (.int 18))) .nil)))) .nil)))) (.cons (.nm 6) .nil))) .nil))))) .nil
def b32_5 : Ss := .cons (.ret (.call 25 (.cons (.nm 1) (.cons (.nm 2) (.cons (.tup (.cons (.nm 5) (.cons (.call 6 (.cons (.nm 0) (.cons (.lst (.cons (.bin .Add (.nm 6) (.lit (.int 1))) (.cons (.bin .Sub (.nm 6) (.lit (.int 1))) (.cons (.lit (.int 0)) (.cons (.bin .Sub (.lit (.int 0)) (.lit (.int 1))) (.cons (.bin .Pow (.lit (.int 10)) (.lit (.int 30))) (.cons (.lit (.int 1)) .nil))))))) .nil))) .nil))) .nil))))) .nil
def b32_6 : Ss := .cons (.ifs (.cmp .Eq (.nm 4) (.lit (.int 4))) b32_4 .nil) b32_5
def b32_7 : Ss := .cons (.ifs (.cmp .Eq (.nm 4) (.lit (.int 3))) b32_3 .nil) b32_6
def b32_8 : Ss := .cons (.unp (.tup (.cons (.nm 5) (.cons (.nm 6) .nil))) (.idx (.nm 1) (.nm 2))) b32_7
def b32_9 : Ss := .cons (.ifs (.or (.cons (.cmp .Is (.idx (.nm 1) (.nm 2)) (.lit .non)) (.cons (.cmp .Eq (.nm 4) (.lit (.int 2))) .nil))) b32_2 .nil) b32_8
def b32_10 : Ss := .cons (.ifs (.cmp .Eq (.nm 4) (.lit (.int 1))) b32_1 .nil) b32_9
def b32_11 : Ss := .cons (.ifs (.cmp .Eq (.nm 4) (.lit (.int 0))) b32_0 .nil) b32_10
def b32_12 : Ss := .cons (.set 4 (.call 5 (.cons (.nm 0) (.cons (.lit (.int 7)) .nil)))) b32_11
def b32_13 : Ss := .cons (.set 3 (.call 5 (.cons (.nm 0) (.cons (.blt .len (.cons (.nm 1) .nil)) .nil)))) b32_12
def b32_14 : Ss := .cons (.set 2 (.call 5 (.cons (.nm 0) (.cons (.blt .len (.cons (.nm 1) .nil)) .nil)))) b32_13
/-- _law_other_pairs -/
def b32 : Ss := b32_14
def T1 : Tb := fun i => match i with
  | 17 => some ⟨["thing", "length"], ["thing", "length"], b17⟩
  | 18 => some ⟨["thing"], ["thing"], b18⟩
  | 19 => some ⟨["thing"], ["thing", "part"], b19⟩
  | 20 => some ⟨["side", "owner", "pair", "behind", "costs"], ["side", "owner", "pair", "behind", "costs", "cost", "rank", "lesser", "other", "is_less"], b20⟩
  | 21 => some ⟨["side", "owner", "behind"], ["side", "owner", "behind", "missing", "pair"], b21⟩
  | 22 => some ⟨["side", "owner", "pair", "behind", "costs"], ["side", "owner", "pair", "behind", "costs"], b22⟩
  | 23 => some ⟨["arena", "side", "target", "weights", "pairs"], ["arena", "side", "target", "weights", "pairs", "place", "owner", "moves", "behind", "costs", "pair", "move"], b23⟩
  | 24 => some ⟨["thing"], ["thing"], b24⟩
  | 25 => some ⟨["row", "place", "thing"], ["row", "place", "thing"], b25⟩
  | 26 => some ⟨["row"], ["row", "k"], b26⟩
  | 27 => some ⟨["arena", "side", "target"], ["arena", "side", "target", "ranks", "place", "turn", "fresh", "known", "move"], b27⟩
  | 28 => some ⟨["arena", "side", "target"], ["arena", "side", "target", "ranks", "place"], b28⟩
  | 29 => some ⟨["arena", "side", "target", "weights", "factor"], ["arena", "side", "target", "weights", "factor", "costs", "ranks", "told", "place"], b29⟩
  | 30 => some ⟨["arena", "side", "weights", "pairs", "place"], ["arena", "side", "weights", "pairs", "place", "owner", "goals", "cost", "rank", "known", "sums", "less", "held", "k", "j"], b30⟩
  | 31 => some ⟨["arena", "side", "target", "weights", "pairs"], ["arena", "side", "target", "weights", "pairs", "trap", "place", "pair", "one"], b31⟩
  | 32 => some ⟨["draws", "row"], ["draws", "row", "k", "j", "kind", "one", "other"], b32⟩
  | _ => none
class A1 (Δ : Tb) : Prop where
  h : ∀ i, 17 ≤ i → i < 33 → Δ i = T1 i
theorem fn17 (Δ : Tb) [A1 Δ] (k : Nat) : callN Δ (k + 1) 17 = runDef (callN Δ k) ⟨["thing", "length"], ["thing", "length"], b17⟩ := by
  show (fun args => (Δ 17).bind fun d => runDef (callN Δ k) d args) = _
  rw [show Δ 17 = T1 17 from A1.h 17 (by decide) (by decide)]
  rfl
theorem fn18 (Δ : Tb) [A1 Δ] (k : Nat) : callN Δ (k + 1) 18 = runDef (callN Δ k) ⟨["thing"], ["thing"], b18⟩ := by
  show (fun args => (Δ 18).bind fun d => runDef (callN Δ k) d args) = _
  rw [show Δ 18 = T1 18 from A1.h 18 (by decide) (by decide)]
  rfl
theorem fn19 (Δ : Tb) [A1 Δ] (k : Nat) : callN Δ (k + 1) 19 = runDef (callN Δ k) ⟨["thing"], ["thing", "part"], b19⟩ := by
  show (fun args => (Δ 19).bind fun d => runDef (callN Δ k) d args) = _
  rw [show Δ 19 = T1 19 from A1.h 19 (by decide) (by decide)]
  rfl
theorem fn20 (Δ : Tb) [A1 Δ] (k : Nat) : callN Δ (k + 1) 20 = runDef (callN Δ k) ⟨["side", "owner", "pair", "behind", "costs"], ["side", "owner", "pair", "behind", "costs", "cost", "rank", "lesser", "other", "is_less"], b20⟩ := by
  show (fun args => (Δ 20).bind fun d => runDef (callN Δ k) d args) = _
  rw [show Δ 20 = T1 20 from A1.h 20 (by decide) (by decide)]
  rfl
theorem fn21 (Δ : Tb) [A1 Δ] (k : Nat) : callN Δ (k + 1) 21 = runDef (callN Δ k) ⟨["side", "owner", "behind"], ["side", "owner", "behind", "missing", "pair"], b21⟩ := by
  show (fun args => (Δ 21).bind fun d => runDef (callN Δ k) d args) = _
  rw [show Δ 21 = T1 21 from A1.h 21 (by decide) (by decide)]
  rfl
theorem fn22 (Δ : Tb) [A1 Δ] (k : Nat) : callN Δ (k + 1) 22 = runDef (callN Δ k) ⟨["side", "owner", "pair", "behind", "costs"], ["side", "owner", "pair", "behind", "costs"], b22⟩ := by
  show (fun args => (Δ 22).bind fun d => runDef (callN Δ k) d args) = _
  rw [show Δ 22 = T1 22 from A1.h 22 (by decide) (by decide)]
  rfl
theorem fn23 (Δ : Tb) [A1 Δ] (k : Nat) : callN Δ (k + 1) 23 = runDef (callN Δ k) ⟨["arena", "side", "target", "weights", "pairs"], ["arena", "side", "target", "weights", "pairs", "place", "owner", "moves", "behind", "costs", "pair", "move"], b23⟩ := by
  show (fun args => (Δ 23).bind fun d => runDef (callN Δ k) d args) = _
  rw [show Δ 23 = T1 23 from A1.h 23 (by decide) (by decide)]
  rfl
theorem fn24 (Δ : Tb) [A1 Δ] (k : Nat) : callN Δ (k + 1) 24 = runDef (callN Δ k) ⟨["thing"], ["thing"], b24⟩ := by
  show (fun args => (Δ 24).bind fun d => runDef (callN Δ k) d args) = _
  rw [show Δ 24 = T1 24 from A1.h 24 (by decide) (by decide)]
  rfl
theorem fn25 (Δ : Tb) [A1 Δ] (k : Nat) : callN Δ (k + 1) 25 = runDef (callN Δ k) ⟨["row", "place", "thing"], ["row", "place", "thing"], b25⟩ := by
  show (fun args => (Δ 25).bind fun d => runDef (callN Δ k) d args) = _
  rw [show Δ 25 = T1 25 from A1.h 25 (by decide) (by decide)]
  rfl
theorem fn26 (Δ : Tb) [A1 Δ] (k : Nat) : callN Δ (k + 1) 26 = runDef (callN Δ k) ⟨["row"], ["row", "k"], b26⟩ := by
  show (fun args => (Δ 26).bind fun d => runDef (callN Δ k) d args) = _
  rw [show Δ 26 = T1 26 from A1.h 26 (by decide) (by decide)]
  rfl
theorem fn27 (Δ : Tb) [A1 Δ] (k : Nat) : callN Δ (k + 1) 27 = runDef (callN Δ k) ⟨["arena", "side", "target"], ["arena", "side", "target", "ranks", "place", "turn", "fresh", "known", "move"], b27⟩ := by
  show (fun args => (Δ 27).bind fun d => runDef (callN Δ k) d args) = _
  rw [show Δ 27 = T1 27 from A1.h 27 (by decide) (by decide)]
  rfl
theorem fn28 (Δ : Tb) [A1 Δ] (k : Nat) : callN Δ (k + 1) 28 = runDef (callN Δ k) ⟨["arena", "side", "target"], ["arena", "side", "target", "ranks", "place"], b28⟩ := by
  show (fun args => (Δ 28).bind fun d => runDef (callN Δ k) d args) = _
  rw [show Δ 28 = T1 28 from A1.h 28 (by decide) (by decide)]
  rfl
theorem fn29 (Δ : Tb) [A1 Δ] (k : Nat) : callN Δ (k + 1) 29 = runDef (callN Δ k) ⟨["arena", "side", "target", "weights", "factor"], ["arena", "side", "target", "weights", "factor", "costs", "ranks", "told", "place"], b29⟩ := by
  show (fun args => (Δ 29).bind fun d => runDef (callN Δ k) d args) = _
  rw [show Δ 29 = T1 29 from A1.h 29 (by decide) (by decide)]
  rfl
theorem fn30 (Δ : Tb) [A1 Δ] (k : Nat) : callN Δ (k + 1) 30 = runDef (callN Δ k) ⟨["arena", "side", "weights", "pairs", "place"], ["arena", "side", "weights", "pairs", "place", "owner", "goals", "cost", "rank", "known", "sums", "less", "held", "k", "j"], b30⟩ := by
  show (fun args => (Δ 30).bind fun d => runDef (callN Δ k) d args) = _
  rw [show Δ 30 = T1 30 from A1.h 30 (by decide) (by decide)]
  rfl
theorem fn31 (Δ : Tb) [A1 Δ] (k : Nat) : callN Δ (k + 1) 31 = runDef (callN Δ k) ⟨["arena", "side", "target", "weights", "pairs"], ["arena", "side", "target", "weights", "pairs", "trap", "place", "pair", "one"], b31⟩ := by
  show (fun args => (Δ 31).bind fun d => runDef (callN Δ k) d args) = _
  rw [show Δ 31 = T1 31 from A1.h 31 (by decide) (by decide)]
  rfl
theorem fn32 (Δ : Tb) [A1 Δ] (k : Nat) : callN Δ (k + 1) 32 = runDef (callN Δ k) ⟨["draws", "row"], ["draws", "row", "k", "j", "kind", "one", "other"], b32⟩ := by
  show (fun args => (Δ 32).bind fun d => runDef (callN Δ k) d args) = _
  rw [show Δ 32 = T1 32 from A1.h 32 (by decide) (by decide)]
  rfl
theorem lcH {cl : CallF} {α β : Type} {f : α → D} (e : β → D) (g : α → β) {vs : List Nat} {el : E} {t : T} {c : OC} {xs : List α} {Q : List D → En → Prop} {env : En}
    (hs : ∀ x ∈ xs, Ev (t.put env (f x)) fun e1 => Ev (evOC cl c e1) fun z => z.1 = true ∧ Ev (evE cl el z.2) fun y => Ev (esc y.2 y.1) fun w => w.1 = e (g x) ∧ wipeE w.2 vs = env)
    (hd : Q ((xs.map g).map e) env) : LcE cl vs el t c (xs.map f) env Q := lcG (fun x => e (g x)) hs (by rw [List.map_map] at hd; exact hd)
theorem lcI {cl : CallF} {β : Type} (e : β → D) (g : D → β) {vs : List Nat} {el : E} {t : T} {c : OC} {xs : List D} {Q : List D → En → Prop} {env : En}
    (hs : ∀ x ∈ xs, Ev (t.put env x) fun e1 => Ev (evOC cl c e1) fun z => z.1 = true ∧ Ev (evE cl el z.2) fun y => Ev (esc y.2 y.1) fun w => w.1 = e (g x) ∧ wipeE w.2 vs = env)
    (hd : Q ((xs.map g).map e) env) : LcE cl vs el t c xs env Q := by
  have := lcH (cl := cl) (f := fun d : D => d) e g hs hd
  rwa [List.map_id'] at this
/-- an equation of a call from its evaluation -/
theorem eq_of {α : Type} {o : Option α} {a : α} (h : Ev o fun z => z = a) : o = some a := by
  obtain ⟨z, h, rfl⟩ := h
  exact h
def rowB (d : D) (n : Int) : Bool := match d with
  | .tup xs => (xs.length : Int) == n
  | _ => false
theorem isrow_ok (Δ : Tb) [A1 Δ] (k : Nat) (d : D) (n : Int) : callN Δ (k + 1) 17 [.fz d, .fz (.int n)] = some (.v (.bl (rowB d n)), [.fz d, .fz (.int n)]) := by
  refine eq_of ?_
  rw [fn17]
  generalize callN Δ k = cl
  walk_at "in"
  refine kt ?_
  cases d <;> simp_arith! [rowB]
/-- not a truth value -/
def noB : D → Bool
  | .bl _ => false
  | _ => true
def natB (d : D) : Bool := match d with
  | .int i => decide (0 ≤ i)
  | _ => false
theorem isnat_ok (Δ : Tb) [A1 Δ] (k : Nat) (d : D) (h : noB d = true) : callN Δ (k + 1) 18 [.fz d] = some (.v (.bl (natB d)), [.fz d]) := by
  refine eq_of ?_
  rw [fn18]
  generalize callN Δ k = cl
  walk_at "in"
  refine kt ?_
  cases d with
  | bl b => cases h
  | _ => simp_arith! [natB]
def pairB (d : D) : Bool := match d with
  | .tup xs => ((xs.length : Int) == 2) && xs.all natB
  | _ => false
theorem ispair_ok (Δ : Tb) [A1 Δ] (k : Nat) (xs : List D) (h : ∀ x ∈ xs, noB x = true) (hl : xs.length ≤ 1000) : callN Δ (k + 2) 19 [.fz (.tup xs)] = some (.v (.bl (pairB (.tup xs))), [.fz (.tup xs)]) := by
  refine eq_of ?_
  have h1 := isrow_ok Δ k
  have h2 := isnat_ok Δ k
  rw [fn19]
  generalize callN Δ (k + 1) = cl at h1 h2
  walk_at "in"
  refine kt ?_
  simp_arith! [h1, rowB, pairB]
  refine ⟨fun hc => ?_, fun hc => ?_⟩
  · refine lcI D.bl natB (fun x hx => ?_) ?_
    · simp_arith! [h2 x (h x hx)]
    · simp_arith! []
      refine ⟨by omega, ?_⟩
      have hc' : ((xs.length : Int) == 2) = true := by simpa using hc
      rw [hc', List.all_map, Bool.true_and]
      rfl
  · have hc' : ((xs.length : Int) == 2) = false := by simpa using hc
    rw [hc', Bool.false_and]
theorem unS_not {b : Bool} : unS .Not (.bl b) = some (.bl (!b)) := rfl
theorem isint_ok (Δ : Tb) [A1 Δ] (k : Nat) (d : D) : callN Δ (k + 1) 24 [.fz d] = some (.v (.bl (match d with | .int _ => true | _ => false)), [.fz d]) := by
  refine eq_of ?_
  rw [fn24]
  generalize callN Δ k = cl
  walk_at "in"
  refine kt ?_
  cases d <;> simp_arith! [unS_not]
theorem sl_tup {xs : List D} {lo hi : Option Int} : slS (.tup xs) lo hi = some (.v (.tup (cutD xs lo hi))) := rfl
theorem sl_lst {xs : List D} {lo hi : Option Int} : slS (.lst xs) lo hi = some (.nw (.lst (cutD xs lo hi))) := rfl
theorem cut_hi {xs : List D} {k : Int} (h : 0 ≤ k) : cutD xs none (some k) = xs.take k.toNat := by
  obtain ⟨j, rfl⟩ : ∃ j : Nat, k = (j : Nat) := ⟨k.toNat, by omega⟩
  unfold cutD
  rw [_root_.HT.sIx_nat, _root_.HT.sIx_none]
  simp only [List.drop_zero, Nat.sub_zero, Int.toNat_natCast]
  rw [List.take_eq_take_iff]; omega
theorem cut_lo {xs : List D} {k : Int} (h : 0 ≤ k) : cutD xs (some k) none = xs.drop k.toNat := by
  obtain ⟨j, rfl⟩ : ∃ j : Nat, k = (j : Nat) := ⟨k.toNat, by omega⟩
  unfold cutD
  rw [_root_.HT.sIx_nat, _root_.HT.sIx_none, Int.toNat_natCast]
  by_cases hj : j ≤ xs.length
  · rw [Nat.min_eq_left hj]
    rw [List.take_of_length_le (by simp)]
  · rw [Nat.min_eq_right (by omega), Nat.sub_self, List.take_zero, List.drop_eq_nil_of_le (by omega)]
theorem cut_m1 {xs : List D} : cutD xs none (some (-1)) = xs.dropLast := by
  unfold cutD
  rw [_root_.HT.sIx_none, List.drop_zero, Nat.sub_zero, List.dropLast_eq_take]
  congr 1
  show (if (-1 : Int) < 0 then ((-1 : Int) + (xs.length : Int)).toNat else min (-1 : Int).toNat xs.length) = _
  rw [if_pos (by omega)]
  omega
def putL (xs : List D) (k : Nat) (d : D) : List D := xs.take k ++ [d] ++ xs.drop (k + 1)
theorem putL_set {xs : List D} {k : Nat} {d : D} (h : k < xs.length) : putL xs k d = xs.set k d := by
  unfold putL
  rw [List.set_eq_take_append_cons_drop, if_pos h]
  simp
theorem put_ok (Δ : Tb) [A1 Δ] (k : Nat) (xs : List D) (j : Int) (d : D) (h0 : 0 ≤ j) (h : j < xs.length) (hl : xs.length ≤ 100000) :
    callN Δ (k + 1) 25 [.fz (.tup xs), .fz (.int j), .fz d] = some (.v (.tup (xs.set j.toNat d)), [.fz (.tup xs), .fz (.int j), .fz d]) := by
  refine eq_of ?_
  rw [fn25]
  generalize callN Δ k = cl
  walk_at "in"
  refine kt ?_
  have e : (xs.take j.toNat).length ≤ xs.length := by simp; omega
  have e2 : (xs.drop (j + 1).toNat).length ≤ xs.length := by simp
  simp_arith! [sl_tup, cut_hi h0, cut_lo (show 0 ≤ j + 1 by omega), add_tup1 (show (xs.take j.toNat).length + [d].length ≤ 16777216 by simp; omega), add_tup1 (show (xs.take j.toNat ++ [d]).length + (xs.drop (j + 1).toNat).length ≤ 16777216 by simp; omega)]
  rw [← putL_set (by omega)]
  unfold putL
  rw [show (j + 1).toNat = j.toNat + 1 by omega]
/-! the judge of the program -/
def lesB (r : Int) : Option (Int × Int) → Bool
  | some q => decide (q.2 < r)
  | none => false
def lowB (c : Int) : Option Int → Bool
  | some v => decide (v < c)
  | none => false
def samB (c : Int) : Option Int → Bool
  | some v => v == c
  | none => false
/-- a place with a pair, of the side or of the other one -/
def rpB (sd ow c r : Int) (bs : Ps) (cs : Cs) : Bool :=
  if ow = sd then !(cs.any (lowB c)) && (cs.zip (bs.map (lesB r))).any fun z => samB c z.1 && z.2
  else bs.all (lesB r) && (maxL (cs.filterMap id) == c)
theorem eq_oi {x : Option Int} {c : Int} : cmpS .Eq (oD x) (.int c) = some (samB c x) := by
  cases x with
  | none =>
    simp only [oD, cmpS, okD_non, okD_int, Bool.and_self, if_true, samB]
    unfold deq
    simp [D.toP, PyData.eqv]
  | some v => simp only [oD, eq_int, samB]
theorem zip_obl : ∀ (a : Cs) (b : List Bool), zipD (a.map oD) (b.map .bl) = (a.zip b).map fun p => .tup [oD p.1, .bl p.2]
  | [], _ => by simp [zipD]
  | _ :: _, [] => by simp [zipD]
  | x :: a, y :: b => by simp [zipD, zip_obl a b]
theorem zipS_l {xs ys : List D} : zipS (.lst xs) (.lst ys) = some (zipD xs ys) := rfl
theorem zipS_t {xs ys : List D} : zipS (.tup xs) (.tup ys) = some (zipD xs ys) := rfl
theorem all_some : ∀ {l : Cs}, (∀ x ∈ l, x.isSome = true) → (l.filterMap id).length = l.length
  | [], _ => rfl
  | none :: l, h => by have := h none (by simp); cases this
  | some x :: l, h => by
    have := all_some (l := l) fun y hy => h y (by simp [hy])
    simp [this]
theorem rightpair_ok (Δ : Tb) [A1 Δ] (k : Nat) (sd ow c r : Int) (bs : Ps) (cs : Cs) (hl : bs.length ≤ 1000) (hc : cs.length = bs.length) (hb : ∀ i : Nat, (cs.getD i none).isSome = (bs.getD i none).isSome) (h0 : 0 < bs.length) :
    callN Δ (k + 1) 20 [.fz (.int sd), .fz (.int ow), .fz (.tup [.int c, .int r]), .ow true (.lst (bs.map pD)), .ow true (.lst (cs.map oD))] =
      some (.v (.bl (rpB sd ow c r bs cs)), [.fz (.int sd), .fz (.int ow), .fz (.tup [.int c, .int r]), .ow true (.lst (bs.map pD)), .ow true (.lst (cs.map oD))]) := by
  refine eq_of ?_
  rw [fn20]
  generalize callN Δ k = cl
  walk_at "in"
  refine kt ?_
  simp_arith! []
  refine kt ?_
  simp_arith! []
  refine lcH D.bl (lesB r) (fun x hx => ?_) ?_
  · cases x with
    | none => simp_arith! [pD]; rfl
    | some q =>
      have i1 : idxS (.tup [.int q.1, .int q.2]) (.int 1) = some (.int q.2) := rfl
      simp_arith! [pD, i1]; rfl
  simp_arith! []
  refine ⟨by omega, ?_⟩
  refine kt ?_
  simp_arith! []
  refine ⟨fun ho => ?_, fun ho => ?_⟩
  · refine kt ?_
    simp_arith! []
    refine lcH D.bl (lowB c) (fun x hx => ?_) ?_
    · cases x with
      | none => simp_arith! [oD]; rfl
      | some q => simp_arith! [oD]; rfl
    simp_arith! []
    refine ⟨by omega, ?_⟩
    unfold rpB
    rw [if_pos ho]
    have ea : (cs.map (lowB c)).any id = cs.any (lowB c) := by rw [List.any_map]; rfl
    refine ⟨fun hx => ?_, fun hx => ?_⟩
    · refine kt ?_
      simp_arith! []
      rw [← ea, hx]; rfl
    · refine kt ?_
      simp_arith! [zipS_l, zip_obl]
      refine lcH D.bl (fun z : Option Int × Bool => samB c z.1 && z.2) (fun x hx => ?_) ?_
      · simp_arith! [eq_oi]
        exact ⟨fun h => by rw [h]; rfl, fun h => by rw [h]; rfl⟩
      simp_arith! []
      refine ⟨by omega, ?_⟩
      rw [← ea, hx, List.any_map]
      rfl
  · refine kt ?_
    simp_arith! []
    have ea : (bs.map (lesB r)).all id = bs.all (lesB r) := by rw [List.all_map]; rfl
    unfold rpB
    rw [if_neg ho]
    rw [ea]
    refine ⟨fun hx => ?_, fun hx => ?_⟩
    · have hall : (cs.filterMap id).length = cs.length := by
        have : ∀ x ∈ cs, x.isSome = true := by
          intro x hx'
          obtain ⟨i, hi⟩ := List.getElem?_of_mem hx'
          have h1 := hb i
          rw [List.getD_eq_getElem?_getD, hi] at h1
          have hil := (List.getElem?_eq_some_iff.mp hi).1
          rw [List.getD_eq_getElem?_getD, List.getElem?_eq_getElem (show i < bs.length by omega)] at h1
          have h2 := List.all_eq_true.mp hx (bs[i]'(by omega)) (List.getElem_mem _)
          simp only [Option.getD_some] at h1
          rw [h1]
          cases hq : bs[i]'(by omega) with
          | none => rw [hq] at h2; cases h2
          | some q => rfl
        exact all_some this
      rw [filt_all hall]
      simp_arith! [hx]
    · simp_arith! [hx]
def noneB {α : Type} : Option α → Bool
  | none => true
  | some _ => false
theorem isNon_pD' (x : Option (Int × Int)) : isNon (pD x) = noneB x := by cases x <;> rfl
def rnB (sd ow : Int) (bs : Ps) : Bool := if ow = sd then bs.all noneB else bs.any noneB
theorem rightnot_ok (Δ : Tb) [A1 Δ] (k : Nat) (sd ow : Int) (bs : Ps) (hl : bs.length ≤ 1000) :
    callN Δ (k + 1) 21 [.fz (.int sd), .fz (.int ow), .ow true (.lst (bs.map pD))] = some (.v (.bl (rnB sd ow bs)), [.fz (.int sd), .fz (.int ow), .ow true (.lst (bs.map pD))]) := by
  refine eq_of ?_
  rw [fn21]
  generalize callN Δ k = cl
  walk_at "in"
  refine kt ?_
  simp_arith! []
  refine lcH D.bl noneB (fun x hx => ?_) ?_
  · simp_arith! [isNon_pD']
  simp_arith! []
  refine ⟨by omega, ?_⟩
  refine kt ?_
  simp_arith! []
  unfold rnB
  refine ⟨fun h => ?_, fun h => ?_⟩
  · rw [if_pos h, List.all_map]; rfl
  · rw [if_neg h, List.any_map]; rfl
def raB (sd ow : Int) (p : Option (Int × Int)) (bs : Ps) (cs : Cs) : Bool := match p with
  | none => rnB sd ow bs
  | some q => rpB sd ow q.1 q.2 bs cs
theorem rightat_ok (Δ : Tb) [A1 Δ] (k : Nat) (sd ow : Int) (p : Option (Int × Int)) (bs : Ps) (cs : Cs) (hl : bs.length ≤ 1000) (hc : cs.length = bs.length) (hb : ∀ i : Nat, (cs.getD i none).isSome = (bs.getD i none).isSome) (h0 : 0 < bs.length) :
    callN Δ (k + 2) 22 [.fz (.int sd), .fz (.int ow), .fz (pD p), .ow true (.lst (bs.map pD)), .ow true (.lst (cs.map oD))] =
      some (.v (.bl (raB sd ow p bs cs)), [.fz (.int sd), .fz (.int ow), .fz (pD p), .ow true (.lst (bs.map pD)), .ow true (.lst (cs.map oD))]) := by
  refine eq_of ?_
  have h1 := rightpair_ok Δ k
  have h2 := rightnot_ok Δ k
  rw [fn22]
  generalize callN Δ (k + 1) = cl at h1 h2
  walk_at "in"
  refine kt ?_
  cases p with
  | none =>
    simp_arith! [pD]
    refine kt ?_
    simp_arith! [h2 sd ow bs hl, raB]
  | some q =>
    simp_arith! [pD]
    refine kt ?_
    simp_arith! [h1 sd ow q.1 q.2 bs cs hl hc hb h0, raB]
theorem idx_pst {ps : Ps} {m : Int} (h0 : 0 ≤ m) (h1 : m < ps.length) : idxS (.tup (ps.map pD)) (.int m) = some (pD (ps.getD m.toNat none)) := idx_ps h0 h1
theorem behindT_ok (Δ : Tb) [A0 Δ] (k : Nat) (ps : Ps) (mv row : List Int) (hm : ∀ m ∈ mv, 0 ≤ m ∧ m < ps.length) (hl : mv.length ≤ 1000) :
    callN Δ (k + 1) 0 [.fz (.tup (ps.map pD)), .fz (tupI mv), .fz (tupI row)] = some (.nw (.lst (((mv.zip row).map (behP ps)).map oD)), [.fz (.tup (ps.map pD)), .fz (tupI mv), .fz (tupI row)]) := by
  refine eq_of ?_
  rw [fn0]
  generalize callN Δ k = cl
  walk_at "in"
  unfold b0
  refine kt ?_
  simp_arith! [tupI, zipS_t, zip_ints]
  refine lcH oD (behP ps) (fun p hp => ?_) ?_
  · have hm1 := hm p.1 (List.of_mem_zip hp).1
    have ix := idx_pst hm1.1 hm1.2
    unfold behP
    cases hx : ps.getD p.1.toNat none with
    | none =>
      rw [hx] at ix
      simp_arith! [ix, pD, oD, Option.map_none]
    | some c =>
      rw [hx] at ix
      have i0 : idxS (pD (some c)) (.int 0) = some (.int c.1) := rfl
      have isn : isNon (pD (some c)) = false := rfl
      simp_arith! [ix, i0, isn, oD]
  · have := List.length_zip (l₁ := mv) (l₂ := row)
    simp_arith! []
    omega
/-- what a row may hold -/
def ElOk (d : D) : Prop := d = .non ∨ ∃ xs, d = .tup xs ∧ (∀ x ∈ xs, noB x = true) ∧ xs.length ≤ 1000
def okE (d : D) : Bool := isNon d || pairB d
def NatP (ps : Ps) : Prop := ∀ (i : Nat) (q : Int × Int), ps[i]? = some (some q) → 0 ≤ q.1 ∧ 0 ≤ q.2
theorem pair_of {d : D} (h : pairB d = true) : ∃ a b, d = .tup [.int a, .int b] ∧ 0 ≤ a ∧ 0 ≤ b := by
  unfold pairB at h
  split at h
  · rename_i xs
    simp only [Bool.and_eq_true, beq_iff_eq] at h
    obtain ⟨h1, h2⟩ := h
    match xs, h1, h2 with
    | [x, y], _, h2 =>
      simp only [List.all_cons, List.all_nil, Bool.and_true, Bool.and_eq_true] at h2
      obtain ⟨hx, hy⟩ := h2
      unfold natB at hx hy
      split at hx
      · split at hy
        · exact ⟨_, _, rfl, by simpa using hx, by simpa using hy⟩
        · cases hy
      · cases hx
    | [], h1, _ => simp at h1
    | [_], h1, _ => simp at h1
    | _ :: _ :: _ :: _, h1, _ => simp at h1; omega
  · cases h
theorem okE_of : ∀ {es : List D}, (es.all okE = true) → ∃ ps : Ps, es = ps.map pD ∧ NatP ps
  | [], _ => ⟨[], rfl, fun i q h => by simp at h⟩
  | d :: es, h => by
    simp only [List.all_cons, Bool.and_eq_true] at h
    obtain ⟨ps, rfl, hp⟩ := okE_of h.2
    have h1 := h.1
    unfold okE at h1
    rw [Bool.or_eq_true] at h1
    rcases h1 with h1 | h1
    · refine ⟨none :: ps, (by cases d with
        | non => rfl
        | _ => cases h1), fun i q hq => ?_⟩
      cases i with
      | zero => simp at hq
      | succ i => exact hp i q (by simpa using hq)
    · obtain ⟨a, b, rfl, ha, hb⟩ := pair_of h1
      refine ⟨some (a, b) :: ps, rfl, fun i q hq => ?_⟩
      cases i with
      | zero => simp at hq; subst hq; exact ⟨ha, hb⟩
      | succ i => exact hp i q (by simpa using hq)
theorem okE_nat {ps : Ps} : (ps.map pD).all okE = true ↔ NatP ps := by
  constructor
  · intro h i q hq
    have hm := List.mem_of_getElem? hq
    have := List.all_eq_true.mp h (pD (some q)) (List.mem_map.mpr ⟨_, hm, rfl⟩)
    obtain ⟨a, b, e, ha, hb⟩ := pair_of (d := pD (some q)) (by simpa [okE, pD, isNon] using this)
    cases e
    exact ⟨ha, hb⟩
  · intro h
    refine List.all_eq_true.mpr fun d hd => ?_
    obtain ⟨x, hx, rfl⟩ := List.mem_map.mp hd
    obtain ⟨i, hi⟩ := List.getElem?_of_mem hx
    cases x with
    | none => rfl
    | some q =>
      have := h i q hi
      simp [okE, pD, pairB, natB, this]
def bsOf (ps : Ps) (mv : List Int) : Ps := mv.map fun m => ps.getD m.toNat none
def atB (ar : List (Int × List Int)) (ws : List (List Int)) (sd : Int) (tg : List Int) (ps : Ps) (i : Nat) : Bool :=
  if (i : Int) ∈ tg then ps.getD i none == some (0, 0) else raB sd (ar.getD i (0, [])).1 (ps.getD i none) (bsOf ps (ar.getD i (0, [])).2) ((((ar.getD i (0, [])).2).zip (ws.getD i [])).map (behP ps))
theorem okD_pD (p : Option (Int × Int)) : okD (pD p) = true := by
  cases p with
  | none => exact okD_non
  | some q => exact okD_of rfl (by simp [pD, dep, deps])
theorem ne_p00 {p : Option (Int × Int)} : cmpS .NotEq (pD p) (.tup [.int 0, .int 0]) = some (!(p == some (0, 0))) := by
  have h0 : okD (.tup [.int 0, .int 0]) = true := okD_pD (some (0, 0))
  simp only [cmpS, okD_pD, h0, Bool.and_self, if_true]
  cases p with
  | none => simp [pD, deq, D.toP, toPs, PyData.eqv]
  | some q =>
    obtain ⟨a, b⟩ := q
    simp only [pD, deq, D.toP, toPs, PyData.eqv, PyData.eqvAll]
    congr 2
    rw [Bool.eq_iff_iff]
    simp
def JudP (ar : List (Int × List Int)) (ws : List (List Int)) (sd : Int) (tg : List Int) (es : List D) : Prop := ∃ ps : Ps, es = ps.map pD ∧ ps.length = ar.length ∧ NatP ps ∧ ∀ i, i < ar.length → atB ar ws sd tg ps i = true
theorem pD_inj {p q : Option (Int × Int)} (h : pD p = pD q) : p = q := by
  cases p with
  | none => cases q with
    | none => rfl
    | some q => cases h
  | some p => cases q with
    | none => cases h
    | some q =>
      obtain ⟨a, b⟩ := p
      obtain ⟨c, d⟩ := q
      simp only [pD, D.tup.injEq, List.cons.injEq, D.int.injEq, and_true] at h
      rw [h.1, h.2]
theorem map_pD_inj : ∀ {a b : Ps}, a.map pD = b.map pD → a = b
  | [], [], _ => rfl
  | [], _ :: _, h => by cases h
  | _ :: _, [], h => by cases h
  | x :: a, y :: b, h => by
    simp only [List.map_cons, List.cons.injEq] at h
    rw [pD_inj h.1, map_pD_inj h.2]
theorem judge_ok (Δ : Tb) [A0 Δ] [A1 Δ] (k : Nat) (ar : List (Int × List Int)) (ws : List (List Int)) (sd : Int) (tg : List Int) (es : List D) (h : Okay ar ws) (he : ∀ d ∈ es, ElOk d) (hel : es.length ≤ 1000) :
    Ev (callN Δ (k + 4) 23 [.fz (arD ar), .fz (.int sd), .fz (tupI tg), .fz (wsD ws), .fz (.tup es)]) fun z => ∃ b, z = (.v (.bl b), [.fz (arD ar), .fz (.int sd), .fz (tupI tg), .fz (wsD ws), .fz (.tup es)]) ∧ (b = true ↔ JudP ar ws sd tg es) := by
  have h17 := isrow_ok Δ (k + 2)
  have h19 := ispair_ok Δ (k + 1)
  have h0 := behindT_ok Δ (k + 2)
  have h22 := rightat_ok Δ (k + 1)
  rw [fn23]
  generalize callN Δ (k + 3) = cl at h17 h19 h0 h22
  have hn := h.n
  walk_at "in"
  refine kt ?_
  simp_arith! [h17, ar_len, rowB]
  refine ⟨fun hc => ?_, fun hc => ?_⟩
  · refine kt ?_
    simp_arith! []
    refine ⟨false, rfl, by simp, ?_⟩
    rintro ⟨ps, rfl, h1, _⟩
    rw [List.length_map, h1] at hc
    exact absurd rfl hc
  refine lcI D.bl okE (fun d hd => ?_) ?_
  · rcases he d hd with rfl | ⟨xs, rfl, h1, h2⟩
    · simp_arith! []; rfl
    · simp_arith! [h19 xs h1 h2]; rfl
  simp_arith! []
  refine ⟨by omega, ?_⟩
  have ea : (es.map okE).all id = es.all okE := by rw [List.all_map]; rfl
  rw [ea]
  refine ⟨fun hx => ?_, fun hx => ?_⟩
  · refine kt ?_
    simp_arith! []
    refine ⟨false, rfl, by simp, ?_⟩
    rintro ⟨ps, rfl, h1, h2, _⟩
    rw [okE_nat.mpr h2] at hx
    cases hx
  obtain ⟨ps, rfl, hnat⟩ := okE_of hx
  have hpl : ps.length = ar.length := by simp only [List.length_map] at hc; omega
  refine kt ?_
  simp_arith! [ar_items]
  refine foN (fun j e => (∀ i, i < j → atB ar ws sd tg ps i = true) ∧ ∃ s5 s6 s7 s8 s9, fr s5 = true ∧ fr s6 = true ∧ fr s7 = true ∧ fr s8 = true ∧ fr s9 = true ∧ e = [.fz (arD ar), .fz (.int sd), .fz (tupI tg), .fz (wsD ws), .fz (.tup (ps.map pD)), s5, s6, s7, s8, s9, .un, .un]) ⟨(fun _ h => absurd h (Nat.not_lt_zero _)), _, _, _, _, _, rfl, rfl, rfl, rfl, rfl, rfl⟩ ?_ ?_
  · rintro j x hx e ⟨hj, s5, s6, s7, s8, s9, f5, f6, f7, f8, f9, rfl⟩
    obtain ⟨w, hw, hwl⟩ := h.row hx
    have hjl : j < ar.length := (List.getElem?_eq_some_iff.mp hx).1
    have hg := h.g x (List.mem_of_getElem? hx)
    have ip := idx_pst (ps := ps) (m := j) (by omega) (by omega)
    have iw : idxS (wsD ws) (.int j) = some (tupI w) := atI_map hw
    have hmv : ∀ m ∈ x.2, 0 ≤ m ∧ m < ps.length := fun m hm => by have := hg.2.2.2 m hm; omega
    have hat : atB ar ws sd tg ps j = if (j : Int) ∈ tg then ps.getD j none == some (0, 0) else raB sd x.1 (ps.getD j none) (bsOf ps x.2) ((x.2.zip w).map (behP ps)) := by
      unfold atB
      rw [show ar.getD j (0, []) = x by rw [List.getD_eq_getElem?_getD, hx]; rfl, show ws.getD j [] = w by rw [List.getD_eq_getElem?_getD, hw]; rfl]
    simp only [plD]
    simp_arith! [f5, f6, f7]
    have hg1 := hg.2.1
    have hg2 := hg.2.2.1
    refine kt ?_
    simp_arith! []
    refine lcH pD (fun m : Int => ps.getD m.toNat none) (fun m hm => ?_) ?_
    · have := idx_pst (ps := ps) (m := m) (hmv m hm).1 (hmv m hm).2
      simp_arith! [this]
    simp_arith! [f8]
    refine ⟨by omega, ?_⟩
    have e0 := h0 ps x.2 w hmv hg.2.2.1
    simp only [tupI] at e0 iw
    refine kt ?_
    simp_arith! [iw, e0, f9]
    have hcl : ((x.2.zip w).map (behP ps)).length = (bsOf ps x.2).length := by simp [bsOf, hwl]
    have hbl : (bsOf ps x.2).length = x.2.length := by simp [bsOf]
    have hsm : ∀ i : Nat, (((x.2.zip w).map (behP ps)).getD i none).isSome = ((bsOf ps x.2).getD i none).isSome := by
      intro i
      unfold bsOf
      rw [List.getD_eq_getElem?_getD, List.getD_eq_getElem?_getD, List.getElem?_map, List.getElem?_map, List.zip_eq_zipWith, List.getElem?_zipWith]
      by_cases hi : i < x.2.length
      · rw [List.getElem?_eq_getElem hi, List.getElem?_eq_getElem (show i < w.length by omega)]
        simp [behP]
      · rw [List.getElem?_eq_none (show x.2.length ≤ i by omega)]
        rfl
    have e22 := h22 sd x.1 (ps.getD j none) (bsOf ps x.2) ((x.2.zip w).map (behP ps)) (by omega) hcl hsm (by omega)
    unfold bsOf at e22 hat
    refine kt ?_
    simp_arith! [in_tupI, tupI]
    refine ⟨fun ht => ?_, fun ht => ?_⟩
    · rw [if_pos ht] at hat
      refine kt ?_
      simp_arith! [ip, ne_p00]
      refine ⟨fun hq => ?_, fun hq => ?_⟩
      · refine kt ?_
        simp_arith! []
        refine ⟨false, rfl, by simp, ?_⟩
        rintro ⟨ps', e, h1, h2, h3⟩
        have := map_pD_inj e
        subst this
        have := h3 j hjl
        rw [hat] at this
        exact absurd this (by simpa using hq)
      · refine ⟨fun i hi => ?_, _, _, _, _, _, rfl, rfl, rfl, rfl, rfl, rfl⟩
        rcases Nat.lt_succ_iff_lt_or_eq.mp hi with hi | rfl
        · exact hj i hi
        · rw [hat]; simpa using hq
    · rw [if_neg ht] at hat
      refine kt ?_
      simp_arith! [ip, e22]
      refine ⟨fun hq => ?_, fun hq => ?_⟩
      · refine kt ?_
        simp_arith! []
        refine ⟨false, rfl, by simp, ?_⟩
        rintro ⟨ps', e, h1, h2, h3⟩
        have := map_pD_inj e
        subst this
        have := h3 j hjl
        rw [hat] at this
        exact absurd this (by simpa using hq)
      · refine ⟨fun i hi => ?_, _, _, _, _, _, rfl, rfl, rfl, rfl, rfl, rfl⟩
        rcases Nat.lt_succ_iff_lt_or_eq.mp hi with hi | rfl
        · exact hj i hi
        · rw [hat]; simpa using hq
  · rintro e ⟨hj, s5, s6, s7, s8, s9, f5, f6, f7, f8, f9, rfl⟩
    simp_arith! []
    refine kt ?_
    simp_arith! []
    exact ⟨true, rfl, fun _ => ⟨ps, rfl, hpl, hnat, hj⟩, fun _ => rfl⟩
/-! ranks by rounds -/
def knB (rk : Cs) (m : Int) : Bool := (rk.getD m.toNat none).isSome
def freshB (ar : List (Int × List Int)) (sd : Int) (rk : Cs) (i : Nat) : Bool :=
  if (ar.getD i (0, [])).1 = sd then (ar.getD i (0, [])).2.any (knB rk) else (ar.getD i (0, [])).2.all (knB rk)
def newB (ar : List (Int × List Int)) (sd : Int) (rk : Cs) (i : Nat) : Bool := !(rk.getD i none).isSome && freshB ar sd rk i
def rkStep (ar : List (Int × List Int)) (sd : Int) (t : Int) (rk : Cs) : Cs := (List.range rk.length).map fun i => if newB ar sd rk i = true then some t else rk.getD i none
def iterR (ar : List (Int × List Int)) (sd : Int) (rk : Cs) : Nat → Cs
  | 0 => rk
  | i + 1 => rkStep ar sd ((i : Int) + 1) (iterR ar sd rk i)
theorem rkStep_len {ar sd t rk} : (rkStep ar sd t rk).length = rk.length := by simp [rkStep]
theorem iterR_len {ar sd rk} : ∀ {i}, (iterR ar sd rk i).length = rk.length
  | 0 => rfl
  | i + 1 => by unfold iterR; rw [rkStep_len, iterR_len]
/-- the first m of the new ones set -/
def setTo (rk : Cs) (fs : List Nat) (t : Int) : Nat → Cs
  | 0 => rk
  | m + 1 => (setTo rk fs t m).set (fs.getD m 0) (some t)
theorem setTo_len {rk fs t} : ∀ {m}, (setTo rk fs t m).length = rk.length
  | 0 => rfl
  | m + 1 => by unfold setTo; rw [List.length_set, setTo_len]
theorem setTo_get {rk : Cs} {fs : List Nat} {t : Int} : ∀ {m : Nat} (hm : m ≤ fs.length) (i : Nat), i < rk.length → (setTo rk fs t m)[i]? = if i ∈ fs.take m then some (some t) else rk[i]?
  | 0, _, i, _ => by simp [setTo]
  | m + 1, hm, i, hi => by
    have ih := setTo_get (rk := rk) (fs := fs) (t := t) (m := m) (by omega) i hi
    have hml : m < fs.length := by omega
    unfold setTo
    rw [List.getElem?_set, setTo_len, List.take_succ, List.getElem?_eq_getElem hml, ih]
    have e : fs.getD m 0 = fs[m] := by rw [List.getD_eq_getElem?_getD, List.getElem?_eq_getElem hml]; rfl
    rw [e]
    simp only [Option.toList_some, List.mem_append, List.mem_singleton]
    by_cases h : fs[m] = i
    · rw [if_pos h, if_pos (by omega), if_pos (Or.inr h.symm)]
    · have h' : ¬ i = fs[m] := fun z => h z.symm
      rw [if_neg h]
      simp only [h', or_false]
theorem setTo_all {ar : List (Int × List Int)} {sd t : Int} {rk : Cs} {fs : List Nat} (hf : fs = (List.range rk.length).filter (newB ar sd rk)) : setTo rk fs t fs.length = rkStep ar sd t rk := by
  apply List.ext_getElem?
  intro i
  by_cases hi : i < rk.length
  · rw [setTo_get (Nat.le_refl _) i hi, List.take_length]
    unfold rkStep
    rw [List.getElem?_map, List.getElem?_range hi]
    have : i ∈ fs ↔ newB ar sd rk i = true := by rw [hf]; simp [hi]
    by_cases h : newB ar sd rk i = true
    · rw [if_pos (this.mpr h)]; simp [h]
    · rw [if_neg (fun z => h (this.mp z))]
      simp [h, hi]
  · rw [List.getElem?_eq_none (by rw [setTo_len]; omega), List.getElem?_eq_none (by rw [rkStep_len]; omega)]
theorem in_bls {b : Bool} {l : List Bool} : cmpS .In (.bl b) (.lst (l.map .bl)) = some (l.any fun x => x == b) := by
  have h1 : okD (.lst (l.map D.bl)) = true := okD_of (by simp only [lay]; exact lays_map (fun _ => rfl) l) (by simp only [dep]; have := deps_map (f := D.bl) (n := 0) (fun _ => Nat.le_refl _) l; omega)
  simp only [cmpS, inS, okD_bl, h1, Bool.and_self, if_true]
  rw [List.any_map]
  exact congrArg some (congrArg (fun f => l.any f) (funext fun x => deq_bl))
theorem notin_bls {b : Bool} {l : List Bool} : cmpS .NotIn (.bl b) (.lst (l.map .bl)) = some (!l.any fun x => x == b) := by
  have := in_bls (b := b) (l := l)
  simp only [cmpS] at this ⊢
  rw [this]; rfl
theorem any_t (l : List Bool) : (l.any fun x => x == true) = l.any id := by congr 1; funext x; cases x <;> rfl
theorem any_f (l : List Bool) : (!l.any fun x => x == false) = l.all id := by
  induction l with
  | nil => rfl
  | cons x l ih => simp only [List.any_cons, List.all_cons, Bool.not_or, ih]; cases x <;> rfl
/-- a start with zeros at the target -/
theorem lranks_ok (Δ : Tb) [A1 Δ] (k : Nat) (ar : List (Int × List Int)) (sd : Int) (tg : List Int) (hn : ar.length ≤ 1000) (hg : ∀ p ∈ ar, GoodP ar.length p) (ht : ∀ x ∈ tg, 0 ≤ x ∧ x < ar.length) :
    callN Δ (k + 1) 27 [.fz (arD ar), .fz (.int sd), .fz (tupI tg)] = some (.v (.tup ((iterR ar sd (startC ar.length tg) (ar.length - 1)).map oD)), [.fz (arD ar), .fz (.int sd), .fz (tupI tg)]) := by
  refine eq_of ?_
  rw [fn27]
  generalize callN Δ k = cl
  walk_at "in"
  refine kt ?_
  simp_arith! [ar_len]
  refine kt ?_
  simp_arith! [tupI]
  refine foM (fun i e => ∃ s4, fr s4 = true ∧ e = [Sl.fz (arD ar), .fz (.int sd), .fz (tupI tg), .ow false (.lst (((List.range ar.length).map fun j : Nat => if (j : Int) ∈ tg.take i then some (0 : Int) else none).map oD)), s4, .un, .un, .un, .un]) ⟨.un, rfl, ?_⟩ ?_ ?_
  · have : (List.replicate ar.length D.non) = ((List.range ar.length).map fun j : Nat => if (j : Int) ∈ tg.take 0 then some (0 : Int) else none).map oD := by
      apply List.ext_getElem
      · simp
      · intro i h1 h2; simp [oD]
    rw [this]
    rfl
  · rintro i x hx e ⟨s6, f6, rfl⟩
    have hx2 := ht x (List.mem_of_getElem? hx)
    simp_arith! [f6]
    refine kt ?_
    simp_arith! []
    exact ⟨_, rfl, by rw [set_start hx hx2.1 oD]⟩
  rintro e ⟨s4, f4, rfl⟩
  rw [List.take_length]
  simp_arith! []
  refine kt ?_
  simp_arith! [ar_len]
  rw [show (List.range ar.length).map (fun j : Nat => if (j : Int) ∈ tg then some (0 : Int) else none) = startC ar.length tg from rfl]
  have hcl : (startC ar.length tg).length = ar.length := by simp [startC]
  rw [show ((ar.length : Int) - 1).toNat = ar.length - 1 by omega]
  refine foR (fun i e => ∃ s4 s5 s6 s7, fr s4 = true ∧ fr s5 = true ∧ fr s6 = true ∧ fr s7 = true ∧ e = [Sl.fz (arD ar), .fz (.int sd), .fz (tupI tg), .ow false (.lst ((iterR ar sd (startC ar.length tg) i).map oD)), s4, s5, s6, s7, .un]) ⟨s4, .un, .un, .un, f4, rfl, rfl, rfl, rfl⟩ ?_ ?_
  · rintro i hi e ⟨s4, s5, s6, s7, f4, f5, f6, f7, rfl⟩
    simp_arith! [f5]
    refine kt ?_
    simp_arith! [f6]
    refine kt ?_
    simp_arith! [ar_len]
    have hrl : (iterR ar sd (startC ar.length tg) i).length = ar.length := by rw [iterR_len, hcl]
    have hnx : iterR ar sd (startC ar.length tg) (i + 1) = rkStep ar sd ((i : Int) + 1) (iterR ar sd (startC ar.length tg) i) := rfl
    rw [hnx]
    generalize iterR ar sd (startC ar.length tg) i = rk at hrl
    refine foR (fun j e => ∃ s4 s7, fr s4 = true ∧ fr s7 = true ∧ e = [Sl.fz (arD ar), .fz (.int sd), .fz (tupI tg), .ow false (.lst (rk.map oD)), s4, .fz (.int (1 + (i : Nat))), .ow false (.lst (((List.range j).filter (newB ar sd rk)).map fun j : Nat => .int j)), s7, .un]) ⟨s4, s7, f4, f7, rfl⟩ ?_ ?_
    · rintro j hj e ⟨s4, s7, f4, f7, rfl⟩
      obtain ⟨x, hx⟩ : ∃ x, ar[j]? = some x := ⟨_, List.getElem?_eq_getElem hj⟩
      have hgx := hg x (List.mem_of_getElem? hx)
      have ip := idx_os (cs := rk) (m := j) (by omega) (by omega)
      have ia : idxS (arD ar) (.int j) = some (plD x) := atI_map hx
      have ea : ar.getD j (0, []) = x := by rw [List.getD_eq_getElem?_getD, hx]; rfl
      have i0 : idxS (.tup [.int x.1, .tup (x.2.map .int)]) (.int 0) = some (.int x.1) := rfl
      have i1 : idxS (.tup [.int x.1, .tup (x.2.map .int)]) (.int 1) = some (.tup (x.2.map .int)) := rfl
      have hfl : ((List.range j).filter (newB ar sd rk)).length ≤ j := by
        have := List.length_filter_le (newB ar sd rk) (List.range j)
        rwa [List.length_range] at this
      have hsucc : (List.range (j + 1)).filter (newB ar sd rk) = (List.range j).filter (newB ar sd rk) ++ if newB ar sd rk j = true then [j] else [] := by
        rw [List.range_succ, List.filter_append, List.filter_cons, List.filter_nil]
      simp only [plD] at ia
      simp_arith! [f4]
      refine kt ?_
      simp_arith! [ip, isNon_oD]
      refine ⟨fun hs => ?_, fun hs => ?_⟩
      · refine kt ?_
        simp_arith! [ia, i1]
        have hg2 := hgx.2.2.1
        refine lcH D.bl (knB rk) (fun m hm => ?_) ?_
        · have hmm := hgx.2.2.2 m hm
          have := idx_os (cs := rk) (m := m) hmm.1 (by omega)
          simp_arith! [this, isNon_oD, Bool.not_not]
          rfl
        simp_arith! [f7]
        refine ⟨by omega, ?_⟩
        refine kt ?_
        simp_arith! [ia, i0, in_bls, notin_bls, any_t, any_f]
        have hnew : newB ar sd rk j = freshB ar sd rk j := by unfold newB; rw [hs]; rfl
        have hfr : freshB ar sd rk j = if x.1 = sd then x.2.any (knB rk) else x.2.all (knB rk) := by unfold freshB; rw [ea]
        have e1 : (x.2.map (knB rk)).any id = x.2.any (knB rk) := by rw [List.any_map]; rfl
        have e2 : (x.2.map (knB rk)).all id = x.2.all (knB rk) := by rw [List.all_map]; rfl
        rw [hnew, hfr] at hsucc
        rw [e1, e2, hsucc]
        refine ⟨fun hc => ?_, fun hc => ?_⟩
        · refine kt ?_
          simp_arith! []
          have : (if x.1 = sd then x.2.any (knB rk) else x.2.all (knB rk)) = true := by
            rcases hc with ⟨h1, h2⟩ | ⟨h1, h2⟩
            · rw [if_pos h1]; exact h2
            · rw [if_neg h1]; exact h2
          rw [if_pos this, List.map_append]
          exact ⟨_, _, rfl, rfl, rfl⟩
        · have : ¬ (if x.1 = sd then x.2.any (knB rk) else x.2.all (knB rk)) = true := by
            intro z
            by_cases h1 : x.1 = sd
            · rw [if_pos h1] at z
              rcases hc.1 with h | h
              · exact h h1
              · rw [z] at h; cases h
            · rw [if_neg h1] at z
              rcases hc.2 with h | h
              · exact h1 h
              · rw [z] at h; cases h
          rw [if_neg this, List.append_nil]
          exact ⟨_, _, rfl, rfl, rfl⟩
      · have : newB ar sd rk j = false := by unfold newB; rw [hs]; rfl
        rw [hsucc, this, if_neg (by decide), List.append_nil]
        exact ⟨_, _, rfl, f7, rfl⟩
    · rintro e ⟨s4, s7, f4, f7, rfl⟩
      simp_arith! []
      refine kt ?_
      simp_arith! []
      generalize hfs : (List.range ar.length).filter (newB ar sd rk) = fs
      rw [← hrl] at hfs
      have hall := setTo_all (t := (i : Int) + 1) hfs.symm
      have hfb : ∀ x ∈ fs, x < rk.length := fun x hx => by rw [← hfs] at hx; have := (List.mem_filter.mp hx).1; simpa using this
      refine foM (fun m e => ∃ s4, fr s4 = true ∧ e = [Sl.fz (arD ar), .fz (.int sd), .fz (tupI tg), .ow false (.lst ((setTo rk fs ((i : Int) + 1) m).map oD)), s4, .fz (.int (1 + (i : Nat))), .lk false (.lst (fs.map fun j : Nat => .int j)), s7, .un]) ⟨s4, f4, rfl⟩ ?_ ?_
      · rintro m y hy e ⟨s4, f4, rfl⟩
        have hyb := hfb y (List.mem_of_getElem? hy)
        have hsl := setTo_len (rk := rk) (fs := fs) (t := (i : Int) + 1) (m := m)
        simp_arith! [f4]
        refine kt ?_
        simp_arith! []
        rw [show setTo rk fs ((i : Int) + 1) (m + 1) = (setTo rk fs ((i : Int) + 1) m).set (fs.getD m 0) (some ((i : Int) + 1)) from rfl]
        rw [List.map_set, show fs.getD m 0 = y by rw [List.getD_eq_getElem?_getD, hy]; rfl, Int.add_comm]
        exact ⟨_, rfl, rfl⟩
      · rintro e ⟨s4, f4, rfl⟩
        simp_arith! [hall]
        exact ⟨_, _, _, _, f4, rfl, rfl, f7, rfl⟩
  · rintro e ⟨s4, s5, s6, s7, f4, f5, f6, f7, rfl⟩
    simp_arith! []
    refine kt ?_
    simp_arith! []
theorem idx_ost {cs : Cs} {m : Int} (h0 : 0 ≤ m) (h1 : m < cs.length) : idxS (.tup (cs.map oD)) (.int m) = some (oD (cs.getD m.toNat none)) := idx_os h0 h1
def trapL (rk : Cs) : List Int := ((List.range rk.length).filter fun i => noneB (rk.getD i none)).map fun i : Nat => (i : Int)
theorem isNon_oD' (x : Option Int) : isNon (oD x) = noneB x := by cases x <;> rfl
theorem mem_trapL {rk : Cs} {i : Nat} (h : i < rk.length) : (i : Int) ∈ trapL rk ↔ rk.getD i none = none := by
  unfold trapL
  simp only [List.mem_map, List.mem_filter, List.mem_range]
  constructor
  · rintro ⟨j, ⟨h1, h2⟩, h3⟩
    have : j = i := by omega
    subst this
    cases hq : rk.getD j none with
    | none => rfl
    | some v => rw [hq] at h2; cases h2
  · intro hq
    exact ⟨i, ⟨h, by rw [hq]; rfl⟩, rfl⟩
theorem ltrap_ok (Δ : Tb) [A1 Δ] (k : Nat) (ar : List (Int × List Int)) (sd : Int) (tg : List Int) (hn : ar.length ≤ 1000) (hg : ∀ p ∈ ar, GoodP ar.length p) (ht : ∀ x ∈ tg, 0 ≤ x ∧ x < ar.length) :
    callN Δ (k + 2) 28 [.fz (arD ar), .fz (.int sd), .fz (tupI tg)] = some (.v (tupI (trapL (iterR ar sd (startC ar.length tg) (ar.length - 1)))), [.fz (arD ar), .fz (.int sd), .fz (tupI tg)]) := by
  refine eq_of ?_
  have h27 := lranks_ok Δ k ar sd tg hn hg ht
  rw [fn28]
  generalize callN Δ (k + 1) = cl at h27
  walk_at "in"
  refine kt ?_
  simp_arith! [h27]
  refine kt ?_
  simp_arith! [ar_len]
  have hrl : (iterR ar sd (startC ar.length tg) (ar.length - 1)).length = ar.length := by rw [iterR_len]; simp [startC]
  generalize iterR ar sd (startC ar.length tg) (ar.length - 1) = rk at hrl
  refine lcF (xs := List.range ar.length) (f := fun k : Nat => D.int k) (fun k : Nat => D.int k) (fun i => noneB (rk.getD i none)) (fun i hi => ?_) ?_
  · have hi' : i < ar.length := by simpa using hi
    have ip := idx_ost (cs := rk) (m := i) (by omega) (by omega)
    simp_arith! [ip, isNon_oD']
  · have := List.length_filter_le (fun i => noneB (rk.getD i none)) (List.range ar.length)
    rw [List.length_range] at this
    simp_arith! []
    refine ⟨by omega, ?_⟩
    unfold tupI trapL
    rw [List.map_map, hrl]
    rfl
theorem putS_some : True := trivial
/-- the pairs of the law, ranks by a factor -/
def scP (f : Int) (ps : Ps) : Ps := ps.map fun x => x.map fun q => (q.1, f * q.2)
theorem lpairs_ok (Δ : Tb) [A0 Δ] [A1 Δ] (k : Nat) (ar : List (Int × List Int)) (ws : List (List Int)) (sd : Int) (tg : List Int) (f : Int) (hf : 0 ≤ f ∧ f < 2 ^ 64) (h : Okay ar ws) (ht : ∀ x ∈ tg, 0 ≤ x ∧ x < ar.length) :
    callN Δ (k + 2) 29 [.fz (arD ar), .fz (.int sd), .fz (tupI tg), .fz (wsD ws), .fz (.int f)] = some (.v (.tup ((scP f (iterP ar ws sd (start ar.length tg) ar.length)).map pD)), [.fz (arD ar), .fz (.int sd), .fz (tupI tg), .fz (wsD ws), .fz (.int f)]) := by
  refine eq_of ?_
  have h15 := lcosts_ok Δ k ar ws sd tg h ht
  have hn := h.n
  rw [fn29]
  generalize callN Δ (k + 1) = cl at h15
  walk_at "in"
  refine kt ?_
  simp_arith! [h15]
  refine kt ?_
  simp_arith! []
  refine kt ?_
  simp_arith! [ar_len]
  have hpl : (iterP ar ws sd (start ar.length tg) ar.length).length = ar.length := by rw [iterP_len, start_len]
  generalize iterP ar ws sd (start ar.length tg) ar.length = ps at hpl
  have hcl : (csOf ps).length = ar.length := by rw [← hpl]; simp [csOf]
  have hrl : (rkOf ps).length = ar.length := by rw [← hpl]; simp [rkOf]
  refine foR (fun i e => ∃ s8, fr s8 = true ∧ e = [Sl.fz (arD ar), .fz (.int sd), .fz (tupI tg), .fz (wsD ws), .fz (.int f), .fz (.tup ((csOf ps).map oD)), .fz (.tup ((rkOf ps).map oD)), .ow false (.lst (((scP f ps).take i).map pD)), s8]) ⟨_, rfl, rfl⟩ ?_ ?_
  · rintro i hi e ⟨s8, f8, rfl⟩
    have i1 := idx_ost (cs := csOf ps) (m := i) (by omega) (by omega)
    have i2 := idx_ost (cs := rkOf ps) (m := i) (by omega) (by omega)
    obtain ⟨x, hx⟩ : ∃ x, ps[i]? = some x := ⟨_, List.getElem?_eq_getElem (by omega)⟩
    have e1 : (csOf ps).getD i none = x.map (·.1) := by rw [csOf_get, List.getD_eq_getElem?_getD, hx]; rfl
    have e2 : (rkOf ps).getD i none = x.map (·.2) := by unfold rkOf; rw [List.getD_eq_getElem?_getD, List.getElem?_map, hx]; rfl
    have e3 : (scP f ps).take (i + 1) = (scP f ps).take i ++ [x.map fun q => (q.1, f * q.2)] := by
      rw [List.take_succ]; unfold scP; rw [List.getElem?_map, hx]; rfl
    have hsl : (((scP f ps).take i).map pD).length ≤ i := by simp; omega
    simp only [Int.toNat_natCast] at i1 i2
    rw [e1] at i1
    rw [e2] at i2
    rw [e3, List.map_append]
    simp_arith! [f8]
    refine kt ?_
    cases x with
    | none =>
      simp_arith! [i1, oD, Option.map_none]
      refine kt ?_
      simp_arith! []
      exact ⟨_, rfl, rfl⟩
    | some q =>
      simp_arith! [i1, oD, Option.map_some]
      refine kt ?_
      simp_arith! [i1, i2, oD]
      exact ⟨_, rfl, rfl⟩
  · rintro e ⟨s8, f8, rfl⟩
    simp_arith! []
    refine kt ?_
    simp_arith! []
    rw [List.take_of_length_le (by simp [scP]; omega)]
/-! a pair is shown, the law's look -/
def shB (sd : Int) (x : Int × List Int) (w : List Int) (ps : Ps) (c r : Int) : Bool :=
  let kn := (List.range x.2.length).filter fun q => ((bsOf ps x.2).getD q none).isSome
  let sums := kn.map fun q => (((x.2.zip w).map (behP ps)).getD q none).getD 0
  let less := kn.map fun q => lesB r ((bsOf ps x.2).getD q none)
  if x.1 ≠ sd then kn.length == x.2.length && less.all id && (maxL sums == c)
  else ((List.range sums.length).any fun j => (sums.getD j 0 == c) && less.getD j false) && (minL sums == c)
theorem idx_bl {l : List Bool} {p : Nat} (h : p < l.length) : idxS (.lst (l.map .bl)) (.int p) = some (.bl (l.getD p false)) := by
  refine atI_map ?_
  rw [List.getD_eq_getElem?_getD, List.getElem?_eq_getElem h]
  rfl
theorem shown_ok (Δ : Tb) [A1 Δ] (k : Nat) (ar : List (Int × List Int)) (ws : List (List Int)) (sd : Int) (ps : Ps) (i : Nat) (h : Okay ar ws) (hpl : ps.length = ar.length) (hi : i < ar.length) (c r : Int) (hp : ps.getD i none = some (c, r)) :
    callN Δ (k + 1) 30 [.fz (arD ar), .fz (.int sd), .fz (wsD ws), .fz (.tup (ps.map pD)), .fz (.int i)] = some (.v (.bl (shB sd (ar.getD i (0, [])) (ws.getD i []) ps c r)), [.fz (arD ar), .fz (.int sd), .fz (wsD ws), .fz (.tup (ps.map pD)), .fz (.int i)]) := by
  refine eq_of ?_
  rw [fn30]
  generalize callN Δ k = cl
  have hn := h.n
  obtain ⟨x, hx⟩ : ∃ x, ar[i]? = some x := ⟨_, List.getElem?_eq_getElem hi⟩
  obtain ⟨w, hw, hwl⟩ := h.row hx
  have hg := h.g x (List.mem_of_getElem? hx)
  have hg1 := hg.2.1
  have hg2 := hg.2.2.1
  have ia : idxS (arD ar) (.int i) = some (plD x) := atI_map hx
  have iw : idxS (wsD ws) (.int i) = some (tupI w) := atI_map hw
  have ip := idx_pst (ps := ps) (m := i) (by omega) (by omega)
  simp only [Int.toNat_natCast] at ip
  rw [hp] at ip
  rw [show ar.getD i (0, []) = x by rw [List.getD_eq_getElem?_getD, hx]; rfl, show ws.getD i [] = w by rw [List.getD_eq_getElem?_getD, hw]; rfl]
  simp only [plD, pD] at ia ip
  simp only [tupI] at iw
  walk_at "in"
  refine kt ?_
  simp_arith! [ia]
  refine kt ?_
  simp_arith! [ip]
  refine kt ?_
  simp_arith! []
  have hat : ∀ q : Nat, q < x.2.length → ∃ m v, x.2[q]? = some m ∧ w[q]? = some v ∧ (0 ≤ m ∧ m < ps.length) ∧ (bsOf ps x.2).getD q none = ps.getD m.toNat none ∧ ((x.2.zip w).map (behP ps)).getD q none = (ps.getD m.toNat none).map fun p => v + p.1 := by
    intro q hq
    have h1 : x.2[q]? = some x.2[q] := List.getElem?_eq_getElem hq
    have h2 : w[q]? = some w[q] := List.getElem?_eq_getElem (by omega)
    have h3 := hg.2.2.2 _ (List.getElem_mem hq)
    refine ⟨_, _, h1, h2, by omega, ?_, ?_⟩
    · unfold bsOf
      rw [List.getD_eq_getElem?_getD, List.getElem?_map, h1]
      rfl
    · rw [List.getD_eq_getElem?_getD, List.getElem?_map, List.zip_eq_zipWith, List.getElem?_zipWith, h1, h2]
      rfl
  refine lcF (xs := List.range x.2.length) (f := fun k : Nat => D.int k) (fun k : Nat => D.int k) (fun q => ((bsOf ps x.2).getD q none).isSome) (fun q hq => ?_) ?_
  · obtain ⟨m, v, e1, e2, hm, e3, e4⟩ := hat q (by simpa using hq)
    have i1 : idxS (.tup (x.2.map .int)) (.int q) = some (.int m) := atI_map e1
    have i2 := idx_pst (ps := ps) (m := m) hm.1 hm.2
    simp_arith! [i1, i2, isNon_pD, e3]
  have hkl := List.length_filter_le (fun q => ((bsOf ps x.2).getD q none).isSome) (List.range x.2.length)
  rw [List.length_range] at hkl
  unfold shB
  have hkn : ∀ q ∈ (List.range x.2.length).filter (fun q => ((bsOf ps x.2).getD q none).isSome), q < x.2.length ∧ ((bsOf ps x.2).getD q none).isSome = true := fun q hq => by
    obtain ⟨a, b⟩ := List.mem_filter.mp hq
    exact ⟨by simpa using a, b⟩
  generalize (List.range x.2.length).filter (fun q => ((bsOf ps x.2).getD q none).isSome) = kn at hkl hkn
  simp_arith! []
  refine ⟨by omega, ?_⟩
  refine kt ?_
  simp_arith! []
  refine lcH D.int (fun q : Nat => (((x.2.zip w).map (behP ps)).getD q none).getD 0) (fun q hq => ?_) ?_
  · obtain ⟨hq1, hq2⟩ := hkn q hq
    obtain ⟨m, v, e1, e2, hm, e3, e4⟩ := hat q hq1
    have i1 : idxS (.tup (x.2.map .int)) (.int q) = some (.int m) := atI_map e1
    have i2 := idx_pst (ps := ps) (m := m) hm.1 hm.2
    have i3 : idxS (.tup (w.map .int)) (.int q) = some (.int v) := atI_map e2
    rw [e3] at hq2
    rw [e4]
    cases hc : ps.getD m.toNat none with
    | none => rw [hc] at hq2; cases hq2
    | some z =>
      have i0 : idxS (.tup [.int z.1, .int z.2]) (.int 0) = some (.int z.1) := rfl
      rw [hc] at i2
      simp only [pD] at i2
      simp_arith! [i1, i2, i3, iw, i0, Option.map_some, Option.getD_some]
  simp_arith! []
  refine ⟨by omega, ?_⟩
  refine kt ?_
  simp_arith! []
  refine lcH D.bl (fun q : Nat => lesB r ((bsOf ps x.2).getD q none)) (fun q hq => ?_) ?_
  · obtain ⟨hq1, hq2⟩ := hkn q hq
    obtain ⟨m, v, e1, e2, hm, e3, e4⟩ := hat q hq1
    have i1 : idxS (.tup (x.2.map .int)) (.int q) = some (.int m) := atI_map e1
    have i2 := idx_pst (ps := ps) (m := m) hm.1 hm.2
    rw [e3] at hq2 ⊢
    cases hc : ps.getD m.toNat none with
    | none => rw [hc] at hq2; cases hq2
    | some z =>
      have i0 : idxS (.tup [.int z.1, .int z.2]) (.int 1) = some (.int z.2) := rfl
      rw [hc] at i2
      simp only [pD] at i2
      simp_arith! [i1, i2, i0]
      rfl
  simp_arith! []
  refine ⟨by omega, ?_⟩
  have hsl : (kn.map fun q : Nat => (((x.2.zip w).map (behP ps)).getD q none).getD 0).length = kn.length := by simp
  have hll : (kn.map fun q : Nat => lesB r ((bsOf ps x.2).getD q none)).length = kn.length := by simp
  generalize (kn.map fun q : Nat => (((x.2.zip w).map (behP ps)).getD q none).getD 0) = sums at hsl
  generalize (kn.map fun q : Nat => lesB r ((bsOf ps x.2).getD q none)) = less at hll
  refine kt ?_
  simp_arith! []
  refine ⟨fun ho => ?_, fun ho => ?_⟩
  · rw [if_pos ho]
    refine kt ?_
    simp_arith! [notin_bls, any_f]
    refine ⟨fun hc => ?_, fun hc => ?_⟩
    · have hc1 : (kn.length == x.2.length) = true := by simp; omega
      rw [hc1, Bool.true_and]
      refine ⟨fun hl => ?_, fun hl => ?_⟩
      · simp_arith! [hl]
      · simp_arith! [hl]
    · have hc1 : (kn.length == x.2.length) = false := by simp; omega
      simp_arith! [hc1]
  · rw [if_neg (show ¬ x.1 ≠ sd from fun z => z ho)]
    refine kt ?_
    simp_arith! []
    refine lcH D.bl (fun j : Nat => (sums.getD j 0 == c) && less.getD j false) (fun j hj => ?_) ?_
    · have hj' : j < sums.length := by simpa using hj
      have i1 := idx_ints (l := sums) (p := j) (by omega) (by omega)
      have i2 := idx_bl (l := less) (p := j) (by omega)
      simp only [Int.toNat_natCast] at i1
      simp_arith! [i1, i2]
      exact ⟨fun z => by rw [show (sums.getD j 0 == c) = true by simpa using z]; rfl, fun z => by rw [show (sums.getD j 0 == c) = false by simpa using z]; rfl⟩
    simp_arith! []
    refine ⟨by omega, ?_⟩
    refine kt ?_
    simp_arith! [in_bls, any_t]
    have ea : ((List.range sums.length).map fun j : Nat => (sums.getD j 0 == c) && less.getD j false).any id = (List.range sums.length).any fun j : Nat => (sums.getD j 0 == c) && less.getD j false := by rw [List.any_map]; rfl
    rw [ea]
    refine ⟨fun hl => ?_, fun hl => ?_⟩
    · have : 0 < sums.length := by
        obtain ⟨j, hj, _⟩ := List.any_eq_true.mp hl
        have : j < sums.length := by simpa using hj
        omega
      rw [hsl] at hl
      simp_arith! [hl]
    · rw [hsl] at hl
      simp_arith! [hl]
/-- what the law's look asks -/
def LukP (ar : List (Int × List Int)) (ws : List (List Int)) (sd : Int) (tg : List Int) (rk : Cs) (es : List D) : Prop := ∃ ps : Ps, es = ps.map pD ∧ ps.length = ar.length ∧
  (∀ i, i < ar.length → (ps.getD i none = none ↔ rk.getD i none = none)) ∧
  ∀ i, i < ar.length → if (i : Int) ∈ tg then ps.getD i none = some (0, 0) else ∀ c r, ps.getD i none = some (c, r) → shB sd (ar.getD i (0, [])) (ws.getD i []) ps c r = true
def isIB (d : D) : Bool := match d with
  | .int _ => true
  | _ => false
def twoB (d : D) : Bool := match d with
  | .tup xs => xs.length == 2 && xs.all isIB
  | _ => false
def e1B (d : D) (tr : Bool) : Bool := (isNon d == tr) && (isNon d || twoB d)
theorem two_of {d : D} (h : twoB d = true) : ∃ a b, d = .tup [.int a, .int b] := by
  unfold twoB at h
  split at h
  · rename_i xs
    simp only [Bool.and_eq_true, beq_iff_eq] at h
    obtain ⟨h1, h2⟩ := h
    match xs, h1, h2 with
    | [x, y], _, h2 =>
      simp only [List.all_cons, List.all_nil, Bool.and_true, Bool.and_eq_true] at h2
      obtain ⟨hx, hy⟩ := h2
      unfold isIB at hx hy
      split at hx
      · split at hy
        · exact ⟨_, _, rfl⟩
        · cases hy
      · cases hx
    | [], h1, _ => simp at h1
    | [_], h1, _ => simp at h1
    | _ :: _ :: _ :: _, h1, _ => simp at h1
  · cases h
theorem row_of : ∀ {es : List D}, (∀ d ∈ es, (isNon d || twoB d) = true) → ∃ ps : Ps, es = ps.map pD
  | [], _ => ⟨[], rfl⟩
  | d :: es, h => by
    obtain ⟨ps, rfl⟩ := row_of fun d hd => h d (List.mem_cons_of_mem _ hd)
    have h1 := h d (List.mem_cons_self ..)
    rw [Bool.or_eq_true] at h1
    rcases h1 with h1 | h1
    · exact ⟨none :: ps, by cases d with
        | non => rfl
        | _ => cases h1⟩
    · obtain ⟨a, b, rfl⟩ := two_of h1
      exact ⟨some (a, b) :: ps, rfl⟩
theorem iff_f {P : Prop} (h : ¬ P) : (false = true ↔ P) := Iff.intro (fun z => nomatch z) (fun z => absurd z h)
theorem twoB_t {xs : List D} : twoB (.tup xs) = (xs.length == 2 && xs.all isIB) := rfl
theorem idx_tupD {es : List D} {j : Nat} {d : D} (h : es[j]? = some d) : idxS (.tup es) (.int j) = some d := by
  have := atI_map (f := fun d : D => d) h
  rwa [List.map_id'] at this
theorem shows_ok (Δ : Tb) [A1 Δ] (k : Nat) (ar : List (Int × List Int)) (ws : List (List Int)) (sd : Int) (tg : List Int) (es : List D) (h : Okay ar ws) (ht : ∀ x ∈ tg, 0 ≤ x ∧ x < ar.length) (he : ∀ d ∈ es, ElOk d) (hel : es.length ≤ 1000) :
    Ev (callN Δ (k + 3) 31 [.fz (arD ar), .fz (.int sd), .fz (tupI tg), .fz (wsD ws), .fz (.tup es)]) fun z => ∃ b, z = (.v (.bl b), [.fz (arD ar), .fz (.int sd), .fz (tupI tg), .fz (wsD ws), .fz (.tup es)]) ∧ (b = true ↔ LukP ar ws sd tg (iterR ar sd (startC ar.length tg) (ar.length - 1)) es) := by
  have h28 := ltrap_ok Δ k ar sd tg h.n h.g ht
  have h24 := isint_ok Δ (k + 1)
  have h30 := fun ps i hpl hi c r hp => shown_ok Δ (k + 1) ar ws sd ps i h hpl hi c r hp
  rw [fn31]
  generalize callN Δ (k + 2) = cl at h28 h24 h30
  have hn := h.n
  have hrl : (iterR ar sd (startC ar.length tg) (ar.length - 1)).length = ar.length := by rw [iterR_len]; simp [startC]
  generalize iterR ar sd (startC ar.length tg) (ar.length - 1) = rk at hrl h28
  walk_at "in"
  refine kt ?_
  simp_arith! [ar_len]
  refine ⟨fun hc => ?_, fun hc => ?_⟩
  · refine kt ?_
    simp_arith! []
    refine ⟨false, rfl, by simp, ?_⟩
    rintro ⟨ps, rfl, h1, _⟩
    rw [List.length_map, h1] at hc
    exact absurd rfl hc
  have hll : es.length = ar.length := by omega
  refine kt ?_
  simp_arith! [h28]
  refine kt ?_
  simp_arith! [ar_len]
  refine foR (fun j e => (∀ i d, i < j → es[i]? = some d → e1B d (decide ((i : Int) ∈ trapL rk)) = true) ∧ ∃ s6 s7, fr s6 = true ∧ fr s7 = true ∧ e = [.fz (arD ar), .fz (.int sd), .fz (tupI tg), .fz (wsD ws), .fz (.tup es), .fz (tupI (trapL rk)), s6, s7, .un]) ⟨(fun _ _ h => absurd h (Nat.not_lt_zero _)), _, _, rfl, rfl, rfl⟩ ?_ ?_
  · rintro j hj e ⟨hj1, s6, s7, f6, f7, rfl⟩
    obtain ⟨d, hd⟩ : ∃ d, es[j]? = some d := ⟨_, List.getElem?_eq_getElem (by omega)⟩
    have ip := idx_tupD hd
    have bad : e1B d (decide ((j : Int) ∈ trapL rk)) = false → ¬ LukP ar ws sd tg rk es := by
      intro hf
      rintro ⟨ps, rfl, h1, h2, _⟩
      rw [List.getElem?_map] at hd
      obtain ⟨p, hp, rfl⟩ := Option.map_eq_some_iff.mp hd
      have h3 := h2 j hj
      rw [List.getD_eq_getElem?_getD, hp, ← mem_trapL (by omega)] at h3
      have h4 : (isNon (pD p) || twoB (pD p)) = true := by cases p <;> rfl
      unfold e1B at hf
      rw [h4, Bool.and_true] at hf
      cases p with
      | none => rw [decide_eq_true (h3.mp rfl)] at hf; cases hf
      | some q =>
        have : ¬ (j : Int) ∈ trapL rk := fun z => by have := h3.mpr z; cases this
        rw [decide_eq_false this] at hf
        cases hf
    have next : e1B d (decide ((j : Int) ∈ trapL rk)) = true → ∀ i d, i < j + 1 → es[i]? = some d → e1B d (decide ((i : Int) ∈ trapL rk)) = true := by
      intro ht i d' hi hd'
      rcases Nat.lt_succ_iff_lt_or_eq.mp hi with hi | rfl
      · exact hj1 i d' hi hd'
      · rw [hd] at hd'; cases hd'; exact ht
    simp_arith! [f6]
    refine kt ?_
    simp_arith! [ip, f7]
    refine kt ?_
    simp_arith! [tupI]
    refine ⟨fun hq => ?_, fun hq => ?_⟩
    · refine kt ?_
      simp_arith! []
      refine ⟨false, rfl, iff_f (bad ?_)⟩
      unfold e1B
      rw [show (isNon d == decide ((j : Int) ∈ trapL rk)) = false from by simpa using hq]
      rfl
    · have hq' : (isNon d == decide ((j : Int) ∈ trapL rk)) = true := by simpa using hq
      refine kt ?_
      simp_arith! []
      rcases he d (List.mem_of_getElem? hd) with rfl | ⟨xs, rfl, hx1, hx2⟩
      · simp_arith! []
        refine ⟨next ?_, _, _, rfl, rfl, rfl⟩
        unfold e1B
        rw [hq']
        rfl
      · simp_arith! []
        refine kt ?_
        simp_arith! []
        refine ⟨fun hz => ?_, fun hz => ?_⟩
        · refine kt ?_
          simp_arith! []
          refine ⟨false, rfl, iff_f (bad ?_)⟩
          unfold e1B
          rw [twoB_t]
          rw [show (xs.length == 2) = false by simp; omega]
          simp [isNon]
        · refine lcI D.bl isIB (fun x hx => ?_) ?_
          · simp_arith! [h24]
            rfl
          simp_arith! []
          refine ⟨by omega, ?_⟩
          rw [in_bls]
          simp_arith! []
          have ea : (xs.map isIB).any (fun x => x == false) = !xs.all isIB := by
            rw [← Bool.not_not ((xs.map isIB).any _), any_f, List.all_map]; rfl
          rw [ea]
          refine ⟨fun hy => ?_, fun hy => ?_⟩
          · refine kt ?_
            simp_arith! []
            refine ⟨false, rfl, iff_f (bad ?_)⟩
            unfold e1B
            rw [twoB_t]
            have : xs.all isIB = false := by simpa using hy
            rw [this]
            simp [isNon]
          · refine ⟨next ?_, _, _, rfl, rfl, rfl⟩
            unfold e1B
            rw [twoB_t]
            have : xs.all isIB = true := by simpa using hy
            rw [hq', this, show (xs.length == 2) = true by simp; omega]
            rfl
  rintro e ⟨hj1, s6, s7, f6, f7, rfl⟩
  obtain ⟨ps, rfl⟩ := row_of (es := es) fun d hd => by
    obtain ⟨i, hi⟩ := List.getElem?_of_mem hd
    have := hj1 i d (by have := (List.getElem?_eq_some_iff.mp hi).1; omega) hi
    unfold e1B at this
    rw [Bool.and_eq_true] at this
    exact this.2
  have hpl : ps.length = ar.length := by simpa using hll
  have hnn : ∀ i, i < ar.length → (ps.getD i none = none ↔ rk.getD i none = none) := by
    intro i hi
    have h1 := hj1 i (pD (ps[i]'(by omega))) hi (by rw [List.getElem?_map, List.getElem?_eq_getElem (by omega)]; rfl)
    rw [← mem_trapL (by omega), List.getD_eq_getElem?_getD, List.getElem?_eq_getElem (show i < ps.length by omega)]
    unfold e1B at h1
    rw [Bool.and_eq_true] at h1
    have h1 := h1.1
    generalize ps[i]'(by omega) = p at h1
    cases p with
    | none =>
      have : decide ((i : Int) ∈ trapL rk) = true := by simpa [pD, isNon] using h1
      simp at this
      simp [this]
    | some q =>
      have : decide ((i : Int) ∈ trapL rk) = false := by simpa [pD, isNon] using h1
      simp at this
      simp [this]
  simp_arith! []
  refine kt ?_
  simp_arith! [ar_len]
  refine foR (fun j e => (∀ i, i < j → if (i : Int) ∈ tg then ps.getD i none = some (0, 0) else ∀ c r, ps.getD i none = some (c, r) → shB sd (ar.getD i (0, [])) (ws.getD i []) ps c r = true) ∧ ∃ s6, fr s6 = true ∧ e = [.fz (arD ar), .fz (.int sd), .fz (tupI tg), .fz (wsD ws), .fz (.tup (ps.map pD)), .fz (tupI (trapL rk)), s6, s7, .un]) ⟨(fun _ h => absurd h (Nat.not_lt_zero _)), _, f6, rfl⟩ ?_ ?_
  · clear f6 s6
    rintro j hj e ⟨hj2, s6, f6, rfl⟩
    have ip := idx_pst (ps := ps) (m := j) (by omega) (by omega)
    simp only [Int.toNat_natCast] at ip
    have next : (if (j : Int) ∈ tg then ps.getD j none = some (0, 0) else ∀ c r, ps.getD j none = some (c, r) → shB sd (ar.getD j (0, [])) (ws.getD j []) ps c r = true) → ∀ i, i < j + 1 → if (i : Int) ∈ tg then ps.getD i none = some (0, 0) else ∀ c r, ps.getD i none = some (c, r) → shB sd (ar.getD i (0, [])) (ws.getD i []) ps c r = true := by
      intro ht i hi
      rcases Nat.lt_succ_iff_lt_or_eq.mp hi with hi | rfl
      · exact hj2 i hi
      · exact ht
    have bad : ¬ (if (j : Int) ∈ tg then ps.getD j none = some (0, 0) else ∀ c r, ps.getD j none = some (c, r) → shB sd (ar.getD j (0, [])) (ws.getD j []) ps c r = true) → ¬ LukP ar ws sd tg rk (ps.map pD) := by
      intro hf
      rintro ⟨ps', e, _, _, h3⟩
      have := map_pD_inj e
      subst this
      exact hf (h3 j hj)
    simp_arith! [f6]
    refine kt ?_
    simp_arith! [tupI]
    refine ⟨fun htg => ?_, fun htg => ?_⟩
    · rw [if_pos htg] at next bad
      refine kt ?_
      simp_arith! [ip, ne_p00]
      refine ⟨fun hq => ?_, fun hq => ?_⟩
      · refine kt ?_
        simp_arith! []
        exact ⟨false, rfl, iff_f (bad (by simpa using hq))⟩
      · exact ⟨next (by simpa using hq), _, rfl, rfl⟩
    · rw [if_neg htg] at next bad
      refine kt ?_
      simp_arith! [ip, isNon_pD']
      cases hp : ps.getD j none with
      | none =>
        simp_arith! [noneB]
        exact ⟨next (by intro c r z; rw [hp] at z; cases z), _, rfl, rfl⟩
      | some q =>
        have e30 := h30 ps j hpl hj q.1 q.2 hp
        simp_arith! [noneB, e30]
        refine ⟨fun hq => ?_, fun hq => ?_⟩
        · refine kt ?_
          simp_arith! []
          refine ⟨false, rfl, iff_f (bad ?_)⟩
          intro z
          have := z q.1 q.2 hp
          rw [this] at hq
          exact absurd hq (by decide)
        · refine ⟨next ?_, _, rfl, rfl⟩
          intro c r z
          rw [hp] at z
          cases z
          simpa using hq
  · clear f6 s6
    rintro e ⟨hj2, s6, f6, rfl⟩
    simp_arith! []
    refine kt ?_
    simp_arith! []
    exact ⟨true, rfl, fun _ => ⟨ps, rfl, hpl, hnn, hj2⟩, fun _ => rfl⟩
/-! reaching, purely -/
abbrev Ar := List (Int × List Int)
inductive Att (ar : Ar) (sd : Int) (tg : List Int) : Nat → Prop
  | tgt {i : Nat} : (i : Int) ∈ tg → Att ar sd tg i
  | own {i : Nat} {p : Int × List Int} {m : Int} : ar[i]? = some p → p.1 = sd → m ∈ p.2 → Att ar sd tg m.toNat → Att ar sd tg i
  | oth {i : Nat} {p : Int × List Int} : ar[i]? = some p → p.1 ≠ sd → (∀ m ∈ p.2, Att ar sd tg m.toNat) → Att ar sd tg i
theorem getD_of {α : Type} {l : List α} {i : Nat} {x d : α} (h : l[i]? = some x) : l.getD i d = x := by rw [List.getD_eq_getElem?_getD, h]; rfl
theorem rkStep_get {ar : Ar} {sd t : Int} {rk : Cs} {i : Nat} (h : i < rk.length) : (rkStep ar sd t rk).getD i none = if newB ar sd rk i = true then some t else rk.getD i none := by
  unfold rkStep
  rw [List.getD_eq_getElem?_getD, List.getElem?_map, List.getElem?_range h]
  rfl
theorem newB_no {ar : Ar} {sd : Int} {rk : Cs} {i : Nat} (h : newB ar sd rk i = true) : (rk.getD i none).isSome = false := by
  unfold newB at h
  rw [Bool.and_eq_true] at h
  simpa using h.1
theorem rkStep_keep {ar : Ar} {sd t : Int} {rk : Cs} {i : Nat} (h : (rk.getD i none).isSome = true) : (rkStep ar sd t rk).getD i none = rk.getD i none := by
  have hi : i < rk.length := by
    by_cases hi : i < rk.length
    · exact hi
    · rw [List.getD_eq_getElem?_getD, List.getElem?_eq_none (by omega)] at h; cases h
  rw [rkStep_get hi, if_neg]
  intro z
  rw [newB_no z] at h
  cases h
/-- nothing is new -/
def Full (ar : Ar) (sd : Int) (rk : Cs) : Prop := ∀ i, i < rk.length → newB ar sd rk i = false
theorem full_step {ar : Ar} {sd t : Int} {rk : Cs} (h : Full ar sd rk) : rkStep ar sd t rk = rk := by
  apply List.ext_getElem?
  intro i
  by_cases hi : i < rk.length
  · have := rkStep_get (ar := ar) (sd := sd) (t := t) hi
    rw [h i hi, if_neg (by decide), List.getD_eq_getElem?_getD, List.getD_eq_getElem?_getD, List.getElem?_eq_getElem (by rw [rkStep_len]; exact hi), List.getElem?_eq_getElem hi] at this
    rw [List.getElem?_eq_getElem (by rw [rkStep_len]; exact hi), List.getElem?_eq_getElem hi]
    simpa using this
  · rw [List.getElem?_eq_none (by rw [rkStep_len]; omega), List.getElem?_eq_none (by omega)]
def cntS (rk : Cs) : Nat := (rk.filter fun x => x.isSome).length
theorem cnt_le (rk : Cs) : cntS rk ≤ rk.length := List.length_filter_le _ _
theorem cnt_all {rk : Cs} (h : cntS rk = rk.length) : ∀ x ∈ rk, x.isSome = true := List.length_filter_eq_length_iff.mp h
theorem cnt_mono : ∀ {a b : Cs}, a.length = b.length → (∀ i, (a.getD i none).isSome = true → (b.getD i none).isSome = true) → cntS a ≤ cntS b
  | [], [], _, _ => Nat.le_refl _
  | x :: a, y :: b, hl, h => by
    have ih := cnt_mono (a := a) (b := b) (by simpa using hl) fun i hi => h (i + 1) (by simpa using hi)
    have h0 : x.isSome = true → y.isSome = true := fun z => by have := h 0 (by simpa using z); simpa using this
    unfold cntS at ih ⊢
    cases x with
    | none => cases y <;> simp <;> omega
    | some v => have := h0 rfl; cases y with
      | none => cases this
      | some w => simp; omega
theorem cnt_lt : ∀ {a b : Cs}, a.length = b.length → (∀ i, (a.getD i none).isSome = true → (b.getD i none).isSome = true) → (∃ i, (a.getD i none).isSome = false ∧ (b.getD i none).isSome = true) → cntS a < cntS b
  | [], [], _, _, ⟨i, _, h⟩ => by simp at h
  | x :: a, y :: b, hl, h, ⟨i, h1, h2⟩ => by
    have h0 : x.isSome = true → y.isSome = true := fun z => by have := h 0 (by simpa using z); simpa using this
    have hm := cnt_mono (a := a) (b := b) (by simpa using hl) fun i hi => h (i + 1) (by simpa using hi)
    cases i with
    | zero =>
      have h1 : x.isSome = false := by simpa using h1
      have h2 : y.isSome = true := by simpa using h2
      unfold cntS at hm ⊢
      cases x with
      | some v => cases h1
      | none => cases y with
        | none => cases h2
        | some w => simp; omega
    | succ i =>
      have ih := cnt_lt (a := a) (b := b) (by simpa using hl) (fun i hi => h (i + 1) (by simpa using hi)) ⟨i, by simpa using h1, by simpa using h2⟩
      unfold cntS at ih ⊢
      cases x with
      | none => cases y <;> simp <;> omega
      | some v => have := h0 rfl; cases y with
        | none => cases this
        | some w => simp; omega
theorem full_or {ar : Ar} {sd t : Int} {rk : Cs} : Full ar sd rk ∨ cntS rk < cntS (rkStep ar sd t rk) := by
  by_cases h : Full ar sd rk
  · exact .inl h
  · right
    unfold Full at h
    simp only [Classical.not_forall] at h
    obtain ⟨i, hi, hn⟩ := h
    have hn : newB ar sd rk i = true := by simpa using hn
    refine cnt_lt rkStep_len.symm (fun j hj => by rw [rkStep_keep hj]; exact hj) ⟨i, newB_no hn, ?_⟩
    rw [rkStep_get hi, if_pos hn]
    rfl
theorem iter_full {ar : Ar} {sd : Int} {rk : Cs} {i : Nat} (h : Full ar sd (iterR ar sd rk i)) : ∀ j, iterR ar sd rk (i + j) = iterR ar sd rk i
  | 0 => rfl
  | j + 1 => by
    have ih := iter_full h j
    show rkStep ar sd _ (iterR ar sd rk (i + j)) = _
    rw [ih, full_step h]
theorem iter_cnt {ar : Ar} {sd : Int} {rk : Cs} : ∀ i, Full ar sd (iterR ar sd rk i) ∨ cntS rk + i ≤ cntS (iterR ar sd rk i)
  | 0 => .inr (Nat.le_refl _)
  | i + 1 => by
    rcases iter_cnt (ar := ar) (sd := sd) (rk := rk) i with h | h
    · left
      have := iter_full h 1
      rw [this]
      exact h
    · rcases full_or (ar := ar) (sd := sd) (t := (i : Int) + 1) (rk := iterR ar sd rk i) with h2 | h2
      · left
        have := iter_full h2 1
        rw [this]
        exact h2
      · right
        show _ ≤ cntS (rkStep ar sd ((i : Int) + 1) (iterR ar sd rk i))
        omega
/-- the arena is one -/
structure Arn (ar : Ar) : Prop where
  g : ∀ p ∈ ar, GoodP ar.length p
theorem Arn.at_ {ar : Ar} (h : Arn ar) {i : Nat} (hi : i < ar.length) : ∃ p, ar[i]? = some p ∧ ar.getD i (0, []) = p ∧ 0 < p.2.length ∧ ∀ m ∈ p.2, 0 ≤ m ∧ m < ar.length := by
  have h1 : ar[i]? = some ar[i] := List.getElem?_eq_getElem hi
  have h2 := h.g _ (List.getElem_mem hi)
  exact ⟨_, h1, getD_of h1, h2.2.1, h2.2.2.2⟩
theorem full_all {ar : Ar} {sd : Int} {rk : Cs} (h : ∀ x ∈ rk, x.isSome = true) : Full ar sd rk := by
  intro i hi
  unfold newB
  have := h rk[i] (List.getElem_mem hi)
  rw [List.getD_eq_getElem?_getD, List.getElem?_eq_getElem hi]
  simp [this]
theorem full_none {ar : Ar} (A : Arn ar) {sd : Int} {rk : Cs} (hl : rk.length = ar.length) (h : cntS rk = 0) : Full ar sd rk := by
  have hn : ∀ i : Nat, (rk.getD i none).isSome = false := by
    intro i
    by_cases hi : i < rk.length
    · rw [List.getD_eq_getElem?_getD, List.getElem?_eq_getElem hi]
      have h2 : rk.filter (fun x => x.isSome) = [] := List.length_eq_zero_iff.mp h
      have := List.filter_eq_nil_iff.mp h2 rk[i] (List.getElem_mem hi)
      simpa using this
    · rw [List.getD_eq_getElem?_getD, List.getElem?_eq_none (by omega)]
      rfl
  intro i hi
  obtain ⟨p, h1, h2, h3, h4⟩ := A.at_ (i := i) (by omega)
  have hk : ∀ m ∈ p.2, knB rk m = false := fun m _ => hn _
  unfold newB freshB
  rw [h2]
  split
  · rw [show p.2.any (knB rk) = false from List.any_eq_false.mpr fun m hm => by rw [hk m hm]; decide, Bool.and_false]
  · have : p.2.all (knB rk) = false := by
      match hp : p.2, h3, hk with
      | m :: ms, _, hk => rw [List.all_cons, hk m (by simp)]; rfl
    rw [this, Bool.and_false]
theorem start_some {n : Nat} {tg : List Int} {i : Nat} (h : i < n) : (startC n tg).getD i none = if (i : Int) ∈ tg then some 0 else none := by
  unfold startC
  rw [List.getD_eq_getElem?_getD, List.getElem?_map, List.getElem?_range h]
  rfl
/-- the rounds end -/
theorem rounds_full {ar : Ar} (A : Arn ar) (sd : Int) (tg : List Int) : Full ar sd (iterR ar sd (startC ar.length tg) (ar.length - 1)) := by
  have hl : (startC ar.length tg).length = ar.length := by simp [startC]
  by_cases h0 : cntS (startC ar.length tg) = 0
  · have hf : Full ar sd (iterR ar sd (startC ar.length tg) 0) := full_none A hl h0
    have := iter_full hf (ar.length - 1)
    rw [Nat.zero_add] at this
    rw [this]
    exact hf
  · rcases iter_cnt (ar := ar) (sd := sd) (rk := startC ar.length tg) (ar.length - 1) with h | h
    · exact h
    · refine full_all (cnt_all ?_)
      have h1 := cnt_le (iterR ar sd (startC ar.length tg) (ar.length - 1))
      rw [iterR_len, hl] at h1 ⊢
      omega
theorem rounds_sound {ar : Ar} {sd : Int} {tg : List Int} : ∀ (t i : Nat), ((iterR ar sd (startC ar.length tg) t).getD i none).isSome = true → Att ar sd tg i
  | 0, i, h => by
    by_cases hi : i < ar.length
    · have h' : (if (i : Int) ∈ tg then some (0 : Int) else none).isSome = true := by
        have := start_some (tg := tg) hi
        show _
        rw [← this]
        exact h
      split at h'
      · rename_i hm; exact .tgt hm
      · cases h'
    · rw [List.getD_eq_getElem?_getD, List.getElem?_eq_none (by show (startC ar.length tg).length ≤ i; simp [startC]; omega)] at h
      cases h
  | t + 1, i, h => by
    have ih := rounds_sound (ar := ar) (sd := sd) (tg := tg) t
    have hl : (iterR ar sd (startC ar.length tg) t).length = ar.length := by rw [iterR_len]; simp [startC]
    by_cases hi : i < ar.length
    · have h' : ((rkStep ar sd ((t : Int) + 1) (iterR ar sd (startC ar.length tg) t)).getD i none).isSome = true := h
      rw [rkStep_get (by omega)] at h'
      split at h'
      · rename_i hn
        unfold newB freshB at hn
        rw [Bool.and_eq_true] at hn
        have hn := hn.2
        have h1 : ar[i]? = some ar[i] := List.getElem?_eq_getElem hi
        rw [getD_of h1] at hn
        split at hn
        · rename_i ho
          obtain ⟨m, hm, hk⟩ := List.any_eq_true.mp hn
          exact .own h1 ho hm (ih _ hk)
        · rename_i ho
          exact .oth h1 ho fun m hm => ih _ (List.all_eq_true.mp hn m hm)
      · exact ih i h'
    · rw [List.getD_eq_getElem?_getD, List.getElem?_eq_none (by rw [iterR_len]; simp [startC]; omega)] at h
      cases h
theorem rounds_keep {ar : Ar} {sd : Int} {rk : Cs} {i : Nat} (h : (rk.getD i none).isSome = true) : ∀ t, ((iterR ar sd rk t).getD i none).isSome = true
  | 0 => h
  | t + 1 => by
    show ((rkStep ar sd _ (iterR ar sd rk t)).getD i none).isSome = true
    rw [rkStep_keep (rounds_keep h t)]
    exact rounds_keep h t
theorem rounds_att {ar : Ar} (A : Arn ar) {sd : Int} {tg : List Int} (ht : ∀ x ∈ tg, 0 ≤ x ∧ x < ar.length) {i : Nat} (h : Att ar sd tg i) : ((iterR ar sd (startC ar.length tg) (ar.length - 1)).getD i none).isSome = true := by
  have hf := rounds_full A sd tg
  have hl : (iterR ar sd (startC ar.length tg) (ar.length - 1)).length = ar.length := by rw [iterR_len]; simp [startC]
  induction h with
  | @tgt i hm =>
    refine rounds_keep ?_ _
    have := ht _ hm
    rw [start_some (by omega), if_pos hm]
    rfl
  | @own i p m h1 h2 h3 h4 ih =>
    have hi : i < ar.length := (List.getElem?_eq_some_iff.mp h1).1
    have := hf i (by omega)
    unfold newB freshB at this
    rw [getD_of h1, if_pos h2, show p.2.any (knB _) = true from List.any_eq_true.mpr ⟨m, h3, ih⟩, Bool.and_true] at this
    simpa using this
  | @oth i p h1 h2 h3 ih =>
    have hi : i < ar.length := (List.getElem?_eq_some_iff.mp h1).1
    have := hf i (by omega)
    unfold newB freshB at this
    rw [getD_of h1, if_neg h2, show p.2.all (knB _) = true from List.all_eq_true.mpr ih, Bool.and_true] at this
    simpa using this
theorem rounds_none {ar : Ar} (A : Arn ar) {sd : Int} {tg : List Int} (ht : ∀ x ∈ tg, 0 ≤ x ∧ x < ar.length) {i : Nat} : (iterR ar sd (startC ar.length tg) (ar.length - 1)).getD i none = none ↔ ¬ Att ar sd tg i := by
  constructor
  · intro h z
    have := rounds_att A ht z
    rw [h] at this
    cases this
  · intro h
    cases hq : (iterR ar sd (startC ar.length tg) (ar.length - 1)).getD i none with
    | none => rfl
    | some v => exact absurd (rounds_sound (ar.length - 1) i (by rw [hq]; rfl)) h
theorem maxL_spec : ∀ {l : List Int}, 0 < l.length → (∀ x ∈ l, x ≤ maxL l) ∧ maxL l ∈ l
  | [x], _ => ⟨fun y hy => by simp at hy; subst hy; exact Int.le_refl _, by simp [maxL]⟩
  | x :: y :: r, _ => by
    obtain ⟨h1, h2⟩ := maxL_spec (l := y :: r) (by simp)
    have e : maxL (x :: y :: r) = max x (maxL (y :: r)) := rfl
    rw [e]
    refine ⟨fun z hz => ?_, ?_⟩
    · rcases List.mem_cons.mp hz with rfl | hz
      · omega
      · have := h1 z hz; omega
    · by_cases hq : maxL (y :: r) ≤ x
      · rw [Int.max_eq_left hq]; simp
      · rw [Int.max_eq_right (by omega)]; exact List.mem_cons_of_mem _ h2
theorem minL_spec : ∀ {l : List Int}, 0 < l.length → (∀ x ∈ l, minL l ≤ x) ∧ minL l ∈ l
  | [x], _ => ⟨fun y hy => by simp at hy; subst hy; exact Int.le_refl _, by simp [minL]⟩
  | x :: y :: r, _ => by
    obtain ⟨h1, h2⟩ := minL_spec (l := y :: r) (by simp)
    have e : minL (x :: y :: r) = min x (minL (y :: r)) := rfl
    rw [e]
    refine ⟨fun z hz => ?_, ?_⟩
    · rcases List.mem_cons.mp hz with rfl | hz
      · omega
      · have := h1 z hz; omega
    · by_cases hq : x ≤ minL (y :: r)
      · rw [Int.min_eq_left hq]; simp
      · rw [Int.min_eq_right (by omega)]; exact List.mem_cons_of_mem _ h2
theorem maxL_iff {l : List Int} (h : 0 < l.length) {c : Int} : maxL l = c ↔ (∀ x ∈ l, x ≤ c) ∧ c ∈ l := by
  obtain ⟨h1, h2⟩ := maxL_spec h
  constructor
  · rintro rfl; exact ⟨h1, h2⟩
  · rintro ⟨h3, h4⟩
    have := h1 c h4
    have := h3 _ h2
    omega
theorem minL_iff {l : List Int} (h : 0 < l.length) {c : Int} : minL l = c ↔ (∀ x ∈ l, c ≤ x) ∧ c ∈ l := by
  obtain ⟨h1, h2⟩ := minL_spec h
  constructor
  · rintro rfl; exact ⟨h1, h2⟩
  · rintro ⟨h3, h4⟩
    have := h1 c h4
    have := h3 _ h2
    omega
/-- the goals of a place with their pairs and weights -/
abbrev GL := List (Option (Int × Int) × Int)
def glOf (ps : Ps) (x : Int × List Int) (w : List Int) : GL := (x.2.zip w).map fun mw => (ps.getD mw.1.toNat none, mw.2)
def vl (z : Option (Int × Int) × Int) : Option Int := z.1.map fun p => z.2 + p.1
/-- the pair (c, r) is shown -/
def Shn (own : Prop) (L : GL) (c r : Int) : Prop :=
  (own → (∀ z ∈ L, ∀ p, z.1 = some p → c ≤ z.2 + p.1) ∧ ∃ z ∈ L, ∃ p, z.1 = some p ∧ z.2 + p.1 = c ∧ p.2 < r) ∧
  (¬ own → (∀ z ∈ L, ∃ p, z.1 = some p ∧ p.2 < r ∧ z.2 + p.1 ≤ c) ∧ ∃ z ∈ L, ∃ p, z.1 = some p ∧ z.2 + p.1 = c)
theorem gl_bs {ps : Ps} {x : Int × List Int} {w : List Int} (hw : w.length = x.2.length) : bsOf ps x.2 = (glOf ps x w).map (·.1) := by
  unfold bsOf glOf
  rw [List.map_map]
  conv => lhs; rw [show x.2 = (x.2.zip w).map (·.1) from (List.map_fst_zip (by omega)).symm]
  rw [List.map_map]
  rfl
theorem gl_cs {ps : Ps} {x : Int × List Int} {w : List Int} : (x.2.zip w).map (behP ps) = (glOf ps x w).map vl := by
  unfold glOf
  rw [List.map_map]
  rfl
theorem gl_len {ps : Ps} {x : Int × List Int} {w : List Int} (hw : w.length = x.2.length) : (glOf ps x w).length = x.2.length := by
  unfold glOf
  rw [List.length_map, List.length_zip]
  omega
theorem zip_maps {α β γ : Type} (f : α → β) (g : α → γ) : ∀ l : List α, (l.map f).zip (l.map g) = l.map fun x => (f x, g x)
  | [] => rfl
  | x :: l => by simp [zip_maps f g l]
theorem fm_vl : ∀ {L : GL} {c : Int}, c ∈ (L.map vl).filterMap id ↔ ∃ z ∈ L, ∃ p, z.1 = some p ∧ z.2 + p.1 = c := by
  intro L c
  rw [List.filterMap_map, List.mem_filterMap]
  constructor
  · rintro ⟨z, hz, h⟩
    have h : vl z = some c := h
    unfold vl at h
    obtain ⟨p, h1, h2⟩ := Option.map_eq_some_iff.mp h
    exact ⟨z, hz, p, h1, h2⟩
  · rintro ⟨z, hz, p, h1, h2⟩
    exact ⟨z, hz, by show vl z = some c; unfold vl; rw [h1, ← h2]; rfl⟩
theorem rp_iff {sd ow c r : Int} {L : GL} (h0 : 0 < L.length) : rpB sd ow c r (L.map (·.1)) (L.map vl) = true ↔ Shn (ow = sd) L c r := by
  unfold rpB Shn
  by_cases ho : ow = sd
  · rw [if_pos ho, List.map_map, zip_maps, List.any_map, List.any_map]
    simp only [ho, not_true_eq_false, false_implies, and_true, true_implies, Bool.and_eq_true, Bool.not_eq_true', List.any_eq_false, List.any_eq_true, Function.comp]
    refine and_congr ?_ ?_
    · constructor
      · intro h z hz p hp
        have := h z hz
        simp only [vl, hp, Option.map_some, lowB] at this
        simpa using this
      · intro h z hz
        cases hp : z.1 with
        | none => simp [vl, hp, lowB]
        | some p => have := h z hz p hp; simp [vl, hp, lowB]; exact this
    · constructor
      · rintro ⟨z, hz, h1, h2⟩
        cases hp : z.1 with
        | none => rw [hp] at h2; cases h2
        | some p =>
          simp only [vl, hp, Option.map_some, samB, lesB] at h1 h2
          exact ⟨z, hz, p, hp, by simpa using h1, by simpa using h2⟩
      · rintro ⟨z, hz, p, hp, h1, h2⟩
        exact ⟨z, hz, by simp [vl, hp, samB, h1], by simp [hp, lesB, h2]⟩
  · rw [if_neg ho]
    simp only [ho, false_implies, true_and, not_false_eq_true, true_implies, Bool.and_eq_true, List.all_eq_true, List.mem_map, forall_exists_index, and_imp, beq_iff_eq]
    have key : (∀ z ∈ L, ∃ p, z.1 = some p ∧ p.2 < r) → 0 < ((L.map vl).filterMap id).length := by
      intro h
      match L, h0, h with
      | z :: L, _, h =>
        obtain ⟨p, hp, _⟩ := h z (by simp)
        exact List.length_pos_of_mem (fm_vl.mpr ⟨z, by simp, p, hp, rfl⟩)
    constructor
    · rintro ⟨h1, h2⟩
      have ha : ∀ z ∈ L, ∃ p, z.1 = some p ∧ p.2 < r := by
        intro z hz
        have := h1 z.1 z hz rfl
        cases hp : z.1 with
        | none => rw [hp] at this; cases this
        | some p => rw [hp] at this; exact ⟨p, rfl, by simpa [lesB] using this⟩
      obtain ⟨h3, h4⟩ := (maxL_iff (key ha)).mp h2
      refine ⟨fun z hz => ?_, fm_vl.mp h4⟩
      obtain ⟨p, hp, hr⟩ := ha z hz
      exact ⟨p, hp, hr, h3 _ (fm_vl.mpr ⟨z, hz, p, hp, rfl⟩)⟩
    · rintro ⟨h1, h2⟩
      have ha : ∀ z ∈ L, ∃ p, z.1 = some p ∧ p.2 < r := fun z hz => let ⟨p, a, b, _⟩ := h1 z hz; ⟨p, a, b⟩
      refine ⟨fun y z hz hy => ?_, (maxL_iff (key ha)).mpr ⟨fun v hv => ?_, fm_vl.mpr h2⟩⟩
      · obtain ⟨p, hp, hr⟩ := ha z hz
        rw [← hy, hp]
        simpa [lesB] using hr
      · obtain ⟨z, hz, p, hp, rfl⟩ := fm_vl.mp hv
        obtain ⟨p', hp', _, hc⟩ := h1 z hz
        rw [hp] at hp'
        cases hp'
        exact hc
theorem filt_get {α : Type} (d : α) (L : List α) (p : α → Bool) : ((List.range L.length).filter fun q => p (L.getD q d)).map (fun q => L.getD q d) = L.filter p := by
  conv => rhs; rw [← range_getD d L]
  rw [List.filter_map]
  rfl
theorem any_get {α : Type} (d : α) (L : List α) (p : α → Bool) : (List.range L.length).any (fun q => p (L.getD q d)) = L.any p := by
  conv => rhs; rw [← range_getD d L]
  rw [List.any_map]
  rfl
theorem getD_map {α β : Type} (f : α → β) (L : List α) (d : α) (q : Nat) : (L.map f).getD q (f d) = f (L.getD q d) := by
  rw [List.getD_eq_getElem?_getD, List.getD_eq_getElem?_getD, List.getElem?_map]
  cases L[q]? <;> rfl
theorem sh_iff {sd c r : Int} {x : Int × List Int} {w : List Int} {ps : Ps} (hw : w.length = x.2.length) (h0 : 0 < x.2.length) : shB sd x w ps c r = true ↔ Shn (x.1 = sd) (glOf ps x w) c r := by
  have hl := gl_len (ps := ps) hw
  unfold shB
  rw [gl_bs hw, gl_cs, ← hl]
  have h0 : 0 < (glOf ps x w).length := by omega
  generalize glOf ps x w = L at h0
  have e1 : ∀ q, (L.map (·.1)).getD q none = (L.getD q (none, 0)).1 := fun q => getD_map (fun z : Option (Int × Int) × Int => z.1) L (none, 0) q
  have e2 : ∀ q, (L.map vl).getD q none = vl (L.getD q (none, 0)) := fun q => getD_map vl L (none, 0) q
  simp only [e1, e2]
  have hk := filt_get (none, (0 : Int)) L fun z => z.1.isSome
  have es : (((List.range L.length).filter fun q => (L.getD q (none, 0)).1.isSome).map fun q => (vl (L.getD q (none, 0))).getD 0) = (L.filter fun z => z.1.isSome).map fun z => (vl z).getD 0 := by
    rw [← hk, List.map_map]; rfl
  have el : (((List.range L.length).filter fun q => (L.getD q (none, 0)).1.isSome).map fun q => lesB r (L.getD q (none, 0)).1) = (L.filter fun z => z.1.isSome).map fun z => lesB r z.1 := by
    rw [← hk, List.map_map]; rfl
  have en : ((List.range L.length).filter fun q => (L.getD q (none, 0)).1.isSome).length = (L.filter fun z => z.1.isSome).length := by
    rw [← hk, List.length_map]
  rw [es, el, en]
  have hKm : ∀ z, z ∈ (L.filter fun z => z.1.isSome) ↔ z ∈ L ∧ ∃ p, z.1 = some p := by
    intro z
    rw [List.mem_filter]
    refine and_congr_right fun _ => ?_
    cases z.1 <;> simp
  have hKl : (L.filter fun z => z.1.isSome).length = L.length ↔ ∀ z ∈ L, ∃ p, z.1 = some p := by
    rw [List.length_filter_eq_length_iff]
    refine forall_congr' fun z => forall_congr' fun _ => ?_
    cases z.1 <;> simp
  have hlK : (L.filter fun z => z.1.isSome).length ≤ L.length := List.length_filter_le _ _
  generalize (L.filter fun z => z.1.isSome) = K at hKm hKl hlK
  unfold Shn
  have hv : ∀ {z : Option (Int × Int) × Int} {p : Int × Int}, z.1 = some p → (vl z).getD 0 = z.2 + p.1 := fun {z p} h => by unfold vl; rw [h]; rfl
  by_cases ho : x.1 = sd
  · rw [if_neg (fun z => z ho)]
    have ea : ((List.range (K.map fun z => (vl z).getD 0).length).any fun j => ((K.map fun z => (vl z).getD 0).getD j 0 == c) && (K.map fun z => lesB r z.1).getD j false) = K.any fun z => ((vl z).getD 0 == c) && lesB r z.1 := by
      rw [List.length_map, ← any_get (none, (0 : Int)) K]
      congr 1
      funext j
      rw [show (K.map fun z => (vl z).getD 0).getD j 0 = (vl (K.getD j (none, 0))).getD 0 from getD_map (fun z : Option (Int × Int) × Int => (vl z).getD 0) K (none, 0) j,
        show (K.map fun z => lesB r z.1).getD j false = lesB r (K.getD j (none, 0)).1 from getD_map (fun z : Option (Int × Int) × Int => lesB r z.1) K (none, 0) j]
    rw [ea]
    simp only [ho, not_true_eq_false, false_implies, and_true, true_implies, Bool.and_eq_true, List.any_eq_true, beq_iff_eq]
    constructor
    · rintro ⟨⟨z, hz, h1, h2⟩, h3⟩
      obtain ⟨hzL, p, hp⟩ := (hKm z).mp hz
      have hpos : 0 < (K.map fun z => (vl z).getD 0).length := by rw [List.length_map]; exact List.length_pos_of_mem hz
      obtain ⟨h4, _⟩ := (minL_iff hpos).mp h3
      refine ⟨fun y hy p' hp' => ?_, z, hzL, p, hp, by rw [← hv hp]; exact h1, by rw [hp] at h2; simpa [lesB] using h2⟩
      have := h4 _ (List.mem_map.mpr ⟨y, (hKm y).mpr ⟨hy, p', hp'⟩, rfl⟩)
      rwa [hv hp'] at this
    · rintro ⟨h1, z, hz, p, hp, h2, h3⟩
      have hzK := (hKm z).mpr ⟨hz, p, hp⟩
      refine ⟨⟨z, hzK, by rw [hv hp]; exact h2, by rw [hp]; simpa [lesB] using h3⟩, ?_⟩
      have hpos : 0 < (K.map fun z => (vl z).getD 0).length := by rw [List.length_map]; exact List.length_pos_of_mem hzK
      refine (minL_iff hpos).mpr ⟨fun v hv' => ?_, List.mem_map.mpr ⟨z, hzK, by rw [hv hp]; exact h2⟩⟩
      obtain ⟨y, hy, rfl⟩ := List.mem_map.mp hv'
      obtain ⟨hyL, p', hp'⟩ := (hKm y).mp hy
      show c ≤ _
      rw [hv hp']
      exact h1 y hyL p' hp'
  · rw [if_pos ho]
    simp only [ho, false_implies, true_and, not_false_eq_true, true_implies, Bool.and_eq_true, beq_iff_eq, List.all_map, List.all_eq_true, Function.comp, id]
    constructor
    · rintro ⟨⟨h1, h2⟩, h3⟩
      have hall := hKl.mp h1
      have hKL : ∀ z ∈ L, z ∈ K := fun z hz => (hKm z).mpr ⟨hz, hall z hz⟩
      have hpos : 0 < (K.map fun z => (vl z).getD 0).length := by rw [List.length_map]; omega
      obtain ⟨h4, h5⟩ := (maxL_iff hpos).mp h3
      refine ⟨fun z hz => ?_, ?_⟩
      · obtain ⟨p, hp⟩ := hall z hz
        have h6 := h2 z (hKL z hz)
        rw [hp] at h6
        have h7 := h4 _ (List.mem_map.mpr ⟨z, hKL z hz, rfl⟩)
        have h7 : (vl z).getD 0 ≤ c := h7
        rw [hv hp] at h7
        exact ⟨p, hp, by simpa [lesB] using h6, h7⟩
      · obtain ⟨z, hz, h6⟩ := List.mem_map.mp h5
        obtain ⟨hzL, p, hp⟩ := (hKm z).mp hz
        rw [hv hp] at h6
        exact ⟨z, hzL, p, hp, h6⟩
    · rintro ⟨h1, z, hz, p, hp, h2⟩
      have hall : ∀ z ∈ L, ∃ p, z.1 = some p := fun z hz => let ⟨p, a, _⟩ := h1 z hz; ⟨p, a⟩
      have hpos : 0 < (K.map fun z => (vl z).getD 0).length := by rw [List.length_map, hKl.mpr hall]; exact h0
      refine ⟨⟨hKl.mpr hall, fun y hy => ?_⟩, (maxL_iff hpos).mpr ⟨fun v hv' => ?_, List.mem_map.mpr ⟨z, (hKm z).mpr ⟨hz, p, hp⟩, by rw [hv hp]; exact h2⟩⟩⟩
      · obtain ⟨hyL, _⟩ := (hKm y).mp hy
        obtain ⟨p', hp', hr, _⟩ := h1 y hyL
        rw [hp']
        simpa [lesB] using hr
      · obtain ⟨y, hy, rfl⟩ := List.mem_map.mp hv'
        obtain ⟨hyL, _⟩ := (hKm y).mp hy
        obtain ⟨p', hp', _, hc⟩ := h1 y hyL
        show _ ≤ c
        rw [hv hp']
        exact hc
def Shq (own : Prop) (Z : List (Int × Int)) (ps : Ps) (c r : Int) : Prop :=
  (own → (∀ z ∈ Z, ∀ p, ps.getD z.1.toNat none = some p → c ≤ z.2 + p.1) ∧ ∃ z ∈ Z, ∃ p, ps.getD z.1.toNat none = some p ∧ z.2 + p.1 = c ∧ p.2 < r) ∧
  (¬ own → (∀ z ∈ Z, ∃ p, ps.getD z.1.toNat none = some p ∧ p.2 < r ∧ z.2 + p.1 ≤ c) ∧ ∃ z ∈ Z, ∃ p, ps.getD z.1.toNat none = some p ∧ z.2 + p.1 = c)
theorem ex_map {α β : Type} {f : α → β} {l : List α} {P : β → Prop} : (∃ z, z ∈ l.map f ∧ P z) ↔ ∃ x, x ∈ l ∧ P (f x) := by
  constructor
  · rintro ⟨z, hz, h⟩
    obtain ⟨x, hx, rfl⟩ := List.mem_map.mp hz
    exact ⟨x, hx, h⟩
  · rintro ⟨x, hx, h⟩
    exact ⟨f x, List.mem_map.mpr ⟨x, hx, rfl⟩, h⟩
theorem shn_q {own : Prop} {ps : Ps} {x : Int × List Int} {w : List Int} {c r : Int} : Shn own (glOf ps x w) c r ↔ Shq own (x.2.zip w) ps c r := by
  unfold Shn Shq glOf
  simp only [List.forall_mem_map, ex_map]
def NonP (own : Prop) (ms : List Int) (ps : Ps) : Prop := (own → ∀ m ∈ ms, ps.getD m.toNat none = none) ∧ (¬ own → ∃ m ∈ ms, ps.getD m.toNat none = none)
theorem noneB_iff {α : Type} {x : Option α} : noneB x = true ↔ x = none := by cases x <;> simp [noneB]
theorem rn_iff {sd : Int} {x : Int × List Int} {ps : Ps} : rnB sd x.1 (bsOf ps x.2) = true ↔ NonP (x.1 = sd) x.2 ps := by
  unfold rnB NonP bsOf
  by_cases h : x.1 = sd
  · rw [if_pos h]
    simp [h, noneB_iff]
  · rw [if_neg h]
    simp [h, noneB_iff]
/-- arena, weights, target -/
structure Gam (ar : Ar) (ws : List (List Int)) (tg : List Int) : Prop where
  a : Arn ar
  f : Fits ar ws
  w : ∀ (i : Nat) (w : List Int), ws[i]? = some w → ∀ v ∈ w, 0 ≤ v
  t : ∀ x ∈ tg, 0 ≤ x ∧ x < ar.length
theorem Gam.at_ {ar : Ar} {ws : List (List Int)} {tg : List Int} (h : Gam ar ws tg) {i : Nat} (hi : i < ar.length) :
    ∃ x w, ar[i]? = some x ∧ ar.getD i (0, []) = x ∧ ws.getD i [] = w ∧ w.length = x.2.length ∧ 0 < x.2.length ∧ (∀ m ∈ x.2, 0 ≤ m ∧ m < ar.length) ∧ (∀ v ∈ w, 0 ≤ v) ∧ ∀ z ∈ x.2.zip w, (0 ≤ z.1 ∧ z.1 < ar.length) ∧ 0 ≤ z.2 := by
  obtain ⟨x, h1, h2, h3, h4⟩ := h.a.at_ hi
  have hl : i < ws.length := by rw [h.f.1]; exact hi
  have hw : ws[i]? = some ws[i] := List.getElem?_eq_getElem hl
  refine ⟨x, ws[i], h1, h2, getD_of hw, h.f.2 i x _ h1 hw, h3, h4, h.w i _ hw, fun z hz => ?_⟩
  have := List.of_mem_zip hz
  exact ⟨h4 _ this.1, h.w i _ hw _ this.2⟩
/-- what is asked at place i -/
def OkI (ar : Ar) (ws : List (List Int)) (sd : Int) (tg : List Int) (ps : Ps) (i : Nat) : Prop :=
  if (i : Int) ∈ tg then ps.getD i none = some (0, 0) else
    (ps.getD i none = none → NonP ((ar.getD i (0, [])).1 = sd) (ar.getD i (0, [])).2 ps) ∧ ∀ c r, ps.getD i none = some (c, r) → Shq ((ar.getD i (0, [])).1 = sd) ((ar.getD i (0, [])).2.zip (ws.getD i [])) ps c r
theorem at_iff {ar : Ar} {ws : List (List Int)} {tg : List Int} (G : Gam ar ws tg) {sd : Int} {ps : Ps} {i : Nat} (hi : i < ar.length) : atB ar ws sd tg ps i = true ↔ OkI ar ws sd tg ps i := by
  obtain ⟨x, w, h1, h2, h3, h4, h5, h6, h7, h8⟩ := G.at_ hi
  unfold atB OkI
  rw [h2, h3]
  by_cases ht : (i : Int) ∈ tg
  · rw [if_pos ht, if_pos ht]
    simp
  · rw [if_neg ht, if_neg ht]
    cases hp : ps.getD i none with
    | none =>
      unfold raB
      simp only [true_implies, reduceCtorEq, false_implies, implies_true, and_true]
      exact rn_iff
    | some q =>
      obtain ⟨c, r⟩ := q
      unfold raB
      simp only [reduceCtorEq, false_implies, true_and, Option.some.injEq, Prod.mk.injEq, and_imp]
      have e : rpB sd x.1 c r (bsOf ps x.2) ((x.2.zip w).map (behP ps)) = true ↔ Shq (x.1 = sd) (x.2.zip w) ps c r := by
        rw [gl_bs h4, gl_cs, rp_iff (by rw [gl_len h4]; exact h5), shn_q]
      constructor
      · rintro h c' r' rfl rfl
        exact e.mp h
      · intro h
        exact e.mpr (h c r rfl rfl)
theorem filt_lt {α : Type} {p q : α → Bool} : ∀ {l : List α}, (∀ x ∈ l, p x = true → q x = true) → (∃ x ∈ l, p x = false ∧ q x = true) → (l.filter p).length < (l.filter q).length
  | [], _, ⟨x, h, _⟩ => nomatch h
  | x :: l, h, ⟨y, hy, h1, h2⟩ => by
    have hle : ∀ {l : List α}, (∀ x ∈ l, p x = true → q x = true) → (l.filter p).length ≤ (l.filter q).length := by
      intro l
      induction l with
      | nil => intro _; exact Nat.le_refl _
      | cons x l ih =>
        intro h
        have ih := ih fun y hy => h y (List.mem_cons_of_mem _ hy)
        have h0 := h x (List.mem_cons_self ..)
        cases hp : p x with
        | false => cases hq : q x <;> simp [List.filter_cons, hp, hq] <;> omega
        | true => simp [List.filter_cons, hp, h0 hp]; omega
    have hl := hle (l := l) fun y hy => h y (List.mem_cons_of_mem _ hy)
    rcases List.mem_cons.mp hy with rfl | hy
    · simp [List.filter_cons, h1, h2]; omega
    · have ih := filt_lt (l := l) (fun y hy => h y (List.mem_cons_of_mem _ hy)) ⟨y, hy, h1, h2⟩
      have h0 := h x (List.mem_cons_self ..)
      cases hp : p x with
      | false => cases hq : q x <;> simp [List.filter_cons, hp, hq] <;> omega
      | true => simp [List.filter_cons, hp, h0 hp]; omega
/-- how many have a lesser rank -/
def lessN (ps : Ps) (n : Nat) (r : Int) : Nat := ((List.range n).filter fun j => lesB r (ps.getD j none)).length
theorem less_lt {ps : Ps} {n j : Nat} {p : Int × Int} {r : Int} (hj : j < n) (hp : ps.getD j none = some p) (hr : p.2 < r) : lessN ps n p.2 < lessN ps n r := by
  refine filt_lt (fun x _ h => ?_) ⟨j, List.mem_range.mpr hj, by rw [hp]; simp [lesB], by rw [hp]; simpa [lesB] using hr⟩
  cases hx : ps.getD x none with
  | none => rw [hx] at h; cases h
  | some q => rw [hx] at h; simp only [lesB, decide_eq_true_eq] at h ⊢; omega
/-- a goal of a shown pair that has a lesser rank and leads to the cost -/
theorem shq_goal {own : Prop} {Z : List (Int × Int)} {ps : Ps} {c r : Int} (h : Shq own Z ps c r) : ∃ z ∈ Z, ∃ p, ps.getD z.1.toNat none = some p ∧ z.2 + p.1 = c ∧ p.2 < r := by
  by_cases ho : own
  · exact (h.1 ho).2
  · obtain ⟨h1, z, hz, p, hp, hc⟩ := h.2 ho
    obtain ⟨p', hp', hr, _⟩ := h1 z hz
    rw [hp] at hp'
    cases hp'
    exact ⟨z, hz, p, hp, hc, hr⟩
theorem nat_of {ar : Ar} {ws : List (List Int)} {tg : List Int} (G : Gam ar ws tg) {sd : Int} {ps : Ps}
    (h : ∀ i, i < ar.length → (i : Int) ∈ tg → ps.getD i none = some (0, 0)) (h2 : ∀ i, i < ar.length → ¬ (i : Int) ∈ tg → ∀ c r, ps.getD i none = some (c, r) → Shq ((ar.getD i (0, [])).1 = sd) ((ar.getD i (0, [])).2.zip (ws.getD i [])) ps c r) :
    ∀ (N i : Nat) (c r : Int), i < ar.length → ps.getD i none = some (c, r) → lessN ps ar.length r < N → 0 ≤ c ∧ 0 ≤ r
  | 0, _, _, _, _, _, hN => absurd hN (Nat.not_lt_zero _)
  | N + 1, i, c, r, hi, hp, hN => by
    by_cases ht : (i : Int) ∈ tg
    · rw [h i hi ht] at hp
      cases hp
      exact ⟨Int.le_refl _, Int.le_refl _⟩
    · have hs := h2 i hi ht c r hp
      obtain ⟨x, w, e1, e2, e3, e4, e5, e6, e7, e8⟩ := G.at_ hi
      rw [e2, e3] at hs
      obtain ⟨z, hz, p, hpz, hc, hr⟩ := shq_goal hs
      obtain ⟨hm, hv⟩ := e8 z hz
      have := less_lt (n := ar.length) (by omega) hpz hr
      have ih := nat_of G h h2 N z.1.toNat p.1 p.2 (by omega) hpz (by omega)
      omega
theorem jud_luk {ar : Ar} {ws : List (List Int)} {tg : List Int} (G : Gam ar ws tg) {sd : Int} {es : List D} : JudP ar ws sd tg es ↔ LukP ar ws sd tg (iterR ar sd (startC ar.length tg) (ar.length - 1)) es := by
  have hrn : ∀ i, (iterR ar sd (startC ar.length tg) (ar.length - 1)).getD i none = none ↔ ¬ Att ar sd tg i := fun i => rounds_none G.a G.t
  constructor
  · rintro ⟨ps, rfl, hl, hn, hj⟩
    have hj : ∀ i, i < ar.length → OkI ar ws sd tg ps i := fun i hi => (at_iff G hi).mp (hj i hi)
    have hnat : ∀ i c r, ps.getD i none = some (c, r) → 0 ≤ c ∧ 0 ≤ r := by
      intro i c r hp
      refine hn i (c, r) ?_
      rw [List.getD_eq_getElem?_getD] at hp
      cases hq : ps[i]? with
      | none => rw [hq] at hp; cases hp
      | some y => rw [hq] at hp; simp only [Option.getD_some] at hp; rw [hp]
    have toA : ∀ (N i : Nat) (c r : Int), i < ar.length → ps.getD i none = some (c, r) → r.toNat < N → Att ar sd tg i := by
      intro N
      induction N with
      | zero => intro i c r _ _ h; omega
      | succ N ih =>
        intro i c r hi hp hN
        by_cases ht : (i : Int) ∈ tg
        · exact .tgt ht
        · have ho := hj i hi
          unfold OkI at ho
          rw [if_neg ht] at ho
          have hs := ho.2 c r hp
          obtain ⟨x, w, e1, e2, e3, e4, e5, e6, e7, e8⟩ := G.at_ hi
          rw [e2, e3] at hs
          have hr0 := (hnat i c r hp).2
          by_cases hown : x.1 = sd
          · obtain ⟨z, hz, p, hpz, hc, hr⟩ := (hs.1 hown).2
            have hm := (e8 z hz).1
            have := (hnat _ _ _ hpz).2
            exact .own e1 hown (List.of_mem_zip hz).1 (ih z.1.toNat p.1 p.2 (by omega) hpz (by omega))
          · refine .oth e1 hown fun m hm => ?_
            obtain ⟨q, hq, hqm⟩ := List.getElem_of_mem hm
            have hz : (m, w[q]'(by omega)) ∈ x.2.zip w := by
              refine List.mem_of_getElem? (i := q) ?_
              rw [List.zip_eq_zipWith, List.getElem?_zipWith, List.getElem?_eq_getElem hq, List.getElem?_eq_getElem (show q < w.length by omega), hqm]
            obtain ⟨p, hpz, hr, _⟩ := (hs.2 hown).1 _ hz
            have hmm := e6 m hm
            have := (hnat _ _ _ hpz).2
            exact ih m.toNat p.1 p.2 (by omega) hpz (by omega)
    have fromA : ∀ i, Att ar sd tg i → i < ar.length → ps.getD i none ≠ none := by
      intro i h
      induction h with
      | @tgt i hm =>
        intro hi z
        have ho := hj i hi
        unfold OkI at ho
        rw [if_pos hm, z] at ho
        cases ho
      | @own i p m h1 h2 h3 h4 ih =>
        intro hi z
        by_cases ht : (i : Int) ∈ tg
        · have ho := hj i hi
          unfold OkI at ho
          rw [if_pos ht, z] at ho
          cases ho
        · have ho := hj i hi
          unfold OkI at ho
          rw [if_neg ht, getD_of h1] at ho
          have hm := (G.a.g p (List.mem_of_getElem? h1)).2.2.2 m h3
          exact ih (by omega) ((ho.1 z).1 h2 m h3)
      | @oth i p h1 h2 h3 ih =>
        intro hi z
        by_cases ht : (i : Int) ∈ tg
        · have ho := hj i hi
          unfold OkI at ho
          rw [if_pos ht, z] at ho
          cases ho
        · have ho := hj i hi
          unfold OkI at ho
          rw [if_neg ht, getD_of h1] at ho
          obtain ⟨m, hm, hnm⟩ := (ho.1 z).2 h2
          have hmm := (G.a.g p (List.mem_of_getElem? h1)).2.2.2 m hm
          exact ih m hm (by omega) hnm
    refine ⟨ps, rfl, hl, fun i hi => ?_, fun i hi => ?_⟩
    · rw [hrn]
      constructor
      · intro h z
        exact fromA i z hi h
      · intro h
        cases hp : ps.getD i none with
        | none => rfl
        | some q => exact absurd (toA (q.2.toNat + 1) i q.1 q.2 hi hp (Nat.lt_succ_self _)) h
    · have ho := hj i hi
      unfold OkI at ho
      obtain ⟨x, w, e1, e2, e3, e4, e5, e6, e7, e8⟩ := G.at_ hi
      by_cases ht : (i : Int) ∈ tg
      · rw [if_pos ht] at ho ⊢
        exact ho
      · rw [if_neg ht] at ho ⊢
        intro c r hp
        rw [e2, e3] at ho ⊢
        rw [sh_iff e4 e5, shn_q]
        exact ho.2 c r hp
  · rintro ⟨ps, rfl, hl, hn, hj⟩
    have h1 : ∀ i, i < ar.length → (i : Int) ∈ tg → ps.getD i none = some (0, 0) := by
      intro i hi ht
      have := hj i hi
      rwa [if_pos ht] at this
    have h2 : ∀ i, i < ar.length → ¬ (i : Int) ∈ tg → ∀ c r, ps.getD i none = some (c, r) → Shq ((ar.getD i (0, [])).1 = sd) ((ar.getD i (0, [])).2.zip (ws.getD i [])) ps c r := by
      intro i hi ht c r hp
      have := hj i hi
      rw [if_neg ht] at this
      have := this c r hp
      obtain ⟨x, w, e1, e2, e3, e4, e5, e6, e7, e8⟩ := G.at_ hi
      rw [e2, e3] at this ⊢
      rwa [sh_iff e4 e5, shn_q] at this
    refine ⟨ps, rfl, hl, fun i q hq => ?_, fun i hi => (at_iff G hi).mpr ?_⟩
    · have hi : i < ar.length := by have := (List.getElem?_eq_some_iff.mp hq).1; omega
      exact nat_of G h1 h2 (lessN ps ar.length q.2 + 1) i q.1 q.2 hi (getD_of hq) (Nat.lt_succ_self _)
    · unfold OkI
      by_cases ht : (i : Int) ∈ tg
      · rw [if_pos ht]
        exact h1 i hi ht
      · rw [if_neg ht]
        refine ⟨fun hp => ?_, h2 i hi ht⟩
        obtain ⟨x, w, e1, e2, e3, e4, e5, e6, e7, e8⟩ := G.at_ hi
        rw [e2]
        have hna := (hrn i).mp ((hn i hi).mp hp)
        have hsome : ∀ m ∈ x.2, ps.getD m.toNat none ≠ none → Att ar sd tg m.toNat := by
          intro m hm hne
          have hmm := e6 m hm
          exact Classical.byContradiction fun z => hne ((hn m.toNat (by omega)).mpr ((hrn _).mpr z))
        refine ⟨fun ho m hm => Classical.byContradiction fun z => hna (.own e1 ho hm (hsome m hm z)), fun ho => Classical.byContradiction fun z => hna (.oth e1 ho fun m hm => hsome m hm fun y => z ⟨m, hm, y⟩)⟩
/-! the least one first -/
theorem best_none {ar : Ar} {ws : List (List Int)} {sd : Int} {cs : Cs} : ∀ {k : Nat}, bestTo ar ws sd cs k = none → ∀ i, i < k → candAt ar ws sd cs i = none
  | 0, _, i, hi => absurd hi (Nat.not_lt_zero _)
  | k + 1, h, i, hi => by
    unfold bestTo upd1 at h
    cases hc : candAt ar ws sd cs k with
    | none =>
      rw [hc] at h
      rcases Nat.lt_succ_iff_lt_or_eq.mp hi with hi | rfl
      · exact best_none h i hi
      · exact hc
    | some v =>
      rw [hc] at h
      cases hb : bestTo ar ws sd cs k with
      | none => rw [hb] at h; cases h
      | some q =>
        rw [hb] at h
        simp only at h
        split at h <;> cases h
theorem best_is {ar : Ar} {ws : List (List Int)} {sd : Int} {cs : Cs} : ∀ {k : Nat} {q : Int × Int}, bestTo ar ws sd cs k = some q → (∃ j : Nat, q.2 = j ∧ j < k ∧ candAt ar ws sd cs j = some q.1) ∧ ∀ i v, i < k → candAt ar ws sd cs i = some v → q.1 ≤ v
  | 0, q, h => by cases h
  | k + 1, q, h => by
    unfold bestTo upd1 at h
    cases hc : candAt ar ws sd cs k with
    | none =>
      rw [hc] at h
      obtain ⟨⟨j, h1, h2, h3⟩, h4⟩ := best_is (k := k) h
      refine ⟨⟨j, h1, by omega, h3⟩, fun i v hi hv => ?_⟩
      rcases Nat.lt_succ_iff_lt_or_eq.mp hi with hi | rfl
      · exact h4 i v hi hv
      · rw [hc] at hv; cases hv
    | some u =>
      rw [hc] at h
      cases hb : bestTo ar ws sd cs k with
      | none =>
        rw [hb] at h
        cases h
        have hn := best_none hb
        refine ⟨⟨k, rfl, by omega, hc⟩, fun i v hi hv => ?_⟩
        rcases Nat.lt_succ_iff_lt_or_eq.mp hi with hi | rfl
        · rw [hn i hi] at hv; cases hv
        · rw [hc] at hv; cases hv; exact Int.le_refl _
      | some q' =>
        rw [hb] at h
        simp only at h
        obtain ⟨⟨j, h1, h2, h3⟩, h4⟩ := best_is (k := k) hb
        split at h
        · rename_i hlt
          cases h
          refine ⟨⟨k, rfl, by omega, hc⟩, fun i v hi hv => ?_⟩
          rcases Nat.lt_succ_iff_lt_or_eq.mp hi with hi | rfl
          · have := h4 i v hi hv
            show u ≤ v
            omega
          · rw [hc] at hv; cases hv; exact Int.le_refl _
        · rename_i hlt
          cases h
          refine ⟨⟨j, h1, by omega, h3⟩, fun i v hi hv => ?_⟩
          rcases Nat.lt_succ_iff_lt_or_eq.mp hi with hi | rfl
          · exact h4 i v hi hv
          · rw [hc] at hv; cases hv; omega
/-- what may be taken at place i -/
def CanQ (own : Prop) (Z : List (Int × Int)) (ps : Ps) (v : Int) : Prop :=
  (own → (∀ z ∈ Z, ∀ p, ps.getD z.1.toNat none = some p → v ≤ z.2 + p.1) ∧ ∃ z ∈ Z, ∃ p, ps.getD z.1.toNat none = some p ∧ z.2 + p.1 = v) ∧
  (¬ own → (∀ z ∈ Z, ∃ p, ps.getD z.1.toNat none = some p ∧ z.2 + p.1 ≤ v) ∧ ∃ z ∈ Z, ∃ p, ps.getD z.1.toNat none = some p ∧ z.2 + p.1 = v)
theorem beh_some {ps : Ps} {Z : List (Int × Int)} {v : Int} : v ∈ ((Z.map (beh (csOf ps))).filterMap id) ↔ ∃ z ∈ Z, ∃ p, ps.getD z.1.toNat none = some p ∧ z.2 + p.1 = v := by
  rw [List.filterMap_map, List.mem_filterMap]
  have hb : ∀ z : Int × Int, beh (csOf ps) z = (ps.getD z.1.toNat none).map fun p => z.2 + p.1 := fun z => (behP_eq ps z).symm
  constructor
  · rintro ⟨z, hz, h⟩
    have h : beh (csOf ps) z = some v := h
    rw [hb] at h
    obtain ⟨p, h1, h2⟩ := Option.map_eq_some_iff.mp h
    exact ⟨z, hz, p, h1, h2⟩
  · rintro ⟨z, hz, p, h1, h2⟩
    exact ⟨z, hz, by show beh (csOf ps) z = some v; rw [hb, h1, ← h2]; rfl⟩
theorem beh_all {ps : Ps} {Z : List (Int × Int)} : ((Z.map (beh (csOf ps))).filterMap id).length = (Z.map (beh (csOf ps))).length ↔ ∀ z ∈ Z, ∃ p, ps.getD z.1.toNat none = some p := by
  have hb : ∀ z : Int × Int, beh (csOf ps) z = (ps.getD z.1.toNat none).map fun p => z.2 + p.1 := fun z => (behP_eq ps z).symm
  induction Z with
  | nil => simp
  | cons z Z ih =>
    have hle := List.length_filterMap_le id (Z.map (beh (csOf ps)))
    cases hq : ps.getD z.1.toNat none with
    | none =>
      have e : beh (csOf ps) z = none := by rw [hb, hq]; rfl
      simp only [List.map_cons, e, List.filterMap_cons, id, List.length_cons]
      constructor
      · intro h; omega
      · intro h
        obtain ⟨p, hp⟩ := h z (by simp)
        rw [hq] at hp
        cases hp
    | some p =>
      have e : beh (csOf ps) z = some (z.2 + p.1) := by rw [hb, hq]; rfl
      simp only [List.map_cons, e, List.filterMap_cons, id, List.length_cons]
      refine Nat.add_right_cancel_iff.trans (Iff.trans ih ?_)
      constructor
      · intro h y hy
        rcases List.mem_cons.mp hy with rfl | hy
        · exact ⟨p, hq⟩
        · exact h y hy
      · intro h y hy
        exact h y (List.mem_cons_of_mem _ hy)
theorem cand_iff {ar : Ar} {ws : List (List Int)} {tg : List Int} (G : Gam ar ws tg) {sd : Int} {ps : Ps} {i : Nat} (hi : i < ar.length) {v : Int} :
    candAt ar ws sd (csOf ps) i = some v ↔ ps.getD i none = none ∧ CanQ ((ar.getD i (0, [])).1 = sd) ((ar.getD i (0, [])).2.zip (ws.getD i [])) ps v := by
  obtain ⟨x, w, h1, h2, h3, h4, h5, h6, h7, h8⟩ := G.at_ hi
  unfold candAt
  rw [h2, h3, csOf_get]
  have hz : 0 < (x.2.zip w).length := by rw [List.length_zip]; omega
  cases hp : ps.getD i none with
  | some q => simp
  | none =>
    simp only [Option.map_none, Option.isSome_none, Bool.false_eq_true, if_false, true_and]
    unfold nc CanQ
    have hs := fun u => beh_some (ps := ps) (Z := x.2.zip w) (v := u)
    have ha := beh_all (ps := ps) (Z := x.2.zip w)
    have hlz : ((x.2.zip w).map (beh (csOf ps))).length = (x.2.zip w).length := List.length_map _
    by_cases ho : x.1 = sd
    · simp only [ho, if_true, true_implies, not_true_eq_false, false_implies, and_true]
      by_cases h0 : (((x.2.zip w).map (beh (csOf ps))).filterMap id).length = 0
      · rw [if_pos h0]
        simp only [reduceCtorEq, false_iff]
        rintro ⟨_, hx⟩
        have := List.length_pos_of_mem ((hs v).mpr hx)
        omega
      · rw [if_neg h0, Option.some.injEq, minL_iff (by omega), hs v]
        refine and_congr_left fun _ => ?_
        constructor
        · intro h z hz p hp
          exact h _ ((hs _).mpr ⟨z, hz, p, hp, rfl⟩)
        · intro h u hu
          obtain ⟨z, hz, p, hp, rfl⟩ := (hs u).mp hu
          exact h z hz p hp
    · simp only [ho, if_false, false_implies, not_false_eq_true, true_implies, true_and]
      by_cases h0 : (((x.2.zip w).map (beh (csOf ps))).filterMap id).length = ((x.2.zip w).map (beh (csOf ps))).length
      · have hall := ha.mp h0
        rw [if_pos h0, Option.some.injEq, maxL_iff (by omega), hs v]
        refine and_congr_left fun _ => ?_
        constructor
        · intro h z hz
          obtain ⟨p, hp⟩ := hall z hz
          exact ⟨p, hp, h _ ((hs _).mpr ⟨z, hz, p, hp, rfl⟩)⟩
        · intro h u hu
          obtain ⟨z, hz, p, hp, rfl⟩ := (hs u).mp hu
          obtain ⟨p', hp', hle⟩ := h z hz
          rw [hp] at hp'
          cases hp'
          exact hle
      · rw [if_neg h0]
        simp only [reduceCtorEq, false_iff]
        rintro ⟨hx, _⟩
        exact h0 (ha.mpr fun z hz => let ⟨p, a, _⟩ := hx z hz; ⟨p, a⟩)
theorem cand_no {ar : Ar} {ws : List (List Int)} {tg : List Int} (G : Gam ar ws tg) {sd : Int} {ps : Ps} {i : Nat} (hi : i < ar.length) (hp : ps.getD i none = none) (h : candAt ar ws sd (csOf ps) i = none) : NonP ((ar.getD i (0, [])).1 = sd) (ar.getD i (0, [])).2 ps := by
  obtain ⟨x, w, h1, h2, h3, h4, h5, h6, h7, h8⟩ := G.at_ hi
  unfold candAt at h
  rw [h2, h3, csOf_get, hp] at h
  rw [h2]
  simp only [Option.map_none, Option.isSome_none, Bool.false_eq_true, if_false] at h
  unfold nc at h
  have hs := fun u => beh_some (ps := ps) (Z := x.2.zip w) (v := u)
  have ha := beh_all (ps := ps) (Z := x.2.zip w)
  have hzm : ∀ m ∈ x.2, ∃ v, (m, v) ∈ x.2.zip w := by
    intro m hm
    obtain ⟨q, hq, hqm⟩ := List.getElem_of_mem hm
    refine ⟨w[q]'(by omega), List.mem_of_getElem? (i := q) ?_⟩
    rw [List.zip_eq_zipWith, List.getElem?_zipWith, List.getElem?_eq_getElem hq, List.getElem?_eq_getElem (show q < w.length by omega), hqm]
  refine ⟨fun ho m hm => ?_, fun ho => ?_⟩
  · rw [if_pos ho] at h
    split at h
    · rename_i h0
      obtain ⟨v, hv⟩ := hzm m hm
      cases hq : ps.getD m.toNat none with
      | none => rfl
      | some p =>
        have := List.length_pos_of_mem ((hs _).mpr ⟨(m, v), hv, p, hq, rfl⟩)
        omega
    · cases h
  · rw [if_neg ho] at h
    split at h
    · cases h
    · rename_i h0
      refine Classical.byContradiction fun hn => h0 (ha.mpr fun z hz => ?_)
      cases hq : ps.getD z.1.toNat none with
      | none => exact absurd ⟨z.1, (List.of_mem_zip hz).1, hq⟩ hn
      | some p => exact ⟨p, rfl⟩
abbrev Own (ar : Ar) (sd : Int) (i : Nat) : Prop := (ar.getD i (0, [])).1 = sd
abbrev Zs (ar : Ar) (ws : List (List Int)) (i : Nat) : List (Int × Int) := (ar.getD i (0, [])).2.zip (ws.getD i [])
/-- the pairs behind t turns -/
structure InvP (ar : Ar) (ws : List (List Int)) (sd : Int) (tg : List Int) (t : Nat) (ps : Ps) : Prop where
  l : ps.length = ar.length
  tt : ∀ i, i < ar.length → (i : Int) ∈ tg → ps.getD i none = some (0, 0)
  s : ∀ i, i < ar.length → ¬ (i : Int) ∈ tg → ∀ c r, ps.getD i none = some (c, r) → Shq (Own ar sd i) (Zs ar ws i) ps c r
  n : ∀ i c r, ps.getD i none = some (c, r) → 0 ≤ c ∧ 0 ≤ r ∧ r ≤ (t : Int)
  m : ∃ B : Int, (∀ i c r, ps.getD i none = some (c, r) → c ≤ B) ∧ ∀ i v, i < ar.length → candAt ar ws sd (csOf ps) i = some v → B ≤ v
theorem set_get {ps : Ps} {a j : Nat} {y : Option (Int × Int)} (ha : a < ps.length) : (ps.set a y).getD j none = if j = a then y else ps.getD j none := by
  rw [List.getD_eq_getElem?_getD, List.getD_eq_getElem?_getD, List.getElem?_set]
  by_cases h : a = j
  · subst h
    simp [ha]
  · have h' : ¬ j = a := fun z => h z.symm
    simp [h, h']
theorem inv_start {ar : Ar} {ws : List (List Int)} {tg : List Int} (G : Gam ar ws tg) {sd : Int} : InvP ar ws sd tg 0 (start ar.length tg) := by
  have hg : ∀ i, i < ar.length → (start ar.length tg).getD i none = if (i : Int) ∈ tg then some (0, 0) else none := by
    intro i hi
    unfold start
    rw [List.getD_eq_getElem?_getD, List.getElem?_map, List.getElem?_range hi]
    rfl
  have hz : ∀ i c r, (start ar.length tg).getD i none = some (c, r) → c = 0 ∧ r = 0 := by
    intro i c r h
    by_cases hi : i < ar.length
    · rw [hg i hi] at h
      split at h <;> cases h
      exact ⟨rfl, rfl⟩
    · rw [List.getD_eq_getElem?_getD, List.getElem?_eq_none (by rw [start_len]; omega)] at h
      cases h
  refine ⟨start_len, fun i hi ht => by rw [hg i hi, if_pos ht], fun i hi ht c r h => ?_, fun i c r h => ?_, 0, fun i c r h => ?_, fun i v hi h => ?_⟩
  · rw [hg i hi, if_neg ht] at h
    cases h
  · obtain ⟨rfl, rfl⟩ := hz i c r h
    omega
  · obtain ⟨rfl, rfl⟩ := hz i c r h
    omega
  · obtain ⟨x, w, h1, h2, h3, h4, h5, h6, h7, h8⟩ := G.at_ hi
    obtain ⟨_, hq⟩ := (cand_iff G hi).mp h
    rw [h2, h3] at hq
    have hw : ∃ z ∈ x.2.zip w, ∃ p, (start ar.length tg).getD z.1.toNat none = some p ∧ z.2 + p.1 = v := by
      by_cases ho : x.1 = sd
      · exact (hq.1 ho).2
      · exact (hq.2 ho).2
    obtain ⟨z, hz', p, hp, rfl⟩ := hw
    have := (hz _ p.1 p.2 hp).1
    have := (h8 z hz').2
    omega
theorem inv_step {ar : Ar} {ws : List (List Int)} {tg : List Int} (G : Gam ar ws tg) {sd : Int} {t : Nat} {ps : Ps} (I : InvP ar ws sd tg t ps) : InvP ar ws sd tg (t + 1) (step ar ws sd ((t : Int) + 1) ps) := by
  unfold step
  cases hb : bestTo ar ws sd (csOf ps) ar.length with
  | none =>
    exact ⟨I.l, I.tt, I.s, fun i c r h => by have := I.n i c r h; omega, I.m⟩
  | some q =>
    obtain ⟨⟨a, hqa, ha, hca⟩, hmin⟩ := best_is hb
    obtain ⟨v, a'⟩ := q
    simp only at hqa hca hmin
    subst hqa
    obtain ⟨hpa, hcq⟩ := (cand_iff G ha).mp hca
    obtain ⟨B, hB1, hB2⟩ := I.m
    have hBv : B ≤ v := hB2 a v ha hca
    have hal : a < ps.length := by rw [I.l]; exact ha
    simp only [Int.toNat_natCast]
    have sg : ∀ j, (ps.set a (some (v, (t : Int) + 1))).getD j none = if j = a then some (v, (t : Int) + 1) else ps.getD j none := fun j => set_get hal
    have old : ∀ {j p}, ps.getD j none = some p → (ps.set a (some (v, (t : Int) + 1))).getD j none = some p := by
      intro j p h
      rw [sg, if_neg]
      · exact h
      · rintro rfl
        rw [hpa] at h
        cases h
    have nw : ∀ {j p}, (ps.set a (some (v, (t : Int) + 1))).getD j none = some p → ps.getD j none = some p ∨ p = (v, (t : Int) + 1) := by
      intro j p h
      rw [sg] at h
      split at h
      · cases h; exact .inr rfl
      · exact .inl h
    -- a shown pair stays shown
    have keep : ∀ i, i < ar.length → ∀ c r, c ≤ v → Shq (Own ar sd i) (Zs ar ws i) ps c r → Shq (Own ar sd i) (Zs ar ws i) (ps.set a (some (v, (t : Int) + 1))) c r := by
      intro i hi c r hc hs
      obtain ⟨x, w, h1, h2, h3, h4, h5, h6, h7, h8⟩ := G.at_ hi
      unfold Own Zs at hs ⊢
      rw [h2, h3] at hs ⊢
      refine ⟨fun ho => ?_, fun ho => ?_⟩
      · obtain ⟨k1, z, hz, p, hp, k2, k3⟩ := hs.1 ho
        refine ⟨fun y hy p' hp' => ?_, z, hz, p, old hp, k2, k3⟩
        rcases nw hp' with hp' | rfl
        · exact k1 y hy p' hp'
        · have := (h8 y hy).2
          show c ≤ y.2 + v
          omega
      · obtain ⟨k1, z, hz, p, hp, k2⟩ := hs.2 ho
        exact ⟨fun y hy => let ⟨p', a1, a2⟩ := k1 y hy; ⟨p', old a1, a2⟩, z, hz, p, old hp, k2⟩
    -- the new pair is shown
    have new : Shq (Own ar sd a) (Zs ar ws a) ps v ((t : Int) + 1) := by
      refine ⟨fun ho => ?_, fun ho => ?_⟩
      · obtain ⟨k1, z, hz, p, hp, k2⟩ := hcq.1 ho
        exact ⟨k1, z, hz, p, hp, k2, by have := (I.n _ p.1 p.2 hp).2.2; omega⟩
      · obtain ⟨k1, k2⟩ := hcq.2 ho
        exact ⟨fun z hz => let ⟨p, a1, a2⟩ := k1 z hz; ⟨p, a1, by have := (I.n _ p.1 p.2 a1).2.2; omega, a2⟩, k2⟩
    have hta : ¬ (a : Int) ∈ tg := by
      intro z
      rw [I.tt a ha z] at hpa
      cases hpa
    have hv0 : 0 ≤ v := by
      obtain ⟨x, w, h1, h2, h3, h4, h5, h6, h7, h8⟩ := G.at_ ha
      obtain ⟨z, hz, p, hp, k2, k3⟩ := shq_goal new
      unfold Zs at hz
      rw [h2, h3] at hz
      have := (h8 z hz).2
      have := (I.n _ p.1 p.2 hp).1
      omega
    refine ⟨by rw [List.length_set]; exact I.l, fun i hi ht => old (I.tt i hi ht), fun i hi ht c r h => ?_, fun i c r h => ?_, v, fun i c r h => ?_, fun i u hi h => ?_⟩
    · rcases nw h with h' | h'
      · exact keep i hi c r (by have := hB1 i c r h'; omega) (I.s i hi ht c r h')
      · cases h'
        by_cases hia : i = a
        · subst hia
          exact keep i hi _ _ (Int.le_refl _) new
        · rw [sg, if_neg hia] at h
          exact keep i hi _ _ (Int.le_refl _) (I.s i hi ht _ _ h)
    · rcases nw h with h' | h'
      · have := I.n i c r h'; omega
      · cases h'; omega
    · rcases nw h with h' | h'
      · have := hB1 i c r h'; omega
      · cases h'; omega
    · obtain ⟨hpi, hcu⟩ := (cand_iff G hi).mp h
      obtain ⟨x, w, h1, h2, h3, h4, h5, h6, h7, h8⟩ := G.at_ hi
      rw [h2, h3] at hcu
      have hia : i ≠ a := by
        rintro rfl
        rw [sg, if_pos rfl] at hpi
        cases hpi
      have hpi' : ps.getD i none = none := by rw [sg, if_neg hia] at hpi; exact hpi
      by_cases ho : x.1 = sd
      · obtain ⟨k1, z, hz, p, hp, rfl⟩ := hcu.1 ho
        rcases nw hp with hp' | rfl
        · -- an old one: there was a candidate
          cases hc : candAt ar ws sd (csOf ps) i with
          | none =>
            have := (cand_no G hi hpi' hc).1 (by rw [h2]; exact ho) z.1 (by rw [h2]; exact (List.of_mem_zip hz).1)
            rw [this] at hp'
            cases hp'
          | some u =>
            have h9 := hmin i u hi hc
            obtain ⟨_, hq⟩ := (cand_iff G hi).mp hc
            rw [h2, h3] at hq
            have := (hq.1 ho).1 z hz p hp'
            omega
        · have := (h8 z hz).2
          show v ≤ z.2 + v
          omega
      · obtain ⟨k1, z, hz, p, hp, k2⟩ := hcu.2 ho
        by_cases hall : ∀ y ∈ x.2.zip w, ∃ p, ps.getD y.1.toNat none = some p
        · cases hc : candAt ar ws sd (csOf ps) i with
          | none =>
            obtain ⟨m, hm, hnm⟩ := (cand_no G hi hpi' hc).2 (by rw [h2]; exact ho)
            rw [h2] at hm
            obtain ⟨n, hn, hnm'⟩ := List.getElem_of_mem hm
            have : (m, w[n]'(by omega)) ∈ x.2.zip w := by
              refine List.mem_of_getElem? (i := n) ?_
              rw [List.zip_eq_zipWith, List.getElem?_zipWith, List.getElem?_eq_getElem hn, List.getElem?_eq_getElem (show n < w.length by omega), hnm']
            obtain ⟨p', hp'⟩ := hall _ this
            rw [hnm] at hp'
            cases hp'
          | some u' =>
            have h9 := hmin i u' hi hc
            obtain ⟨_, hq⟩ := (cand_iff G hi).mp hc
            rw [h2, h3] at hq
            obtain ⟨_, y, hy, py, hpy, rfl⟩ := hq.2 ho
            obtain ⟨p', hp', hle⟩ := k1 y hy
            rw [old hpy] at hp'
            cases hp'
            omega
        · simp only [Classical.not_forall] at hall
          obtain ⟨y, hy, hne⟩ := hall
          obtain ⟨p', hp', hle⟩ := k1 y hy
          rcases nw hp' with h' | rfl
          · exact absurd ⟨p', h'⟩ hne
          · have := (h8 y hy).2
            have hle : y.2 + v ≤ u := hle
            omega
theorem inv_iter {ar : Ar} {ws : List (List Int)} {tg : List Int} (G : Gam ar ws tg) {sd : Int} : ∀ t, InvP ar ws sd tg t (iterP ar ws sd (start ar.length tg) t)
  | 0 => inv_start G
  | t + 1 => inv_step G (inv_iter G t)
theorem iter_cntP {ar : Ar} {ws : List (List Int)} {tg : List Int} (G : Gam ar ws tg) {sd : Int} : ∀ t, bestTo ar ws sd (csOf (iterP ar ws sd (start ar.length tg) t)) ar.length = none ∨ t ≤ cntS (csOf (iterP ar ws sd (start ar.length tg) t))
  | 0 => .inr (Nat.zero_le _)
  | t + 1 => by
    rcases iter_cntP G (sd := sd) t with h | h
    · left
      have := iterP_stop h 1
      rw [this]
      exact h
    · cases hb : bestTo ar ws sd (csOf (iterP ar ws sd (start ar.length tg) t)) ar.length with
      | none =>
        left
        have := iterP_stop hb 1
        rw [this]
        exact hb
      | some q =>
        right
        have I := inv_iter G (sd := sd) t
        obtain ⟨⟨a, hqa, ha, hca⟩, _⟩ := best_is hb
        obtain ⟨hpa, _⟩ := (cand_iff G ha).mp hca
        show _ ≤ cntS (csOf (step ar ws sd ((t : Int) + 1) (iterP ar ws sd (start ar.length tg) t)))
        rw [step_cs]
        unfold stepC
        rw [hb]
        simp only
        rw [hqa, Int.toNat_natCast]
        have hl : (csOf (iterP ar ws sd (start ar.length tg) t)).length = ar.length := by unfold csOf; rw [List.length_map]; exact I.l
        have hcn : (csOf (iterP ar ws sd (start ar.length tg) t)).getD a none = none := by rw [csOf_get, hpa]; rfl
        generalize csOf (iterP ar ws sd (start ar.length tg) t) = cs at h hl hcn
        have sg : ∀ j, (cs.set a (some q.1)).getD j none = if j = a then some q.1 else cs.getD j none := by
          intro j
          rw [List.getD_eq_getElem?_getD, List.getD_eq_getElem?_getD, List.getElem?_set]
          by_cases h : a = j
          · subst h
            simp [hl, ha]
          · have h' : ¬ j = a := fun z => h z.symm
            simp [h, h']
        have := cnt_lt (a := cs) (b := cs.set a (some q.1)) (by simp) (fun j hj => by
          rw [sg]
          split
          · rfl
          · exact hj) ⟨a, by rw [hcn]; rfl, by rw [sg, if_pos rfl]; rfl⟩
        omega
theorem iter_end {ar : Ar} {ws : List (List Int)} {tg : List Int} (G : Gam ar ws tg) {sd : Int} : bestTo ar ws sd (csOf (iterP ar ws sd (start ar.length tg) ar.length)) ar.length = none := by
  rcases iter_cntP G (sd := sd) ar.length with h | h
  · exact h
  · have I := inv_iter G (sd := sd) ar.length
    have hl : (csOf (iterP ar ws sd (start ar.length tg) ar.length)).length = ar.length := by unfold csOf; rw [List.length_map]; exact I.l
    have h1 := cnt_le (csOf (iterP ar ws sd (start ar.length tg) ar.length))
    have hall := cnt_all (rk := csOf (iterP ar ws sd (start ar.length tg) ar.length)) (by omega)
    cases hb : bestTo ar ws sd (csOf (iterP ar ws sd (start ar.length tg) ar.length)) ar.length with
    | none => rfl
    | some q =>
      obtain ⟨⟨a, hqa, ha, hca⟩, _⟩ := best_is hb
      unfold candAt at hca
      have h2 : ((csOf (iterP ar ws sd (start ar.length tg) ar.length)).getD a none).isSome = true := by
        rw [List.getD_eq_getElem?_getD, List.getElem?_eq_getElem (show a < (csOf (iterP ar ws sd (start ar.length tg) ar.length)).length by omega)]
        exact hall _ (List.getElem_mem _)
      rw [h2] at hca
      cases hca
theorem sc_get {f : Int} {ps : Ps} {j : Nat} : (scP f ps).getD j none = (ps.getD j none).map fun q => (q.1, f * q.2) := by
  unfold scP
  rw [List.getD_eq_getElem?_getD, List.getD_eq_getElem?_getD, List.getElem?_map]
  cases ps[j]? <;> rfl
/-- the costs are shown, by ranks times any factor -/
theorem own_jud {ar : Ar} {ws : List (List Int)} {tg : List Int} (G : Gam ar ws tg) {sd f : Int} (hf : 0 < f) : JudP ar ws sd tg ((scP f (iterP ar ws sd (start ar.length tg) ar.length)).map pD) := by
  have I := inv_iter G (sd := sd) ar.length
  have hend := iter_end G (sd := sd)
  generalize iterP ar ws sd (start ar.length tg) ar.length = ps at I hend
  refine ⟨_, rfl, by unfold scP; rw [List.length_map]; exact I.l, fun i q hq => ?_, fun i hi => (at_iff G hi).mpr ?_⟩
  · have h := getD_of (d := none) hq
    rw [sc_get] at h
    obtain ⟨p, hp, rfl⟩ := Option.map_eq_some_iff.mp h
    have := I.n i p.1 p.2 hp
    exact ⟨this.1, Int.mul_nonneg (by omega) this.2.1⟩
  · unfold OkI
    by_cases ht : (i : Int) ∈ tg
    · rw [if_pos ht, sc_get, I.tt i hi ht]
      simp
    · rw [if_neg ht]
      refine ⟨fun hp => ?_, fun c r hp => ?_⟩
      · rw [sc_get] at hp
        have hp : ps.getD i none = none := by simpa using hp
        have := cand_no G hi hp (best_none hend i hi)
        refine ⟨fun ho m hm => by rw [sc_get, this.1 ho m hm]; rfl, fun ho => ?_⟩
        obtain ⟨m, hm, hn⟩ := this.2 ho
        exact ⟨m, hm, by rw [sc_get, hn]; rfl⟩
      · rw [sc_get] at hp
        obtain ⟨p, hpp, he⟩ := Option.map_eq_some_iff.mp hp
        cases he
        have hs := I.s i hi ht p.1 p.2 hpp
        have lt : ∀ {a b : Int}, a < b → f * a < f * b := fun {a b} h => Int.mul_lt_mul_of_pos_left h hf
        refine ⟨fun ho => ?_, fun ho => ?_⟩
        · obtain ⟨k1, z, hz, p', hp', k2, k3⟩ := hs.1 ho
          refine ⟨fun y hy q hq => ?_, z, hz, (p'.1, f * p'.2), by rw [sc_get, hp']; rfl, k2, lt k3⟩
          rw [sc_get] at hq
          obtain ⟨q', hq', rfl⟩ := Option.map_eq_some_iff.mp hq
          exact k1 y hy q' hq'
        · obtain ⟨k1, z, hz, p', hp', k2⟩ := hs.2 ho
          refine ⟨fun y hy => ?_, z, hz, (p'.1, f * p'.2), by rw [sc_get, hp']; rfl, k2⟩
          obtain ⟨q, hq, k3, k4⟩ := k1 y hy
          exact ⟨(q.1, f * q.2), by rw [sc_get, hq]; rfl, lt k3, k4⟩
/-- pick, as a fact of evaluation -/
theorem pick_ev (Δ : Tb) [A0 Δ] (k : Nat) (ds : List Int) (xs : List D) (hx : 0 < xs.length) :
    Ev (callN Δ (k + 2) 6 [.ow true (LI ds), .fz (.lst xs)]) fun z => ∃ d ds', z = (.v d, [.ow true (LI ds'), .fz (.lst xs)]) ∧ d ∈ xs := by
  obtain ⟨d, ds', h, hd⟩ := pick_ok Δ k ds xs hx
  exact ⟨_, h, d, ds', rfl, hd⟩
def priceL : List Int := [0, 0, 1, 1, 2, 3, 5, 9, 4, 1000000000000037]
theorem prices2_ok (Δ : Tb) [A0 Δ] (k : Nat) (ds : List Int) (ar : List (Int × List Int)) (ha : ar.length ≤ 1000) (hp2 : ∀ p ∈ ar, p.2.length ≤ 1000) :
    Ev (callN Δ (k + 3) 14 [.ow true (LI ds), .fz (arD ar)]) fun z => ∃ (ws : List (List Int)) (ds' : List Int), z = (.v (wsD ws), [.ow true (LI ds'), .fz (arD ar)]) ∧ Fits ar ws ∧ ∀ (i : Nat) (w : List Int), ws[i]? = some w → ∀ v ∈ w, v ∈ priceL := by
  have hp := pick_ev Δ k
  rw [fn14]
  generalize callN Δ (k + 2) = cl at hp
  walk_at "in"
  unfold b14
  refine kt ?_
  simp_arith! []
  refine kt ?_
  simp_arith! [ar_items]
  refine foM (fun i e => ∃ (ds : List Int) (ws : List (List Int)) (s3 : Sl), fr s3 = true ∧ ws.length = i ∧ (∀ (j : Nat) (p : Int × List Int) (w : List Int), ar[j]? = some p → ws[j]? = some w → w.length = p.2.length) ∧ (∀ (i : Nat) (w : List Int), ws[i]? = some w → ∀ v ∈ w, v ∈ priceL) ∧ e = [.ow true (LI ds), .fz (arD ar), .ow false (.lst (ws.map tupI)), s3, .un]) ⟨ds, [], .un, rfl, rfl, (fun j p w _ h => by simp at h), (fun i w h => by simp at h), rfl⟩ ?_ ?_
  · rintro i p hai e ⟨ds, ws, s3, f3, hl, hw, hv, rfl⟩
    have hil : i < ar.length := (List.getElem?_eq_some_iff.mp hai).1
    have hpl := hp2 p (List.mem_of_getElem? hai)
    have i1 : idxS (plD p) (.int 1) = some (.tup (p.2.map .int)) := rfl
    simp_arith! [f3]
    refine kt ?_
    simp_arith! [i1]
    refine lcM (fun i acc e => ∃ (rs ds : List Int), acc = rs.map .int ∧ rs.length = i ∧ (∀ v ∈ rs, v ∈ priceL) ∧ e = [.ow true (LI ds), .fz (arD ar), .ow false (.lst (ws.map tupI)), .fz (plD p), .un]) ⟨[], ds, rfl, rfl, (fun _ h => nomatch h), rfl⟩ ?_ ?_
    · rintro j m hm acc e ⟨rs, ds, rfl, hr, hrv, rfl⟩
      simp_arith! [pow_15]
      refine ev_mono (hp ds (priceL.map .int) (by decide)) ?_
      rintro _ ⟨d, ds, rfl, hd⟩
      obtain ⟨v, hv, rfl⟩ := List.mem_map.mp hd
      simp_arith! []
      refine ⟨rs ++ [v], ds, by simp, by simp [hr], fun y hy => ?_, rfl⟩
      rcases List.mem_append.mp hy with hy | hy
      · exact hrv y hy
      · simp only [List.mem_singleton] at hy; subst hy; exact hv
    · rintro acc e ⟨rs, ds, rfl, hr, hrv, rfl⟩
      simp_arith! []
      refine ⟨by omega, ds, ws ++ [rs], _, rfl, by simp [hl], fun j p' w h1 h2 => ?_, fun j w h2 => ?_, by simp [tupI]; rfl⟩
      · rcases Nat.lt_or_ge j ws.length with hj | hj
        · rw [List.getElem?_append_left hj] at h2
          exact hw j p' w h1 h2
        · rw [List.getElem?_append_right hj] at h2
          have : j - ws.length = 0 := by
            rcases Nat.eq_zero_or_pos (j - ws.length) with h | h
            · exact h
            · rw [List.getElem?_eq_none (by simp; omega)] at h2; cases h2
          have hji : j = i := by omega
          subst hji
          rw [this] at h2
          simp at h2
          subst h2
          rw [hai] at h1
          cases h1
          exact hr
      · rcases Nat.lt_or_ge j ws.length with hj | hj
        · rw [List.getElem?_append_left hj] at h2
          exact hv j w h2
        · rw [List.getElem?_append_right hj] at h2
          have : j - ws.length = 0 := by
            rcases Nat.eq_zero_or_pos (j - ws.length) with h | h
            · exact h
            · rw [List.getElem?_eq_none (by simp; omega)] at h2; cases h2
          rw [this] at h2
          simp at h2
          subst h2
          exact hrv
  · rintro e ⟨ds, ws, s3, f3, hl, hw, hv, rfl⟩
    simp_arith! []
    refine kt ?_
    simp_arith! []
    exact ⟨ws, ds, rfl, ⟨hl, hw⟩, hv⟩
theorem price_nat : ∀ v ∈ priceL, 0 ≤ v := by decide
/-! rows that are asked of -/
theorem el_none : ElOk .non := .inl rfl
theorem el_tup {xs : List D} (h : ∀ x ∈ xs, noB x = true) (hl : xs.length ≤ 1000) : ElOk (.tup xs) := .inr ⟨xs, rfl, h, hl⟩
theorem el_pD (p : Option (Int × Int)) : ElOk (pD p) := by
  cases p with
  | none => exact el_none
  | some q => exact el_tup (by intro x hx; simp at hx; rcases hx with rfl | rfl <;> rfl) (by simp)
theorem el_noB {d : D} (h : ElOk d) : noB d = true := by
  rcases h with rfl | ⟨xs, rfl, _⟩ <;> rfl
structure RowOk (es : List D) : Prop where
  e : ∀ d ∈ es, ElOk d
  n : es.length ≤ 1000
theorem RowOk.tup {es : List D} (h : RowOk es) : ElOk (.tup es) := el_tup (fun x hx => el_noB (h.e x hx)) h.n
theorem RowOk.set {es : List D} (h : RowOk es) {j : Nat} {d : D} (hd : ElOk d) : RowOk (es.set j d) :=
  ⟨fun x hx => by
    rcases List.mem_or_eq_of_mem_set hx with hx | rfl
    · exact h.e x hx
    · exact hd, by rw [List.length_set]; exact h.n⟩
theorem miss_ok (Δ : Tb) [A1 Δ] (k : Nat) (es : List D) (h : RowOk es) (h0 : 0 < es.length) (h1 : es.length ≤ 900) :
    Ev (callN Δ (k + 2) 26 [.fz (.tup es)]) fun z => ∃ rows : List (List D), z = (.nw (.lst (rows.map .tup)), [.fz (.tup es)]) ∧ rows.length = 5 ∧ ∀ r ∈ rows, RowOk r := by
  have h25 := put_ok Δ k
  rw [fn26]
  generalize callN Δ (k + 1) = cl at h25
  walk_at "in"
  refine kt ?_
  simp_arith! []
  have hj0 : 0 ≤ (es.length : Int) / 2 := by omega
  have hj1 : (es.length : Int) / 2 < es.length := by omega
  generalize (es.length : Int) / 2 = j at hj0 hj1
  obtain ⟨d, hd⟩ : ∃ d, es[j.toNat]? = some d := ⟨_, List.getElem?_eq_getElem (by omega)⟩
  have ip := idx_tupD hd
  rw [show ((j.toNat : Nat) : Int) = j by omega] at ip
  have hdo := h.e d (List.mem_of_getElem? hd)
  have hdb : ElOk (.tup [d]) := el_tup (fun x hx => by simp only [List.mem_singleton] at hx; subst hx; exact el_noB hdo) (by simp)
  have e1 := h25 es j (.tup [d]) hj0 hj1 (by omega)
  have un1 : unS .USub (.int 1) = some (.int (-1)) := rfl
  refine kt ?_
  simp_arith! [sl_tup, un1, cut_m1, cut_hi (show (0 : Int) ≤ 1 by decide), ip, e1, add_tup1 (show es.length + (es.take (1 : Int).toNat).length ≤ 16777216 by simp; omega)]
  refine ⟨[[], es.dropLast, es ++ es.take 1, [.tup es], es.set j.toNat (.tup [d])], rfl, rfl, fun r hr => ?_⟩
  simp only [List.mem_cons, List.not_mem_nil, or_false] at hr
  rcases hr with rfl | rfl | rfl | rfl | rfl
  · exact ⟨(fun _ hx => nomatch hx), by simp⟩
  · exact ⟨fun x hx => h.e x (by rw [List.dropLast_eq_take] at hx; exact List.mem_of_mem_take hx), by simp; omega⟩
  · exact ⟨fun x hx => by
      rcases List.mem_append.mp hx with hx | hx
      · exact h.e x hx
      · exact h.e x (List.mem_of_mem_take hx), by simp; omega⟩
  · exact ⟨fun x hx => by simp only [List.mem_singleton] at hx; subst hx; exact h.tup, by simp⟩
  · exact h.set hdb
theorem take_ev (Δ : Tb) [A0 Δ] (k : Nat) (ds : List Int) (m : Int) (hm : 0 < m) :
    Ev (callN Δ (k + 1) 5 [.ow true (LI ds), .fz (.int m)]) fun z => ∃ r ds', z = (.v (.int r), [.ow true (LI ds'), .fz (.int m)]) ∧ 0 ≤ r ∧ r < m := take_ok Δ k ds m hm
theorem pow_18 : binS .Pow (.int 10) (.int 18) = some (.v (.int 1000000000000000000)) := pow_10
theorem pow_20 : binS .Pow (.int 10) (.int 20) = some (.v (.int 100000000000000000000)) := by
  rw [pow_c (show L2.CPow 10 20 by unfold L2.CPow; decide)]
  rfl
theorem pow_30 : binS .Pow (.int 10) (.int 30) = some (.v (.int 1000000000000000000000000000000)) := by
  rw [pow_c (show L2.CPow 10 30 by unfold L2.CPow; decide)]
  rfl
theorem el_ints {a b : D} (ha : noB a = true) (hb : noB b = true) : ElOk (.tup [a, b]) := el_tup (by intro x hx; simp at hx; rcases hx with rfl | rfl <;> assumption) (by simp)
theorem other_ok (Δ : Tb) [A0 Δ] [A1 Δ] (k : Nat) (ds : List Int) (ps : Ps) (h0 : 0 < ps.length) (h1 : ps.length ≤ 1000) :
    Ev (callN Δ (k + 3) 32 [.ow true (LI ds), .fz (.tup (ps.map pD))]) fun z => ∃ (es : List D) (ds' : List Int), z = (.v (.tup es), [.ow true (LI ds'), .fz (.tup (ps.map pD))]) ∧ RowOk es := by
  have h25 := put_ok Δ (k + 1)
  have h5 := take_ev Δ (k + 1)
  have h6 := pick_ev Δ k
  rw [fn32]
  generalize callN Δ (k + 2) = cl at h25 h5 h6
  have hrow : RowOk (ps.map pD) := ⟨fun d hd => by obtain ⟨p, _, rfl⟩ := List.mem_map.mp hd; exact el_pD p, by simpa using h1⟩
  walk_at "in"
  refine kt ?_
  simp_arith! []
  refine ev_mono (h5 ds ps.length (by omega)) ?_
  rintro _ ⟨a, ds, rfl, ha0, ha1⟩
  simp_arith! []
  refine kt ?_
  simp_arith! []
  refine ev_mono (h5 ds ps.length (by omega)) ?_
  rintro _ ⟨b, ds, rfl, hb0, hb1⟩
  simp_arith! []
  refine kt ?_
  simp_arith! []
  refine ev_mono (h5 ds 7 (by omega)) ?_
  rintro _ ⟨c, ds, rfl, hc0, hc1⟩
  simp_arith! []
  have ia := idx_pst (ps := ps) (m := a) ha0 ha1
  have ib := idx_pst (ps := ps) (m := b) hb0 hb1
  have put := fun (es : List D) (j : Int) (d : D) (h0 : 0 ≤ j) (h : j < es.length) (hl : es.length = ps.length) => h25 es j d h0 h (by omega)
  have hpa := put (ps.map pD) a
  have fin : ∀ (es : List D) (d : D) (ds' : List Int), RowOk es → ElOk d → es.length = ps.length → RowOk (es.set a.toNat d) := fun es d _ h1 h2 _ => h1.set h2
  refine kt ?_
  simp_arith! []
  refine ⟨fun hk => ?_, fun hk => ?_⟩
  · refine kt ?_
    simp_arith! [hpa .non ha0 (by simpa using ha1) (by simp)]
    exact ⟨_, _, rfl, hrow.set el_none⟩
  refine kt ?_
  simp_arith! []
  refine ⟨fun hk => ?_, fun hk => ?_⟩
  · refine kt ?_
    have e1 := hpa (pD (ps.getD b.toNat none)) ha0 (by simpa using ha1) (by simp)
    have e2 := put ((ps.map pD).set a.toNat (pD (ps.getD b.toNat none))) b (pD (ps.getD a.toNat none)) hb0 (by simpa using hb1) (by simp)
    simp_arith! [ia, ib, e1, e2]
    exact ⟨_, _, rfl, (hrow.set (el_pD _)).set (el_pD _)⟩
  refine kt ?_
  simp_arith! [ia, isNon_pD']
  refine ⟨fun hk2 => ?_, fun hk2 => ?_⟩
  · refine kt ?_
    simp_arith! [pow_20]
    refine ev_mono (h6 ds [.tup [.int 0, .int 0], .tup [.int 1, .int 1], .tup [.int 0, .int 1], .tup [], .tup [.int 0], .tup [.int 100000000000000000000, .int 100000000000000000000], .tup [.non, .int 0]] (by simp)) ?_
    rintro _ ⟨d, ds, rfl, hd⟩
    have hde : ElOk d := by
      simp only [List.mem_cons, List.not_mem_nil, or_false] at hd
      rcases hd with rfl | rfl | rfl | rfl | rfl | rfl | rfl <;> exact el_tup (by decide) (by decide)
    simp_arith! [hpa d ha0 (by simpa using ha1) (by simp)]
    exact ⟨_, _, rfl, hrow.set hde⟩
  obtain ⟨q, hq⟩ : ∃ q, ps.getD a.toNat none = some q := by
    cases hq : ps.getD a.toNat none with
    | none => rw [hq] at hk2; exact absurd hk2.1 (by decide)
    | some q => exact ⟨q, rfl⟩
  obtain ⟨u, v⟩ := q
  rw [hq] at ia
  simp only [pD] at ia
  refine kt ?_
  simp_arith! [ia]
  refine kt ?_
  simp_arith! []
  refine ⟨fun hk3 => ?_, fun hk3 => ?_⟩
  · refine kt ?_
    simp_arith! []
    refine ev_mono (h6 ds [.tup [.int v, .int u], .tup [.int u, .int v, .int 0], .tup [.int u], .tup [.int u, .non], .tup [.tup [.int u], .int v]] (by simp)) ?_
    rintro _ ⟨d, ds, rfl, hd⟩
    have hde : ElOk d := by
      simp only [List.mem_cons, List.not_mem_nil, or_false] at hd
      rcases hd with rfl | rfl | rfl | rfl | rfl <;> exact el_tup (by simp [noB]) (by simp)
    simp_arith! [hpa d ha0 (by simpa using ha1) (by simp)]
    exact ⟨_, _, rfl, hrow.set hde⟩
  refine kt ?_
  simp_arith! []
  refine ⟨fun hk4 => ?_, fun hk4 => ?_⟩
  · refine kt ?_
    simp_arith! [pow_18]
    refine ev_mono (h6 ds [.int 1, .int (-1), .int 1000000000000000000] (by simp)) ?_
    rintro _ ⟨d, ds, rfl, hd⟩
    obtain ⟨i, rfl⟩ : ∃ i, d = .int i := by
      simp only [List.mem_cons, List.not_mem_nil, or_false] at hd
      rcases hd with rfl | rfl | rfl <;> exact ⟨_, rfl⟩
    simp_arith! [hpa (.tup [.int (u + i), .int v]) ha0 (by simpa using ha1) (by simp)]
    exact ⟨_, _, rfl, hrow.set (el_ints rfl rfl)⟩
  · refine kt ?_
    simp_arith! [pow_30]
    refine ev_mono (h6 ds [.int (v + 1), .int (v - 1), .int 0, .int (-1), .int 1000000000000000000000000000000, .int 1] (by simp)) ?_
    rintro _ ⟨d, ds, rfl, hd⟩
    obtain ⟨i, rfl⟩ : ∃ i, d = .int i := by
      simp only [List.mem_cons, List.not_mem_nil, or_false] at hd
      rcases hd with rfl | rfl | rfl | rfl | rfl | rfl <;> exact ⟨_, rfl⟩
    simp_arith! [hpa (.tup [.int u, .int i]) ha0 (by simpa using ha1) (by simp)]
    exact ⟨_, _, rfl, hrow.set (el_ints rfl rfl)⟩
def b34_0 : Ss := .cons (.ret (.and (.cons (.isi (.nm 0) [.int]) (.cons (.cmp2 .LtE .Lt (.lit (.int 0)) (.nm 0) (.nm 1)) .nil)))) .nil
/-- is_index -/
def b34 : Ss := b34_0
def b35_0 : Ss := .cons (.ret (.blt .all (.cons (.lc [1, 2] (.cmp .Lt (.nm 1) (.nm 2)) (.tup (.cons (.nm 1) (.cons (.nm 2) .nil))) (.zip (.nm 0) (.sli (.nm 0) (.so (.lit (.int 1))) .no)) .no) .nil))) .nil
/-- are_ascending -/
def b35 : Ss := b35_0
def b36_0 : Ss := .cons (.ret (.and (.cons (.isi (.nm 0) [.tuple]) (.cons (.blt .all (.cons (.lc [2] (.call 34 (.cons (.nm 2) (.cons (.nm 1) .nil))) (.nm 2) (.seq (.nm 0)) .no) .nil)) (.cons (.call 35 (.cons (.nm 0) .nil)) .nil))))) .nil
/-- is_set -/
def b36 : Ss := b36_0
def b37_0 : Ss := .cons (.ret (.ifx (.cmp .Eq (.nm 1) (.nm 0)) (.blt .any (.cons (.nm 2) .nil)) (.blt .all (.cons (.nm 2) .nil)))) .nil
/-- is_ranked -/
def b37 : Ss := b37_0
def b38_0 : Ss := .cons (.expr (.mth .append 5 (.cons (.nm 6) .nil))) .nil
def b38_1 : Ss := .cons (.ifs (.and (.cons (.cmp .Is (.idx (.nm 3) (.nm 6)) (.lit .non)) (.cons (.val (.call 37 (.cons (.nm 1) (.cons (.nm 7) (.cons (.lc [9] (.cmp .IsNot (.idx (.nm 3) (.nm 9)) (.lit .non)) (.nm 9) (.seq (.nm 8)) .no) .nil))))) .nil))) b38_0 .nil) .nil
def b38_2 : Ss := .cons (.put 3 (.nm 6) (.nm 4)) .nil
def b38_3 : Ss := .cons (.fo (.nm 6) (.seq (.nm 5)) b38_2) .nil
def b38_4 : Ss := .cons (.fo (.tup (.cons (.nm 6) (.cons (.tup (.cons (.nm 7) (.cons (.nm 8) .nil))) .nil))) (.enum (.nm 0)) b38_1) b38_3
def b38_5 : Ss := .cons (.set 5 (.lst .nil)) b38_4
def b38_6 : Ss := .cons (.ret (.blt .tuple (.cons (.nm 3) .nil))) .nil
def b38_7 : Ss := .cons (.fo (.nm 4) (.rng2 (.lit (.int 1)) (.bin .Add (.blt .len (.cons (.nm 0) .nil)) (.lit (.int 1)))) b38_5) b38_6
def b38_8 : Ss := .cons (.set 3 (.lc [6] (.ifx (.cmp .In (.nm 6) (.nm 2)) (.lit (.int 0)) (.lit .non)) (.nm 6) (.rng1 (.blt .len (.cons (.nm 0) .nil))) .no)) b38_7
/-- least_ranks -/
def b38 : Ss := b38_8
def b39_0 : Ss := .cons (.ret (.blt .tuple (.cons (.lc [3, 4] (.nm 3) (.tup (.cons (.nm 3) (.cons (.nm 4) .nil))) (.enum (.call 38 (.cons (.nm 0) (.cons (.nm 1) (.cons (.nm 2) .nil))))) (.so (.cmp .Is (.nm 4) (.lit .non)))) .nil))) .nil
/-- greatest_trap -/
def b39 : Ss := b39_0
def b40_0 : Ss := .cons (.ret (.lit (.bl false))) .nil
def b40_1 : Ss := .cons (.ret (.lit (.bl false))) .nil
def b40_2 : Ss := .cons (.ifs (.val (.call 37 (.cons (.nm 1) (.cons (.nm 5) (.cons (.lc [7] (.cmp .NotIn (.nm 7) (.nm 3)) (.nm 7) (.seq (.nm 6)) .no) .nil))))) b40_1 .nil) .nil
def b40_3 : Ss := .cons (.unp (.tup (.cons (.nm 5) (.cons (.nm 6) .nil))) (.idx (.nm 0) (.nm 4))) b40_2
def b40_4 : Ss := .cons (.ret (.lit (.bl true))) .nil
def b40_5 : Ss := .cons (.fo (.nm 4) (.seq (.nm 3)) b40_3) b40_4
def b40_6 : Ss := .cons (.ifs (.or (.cons (.not (.val (.call 36 (.cons (.nm 3) (.cons (.blt .len (.cons (.nm 0) .nil)) .nil))))) (.cons (.val (.blt .any (.cons (.lc [4] (.cmp .In (.nm 4) (.nm 2)) (.nm 4) (.seq (.nm 3)) .no) .nil))) .nil))) b40_0 .nil) b40_5
/-- judge_trap -/
def b40 : Ss := b40_6
def b41_0 : Ss := .cons (.ret (.and (.cons (.call 24 (.cons (.nm 0) .nil)) (.cons (.cmp .LtE (.lit (.int 0)) (.nm 0)) (.cons (.cmp .Lt (.nm 0) (.nm 1)) .nil))))) .nil
/-- _law_is_index -/
def b41 : Ss := b41_0
def b42_0 : Ss := .cons (.ret (.lit (.bl false))) .nil
def b42_1 : Ss := .cons (.ret (.cmp .Eq (.blt .list (.cons (.nm 0) .nil)) (.srtset (.nm 0)))) .nil
def b42_2 : Ss := .cons (.ifs (.or (.cons (.not (.val (.isi (.nm 0) [.tuple]))) (.cons (.cmp .In (.lit (.bl false)) (.lc [2] (.call 41 (.cons (.nm 2) (.cons (.nm 1) .nil))) (.nm 2) (.seq (.nm 0)) .no)) .nil))) b42_0 .nil) b42_1
/-- _law_is_set -/
def b42 : Ss := b42_2
def b43_0 : Ss := .cons (.ret (.lit (.bl false))) .nil
def b43_1 : Ss := .cons (.ret (.lit (.bl false))) .nil
def b43_2 : Ss := .cons (.ifs (.or (.cons (.cmp .In (.nm 4) (.nm 2)) (.cons (.and (.cons (.cmp .Eq (.idx (.idx (.nm 0) (.nm 4)) (.lit (.int 0))) (.nm 1)) (.cons (.cmp .In (.lit (.bl false)) (.nm 5)) .nil))) (.cons (.cmp .NotIn (.lit (.bl true)) (.nm 5)) .nil)))) b43_1 .nil) .nil
def b43_3 : Ss := .cons (.set 5 (.lc [6] (.cmp .In (.nm 6) (.nm 3)) (.nm 6) (.seq (.idx (.idx (.nm 0) (.nm 4)) (.lit (.int 1)))) .no)) b43_2
def b43_4 : Ss := .cons (.ret (.lit (.bl true))) .nil
def b43_5 : Ss := .cons (.fo (.nm 4) (.seq (.nm 3)) b43_3) b43_4
def b43_6 : Ss := .cons (.ifs (.not (.val (.call 42 (.cons (.nm 3) (.cons (.blt .len (.cons (.nm 0) .nil)) .nil))))) b43_0 .nil) b43_5
/-- _law_is_trap -/
def b43 : Ss := b43_6
def b44_0 : Ss := .cons (.expr (.mth .append 5 (.cons (.call 25 (.cons (.nm 2) (.cons (.nm 6) (.cons (.tup (.cons (.idx (.nm 2) (.nm 6)) .nil)) .nil)))) .nil))) .nil
def b44_1 : Ss := .cons (.set 5 (.bin .Add (.nm 5) (.lst (.cons (.bin .Add (.sli (.nm 2) .no (.so (.bin .Add (.nm 6) (.lit (.int 1))))) (.sli (.nm 2) (.so (.nm 6)) .no)) (.cons (.bin .Add (.bin .Add (.tup (.cons (.bin .Sub (.idx (.nm 2) (.nm 6)) (.nm 3)) .nil)) (.sli (.nm 2) .no (.so (.nm 6)))) (.sli (.nm 2) (.so (.bin .Add (.nm 6) (.lit (.int 1)))) .no)) (.cons (.bin .Add (.sli (.nm 2) (.so (.nm 6)) .no) (.sli (.nm 2) .no (.so (.nm 6)))) .nil)))))) b44_0
def b44_2 : Ss := .cons (.set 6 (.call 5 (.cons (.nm 0) (.cons (.blt .len (.cons (.nm 2) .nil)) .nil)))) b44_1
def b44_3 : Ss := .cons (.ret (.nm 5)) .nil
def b44_4 : Ss := .cons (.ifs (.cmp .Gt (.blt .len (.cons (.nm 2) .nil)) (.lit (.int 0))) b44_2 .nil) b44_3
def b44_5 : Ss := .cons (.set 5 (.bin .Add (.nm 5) (.lst (.cons (.bin .Add (.nm 2) (.tup (.cons (.nm 3) .nil))) (.cons (.bin .Add (.tup (.cons (.bin .Sub (.lit (.int 0)) (.lit (.int 1))) .nil)) (.nm 2)) (.cons (.tup (.cons (.tup (.cons (.nm 4) .nil)) .nil)) (.cons (.rng true (.nm 3) .no) (.cons (.tup (.cons (.nm 2) .nil)) .nil)))))))) b44_4
def b44_6 : Ss := .cons (.set 5 (.lst (.cons (.blt .tuple (.cons (.lc [7] (.nm 7) (.nm 7) (.seq (.nm 2)) (.so (.cmp .NotEq (.nm 7) (.nm 4)))) .nil)) (.cons (.blt .tuple (.cons (.srtset (.bin .Add (.nm 2) (.tup (.cons (.nm 4) .nil)))) .nil)) .nil)))) b44_5
def b44_7 : Ss := .cons (.set 4 (.call 5 (.cons (.nm 0) (.cons (.nm 3) .nil)))) b44_6
def b44_8 : Ss := .cons (.set 3 (.blt .len (.cons (.nm 1) .nil))) b44_7
/-- _law_near_traps -/
def b44 : Ss := b44_8
def T2 : Tb := fun i => match i with
  | 34 => some ⟨["thing", "count"], ["thing", "count"], b34⟩
  | 35 => some ⟨["things"], ["things", "one", "other"], b35⟩
  | 36 => some ⟨["thing", "count"], ["thing", "count", "part"], b36⟩
  | 37 => some ⟨["side", "owner", "behind"], ["side", "owner", "behind"], b37⟩
  | 38 => some ⟨["arena", "side", "target"], ["arena", "side", "target", "ranks", "turn", "fresh", "place", "owner", "moves", "move"], b38⟩
  | 39 => some ⟨["arena", "side", "target"], ["arena", "side", "target", "place", "rank"], b39⟩
  | 40 => some ⟨["arena", "side", "target", "places"], ["arena", "side", "target", "places", "place", "owner", "moves", "move"], b40⟩
  | 41 => some ⟨["thing", "many"], ["thing", "many"], b41⟩
  | 42 => some ⟨["thing", "many"], ["thing", "many", "one"], b42⟩
  | 43 => some ⟨["arena", "side", "target", "places"], ["arena", "side", "target", "places", "place", "into", "move"], b43⟩
  | 44 => some ⟨["draws", "arena", "trap"], ["draws", "arena", "trap", "many", "place", "told", "k", "one"], b44⟩
  | _ => none
class A2 (Δ : Tb) : Prop where
  h : ∀ i, 34 ≤ i → i < 45 → Δ i = T2 i
theorem fn34 (Δ : Tb) [A2 Δ] (k : Nat) : callN Δ (k + 1) 34 = runDef (callN Δ k) ⟨["thing", "count"], ["thing", "count"], b34⟩ := by
  show (fun args => (Δ 34).bind fun d => runDef (callN Δ k) d args) = _
  rw [show Δ 34 = T2 34 from A2.h 34 (by decide) (by decide)]
  rfl
theorem fn35 (Δ : Tb) [A2 Δ] (k : Nat) : callN Δ (k + 1) 35 = runDef (callN Δ k) ⟨["things"], ["things", "one", "other"], b35⟩ := by
  show (fun args => (Δ 35).bind fun d => runDef (callN Δ k) d args) = _
  rw [show Δ 35 = T2 35 from A2.h 35 (by decide) (by decide)]
  rfl
theorem fn36 (Δ : Tb) [A2 Δ] (k : Nat) : callN Δ (k + 1) 36 = runDef (callN Δ k) ⟨["thing", "count"], ["thing", "count", "part"], b36⟩ := by
  show (fun args => (Δ 36).bind fun d => runDef (callN Δ k) d args) = _
  rw [show Δ 36 = T2 36 from A2.h 36 (by decide) (by decide)]
  rfl
theorem fn37 (Δ : Tb) [A2 Δ] (k : Nat) : callN Δ (k + 1) 37 = runDef (callN Δ k) ⟨["side", "owner", "behind"], ["side", "owner", "behind"], b37⟩ := by
  show (fun args => (Δ 37).bind fun d => runDef (callN Δ k) d args) = _
  rw [show Δ 37 = T2 37 from A2.h 37 (by decide) (by decide)]
  rfl
theorem fn38 (Δ : Tb) [A2 Δ] (k : Nat) : callN Δ (k + 1) 38 = runDef (callN Δ k) ⟨["arena", "side", "target"], ["arena", "side", "target", "ranks", "turn", "fresh", "place", "owner", "moves", "move"], b38⟩ := by
  show (fun args => (Δ 38).bind fun d => runDef (callN Δ k) d args) = _
  rw [show Δ 38 = T2 38 from A2.h 38 (by decide) (by decide)]
  rfl
theorem fn39 (Δ : Tb) [A2 Δ] (k : Nat) : callN Δ (k + 1) 39 = runDef (callN Δ k) ⟨["arena", "side", "target"], ["arena", "side", "target", "place", "rank"], b39⟩ := by
  show (fun args => (Δ 39).bind fun d => runDef (callN Δ k) d args) = _
  rw [show Δ 39 = T2 39 from A2.h 39 (by decide) (by decide)]
  rfl
theorem fn40 (Δ : Tb) [A2 Δ] (k : Nat) : callN Δ (k + 1) 40 = runDef (callN Δ k) ⟨["arena", "side", "target", "places"], ["arena", "side", "target", "places", "place", "owner", "moves", "move"], b40⟩ := by
  show (fun args => (Δ 40).bind fun d => runDef (callN Δ k) d args) = _
  rw [show Δ 40 = T2 40 from A2.h 40 (by decide) (by decide)]
  rfl
theorem fn41 (Δ : Tb) [A2 Δ] (k : Nat) : callN Δ (k + 1) 41 = runDef (callN Δ k) ⟨["thing", "many"], ["thing", "many"], b41⟩ := by
  show (fun args => (Δ 41).bind fun d => runDef (callN Δ k) d args) = _
  rw [show Δ 41 = T2 41 from A2.h 41 (by decide) (by decide)]
  rfl
theorem fn42 (Δ : Tb) [A2 Δ] (k : Nat) : callN Δ (k + 1) 42 = runDef (callN Δ k) ⟨["thing", "many"], ["thing", "many", "one"], b42⟩ := by
  show (fun args => (Δ 42).bind fun d => runDef (callN Δ k) d args) = _
  rw [show Δ 42 = T2 42 from A2.h 42 (by decide) (by decide)]
  rfl
theorem fn43 (Δ : Tb) [A2 Δ] (k : Nat) : callN Δ (k + 1) 43 = runDef (callN Δ k) ⟨["arena", "side", "target", "places"], ["arena", "side", "target", "places", "place", "into", "move"], b43⟩ := by
  show (fun args => (Δ 43).bind fun d => runDef (callN Δ k) d args) = _
  rw [show Δ 43 = T2 43 from A2.h 43 (by decide) (by decide)]
  rfl
theorem fn44 (Δ : Tb) [A2 Δ] (k : Nat) : callN Δ (k + 1) 44 = runDef (callN Δ k) ⟨["draws", "arena", "trap"], ["draws", "arena", "trap", "many", "place", "told", "k", "one"], b44⟩ := by
  show (fun args => (Δ 44).bind fun d => runDef (callN Δ k) d args) = _
  rw [show Δ 44 = T2 44 from A2.h 44 (by decide) (by decide)]
  rfl
def idxB (n : Int) (d : D) : Bool := match d with
  | .int i => decide (0 ≤ i) && decide (i < n)
  | _ => false
theorem isidx_ok (Δ : Tb) [A2 Δ] (k : Nat) (d : D) (n : Int) (h : noB d = true) : callN Δ (k + 1) 34 [.fz d, .fz (.int n)] = some (.v (.bl (idxB n d)), [.fz d, .fz (.int n)]) := by
  refine eq_of ?_
  rw [fn34]
  generalize callN Δ k = cl
  walk_at "in"
  refine kt ?_
  cases d with
  | bl b => cases h
  | _ => simp_arith! [idxB]
def ascB (ls : List Int) : Bool := (ls.zip (ls.drop 1)).all fun p => decide (p.1 < p.2)
theorem asc_iff : ∀ {ls : List Int}, ascB ls = true ↔ ls.Pairwise (· < ·)
  | [] => by simp [ascB]
  | [x] => by simp [ascB]
  | x :: y :: ls => by
    have ih := asc_iff (ls := y :: ls)
    have e : ascB (x :: y :: ls) = (decide (x < y) && ascB (y :: ls)) := rfl
    rw [e, Bool.and_eq_true, ih, decide_eq_true_eq, List.pairwise_cons (a := x)]
    constructor
    · rintro ⟨h1, h2⟩
      refine ⟨fun z hz => ?_, h2⟩
      rcases List.mem_cons.mp hz with rfl | hz
      · exact h1
      · have := (List.pairwise_cons.mp h2).1 z hz; omega
    · rintro ⟨h1, h2⟩
      exact ⟨h1 y (by simp), h2⟩
theorem asc_ok (Δ : Tb) [A2 Δ] (k : Nat) (ls : List Int) (hl : ls.length ≤ 1000) : callN Δ (k + 1) 35 [.fz (tupI ls)] = some (.v (.bl (ascB ls)), [.fz (tupI ls)]) := by
  refine eq_of ?_
  rw [fn35]
  generalize callN Δ k = cl
  walk_at "in"
  refine kt ?_
  simp_arith! [tupI, sl_tup, cut_lo (show (0 : Int) ≤ 1 by decide)]
  rw [show (1 : Int).toNat = 1 from rfl, ← List.map_drop]
  simp_arith! [zipS_t, zip_ints]
  refine lcH D.bl (fun p : Int × Int => decide (p.1 < p.2)) (fun p hp => ?_) ?_
  · simp_arith! []
  · simp_arith! []
    refine ⟨by simp; omega, ?_⟩
    rw [List.all_map]
    rfl
/-- ints or tuples -/
def ItB (d : D) : Prop := (∃ i, d = .int i) ∨ ∃ xs, d = .tup xs
theorem ItB.nb {d : D} (h : ItB d) : noB d = true := by rcases h with ⟨i, rfl⟩ | ⟨xs, rfl⟩ <;> rfl
theorem idx_ints_of {n : Int} : ∀ {es : List D}, es.all (idxB n) = true → ∃ ls : List Int, es = ls.map .int ∧ ∀ x ∈ ls, 0 ≤ x ∧ x < n
  | [], _ => ⟨[], rfl, fun _ h => nomatch h⟩
  | d :: es, h => by
    rw [List.all_cons, Bool.and_eq_true] at h
    obtain ⟨ls, rfl, hl⟩ := idx_ints_of h.2
    have h1 := h.1
    cases d with
    | int i =>
      refine ⟨i :: ls, rfl, fun x hx => ?_⟩
      rcases List.mem_cons.mp hx with rfl | hx
      · simpa [idxB] using h1
      · exact hl x hx
    | _ => cases h1
theorem idx_all {n : Int} {ls : List Int} : (ls.map D.int).all (idxB n) = true ↔ ∀ x ∈ ls, 0 ≤ x ∧ x < n := by
  simp [idxB]
/-- a set of places -/
def SetP (n : Int) (es : List D) : Prop := ∃ ls : List Int, es = ls.map .int ∧ (∀ x ∈ ls, 0 ≤ x ∧ x < n) ∧ ls.Pairwise (· < ·)
theorem int_inj : ∀ {a b : List Int}, a.map D.int = b.map D.int → a = b
  | [], [], _ => rfl
  | [], _ :: _, h => by cases h
  | _ :: _, [], h => by cases h
  | x :: a, y :: b, h => by
    simp only [List.map_cons, List.cons.injEq, D.int.injEq] at h
    rw [h.1, int_inj h.2]
theorem isset_ok (Δ : Tb) [A2 Δ] (k : Nat) (es : List D) (n : Int) (he : ∀ d ∈ es, ItB d) (hl : es.length ≤ 1000) :
    Ev (callN Δ (k + 2) 36 [.fz (.tup es), .fz (.int n)]) fun z => ∃ b, z = (.v (.bl b), [.fz (.tup es), .fz (.int n)]) ∧ (b = true ↔ SetP n es) := by
  have h34 := isidx_ok Δ k
  have h35 := asc_ok Δ k
  rw [fn36]
  generalize callN Δ (k + 1) = cl at h34 h35
  walk_at "in"
  refine kt ?_
  simp_arith! []
  refine lcI D.bl (idxB n) (fun d hd => ?_) ?_
  · simp_arith! [h34 d n (he d hd).nb]
  simp_arith! []
  refine ⟨by omega, ?_⟩
  have ea : (es.map (idxB n)).all id = es.all (idxB n) := by rw [List.all_map]; rfl
  rw [ea]
  refine ⟨fun hx => ?_, fun hx => ?_⟩
  · obtain ⟨ls, rfl, h1⟩ := idx_ints_of hx
    have e35 := h35 ls (by simpa using hl)
    simp only [tupI] at e35
    simp_arith! [e35]
    refine ⟨ascB ls, rfl, ?_⟩
    rw [asc_iff]
    constructor
    · intro h
      exact ⟨ls, rfl, h1, h⟩
    · rintro ⟨ls', e, _, h⟩
      rw [int_inj e]
      exact h
  · refine ⟨false, rfl, iff_f ?_⟩
    rintro ⟨ls, rfl, h1, _⟩
    rw [idx_all.mpr h1] at hx
    cases hx
def rkB (sd ow : Int) (bs : List Bool) : Bool := if ow = sd then bs.any id else bs.all id
theorem isranked_ok (Δ : Tb) [A2 Δ] (k : Nat) (sd ow : Int) (bs : List Bool) (hl : bs.length ≤ 1000) :
    callN Δ (k + 1) 37 [.fz (.int sd), .fz (.int ow), .fz (.lst (bs.map .bl))] = some (.v (.bl (rkB sd ow bs)), [.fz (.int sd), .fz (.int ow), .fz (.lst (bs.map .bl))]) := by
  refine eq_of ?_
  rw [fn37]
  generalize callN Δ k = cl
  walk_at "in"
  refine kt ?_
  simp_arith! []
  unfold rkB
  exact ⟨fun h => by rw [if_pos h], fun h => by rw [if_neg h]⟩
theorem lawidx_ok (Δ : Tb) [A1 Δ] [A2 Δ] (k : Nat) (d : D) (n : Int) (h : noB d = true) : callN Δ (k + 2) 41 [.fz d, .fz (.int n)] = some (.v (.bl (idxB n d)), [.fz d, .fz (.int n)]) := by
  refine eq_of ?_
  have h24 := isint_ok Δ k
  rw [fn41]
  generalize callN Δ (k + 1) = cl at h24
  walk_at "in"
  refine kt ?_
  cases d with
  | bl b => cases h
  | _ => simp_arith! [h24, idxB]
theorem eq_ints {a b : List Int} : cmpS .Eq (.lst (a.map .int)) (.lst (b.map .int)) = some (a == b) := by
  have h : ∀ {a b : List Int}, PyData.eqvAll (toPs (a.map .int)) (toPs (b.map .int)) = (a == b) := by
    intro a
    induction a with
    | nil => intro b; cases b <;> simp [toPs, PyData.eqvAll]
    | cons x a ih =>
      intro b
      cases b with
      | nil => simp [toPs, PyData.eqvAll]
      | cons y b =>
        simp only [List.map_cons, toPs, PyData.eqvAll, ih, D.toP, PyData.eqv]
        rw [Bool.eq_iff_iff]
        simp
  simp only [cmpS, okD_ints, Bool.and_self, if_true]
  unfold deq
  simp only [D.toP, PyData.eqv, h]
theorem srt_same {ls : List Int} : (ls == VIS.srtU ls) = true ↔ ls.Pairwise (· < ·) := by
  rw [beq_iff_eq]
  constructor
  · intro h
    rw [h]
    exact VIS.srtU_srt
  · intro h
    exact VIS.srt_uniq h VIS.srtU_srt fun k => by rw [VIS.mem_srtU]
theorem lawset_ok (Δ : Tb) [A1 Δ] [A2 Δ] (k : Nat) (es : List D) (n : Int) (he : ∀ d ∈ es, ItB d) (hl : es.length < 64) :
    Ev (callN Δ (k + 3) 42 [.fz (.tup es), .fz (.int n)]) fun z => ∃ b, z = (.v (.bl b), [.fz (.tup es), .fz (.int n)]) ∧ (b = true ↔ SetP n es) := by
  have h41 := lawidx_ok Δ k
  rw [fn42]
  generalize callN Δ (k + 2) = cl at h41
  walk_at "in"
  refine kt ?_
  simp_arith! []
  refine lcI D.bl (idxB n) (fun d hd => ?_) ?_
  · simp_arith! [h41 d n (he d hd).nb]
  simp_arith! []
  refine ⟨by omega, ?_⟩
  rw [in_bls]
  simp_arith! []
  have ea : (es.map (idxB n)).any (fun x => x == false) = !es.all (idxB n) := by
    rw [← Bool.not_not ((es.map (idxB n)).any _), any_f, List.all_map]; rfl
  rw [ea]
  refine ⟨fun hx => ?_, fun hx => ?_⟩
  · refine kt ?_
    simp_arith! []
    refine ⟨false, rfl, iff_f ?_⟩
    rintro ⟨ls, rfl, h1, _⟩
    rw [idx_all.mpr h1] at hx
    cases hx
  · obtain ⟨ls, rfl, h1⟩ := idx_ints_of (es := es) (n := n) (by simpa using hx)
    refine kt ?_
    have hl' : ls.length < 64 := by simpa using hl
    simp_arith! [eq_ints]
    refine ⟨hl', _, rfl, ?_⟩
    rw [srt_same]
    constructor
    · intro h
      exact ⟨ls, rfl, h1, h⟩
    · rintro ⟨ls', e, _, h⟩
      rw [int_inj e]
      exact h
theorem lranks2_ok (Δ : Tb) [A2 Δ] (k : Nat) (ar : List (Int × List Int)) (sd : Int) (tg : List Int) (hn : ar.length ≤ 1000) (hg : ∀ p ∈ ar, GoodP ar.length p) :
    callN Δ (k + 2) 38 [.fz (arD ar), .fz (.int sd), .fz (tupI tg)] = some (.v (.tup ((iterR ar sd (startC ar.length tg) ar.length).map oD)), [.fz (arD ar), .fz (.int sd), .fz (tupI tg)]) := by
  refine eq_of ?_
  have h37 := isranked_ok Δ k
  rw [fn38]
  generalize callN Δ (k + 1) = cl at h37
  have hcl : (startC ar.length tg).length = ar.length := by simp [startC]
  walk_at "in"
  refine kt ?_
  simp_arith! [ar_len]
  refine lcH (xs := List.range ar.length) (f := fun k : Nat => D.int k) oD (fun j : Nat => if (j : Int) ∈ tg then some (0 : Int) else none) (fun j hj => ?_) ?_
  · simp_arith! [tupI]
    exact ⟨fun h => by rw [if_pos h]; rfl, fun h => by rw [if_neg h]; rfl⟩
  rw [show (List.range ar.length).map (fun j : Nat => if (j : Int) ∈ tg then some (0 : Int) else none) = startC ar.length tg from rfl]
  simp_arith! []
  refine ⟨by omega, ?_⟩
  refine kt ?_
  simp_arith! [ar_len]
  refine foR (fun i e => ∃ s4 s5 s6 s7 s8, fr s4 = true ∧ fr s5 = true ∧ fr s6 = true ∧ fr s7 = true ∧ fr s8 = true ∧ e = [Sl.fz (arD ar), .fz (.int sd), .fz (tupI tg), .ow false (.lst ((iterR ar sd (startC ar.length tg) i).map oD)), s4, s5, s6, s7, s8, .un]) ⟨_, _, _, _, _, rfl, rfl, rfl, rfl, rfl, rfl⟩ ?_ ?_
  · rintro i hi e ⟨s4, s5, s6, s7, s8, f4, f5, f6, f7, f8, rfl⟩
    simp_arith! [f4]
    refine kt ?_
    simp_arith! [f5]
    refine kt ?_
    simp_arith! [ar_items]
    have hrl : (iterR ar sd (startC ar.length tg) i).length = ar.length := by rw [iterR_len, hcl]
    have hnx : iterR ar sd (startC ar.length tg) (i + 1) = rkStep ar sd ((i : Int) + 1) (iterR ar sd (startC ar.length tg) i) := rfl
    rw [hnx]
    generalize iterR ar sd (startC ar.length tg) i = rk at hrl
    refine foN (fun j e => ∃ s6 s7 s8, fr s6 = true ∧ fr s7 = true ∧ fr s8 = true ∧ e = [Sl.fz (arD ar), .fz (.int sd), .fz (tupI tg), .ow false (.lst (rk.map oD)), .fz (.int (1 + (i : Nat))), .ow false (.lst (((List.range j).filter (newB ar sd rk)).map fun j : Nat => .int j)), s6, s7, s8, .un]) ⟨_, _, _, f6, f7, f8, rfl⟩ ?_ ?_
    · rintro j x hx e ⟨s6, s7, s8, f6, f7, f8, rfl⟩
      have hj : j < ar.length := (List.getElem?_eq_some_iff.mp hx).1
      have hgx := hg x (List.mem_of_getElem? hx)
      have ip := idx_os (cs := rk) (m := j) (by omega) (by omega)
      have ea : ar.getD j (0, []) = x := by rw [List.getD_eq_getElem?_getD, hx]; rfl
      have hfl : ((List.range j).filter (newB ar sd rk)).length ≤ j := by
        have := List.length_filter_le (newB ar sd rk) (List.range j)
        rwa [List.length_range] at this
      have hsucc : (List.range (j + 1)).filter (newB ar sd rk) = (List.range j).filter (newB ar sd rk) ++ if newB ar sd rk j = true then [j] else [] := by
        rw [List.range_succ, List.filter_append, List.filter_cons, List.filter_nil]
      have hg2 := hgx.2.2.1
      simp only [plD]
      simp_arith! [f6, f7, f8]
      refine kt ?_
      simp_arith! [ip, isNon_oD]
      refine ⟨fun hs => ?_, fun hs => ?_⟩
      · refine lcH D.bl (knB rk) (fun m hm => ?_) ?_
        · have hmm := hgx.2.2.2 m hm
          have := idx_os (cs := rk) (m := m) hmm.1 (by omega)
          simp_arith! [this, isNon_oD, Bool.not_not]
          rfl
        have e37 := h37 sd x.1 (x.2.map (knB rk)) (by simpa using hg2)
        simp_arith! [e37]
        refine ⟨by omega, ?_⟩
        have hnew : newB ar sd rk j = rkB sd x.1 (x.2.map (knB rk)) := by
          unfold newB freshB rkB
          rw [hs, ea]
          have e1 : (x.2.map (knB rk)).any id = x.2.any (knB rk) := by rw [List.any_map]; rfl
          have e2 : (x.2.map (knB rk)).all id = x.2.all (knB rk) := by rw [List.all_map]; rfl
          rw [e1, e2]
          rfl
        rw [hnew] at hsucc
        rw [hsucc]
        refine ⟨fun hc => ?_, fun hc => ?_⟩
        · refine kt ?_
          simp_arith! []
          rw [if_pos hc, List.map_append]
          exact ⟨_, _, _, rfl, rfl, rfl, rfl⟩
        · rw [if_neg (by rw [hc]; decide), List.append_nil]
          exact ⟨_, _, _, rfl, rfl, rfl, rfl⟩
      · have : newB ar sd rk j = false := by unfold newB; rw [hs]; rfl
        rw [hsucc, this, if_neg (by decide), List.append_nil]
        exact ⟨_, _, _, rfl, rfl, rfl, rfl⟩
    · rintro e ⟨s6, s7, s8, f6, f7, f8, rfl⟩
      simp_arith! []
      refine kt ?_
      simp_arith! []
      generalize hfs : (List.range ar.length).filter (newB ar sd rk) = fs
      rw [← hrl] at hfs
      have hall := setTo_all (t := (i : Int) + 1) hfs.symm
      have hfb : ∀ x ∈ fs, x < rk.length := fun x hx => by rw [← hfs] at hx; have := (List.mem_filter.mp hx).1; simpa using this
      refine foM (fun m e => ∃ s6, fr s6 = true ∧ e = [Sl.fz (arD ar), .fz (.int sd), .fz (tupI tg), .ow false (.lst ((setTo rk fs ((i : Int) + 1) m).map oD)), .fz (.int (1 + (i : Nat))), .lk false (.lst (fs.map fun j : Nat => .int j)), s6, s7, s8, .un]) ⟨_, f6, rfl⟩ ?_ ?_
      · rintro m y hy e ⟨s6, f6, rfl⟩
        have hyb := hfb y (List.mem_of_getElem? hy)
        have hsl := setTo_len (rk := rk) (fs := fs) (t := (i : Int) + 1) (m := m)
        simp_arith! [f6]
        refine kt ?_
        simp_arith! []
        rw [show setTo rk fs ((i : Int) + 1) (m + 1) = (setTo rk fs ((i : Int) + 1) m).set (fs.getD m 0) (some ((i : Int) + 1)) from rfl]
        rw [List.map_set, show fs.getD m 0 = y by rw [List.getD_eq_getElem?_getD, hy]; rfl, Int.add_comm]
        exact ⟨_, rfl, rfl⟩
      · rintro e ⟨s6, f6, rfl⟩
        simp_arith! [hall]
        exact ⟨_, _, _, _, _, rfl, rfl, f6, f7, f8, rfl⟩
  · rintro e ⟨s4, s5, s6, s7, s8, f4, f5, f6, f7, f8, rfl⟩
    simp_arith! []
    refine kt ?_
    simp_arith! []
/-- both rounds are the same -/
theorem rounds_same {ar : Ar} (A : Arn ar) (sd : Int) (tg : List Int) (h0 : 0 < ar.length) : iterR ar sd (startC ar.length tg) ar.length = iterR ar sd (startC ar.length tg) (ar.length - 1) := by
  have := iter_full (rounds_full A sd tg) 1
  rwa [show ar.length - 1 + 1 = ar.length by omega] at this
theorem enum_map {xs : List D} : enumD 0 xs = xs.zipIdx.map fun p => .tup [.int p.2, p.1] := by
  rw [enumD_eq]
  congr 1
  funext p
  rw [Int.zero_add]
theorem gtrap_ok (Δ : Tb) [A1 Δ] [A2 Δ] (k : Nat) (ar : List (Int × List Int)) (sd : Int) (tg : List Int) (hn : ar.length ≤ 1000) (h0 : 0 < ar.length) (hg : ∀ p ∈ ar, GoodP ar.length p) :
    callN Δ (k + 3) 39 [.fz (arD ar), .fz (.int sd), .fz (tupI tg)] = some (.v (tupI (trapL (iterR ar sd (startC ar.length tg) (ar.length - 1)))), [.fz (arD ar), .fz (.int sd), .fz (tupI tg)]) := by
  refine eq_of ?_
  have h38 := lranks2_ok Δ k ar sd tg hn hg
  rw [rounds_same ⟨hg⟩ sd tg h0] at h38
  rw [fn39]
  generalize callN Δ (k + 2) = cl at h38
  have hrl : (iterR ar sd (startC ar.length tg) (ar.length - 1)).length = ar.length := by rw [iterR_len]; simp [startC]
  generalize iterR ar sd (startC ar.length tg) (ar.length - 1) = rk at hrl h38
  walk_at "in"
  refine kt ?_
  simp_arith! [h38, enum_map]
  have e : (rk.map oD).zipIdx = rk.zipIdx.map fun p => (oD p.1, p.2) := List.zipIdx_map ..
  rw [e, List.map_map]
  refine lcF (f := (fun p : D × Nat => D.tup [.int p.2, p.1]) ∘ fun p : Option Int × Nat => (oD p.1, p.2)) (fun p : Option Int × Nat => D.int p.2) (fun p => noneB p.1) (fun p hp => ?_) ?_
  · simp_arith! [Function.comp, isNon_oD']
  · have hfl : ((rk.zipIdx).filter fun p => noneB p.1).length ≤ rk.length := by
      have := List.length_filter_le (fun p : Option Int × Nat => noneB p.1) rk.zipIdx
      rwa [List.length_zipIdx] at this
    simp_arith! []
    refine ⟨by omega, ?_⟩
    have : ((rk.zipIdx).filter fun p => noneB p.1).map (fun p : Option Int × Nat => D.int p.2) = (trapL rk).map .int := by
      unfold trapL
      rw [List.map_map]
      have e2 : rk.zipIdx = (List.range rk.length).map fun i => (rk.getD i none, i) := by
        apply List.ext_getElem?
        intro i
        rw [List.getElem?_zipIdx, List.getElem?_map]
        by_cases hi : i < rk.length
        · rw [List.getElem?_range hi, List.getElem?_eq_getElem hi]
          simp [hi]
        · rw [List.getElem?_eq_none (by omega), List.getElem?_eq_none (by simpa using hi)]
          rfl
      rw [e2, List.filter_map, List.map_map]
      rfl
    rw [this]
    rfl
def TrAt (ar : Ar) (sd : Int) (ls : List Int) (x : Int) : Prop :=
  ((ar.getD x.toNat (0, [])).1 = sd → ∀ m ∈ (ar.getD x.toNat (0, [])).2, m ∈ ls) ∧ ((ar.getD x.toNat (0, [])).1 ≠ sd → ∃ m ∈ (ar.getD x.toNat (0, [])).2, m ∈ ls)
def JTl (ar : Ar) (sd : Int) (tg ls : List Int) : Prop := (∀ x ∈ ls, 0 ≤ x ∧ x < ar.length) ∧ ls.Pairwise (· < ·) ∧ (∀ x ∈ ls, ¬ x ∈ tg) ∧ ∀ x ∈ ls, TrAt ar sd ls x
def JT (ar : Ar) (sd : Int) (tg : List Int) (es : List D) : Prop := ∃ ls : List Int, es = ls.map .int ∧ JTl ar sd tg ls
theorem jt_ints {ar : Ar} {sd : Int} {tg ls : List Int} : JT ar sd tg (ls.map .int) ↔ JTl ar sd tg ls := by
  constructor
  · rintro ⟨ls', e, h⟩
    rw [int_inj e]
    exact h
  · intro h
    exact ⟨ls, rfl, h⟩
theorem jtrap_ok (Δ : Tb) [A2 Δ] (k : Nat) (ar : Ar) (sd : Int) (tg : List Int) (es : List D) (hn : ar.length ≤ 1000) (hg : ∀ p ∈ ar, GoodP ar.length p) (he : ∀ d ∈ es, ItB d) (hl : es.length ≤ 1000) :
    Ev (callN Δ (k + 3) 40 [.fz (arD ar), .fz (.int sd), .fz (tupI tg), .fz (.tup es)]) fun z => ∃ b, z = (.v (.bl b), [.fz (arD ar), .fz (.int sd), .fz (tupI tg), .fz (.tup es)]) ∧ (b = true ↔ JT ar sd tg es) := by
  have h36 := isset_ok Δ k
  have h37 := isranked_ok Δ (k + 1)
  rw [fn40]
  generalize callN Δ (k + 2) = cl at h36 h37
  walk_at "in"
  refine kt ?_
  simp_arith! [ar_len]
  refine ev_mono (h36 es ar.length he hl) ?_
  rintro _ ⟨b, rfl, hb⟩
  simp_arith! []
  refine ⟨fun hf => ?_, fun hf => ?_⟩
  · refine kt ?_
    simp_arith! []
    refine ⟨false, rfl, iff_f ?_⟩
    rintro ⟨ls, rfl, h1, h2, _⟩
    have := hb.mpr ⟨ls, rfl, h1, h2⟩
    rw [hf] at this
    cases this
  obtain ⟨ls, rfl, hl1, hl2⟩ := hb.mp hf
  have hll : ls.length ≤ 1000 := by simpa using hl
  refine lcH D.bl (fun x : Int => decide (x ∈ tg)) (fun x hx => ?_) ?_
  · simp_arith! [tupI]
  simp_arith! []
  refine ⟨by omega, ?_⟩
  have ea : (ls.map fun x : Int => decide (x ∈ tg)).any id = ls.any fun x => decide (x ∈ tg) := by rw [List.any_map]; rfl
  rw [ea]
  refine ⟨fun hx => ?_, fun hx => ?_⟩
  · refine kt ?_
    simp_arith! []
    refine ⟨false, rfl, iff_f ?_⟩
    rw [jt_ints]
    rintro ⟨_, _, h3, _⟩
    obtain ⟨x, hx1, hx2⟩ := List.any_eq_true.mp hx
    exact h3 x hx1 (by simpa using hx2)
  have htg : ∀ x ∈ ls, ¬ x ∈ tg := fun x hx1 hx2 => by
    have := List.any_eq_false.mp hx x hx1
    exact this (by simpa using hx2)
  refine kt ?_
  simp_arith! []
  refine foM (fun i e => (∀ j x, j < i → ls[j]? = some x → TrAt ar sd ls x) ∧ ∃ s4 s5 s6, fr s4 = true ∧ fr s5 = true ∧ fr s6 = true ∧ e = [.fz (arD ar), .fz (.int sd), .fz (tupI tg), .fz (.tup (ls.map .int)), s4, s5, s6, .un]) ⟨(fun _ _ h => absurd h (Nat.not_lt_zero _)), _, _, _, rfl, rfl, rfl, rfl⟩ ?_ ?_
  · rintro j x hx e ⟨hj, s4, s5, s6, f4, f5, f6, rfl⟩
    have hxr := hl1 x (List.mem_of_getElem? hx)
    obtain ⟨p, hp⟩ : ∃ p, ar[x.toNat]? = some p := ⟨_, List.getElem?_eq_getElem (by omega)⟩
    have hgp := hg p (List.mem_of_getElem? hp)
    have ia : idxS (arD ar) (.int x) = some (plD p) := by
      have := atI_map (f := plD) hp
      rw [show ((x.toNat : Nat) : Int) = x by omega] at this
      exact this
    have hg2 := hgp.2.2.1
    simp only [plD] at ia
    simp_arith! [f4]
    refine kt ?_
    simp_arith! [ia, f5, f6]
    refine kt ?_
    simp_arith! []
    refine lcH D.bl (fun m : Int => !decide (m ∈ ls)) (fun m hm => ?_) ?_
    · have nt : cmpS .NotIn (.int m) (.tup (ls.map .int)) = some (!decide (m ∈ ls)) := by
        have := in_tupI (a := m) (l := ls)
        simp only [cmpS] at this ⊢
        rw [this]; rfl
      simp_arith! [nt]
    have e37 := h37 sd p.1 (p.2.map fun m : Int => !decide (m ∈ ls)) (by simpa using hg2)
    simp_arith! [e37]
    refine ⟨by omega, ?_⟩
    have hta : TrAt ar sd ls x ↔ rkB sd p.1 (p.2.map fun m : Int => !decide (m ∈ ls)) = false := by
      unfold TrAt rkB
      rw [show ar.getD x.toNat (0, []) = p by rw [List.getD_eq_getElem?_getD, hp]; rfl]
      by_cases ho : p.1 = sd
      · rw [if_pos ho]
        simp [ho]
      · rw [if_neg ho]
        simp [ho]
    refine ⟨fun hr => ?_, fun hr => ?_⟩
    · refine kt ?_
      simp_arith! []
      refine ⟨false, rfl, iff_f ?_⟩
      rw [jt_ints]
      rintro ⟨_, _, _, h4⟩
      have := hta.mp (h4 x (List.mem_of_getElem? hx))
      rw [hr] at this
      cases this
    · refine ⟨fun i y hi hy => ?_, _, _, _, rfl, rfl, rfl, rfl⟩
      rcases Nat.lt_succ_iff_lt_or_eq.mp hi with hi | rfl
      · exact hj i y hi hy
      · rw [hx] at hy; cases hy
        exact hta.mpr hr
  · rintro e ⟨hj, s4, s5, s6, f4, f5, f6, rfl⟩
    simp_arith! []
    refine kt ?_
    simp_arith! []
    refine ⟨true, rfl, fun _ => jt_ints.mpr ⟨hl1, hl2, htg, fun x hx => ?_⟩, fun _ => rfl⟩
    obtain ⟨j, hjx⟩ := List.getElem?_of_mem hx
    exact hj j x (List.getElem?_eq_some_iff.mp hjx).1 hjx
theorem lawtrap_ok (Δ : Tb) [A1 Δ] [A2 Δ] (k : Nat) (ar : Ar) (sd : Int) (tg : List Int) (es : List D) (hn : ar.length ≤ 1000) (hg : ∀ p ∈ ar, GoodP ar.length p) (he : ∀ d ∈ es, ItB d) (hl : es.length < 64) :
    Ev (callN Δ (k + 4) 43 [.fz (arD ar), .fz (.int sd), .fz (tupI tg), .fz (.tup es)]) fun z => ∃ b, z = (.v (.bl b), [.fz (arD ar), .fz (.int sd), .fz (tupI tg), .fz (.tup es)]) ∧ (b = true ↔ JT ar sd tg es) := by
  have h42 := lawset_ok Δ k
  rw [fn43]
  generalize callN Δ (k + 3) = cl at h42
  walk_at "in"
  refine kt ?_
  simp_arith! [ar_len]
  refine ev_mono (h42 es ar.length he hl) ?_
  rintro _ ⟨b, rfl, hb⟩
  simp_arith! []
  refine ⟨fun hf => ?_, fun hf => ?_⟩
  · refine kt ?_
    simp_arith! []
    refine ⟨false, rfl, iff_f ?_⟩
    rintro ⟨ls, rfl, h1, h2, _⟩
    have := hb.mpr ⟨ls, rfl, h1, h2⟩
    rw [hf] at this
    cases this
  obtain ⟨ls, rfl, hl1, hl2⟩ := hb.mp hf
  have hll : ls.length ≤ 1000 := by simp at hl; omega
  refine kt ?_
  simp_arith! []
  refine foM (fun i e => (∀ j x, j < i → ls[j]? = some x → ¬ x ∈ tg ∧ TrAt ar sd ls x) ∧ ∃ s4 s5, fr s4 = true ∧ fr s5 = true ∧ e = [.fz (arD ar), .fz (.int sd), .fz (tupI tg), .fz (.tup (ls.map .int)), s4, s5, .un]) ⟨(fun _ _ h => absurd h (Nat.not_lt_zero _)), _, _, rfl, rfl, rfl⟩ ?_ ?_
  · rintro j x hx e ⟨hj, s4, s5, f4, f5, rfl⟩
    have hxr := hl1 x (List.mem_of_getElem? hx)
    obtain ⟨p, hp⟩ : ∃ p, ar[x.toNat]? = some p := ⟨_, List.getElem?_eq_getElem (by omega)⟩
    have hgp := hg p (List.mem_of_getElem? hp)
    have ia : idxS (arD ar) (.int x) = some (plD p) := by
      have := atI_map (f := plD) hp
      rw [show ((x.toNat : Nat) : Int) = x by omega] at this
      exact this
    have hg1 := hgp.2.1
    have hg2 := hgp.2.2.1
    have i0 : idxS (.tup [.int p.1, .tup (p.2.map .int)]) (.int 0) = some (.int p.1) := rfl
    have i1 : idxS (.tup [.int p.1, .tup (p.2.map .int)]) (.int 1) = some (.tup (p.2.map .int)) := rfl
    simp only [plD] at ia
    simp_arith! [f4]
    refine kt ?_
    simp_arith! [ia, i1]
    refine lcH D.bl (fun m : Int => decide (m ∈ ls)) (fun m hm => ?_) ?_
    · simp_arith! []
    simp_arith! [f5]
    refine ⟨by omega, ?_⟩
    have hta : (x ∈ tg ∨ (p.1 = sd ∧ (p.2.map fun m : Int => decide (m ∈ ls)).any (fun y => y == false) = true) ∨ (p.2.map fun m : Int => decide (m ∈ ls)).any id = false) ↔ ¬ (¬ x ∈ tg ∧ TrAt ar sd ls x) := by
      unfold TrAt
      rw [show ar.getD x.toNat (0, []) = p by rw [List.getD_eq_getElem?_getD, hp]; rfl]
      have ex : ∃ m, m ∈ p.2 := by
        match hh : p.2, hg1 with
        | m :: ms, _ => exact ⟨m, by simp⟩
      by_cases ht : x ∈ tg
      · simp [ht]
      · simp only [ht, false_or, not_false_eq_true, true_and]
        by_cases ho : p.1 = sd
        · simp only [ho, true_and, true_implies, ne_eq, not_true_eq_false, false_implies, and_true]
          simp only [List.any_map, List.any_eq_true, List.any_eq_false, Function.comp, beq_iff_eq, decide_eq_false_iff_not, id, decide_eq_true_eq]
          constructor
          · rintro (⟨m, h1, h2⟩ | h) z
            · exact h2 (z m h1)
            · obtain ⟨m, hm⟩ := ex
              exact h m hm (z m hm)
          · intro h
            left
            simp only [Classical.not_forall] at h
            obtain ⟨m, h1, h2⟩ := h
            exact ⟨m, h1, h2⟩
        · simp only [ho, false_and, false_or, false_implies, true_and, ne_eq, not_false_eq_true, true_implies]
          simp only [List.any_map, List.any_eq_false, Function.comp, id, decide_eq_true_eq, not_exists, not_and]
    refine kt ?_
    simp_arith! [tupI, ia, i0, in_bls, notin_bls, any_t]
    refine ⟨fun hr => ?_, fun hr => ?_⟩
    · have := hta.mp hr
      refine kt ?_
      simp_arith! []
      refine ⟨false, rfl, iff_f ?_⟩
      rw [jt_ints]
      rintro ⟨_, _, h3, h4⟩
      exact this ⟨h3 x (List.mem_of_getElem? hx), h4 x (List.mem_of_getElem? hx)⟩
    · have hok : ¬ x ∈ tg ∧ TrAt ar sd ls x := Classical.byContradiction fun z => by
        rcases hta.mpr z with h | ⟨h, h'⟩ | h
        · exact hr.1 h
        · rcases hr.2.1 with q | q
          · exact q h
          · rw [h'] at q; cases q
        · rw [h] at hr; exact absurd hr.2.2 (by decide)
      refine ⟨fun i y hi hy => ?_, _, _, rfl, rfl, rfl⟩
      rcases Nat.lt_succ_iff_lt_or_eq.mp hi with hi | rfl
      · exact hj i y hi hy
      · rw [hx] at hy; cases hy
        exact hok
  · rintro e ⟨hj, s4, s5, f4, f5, rfl⟩
    simp_arith! []
    refine kt ?_
    simp_arith! []
    have hall : ∀ x ∈ ls, ¬ x ∈ tg ∧ TrAt ar sd ls x := fun x hx => by
      obtain ⟨j, hjx⟩ := List.getElem?_of_mem hx
      exact hj j x (List.getElem?_eq_some_iff.mp hjx).1 hjx
    exact ⟨true, rfl, fun _ => jt_ints.mpr ⟨hl1, hl2, fun x hx => (hall x hx).1, fun x hx => (hall x hx).2⟩, fun _ => rfl⟩
def RIt (r : List D) : Prop := (∀ d ∈ r, ItB d) ∧ r.length < 64
theorem rit_ints {ls : List Int} (h : ls.length < 64) : RIt (ls.map .int) := ⟨fun d hd => by obtain ⟨i, _, rfl⟩ := List.mem_map.mp hd; exact .inl ⟨i, rfl⟩, by simpa using h⟩
theorem cut_ints_hi {ls : List Int} {k : Int} (h : 0 ≤ k) : cutD (ls.map .int) none (some k) = (ls.take k.toNat).map .int := by rw [cut_hi h, List.map_take]
theorem cut_ints_lo {ls : List Int} {k : Int} (h : 0 ≤ k) : cutD (ls.map .int) (some k) none = (ls.drop k.toNat).map .int := by rw [cut_lo h, List.map_drop]
theorem add_tupi {a b : List Int} (h : a.length + b.length ≤ 16777216) : binS .Add (.tup (a.map .int)) (.tup (b.map .int)) = some (.v (.tup ((a ++ b).map .int))) := by
  rw [add_tup1 (by simpa using h), List.map_append]
theorem near_ok (Δ : Tb) [A0 Δ] [A1 Δ] [A2 Δ] (k : Nat) (ds : List Int) (ar : Ar) (ls : List Int) (h0 : 0 < ar.length) (h1 : ar.length ≤ 30) (hl : ls.length ≤ 30) :
    Ev (callN Δ (k + 2) 44 [.ow true (LI ds), .fz (arD ar), .fz (tupI ls)]) fun z => ∃ (rows : List (List D)) (ds' : List Int), z = (.nw (.lst (rows.map .tup)), [.ow true (LI ds'), .fz (arD ar), .fz (tupI ls)]) ∧ rows.length ≤ 20 ∧ ∀ r ∈ rows, RIt r := by
  have h5 := take_ev Δ k
  have h25 := put_ok Δ k
  rw [fn44]
  generalize callN Δ (k + 1) = cl at h5 h25
  walk_at "in"
  refine kt ?_
  simp_arith! [ar_len]
  refine kt ?_
  simp_arith! []
  refine ev_mono (h5 ds ar.length (by omega)) ?_
  rintro _ ⟨p, ds, rfl, hp0, hp1⟩
  simp_arith! []
  have ap1 : binS .Add (.tup (ls.map .int)) (.tup [.int p]) = some (.v (.tup ((ls ++ [p]).map .int))) := add_tupi (b := [p]) (by simp; omega)
  have ap2 : binS .Add (.tup (ls.map .int)) (.tup [.int ar.length]) = some (.v (.tup ((ls ++ [(ar.length : Int)]).map .int))) := add_tupi (b := [(ar.length : Int)]) (by simp; omega)
  have ap3 : binS .Add (.tup [.int (-1)]) (.tup (ls.map .int)) = some (.v (.tup (((-1 : Int) :: ls).map .int))) := add_tupi (a := [-1]) (by simp; omega)
  refine kt ?_
  simp_arith! [tupI]
  refine lcF (fun x : Int => D.int x) (fun x : Int => !(x == p)) (fun x hx => ?_) ?_
  · simp_arith! []
  have hf1 : (ls.filter fun x : Int => !(x == p)).length ≤ ls.length := List.length_filter_le _ _
  have ei : intsD (ls.map D.int ++ [D.int p]) = some (ls ++ [p]) := by
    have := intsD_map (ls ++ [p])
    rwa [List.map_append] at this
  simp_arith! [ei]
  refine ⟨by omega, ?_⟩
  have hs1 : (VIS.srtU (ls ++ [p])).length ≤ 31 := by have := len_srt (ls ++ [p]); simp at this; omega
  refine ⟨by omega, ?_⟩
  refine kt ?_
  simp_arith! [ap2, ap3]
  have e0 : ∀ x ∈ [(ls.filter fun x : Int => !(x == p)).map D.int, (VIS.srtU (ls ++ [p])).map D.int, (ls ++ [(ar.length : Int)]).map D.int, ((-1 : Int) :: ls).map D.int, [D.tup [.int p]], ((List.range ar.length).map fun k : Nat => (k : Int)).map D.int, [D.tup (ls.map .int)]], RIt x := by
    intro x hx
    simp only [List.mem_cons, List.not_mem_nil, or_false] at hx
    rcases hx with rfl | rfl | rfl | rfl | rfl | rfl | rfl
    · exact rit_ints (by omega)
    · exact rit_ints (by omega)
    · exact rit_ints (by simp; omega)
    · exact rit_ints (by simp; omega)
    · exact ⟨fun d hd => by simp only [List.mem_singleton] at hd; subst hd; exact .inr ⟨_, rfl⟩, by simp⟩
    · exact rit_ints (by simp; omega)
    · exact ⟨fun d hd => by simp only [List.mem_singleton] at hd; subst hd; exact .inr ⟨_, rfl⟩, by simp⟩
  refine kt ?_
  simp_arith! []
  refine ⟨fun hpos => ?_, fun hno => ?_⟩
  · refine kt ?_
    simp_arith! []
    refine ev_mono (h5 ds ls.length (by omega)) ?_
    rintro _ ⟨j, ds, rfl, hj0, hj1⟩
    simp_arith! []
    have ix := idx_tint (l := ls) (p := j) hj0 hj1
    have t1 : (ls.take (j + 1).toNat).length ≤ ls.length := by simp; omega
    have t2 : (ls.drop j.toNat).length ≤ ls.length := by simp
    have t3 : (ls.take j.toNat).length ≤ ls.length := by simp; omega
    have t4 : (ls.drop (j + 1).toNat).length ≤ ls.length := by simp
    have a1 : binS .Add (.tup ((ls.take (j + 1).toNat).map .int)) (.tup ((ls.drop j.toNat).map .int)) = some (.v (.tup ((ls.take (j + 1).toNat ++ ls.drop j.toNat).map .int))) := add_tupi (by omega)
    have a2 : binS .Add (.tup [.int (ls.getD j.toNat 0 - ar.length)]) (.tup ((ls.take j.toNat).map .int)) = some (.v (.tup (((ls.getD j.toNat 0 - ar.length) :: ls.take j.toNat).map .int))) := add_tupi (a := [ls.getD j.toNat 0 - ar.length]) (by simp; omega)
    have a3 : binS .Add (.tup (((ls.getD j.toNat 0 - ar.length) :: ls.take j.toNat).map .int)) (.tup ((ls.drop (j + 1).toNat).map .int)) = some (.v (.tup (((ls.getD j.toNat 0 - ar.length) :: ls.take j.toNat ++ ls.drop (j + 1).toNat).map .int))) := add_tupi (by simp; omega)
    have a4 : binS .Add (.tup ((ls.drop j.toNat).map .int)) (.tup ((ls.take j.toNat).map .int)) = some (.v (.tup ((ls.drop j.toNat ++ ls.take j.toNat).map .int))) := add_tupi (by omega)
    have e25 := h25 (ls.map .int) j (.tup [.int (ls.getD j.toNat 0)]) hj0 (by simpa using hj1) (by simp; omega)
    refine kt ?_
    simp_arith! [sl_tup, cut_ints_hi (show 0 ≤ j + 1 by omega), cut_ints_lo hj0, cut_ints_hi hj0, cut_ints_lo (show 0 ≤ j + 1 by omega), ix, a1, a2, a3, a4]
    refine kt ?_
    simp_arith! [ix, e25]
    refine kt ?_
    simp_arith! []
    refine ⟨[(ls.filter fun x : Int => !(x == p)).map D.int, (VIS.srtU (ls ++ [p])).map D.int, (ls ++ [(ar.length : Int)]).map D.int, ((-1 : Int) :: ls).map D.int, [D.tup [.int p]], ((List.range ar.length).map fun k : Nat => (k : Int)).map D.int, [D.tup (ls.map .int)]] ++
      [(ls.take (j + 1).toNat ++ ls.drop j.toNat).map D.int, ((ls.getD j.toNat 0 - ar.length) :: ls.take j.toNat ++ ls.drop (j + 1).toNat).map D.int, (ls.drop j.toNat ++ ls.take j.toNat).map D.int, (ls.map D.int).set j.toNat (.tup [.int (ls.getD j.toNat 0)])], ds, by simp, by simp, fun r hr => ?_⟩
    rcases List.mem_append.mp hr with hr | hr
    · exact e0 r hr
    · simp only [List.mem_cons, List.not_mem_nil, or_false] at hr
      rcases hr with rfl | rfl | rfl | rfl
      · exact rit_ints (by simp; omega)
      · exact rit_ints (by simp; omega)
      · exact rit_ints (by simp; omega)
      · refine ⟨fun d hd => ?_, by simp; omega⟩
        rcases List.mem_or_eq_of_mem_set hd with hd | rfl
        · exact (rit_ints (ls := ls) (by omega)).1 d hd
        · exact .inr ⟨_, rfl⟩
  · refine kt ?_
    simp_arith! []
    exact ⟨[(ls.filter fun x : Int => !(x == p)).map D.int, (VIS.srtU (ls ++ [p])).map D.int, (ls ++ [(ar.length : Int)]).map D.int, ((-1 : Int) :: ls).map D.int, [D.tup [.int p]], ((List.range ar.length).map fun k : Nat => (k : Int)).map D.int, [D.tup (ls.map .int)]], ds, by simp, by simp, e0⟩
/-- what stands in a row of places -/
def RowP (n : Nat) (sd : Int) (k : Nat) (p : Int × List Int) : Prop := (p.1 = 0 ∨ p.1 = 1) ∧ 0 < p.2.length ∧ p.2.length ≤ 10 ∧
  if k + 1 < n then ((k : Int) + 1) ∈ p.2 ∧ (∀ m ∈ p.2, 0 ≤ m ∧ m ≤ (k : Int) + 1) ∧ (p.1 ≠ sd → ∀ m ∈ p.2, m = (k : Int) + 1) else p.2 = [(k : Int)]
theorem row2_ok (Δ : Tb) [A0 Δ] (k : Nat) (ds : List Int) (n : Nat) (sd : Int) (hn : 0 < n ∧ n ≤ 1000) :
    Ev (callN Δ (k + 2) 12 [.ow true (LI ds), .fz (.int n), .fz (.int sd)]) fun z => ∃ (ar : Ar) (ds' : List Int), z = (.v (arD ar), [.ow true (LI ds'), .fz (.int n), .fz (.int sd)]) ∧ ar.length = n ∧ ∀ k p, ar[k]? = some p → RowP n sd k p := by
  have h5 := take_ev Δ k
  rw [fn12]
  generalize callN Δ (k + 1) = cl at h5
  walk_at "in"
  unfold b12
  refine kt ?_
  simp_arith! []
  refine kt ?_
  simp_arith! []
  rw [show ((n : Int) - 1).toNat = n - 1 by omega]
  refine foR (fun i e => ∃ (ds : List Int) (ar : Ar) (s4 s5 s6 : Sl), fr s4 = true ∧ fr s5 = true ∧ fr s6 = true ∧ ar.length = i ∧ (∀ k p, ar[k]? = some p → RowP n sd k p) ∧ e = [.ow true (LI ds), .fz (.int n), .fz (.int sd), .ow false (.lst (ar.map plD)), s4, s5, s6, .un]) ⟨ds, [], _, _, _, rfl, rfl, rfl, rfl, (fun k p h => by simp at h), rfl⟩ ?_ ?_
  · rintro i hi e ⟨ds, ar, s4, s5, s6, f4, f5, f6, hl, hr, rfl⟩
    simp_arith! [f4]
    refine kt ?_
    simp_arith! []
    refine ev_mono (h5 ds 2 (by omega)) ?_
    rintro _ ⟨ow, ds, rfl, ho0, ho1⟩
    simp_arith! [f5]
    refine kt ?_
    simp_arith! []
    refine ev_mono (h5 ds 5 (by omega)) ?_
    rintro _ ⟨c, ds, rfl, hc0, hc1⟩
    obtain ⟨b, hb, hb0, hb1⟩ : ∃ b : Int, (if ow = sd then (1 : Int) else 0) = b ∧ 0 ≤ b ∧ b ≤ 1 := by
      refine ⟨_, rfl, ?_, ?_⟩ <;> split <;> omega
    have hbs : ow ≠ sd → b = 0 := fun h => by rw [← hb, if_neg h]
    have hq0 : 0 ≤ c * b := Int.mul_nonneg hc0 hb0
    have hq1 : c * b ≤ 4 := by
      have : b = 0 ∨ b = 1 := by omega
      rcases this with rfl | rfl <;> omega
    have hqz : ow ≠ sd → c * b = 0 := fun h => by rw [hbs h]; simp
    simp_arith! [hb]
    generalize c * b = q at hq0 hq1 hqz
    refine lcR (fun j acc e => ∃ (bk ds : List Int), acc = bk.map .int ∧ bk.length = j ∧ (∀ m ∈ bk, 0 ≤ m ∧ m ≤ (i : Int)) ∧ e = [.ow true (LI ds), .fz (.int n), .fz (.int sd), .ow false (.lst (ar.map plD)), .fz (.int (i : Nat)), .fz (.int ow), s6, .un]) ⟨[], ds, rfl, rfl, (fun _ h => nomatch h), rfl⟩ ?_ ?_
    · rintro j hj acc e ⟨bk, ds, rfl, hbl, hbm, rfl⟩
      simp_arith! []
      refine ev_mono (h5 ds ((i : Int) + 1) (by omega)) ?_
      rintro _ ⟨m, ds, rfl, hm0, hm1⟩
      simp_arith! []
      refine ⟨bk ++ [m], ds, by simp, by simp [hbl], fun y hy => ?_, rfl⟩
      rcases List.mem_append.mp hy with hy | hy
      · exact hbm y hy
      · simp only [List.mem_singleton] at hy; subst hy; omega
    · rintro acc e ⟨bk, ds, rfl, hbl, hbm, rfl⟩
      have ei : intsD (bk.map D.int ++ [D.int ((i : Int) + 1)]) = some (bk ++ [(i : Int) + 1]) := by
        have := intsD_map (bk ++ [(i : Int) + 1])
        rwa [List.map_append] at this
      simp_arith! [f6]
      refine ⟨by omega, ?_⟩
      refine kt ?_
      simp_arith! [ei]
      refine ⟨by omega, ?_⟩
      refine ⟨ds, ar ++ [(ow, VIS.srtU (bk ++ [(i : Int) + 1]))], _, _, _, rfl, rfl, rfl, by simp [hl], fun k p h => ?_, by simp [plD]; exact ⟨rfl, rfl, rfl⟩⟩
      rcases Nat.lt_or_ge k ar.length with hk | hk
      · rw [List.getElem?_append_left hk] at h
        exact hr k p h
      · rw [List.getElem?_append_right hk] at h
        have hk0 : k - ar.length = 0 := by
          rcases Nat.eq_zero_or_pos (k - ar.length) with z | z
          · exact z
          · rw [List.getElem?_eq_none (by simp; omega)] at h; cases h
        have hki : k = i := by omega
        subst hki
        rw [hk0] at h
        simp at h
        subst h
        have hle := len_srt (bk ++ [(k : Int) + 1])
        simp only [List.length_append, List.length_cons, List.length_nil] at hle
        have hmem : (k : Int) + 1 ∈ VIS.srtU (bk ++ [(k : Int) + 1]) := VIS.mem_srtU.mpr (by simp)
        refine ⟨by show ow = 0 ∨ ow = 1; omega, List.length_pos_of_mem hmem, by show (VIS.srtU _).length ≤ 10; omega, ?_⟩
        rw [if_pos (by omega)]
        refine ⟨hmem, fun m hm => ?_, fun hne m hm => ?_⟩
        · have hm := VIS.mem_srtU.mp hm
          rcases List.mem_append.mp hm with hm | hm
          · have := hbm m hm; omega
          · simp only [List.mem_singleton] at hm; subst hm; omega
        · have hm := VIS.mem_srtU.mp hm
          have : bk = [] := List.length_eq_zero_iff.mp (by have := hqz hne; omega)
          subst this
          simpa using hm
  · rintro e ⟨ds, ar, s4, s5, s6, f4, f5, f6, hl, hr, rfl⟩
    simp_arith! []
    refine kt ?_
    simp_arith! []
    refine ev_mono (h5 ds 2 (by omega)) ?_
    rintro _ ⟨ow, ds, rfl, ho0, ho1⟩
    simp_arith! []
    refine ⟨ar ++ [(ow, [(n : Int) - 1])], ds, by simp [arD, plD], by simp [hl]; omega, fun k p h => ?_⟩
    rcases Nat.lt_or_ge k ar.length with hk | hk
    · rw [List.getElem?_append_left hk] at h
      exact hr k p h
    · rw [List.getElem?_append_right hk] at h
      have hk0 : k - ar.length = 0 := by
        rcases Nat.eq_zero_or_pos (k - ar.length) with z | z
        · exact z
        · rw [List.getElem?_eq_none (by simp; omega)] at h; cases h
      rw [hk0] at h
      simp at h
      subst h
      refine ⟨by show ow = 0 ∨ ow = 1; omega, by simp, by simp, ?_⟩
      rw [if_neg (by omega)]
      have : (n : Int) - 1 = k := by omega
      show [(n : Int) - 1] = [(k : Int)]
      rw [this]
theorem RowP.good {n : Nat} {sd : Int} {k : Nat} {p : Int × List Int} (h : RowP n sd k p) (hk : k < n) : GoodP n p := by
  obtain ⟨h1, h2, h3, h4⟩ := h
  refine ⟨h1, h2, by omega, fun m hm => ?_⟩
  split at h4
  · have := h4.2.1 m hm; omega
  · rw [h4] at hm
    simp only [List.mem_singleton] at hm
    omega
/-! places in another order -/
def renP (ar : Ar) (od : List Int) (k : Nat) : Int × List Int := ((ar.getD k (0, [])).1, ((ar.getD k (0, [])).2.map fun m => od.getD m.toNat 0).mergeSort fun a b => decide (a ≤ b))
def renA (ar : Ar) (od : List Int) : Ar := (List.range ar.length).map fun j : Nat => renP ar od (od.idxOf (j : Int))
structure Ord (n : Nat) (od : List Int) : Prop where
  l : od.length = n
  m : ∀ x, x ∈ od ↔ 0 ≤ x ∧ x < n
  d : od.Nodup
theorem ord_of {n : Nat} {od : List Int} (h : od.Perm ((List.range n).map fun k : Nat => (k : Int))) : Ord n od where
  l := by rw [h.length_eq]; simp
  m := fun x => by
    rw [h.mem_iff]
    simp only [List.mem_map, List.mem_range]
    constructor
    · rintro ⟨a, h1, rfl⟩; omega
    · intro h; exact ⟨x.toNat, by omega, by omega⟩
  d := by
    rw [h.nodup_iff]
    refine List.Pairwise.map _ (fun a b hab => ?_) List.nodup_range
    intro z
    exact hab (by omega)
theorem Ord.get {n : Nat} {od : List Int} (h : Ord n od) {k : Nat} (hk : k < n) : ∃ x, od[k]? = some x ∧ od.getD k 0 = x ∧ (0 ≤ x ∧ x < n) ∧ od.idxOf x = k := by
  have hk' : k < od.length := by rw [h.l]; exact hk
  refine ⟨od[k], List.getElem?_eq_getElem hk', ?_, (h.m _).mp (List.getElem_mem hk'), h.d.idxOf_getElem k hk'⟩
  rw [List.getD_eq_getElem?_getD, List.getElem?_eq_getElem hk']
  rfl
theorem Ord.inv {n : Nat} {od : List Int} (h : Ord n od) {j : Nat} (hj : j < n) : od.idxOf (j : Int) < n ∧ od[od.idxOf (j : Int)]? = some (j : Int) := by
  have hm : (j : Int) ∈ od := (h.m _).mpr ⟨by omega, by omega⟩
  have hl := List.idxOf_lt_length_iff.mpr hm
  refine ⟨by rw [← h.l]; exact hl, ?_⟩
  rw [List.getElem?_eq_getElem hl, List.getElem_idxOf]
theorem renamed2_ok (Δ : Tb) [A0 Δ] (k : Nat) (ar : Ar) (od : List Int) (hn : ar.length ≤ 1000) (hg : ∀ p ∈ ar, GoodP ar.length p) (O : Ord ar.length od) :
    callN Δ (k + 1) 11 [.fz (arD ar), .ow true (LI od)] = some (.v (arD (renA ar od)), [.fz (arD ar), .ow true (LI od)]) := by
  refine eq_of ?_
  rw [fn11]
  generalize callN Δ k = cl
  walk_at "in"
  unfold b11
  refine kt ?_
  simp_arith! [ar_len]
  refine kt ?_
  simp_arith! [ar_len]
  have hol := O.l
  refine foR (fun i e => ∃ (xs : List D) (s3 : Sl), fr s3 = true ∧ xs.length = ar.length ∧ (∀ k x, k < i → od[k]? = some x → xs[x.toNat]? = some (plD (renP ar od k))) ∧ e = [.fz (arD ar), .ow true (LI od), .ow false (.lst xs), s3, .un]) ⟨_, _, rfl, by simp, (fun k x h => absurd h (Nat.not_lt_zero _)), rfl⟩ ?_ ?_
  · rintro i hi e ⟨xs, s3, f3, hl, hx, rfl⟩
    obtain ⟨p, hp⟩ : ∃ p, ar[i]? = some p := ⟨_, List.getElem?_eq_getElem hi⟩
    obtain ⟨y, hy1, hy2, hy3, hy4⟩ := O.get hi
    have hgp := hg p (List.mem_of_getElem? hp)
    have ia : idxS (arD ar) (.int i) = some (plD p) := atI_map hp
    have iy : idxS (.lst (od.map .int)) (.int i) = some (.int y) := atI_map hy1
    have i0 : idxS (.tup [.int p.1, .tup (p.2.map .int)]) (.int 0) = some (.int p.1) := rfl
    have i1 : idxS (.tup [.int p.1, .tup (p.2.map .int)]) (.int 1) = some (.tup (p.2.map .int)) := rfl
    have hg2 := hgp.2.2.1
    simp only [plD] at ia
    simp_arith! [f3]
    refine kt ?_
    simp_arith! [ia, i0, i1]
    refine lcH D.int (fun m : Int => od.getD m.toNat 0) (fun m hm => ?_) ?_
    · have hmm := hgp.2.2.2 m hm
      simp_arith! [idx_ints hmm.1 (show m < od.length by omega)]
    simp_arith! [iy, ixN_int hy3.1 (show y < (xs.length : Nat) by omega)]
    refine ⟨by omega, _, _, rfl, by simpa using hl, fun k x hk hkx => ?_, rfl⟩
    have hrp : renP ar od i = (p.1, ((p.2.map fun m => od.getD m.toNat 0).mergeSort fun a b => decide (a ≤ b))) := by
      unfold renP
      rw [show ar.getD i (0, []) = p by rw [List.getD_eq_getElem?_getD, hp]; rfl]
    rcases Nat.lt_succ_iff_lt_or_eq.mp hk with hk | rfl
    · have hne : y.toNat ≠ x.toNat := by
        intro z
        obtain ⟨x', h1, _, h3, h4⟩ := O.get (k := k) (by omega)
        rw [hkx] at h1
        cases h1
        have : x = y := by omega
        subst this
        omega
      rw [List.getElem?_set_ne hne]
      exact hx k x hk hkx
    · rw [hy1] at hkx
      cases hkx
      rw [List.getElem?_set_self (by omega), hrp]
      rfl
  · rintro e ⟨xs, s3, f3, hl, hx, rfl⟩
    simp_arith! []
    refine kt ?_
    simp_arith! []
    congr 3
    unfold renA
    apply List.ext_getElem?
    intro j
    rw [List.getElem?_map, List.getElem?_map]
    by_cases hj : j < ar.length
    · obtain ⟨h1, h2⟩ := O.inv hj
      have := hx _ _ h1 h2
      rw [Int.toNat_natCast] at this
      rw [this, List.getElem?_range hj]
      rfl
    · rw [List.getElem?_eq_none (by omega), List.getElem?_eq_none (by simpa using hj)]
      rfl
theorem renA_len {ar : Ar} {od : List Int} : (renA ar od).length = ar.length := by simp [renA]
theorem renA_at {ar : Ar} {od : List Int} (O : Ord ar.length od) {k : Nat} {x : Int} (h : od[k]? = some x) : (renA ar od)[x.toNat]? = some (renP ar od k) := by
  have hk : k < ar.length := by rw [← O.l]; exact (List.getElem?_eq_some_iff.mp h).1
  obtain ⟨x', h1, _, h3, h4⟩ := O.get hk
  rw [h] at h1
  cases h1
  unfold renA
  rw [List.getElem?_map, List.getElem?_range (by omega)]
  simp only [Option.map_some]
  rw [show ((x.toNat : Nat) : Int) = x by omega, h4]
theorem ren_mem {ar : Ar} {od : List Int} {k : Nat} {m : Int} : m ∈ (renP ar od k).2 ↔ ∃ j ∈ (ar.getD k (0, [])).2, od.getD j.toNat 0 = m := by
  unfold renP
  rw [(List.mergeSort_perm _ _).mem_iff, List.mem_map]
theorem ren_good {ar : Ar} {od : List Int} (hg : ∀ p ∈ ar, GoodP ar.length p) (O : Ord ar.length od) : ∀ p ∈ renA ar od, GoodP (renA ar od).length p := by
  intro p hp
  rw [renA_len]
  unfold renA at hp
  obtain ⟨j, hj, rfl⟩ := List.mem_map.mp hp
  have hj := List.mem_range.mp hj
  obtain ⟨h1, _⟩ := O.inv hj
  have hq : ar[od.idxOf (j : Int)]? = some ar[od.idxOf (j : Int)] := List.getElem?_eq_getElem h1
  have hgq := hg _ (List.getElem_mem h1)
  have ed : ar.getD (od.idxOf (j : Int)) (0, []) = ar[od.idxOf (j : Int)] := by rw [List.getD_eq_getElem?_getD, hq]; rfl
  have hlen : (renP ar od (od.idxOf (j : Int))).2.length = (ar[od.idxOf (j : Int)]).2.length := by
    unfold renP
    rw [(List.mergeSort_perm _ _).length_eq, List.length_map, ed]
  refine ⟨?_, by rw [hlen]; exact hgq.2.1, by rw [hlen]; exact hgq.2.2.1, fun m hm => ?_⟩
  · unfold renP
    rw [ed]
    exact hgq.1
  · obtain ⟨i, hi, rfl⟩ := ren_mem.mp hm
    rw [ed] at hi
    have := hgq.2.2.2 i hi
    obtain ⟨x, _, h2, h3, _⟩ := O.get (k := i.toNat) (by omega)
    rw [h2]
    exact h3
/-! ranks in a row -/
theorem row_ranks {ar : Ar} {od : List Int} {n : Nat} {sd : Int} (hl : ar.length = n) (h0 : 0 < n) (hr : ∀ k p, ar[k]? = some p → RowP n sd k p) (O : Ord n od) :
    ∀ t, t < n → ∀ k, k < n → (iterR (renA ar od) sd (startC n [od.getD (n - 1) 0]) t).getD (od.getD k 0).toNat none = if n - 1 - k ≤ t then some (((n - 1 - k : Nat) : Int)) else none
  | 0, _, k, hk => by
    obtain ⟨x, h1, h2, h3, h4⟩ := O.get hk
    obtain ⟨y, g1, g2, g3, g4⟩ := O.get (k := n - 1) (by omega)
    show (startC n [od.getD (n - 1) 0]).getD (od.getD k 0).toNat none = _
    rw [h2, g2, start_some (by omega)]
    rw [show ((x.toNat : Nat) : Int) = x by omega]
    by_cases hkn : k = n - 1
    · subst hkn
      rw [h1] at g1
      cases g1
      simp
    · have : ¬ x ∈ [y] := by
        intro z
        simp only [List.mem_singleton] at z
        subst z
        omega
      rw [if_neg this, if_neg (by omega)]
  | t + 1, ht, k, hk => by
    have ih := row_ranks hl h0 hr O t (by omega)
    have O' : Ord ar.length od := by rw [hl]; exact O
    have hil : (iterR (renA ar od) sd (startC n [od.getD (n - 1) 0]) t).length = n := by rw [iterR_len]; simp [startC]
    obtain ⟨x, h1, h2, h3, h4⟩ := O.get hk
    show (rkStep (renA ar od) sd ((t : Int) + 1) (iterR (renA ar od) sd (startC n [od.getD (n - 1) 0]) t)).getD (od.getD k 0).toNat none = _
    have ihk := ih k hk
    generalize iterR (renA ar od) sd (startC n [od.getD (n - 1) 0]) t = rk at ih ihk hil
    rw [h2] at ihk ⊢
    rw [rkStep_get (by omega)]
    by_cases hkt : n - 1 - k ≤ t
    · rw [if_pos hkt] at ihk
      have hnb : newB (renA ar od) sd rk x.toNat = false := by unfold newB; rw [ihk]; rfl
      rw [hnb, if_neg (by decide), ihk, if_pos (by omega)]
    · rw [if_neg hkt] at ihk
      have hp : ar[k]? = some ar[k] := List.getElem?_eq_getElem (by omega)
      have hrp := hr k _ hp
      have hA := renA_at O' h1
      have hgd : (renA ar od).getD x.toNat (0, []) = renP ar od k := by rw [List.getD_eq_getElem?_getD, hA]; rfl
      have hpd : ar.getD k (0, []) = ar[k] := by rw [List.getD_eq_getElem?_getD, hp]; rfl
      obtain ⟨r1, r2, r3, r4⟩ := hrp
      rw [if_pos (by omega)] at r4
      obtain ⟨q1, q2, q3⟩ := r4
      have hkn : ∀ m ∈ (ar[k]).2, knB rk (od.getD m.toNat 0) = decide (m = (k : Int) + 1 ∧ n - 1 - k ≤ t + 1) := by
        intro m hm
        have hm2 := q2 m hm
        unfold knB
        rw [ih m.toNat (by omega)]
        by_cases hmt : n - 1 - m.toNat ≤ t
        · rw [if_pos hmt]
          have : m = (k : Int) + 1 ∧ n - 1 - k ≤ t + 1 := by omega
          rw [decide_eq_true this]
          rfl
        · rw [if_neg hmt]
          have : ¬ (m = (k : Int) + 1 ∧ n - 1 - k ≤ t + 1) := by omega
          rw [decide_eq_false this]
          rfl
      have hfb : freshB (renA ar od) sd rk x.toNat = decide (n - 1 - k ≤ t + 1) := by
        unfold freshB
        rw [hgd]
        have eo : (renP ar od k).1 = (ar[k]).1 := by unfold renP; rw [hpd]
        rw [eo]
        have mem : ∀ y, y ∈ (renP ar od k).2 ↔ ∃ j ∈ (ar[k]).2, od.getD j.toNat 0 = y := fun y => by rw [ren_mem, hpd]
        by_cases hd : n - 1 - k ≤ t + 1
        · rw [decide_eq_true hd]
          by_cases ho : (ar[k]).1 = sd
          · rw [if_pos ho]
            refine List.any_eq_true.mpr ⟨od.getD ((k : Int) + 1).toNat 0, (mem _).mpr ⟨_, q1, rfl⟩, ?_⟩
            rw [hkn _ q1]
            exact decide_eq_true ⟨rfl, hd⟩
          · rw [if_neg ho]
            refine List.all_eq_true.mpr fun y hy => ?_
            obtain ⟨j, hj, rfl⟩ := (mem y).mp hy
            rw [hkn j hj]
            exact decide_eq_true ⟨q3 ho j hj, hd⟩
        · rw [decide_eq_false hd]
          by_cases ho : (ar[k]).1 = sd
          · rw [if_pos ho]
            refine List.any_eq_false.mpr fun y hy => ?_
            obtain ⟨j, hj, rfl⟩ := (mem y).mp hy
            rw [hkn j hj]
            simp [hd]
          · rw [if_neg ho]
            have hy : od.getD ((k : Int) + 1).toNat 0 ∈ (renP ar od k).2 := (mem _).mpr ⟨_, q1, rfl⟩
            have : knB rk (od.getD ((k : Int) + 1).toNat 0) = false := by
              rw [hkn _ q1]
              simp [hd]
            cases hall : (renP ar od k).2.all (knB rk) with
            | false => rfl
            | true => have := List.all_eq_true.mp hall _ hy; simp_all
      have hnb : newB (renA ar od) sd rk x.toNat = decide (n - 1 - k ≤ t + 1) := by
        unfold newB
        rw [ihk, hfb]
        rfl
      rw [hnb]
      by_cases hd : n - 1 - k ≤ t + 1
      · rw [decide_eq_true hd, if_pos rfl, if_pos hd]
        congr 1
        omega
      · rw [decide_eq_false hd, if_neg (by decide), ihk, if_neg hd]
theorem row_due {ar : Ar} {od : List Int} {n : Nat} {sd : Int} (hl : ar.length = n) (h0 : 0 < n) (hr : ∀ k p, ar[k]? = some p → RowP n sd k p) (O : Ord n od) :
    iterR (renA ar od) sd (startC n [od.getD (n - 1) 0]) (n - 1) = (List.range n).map fun j : Nat => some ((n : Int) - 1 - (od.idxOf (j : Int) : Nat)) := by
  apply List.ext_getElem?
  intro j
  have hil : (iterR (renA ar od) sd (startC n [od.getD (n - 1) 0]) (n - 1)).length = n := by rw [iterR_len]; simp [startC]
  by_cases hj : j < n
  · obtain ⟨h1, h2⟩ := O.inv hj
    have h3 := row_ranks hl h0 hr O (n - 1) (by omega) (od.idxOf (j : Int)) h1
    have e : od.getD (od.idxOf (j : Int)) 0 = (j : Int) := by rw [List.getD_eq_getElem?_getD, h2]; rfl
    rw [e, Int.toNat_natCast, if_pos (by omega), List.getD_eq_getElem?_getD, List.getElem?_eq_getElem (by omega)] at h3
    rw [List.getElem?_eq_getElem (by omega), List.getElem?_map, List.getElem?_range hj]
    simp only [Option.getD_some] at h3
    rw [h3]
    simp only [Option.map_some]
    congr 2
    omega
  · rw [List.getElem?_eq_none (by omega), List.getElem?_eq_none (by simpa using hj)]
def b48_0 : Ss := .cons (.ret (.and (.cons (.call 17 (.cons (.nm 0) (.cons (.nm 1) .nil))) (.cons (.blt .all (.cons (.lc [2] (.or (.cons (.cmp .Is (.nm 2) (.lit .non)) (.cons (.call 18 (.cons (.nm 2) .nil)) .nil))) (.nm 2) (.seq (.nm 0)) .no) .nil)) .nil)))) .nil
/-- are_credits -/
def b48 : Ss := b48_0
def b49_0 : Ss := .cons (.ret (.and (.cons (.cmp .IsNot (.nm 2) (.lit .non)) (.cons (.cmp .LtE (.nm 2) (.bin .Add (.nm 0) (.nm 1))) .nil)))) .nil
/-- is_enough -/
def b49 : Ss := b49_0
def b50_0 : Ss := .cons (.ret (.lit (.bl false))) .nil
def b50_1 : Ss := .cons (.ret (.lit (.bl false))) .nil
def b50_2 : Ss := .cons (.ifs (.not (.ifc (.cmp .Eq (.nm 3) (.lit (.int 0))) (.blt .any (.cons (.nm 7) .nil)) (.blt .all (.cons (.nm 7) .nil)))) b50_1 .nil) .nil
def b50_3 : Ss := .cons (.set 7 (.lc [8, 9] (.call 49 (.cons (.nm 6) (.cons (.nm 9) (.cons (.idx (.nm 2) (.nm 8)) .nil)))) (.tup (.cons (.nm 8) (.cons (.nm 9) .nil))) (.zip (.nm 4) (.nm 5)) .no)) b50_2
def b50_4 : Ss := .cons (.ifs (.cmp .IsNot (.nm 6) (.lit .non)) b50_3 .nil) .nil
def b50_5 : Ss := .cons (.ret (.lit (.bl true))) .nil
def b50_6 : Ss := .cons (.fo (.tup (.cons (.tup (.cons (.nm 3) (.cons (.nm 4) .nil))) (.cons (.nm 5) (.cons (.nm 6) .nil)))) (.zip3 (.nm 0) (.nm 1) (.nm 2)) b50_4) b50_5
def b50_7 : Ss := .cons (.ifs (.not (.val (.call 48 (.cons (.nm 2) (.cons (.blt .len (.cons (.nm 0) .nil)) .nil))))) b50_0 .nil) b50_6
/-- judge_credits -/
def b50 : Ss := b50_7
def b51_0 : Ss := .cons (.set 4 (.idx (.nm 3) (.lit (.int 1)))) .nil
def b51_1 : Ss := .cons (.expr (.mth .extend 5 (.cons (.lc [7] (.bin .Add (.nm 6) (.tup (.cons (.nm 7) .nil))) (.nm 7) (.seq (.nm 4)) .no) .nil))) .nil
def b51_2 : Ss := .cons (.set 2 (.nm 5)) .nil
def b51_3 : Ss := .cons (.fo (.nm 6) (.seq (.nm 2)) b51_1) b51_2
def b51_4 : Ss := .cons (.set 5 (.lst .nil)) b51_3
def b51_5 : Ss := .cons (.ifs (.cmp .Eq (.idx (.nm 3) (.lit (.int 0))) (.nm 1)) b51_0 .nil) b51_4
def b51_6 : Ss := .cons (.set 4 (.tup (.cons (.lit .non) .nil))) b51_5
def b51_7 : Ss := .cons (.ret (.nm 2)) .nil
def b51_8 : Ss := .cons (.fo (.nm 3) (.seq (.nm 0)) b51_6) b51_7
def b51_9 : Ss := .cons (.set 2 (.lst (.cons (.tup .nil) .nil))) b51_8
/-- _law_rules_in -/
def b51 : Ss := b51_9
def b52_0 : Ss := .cons (.ret (.call 25 (.cons (.nm 1) (.cons (.nm 3) (.cons (.lit .non) .nil))))) .nil
def b52_1 : Ss := .cons (.ret (.call 25 (.cons (.nm 1) (.cons (.nm 3) (.cons (.call 6 (.cons (.nm 0) (.cons (.lst (.cons (.lit (.int 0)) (.cons (.bin .Sub (.lit (.int 0)) (.lit (.int 1))) (.cons (.bin .Sub (.lit (.int 0)) (.nm 2)) .nil)))) .nil))) .nil))))) .nil
def b52_2 : Ss := .cons (.ret (.call 25 (.cons (.call 25 (.cons (.nm 1) (.cons (.nm 3) (.cons (.idx (.nm 1) (.nm 4)) .nil)))) (.cons (.nm 4) (.cons (.idx (.nm 1) (.nm 3)) .nil))))) .nil
def b52_3 : Ss := .cons (.ret (.call 25 (.cons (.nm 1) (.cons (.nm 3) (.cons (.idx (.nm 1) (.nm 4)) .nil))))) .nil
def b52_4 : Ss := .cons (.ret (.call 25 (.cons (.nm 1) (.cons (.nm 3) (.cons (.call 6 (.cons (.nm 0) (.cons (.lst (.cons (.lit (.int 0)) (.cons (.lit (.int 1)) (.cons (.nm 2) (.cons (.bin .Pow (.lit (.int 10)) (.lit (.int 20))) .nil))))) .nil))) .nil))))) .nil
def b52_5 : Ss := .cons (.ret (.call 25 (.cons (.nm 1) (.cons (.nm 3) (.cons (.bin .Add (.idx (.nm 1) (.nm 3)) (.call 6 (.cons (.nm 0) (.cons (.lst (.cons (.lit (.int 1)) (.cons (.bin .Sub (.lit (.int 0)) (.lit (.int 1))) (.cons (.bin .Sub (.lit (.int 0)) (.lit (.int 1))) (.cons (.bin .Pow (.lit (.int 10)) (.lit (.int 20))) .nil))))) .nil)))) .nil))))) .nil
def b52_6 : Ss := .cons (.ifs (.cmp .Is (.idx (.nm 1) (.nm 3)) (.lit .non)) b52_4 .nil) b52_5
def b52_7 : Ss := .cons (.ifs (.cmp .Eq (.nm 5) (.lit (.int 3))) b52_3 .nil) b52_6
def b52_8 : Ss := .cons (.ifs (.cmp .Eq (.nm 5) (.lit (.int 2))) b52_2 .nil) b52_7
def b52_9 : Ss := .cons (.ifs (.cmp .Eq (.nm 5) (.lit (.int 1))) b52_1 .nil) b52_8
def b52_10 : Ss := .cons (.ifs (.cmp .Eq (.nm 5) (.lit (.int 0))) b52_0 .nil) b52_9
def b52_11 : Ss := .cons (.set 5 (.call 5 (.cons (.nm 0) (.cons (.lit (.int 8)) .nil)))) b52_10
def b52_12 : Ss := .cons (.set 4 (.call 5 (.cons (.nm 0) (.cons (.blt .len (.cons (.nm 1) .nil)) .nil)))) b52_11
def b52_13 : Ss := .cons (.set 3 (.call 5 (.cons (.nm 0) (.cons (.blt .len (.cons (.nm 1) .nil)) .nil)))) b52_12
/-- _law_other_numbers -/
def b52 : Ss := b52_13
def b53_0 : Ss := .cons (.ret (.nm 1)) .nil
def b53_1 : Ss := .cons (.ret (.bin .Add (.nm 1) (.call 6 (.cons (.nm 0) (.cons (.lst (.cons (.lit (.int 30)) (.cons (.bin .Sub (.lit (.int 0)) (.lit (.int 30))) (.cons (.bin .Add (.bin .Pow (.lit (.int 10)) (.lit (.int 15))) (.lit (.int 37))) (.cons (.bin .Sub (.lit (.int 0)) (.bin .Pow (.lit (.int 10)) (.lit (.int 15)))) .nil))))) .nil))))) .nil
def b53_2 : Ss := .cons (.ifs (.cmp .Gt (.call 5 (.cons (.nm 0) (.cons (.lit (.int 10)) .nil))) (.lit (.int 0))) b53_0 .nil) b53_1
def b53_3 : Ss := .cons (.set 1 (.bin .Sub (.call 5 (.cons (.nm 0) (.cons (.lit (.int 11)) .nil))) (.lit (.int 5)))) b53_2
/-- _law_move_weight -/
def b53 : Ss := b53_3
def b54_0 : Ss := .cons (.ret (.blt .tuple (.cons (.lc [2] (.blt .tuple (.cons (.lc [3] (.call 53 (.cons (.nm 0) .nil)) (.nm 3) (.seq (.idx (.nm 2) (.lit (.int 1)))) .no) .nil)) (.nm 2) (.seq (.nm 1)) .no) .nil))) .nil
/-- _law_move_weights -/
def b54 : Ss := b54_0
def b55_0 : Ss := .cons (.ret (.blt .tuple (.cons (.lc [3] (.blt .tuple (.cons (.lc [4] (.bin .Add (.bin .Mult (.nm 1) (.nm 4)) (.nm 2)) (.nm 4) (.seq (.nm 3)) .no) .nil)) (.nm 3) (.seq (.nm 0)) .no) .nil))) .nil
/-- _law_changed_weights -/
def b55 : Ss := b55_0
def b56_0 : Ss := .cons (.set 2 (.lc [6] (.blt .max (.cons (.bin .Add (.lst (.cons (.lit (.int 0)) .nil)) (.lc [7] (.bin .Sub (.idx (.nm 3) (.idx (.nm 7) (.lit (.int 0)))) (.idx (.nm 7) (.lit (.int 1)))) (.nm 7) (.seq (.idx (.nm 0) (.nm 6))) .no)) .nil)) (.nm 6) (.rng1 (.nm 1)) .no)) .nil
def b56_1 : Ss := .cons (.set 3 (.nm 2)) b56_0
def b56_2 : Ss := .cons (.set 5 (.lc [6] (.or (.cons (.idx (.nm 5) (.nm 6)) (.cons (.cmp .In (.lit (.bl true)) (.lc [7] (.idx (.nm 5) (.idx (.nm 7) (.lit (.int 0)))) (.nm 7) (.seq (.idx (.nm 0) (.nm 6))) .no)) .nil))) (.nm 6) (.rng1 (.nm 1)) .no)) .nil
def b56_3 : Ss := .cons (.ret (.lc [6] (.idx (.lst (.cons (.idx (.nm 2) (.nm 6)) (.cons (.lit .non) .nil))) (.blt .int (.cons (.idx (.nm 5) (.nm 6)) .nil))) (.nm 6) (.rng1 (.nm 1)) .no)) .nil
def b56_4 : Ss := .cons (.fo (.nm 4) (.rng1 (.nm 1)) b56_2) b56_3
def b56_5 : Ss := .cons (.set 5 (.lc [6] (.cmp .NotEq (.idx (.nm 2) (.nm 6)) (.idx (.nm 3) (.nm 6))) (.nm 6) (.rng1 (.nm 1)) .no)) b56_4
def b56_6 : Ss := .cons (.fo (.nm 4) (.rng1 (.bin .Add (.nm 1) (.lit (.int 1)))) b56_1) b56_5
def b56_7 : Ss := .cons (.set 3 (.nm 2)) b56_6
def b56_8 : Ss := .cons (.set 2 (.bin .Mult (.lst (.cons (.lit (.int 0)) .nil)) (.nm 1))) b56_7
def b56_9 : Ss := .cons (.set 1 (.blt .len (.cons (.nm 0) .nil))) b56_8
/-- _law_worst_needs -/
def b56 : Ss := b56_9
def b57_0 : Ss := .cons (.set 7 (.lc [9] (.nm 9) (.nm 9) (.seq (.nm 7)) (.so (.cmp .Eq (.idx (.nm 9) (.lit (.int 0))) (.idx (.nm 3) (.nm 5)))))) .nil
def b57_1 : Ss := .cons (.expr (.mth .append 4 (.cons (.nm 7) .nil))) .nil
def b57_2 : Ss := .cons (.ifs (.cmp .Eq (.idx (.idx (.nm 0) (.nm 5)) (.lit (.int 0))) (.nm 2)) b57_0 .nil) b57_1
def b57_3 : Ss := .cons (.set 7 (.lc [8] (.tup (.cons (.idx (.nm 6) (.nm 8)) (.cons (.idx (.idx (.nm 1) (.nm 5)) (.nm 8)) .nil))) (.nm 8) (.rng1 (.blt .len (.cons (.nm 6) .nil))) .no)) b57_2
def b57_4 : Ss := .cons (.set 6 (.idx (.idx (.nm 0) (.nm 5)) (.lit (.int 1)))) b57_3
def b57_5 : Ss := .cons (.ret (.nm 4)) .nil
def b57_6 : Ss := .cons (.fo (.nm 5) (.rng1 (.blt .len (.cons (.nm 0) .nil))) b57_4) b57_5
def b57_7 : Ss := .cons (.set 4 (.lst .nil)) b57_6
/-- _law_weighted_steps -/
def b57 : Ss := b57_7
def b58_0 : Ss := .cons (.put 2 (.nm 5) (.idx (.nm 4) (.nm 5))) .nil
def b58_1 : Ss := .cons (.ifs (.and (.cons (.cmp .IsNot (.idx (.nm 4) (.nm 5)) (.lit .non)) (.cons (.or (.cons (.cmp .Is (.idx (.nm 2) (.nm 5)) (.lit .non)) (.cons (.cmp .Lt (.idx (.nm 4) (.nm 5)) (.idx (.nm 2) (.nm 5))) .nil))) .nil))) b58_0 .nil) .nil
def b58_2 : Ss := .cons (.fo (.nm 5) (.rng1 (.blt .len (.cons (.nm 2) .nil))) b58_1) .nil
def b58_3 : Ss := .cons (.set 4 (.call 56 (.cons (.call 57 (.cons (.nm 0) (.cons (.nm 1) (.cons (.lit (.int 0)) (.cons (.nm 3) .nil))))) .nil))) b58_2
def b58_4 : Ss := .cons (.ret (.blt .tuple (.cons (.nm 2) .nil))) .nil
def b58_5 : Ss := .cons (.fo (.nm 3) (.seq (.call 51 (.cons (.nm 0) (.cons (.lit (.int 0)) .nil)))) b58_3) b58_4
def b58_6 : Ss := .cons (.set 2 (.bin .Mult (.lst (.cons (.lit .non) .nil)) (.blt .len (.cons (.nm 0) .nil)))) b58_5
/-- _law_credits -/
def b58 : Ss := b58_6
def b59_0 : Ss := .cons (.ret (.lit (.bl false))) .nil
def b59_1 : Ss := .cons (.ret (.lit (.bl false))) .nil
def b59_2 : Ss := .cons (.ifs (.and (.cons (.cmp .IsNot (.nm 3) (.lit .non)) (.cons (.or (.cons (.not (.val (.call 24 (.cons (.nm 3) .nil)))) (.cons (.cmp .Lt (.nm 3) (.lit (.int 0))) .nil))) .nil))) b59_1 .nil) .nil
def b59_3 : Ss := .cons (.expr (.mth .append 7 (.cons (.and (.cons (.cmp .IsNot (.nm 9) (.lit .non)) (.cons (.cmp .LtE (.nm 9) (.bin .Add (.idx (.nm 2) (.nm 4)) (.idx (.idx (.nm 1) (.nm 4)) (.nm 8)))) .nil))) .nil))) .nil
def b59_4 : Ss := .cons (.set 9 (.idx (.nm 2) (.idx (.nm 6) (.nm 8)))) b59_3
def b59_5 : Ss := .cons (.ret (.lit (.bl false))) .nil
def b59_6 : Ss := .cons (.ifs (.or (.cons (.and (.cons (.cmp .Eq (.nm 5) (.lit (.int 0))) (.cons (.cmp .NotIn (.lit (.bl true)) (.nm 7)) .nil))) (.cons (.and (.cons (.cmp .Eq (.nm 5) (.lit (.int 1))) (.cons (.cmp .In (.lit (.bl false)) (.nm 7)) .nil))) .nil))) b59_5 .nil) .nil
def b59_7 : Ss := .cons (.fo (.nm 8) (.rng1 (.blt .len (.cons (.nm 6) .nil))) b59_4) b59_6
def b59_8 : Ss := .cons (.set 7 (.lst .nil)) b59_7
def b59_9 : Ss := .cons (.ifs (.cmp .IsNot (.idx (.nm 2) (.nm 4)) (.lit .non)) b59_8 .nil) .nil
def b59_10 : Ss := .cons (.unp (.tup (.cons (.nm 5) (.cons (.nm 6) .nil))) (.idx (.nm 0) (.nm 4))) b59_9
def b59_11 : Ss := .cons (.ret (.lit (.bl true))) .nil
def b59_12 : Ss := .cons (.fo (.nm 4) (.rng1 (.blt .len (.cons (.nm 0) .nil))) b59_10) b59_11
def b59_13 : Ss := .cons (.fo (.nm 3) (.seq (.nm 2)) b59_2) b59_12
def b59_14 : Ss := .cons (.ifs (.or (.cons (.not (.val (.isi (.nm 2) [.tuple]))) (.cons (.cmp .NotEq (.blt .len (.cons (.nm 2) .nil)) (.blt .len (.cons (.nm 0) .nil))) .nil))) b59_0 .nil) b59_13
/-- _law_shows_credits -/
def b59 : Ss := b59_14
def b60_0 : Ss := .cons (.expr (.mth .append 2 (.cons (.lit .non) .nil))) .nil
def b60_1 : Ss := .cons (.expr (.mth .append 2 (.cons (.bin .Add (.nm 3) (.nm 1)) .nil))) .nil
def b60_2 : Ss := .cons (.ifs (.cmp .Is (.nm 3) (.lit .non)) b60_0 b60_1) .nil
def b60_3 : Ss := .cons (.ret (.blt .tuple (.cons (.nm 2) .nil))) .nil
def b60_4 : Ss := .cons (.fo (.nm 3) (.seq (.nm 0)) b60_2) b60_3
def b60_5 : Ss := .cons (.set 2 (.lst .nil)) b60_4
/-- _law_more_credits -/
def b60 : Ss := b60_5
def T3 : Tb := fun i => match i with
  | 48 => some ⟨["thing", "many"], ["thing", "many", "credit"], b48⟩
  | 49 => some ⟨["credit", "weight", "behind"], ["credit", "weight", "behind"], b49⟩
  | 50 => some ⟨["arena", "weights", "credits"], ["arena", "weights", "credits", "side", "moves", "row", "credit", "good", "move", "weight"], b50⟩
  | 51 => some ⟨["arena", "side"], ["arena", "side", "found", "place", "goals", "grown", "rule", "move"], b51⟩
  | 52 => some ⟨["draws", "row", "many"], ["draws", "row", "many", "k", "j", "kind"], b52⟩
  | 53 => some ⟨["draws"], ["draws", "small"], b53⟩
  | 54 => some ⟨["draws", "arena"], ["draws", "arena", "place", "move"], b54⟩
  | 55 => some ⟨["weights", "factor", "more"], ["weights", "factor", "more", "row", "weight"], b55⟩
  | 56 => some ⟨["steps"], ["steps", "many", "needs", "ahead", "turn", "lost", "k", "step"], b56⟩
  | 57 => some ⟨["arena", "weights", "side", "rule"], ["arena", "weights", "side", "rule", "told", "place", "goals", "steps", "k", "step"], b57⟩
  | 58 => some ⟨["arena", "weights"], ["arena", "weights", "found", "rule", "needs", "k"], b58⟩
  | 59 => some ⟨["arena", "weights", "purses"], ["arena", "weights", "purses", "purse", "place", "owner", "goals", "kept", "k", "behind"], b59⟩
  | 60 => some ⟨["purses", "more"], ["purses", "more", "told", "purse"], b60⟩
  | _ => none
class A3 (Δ : Tb) : Prop where
  h : ∀ i, 48 ≤ i → i < 61 → Δ i = T3 i
theorem fn48 (Δ : Tb) [A3 Δ] (k : Nat) : callN Δ (k + 1) 48 = runDef (callN Δ k) ⟨["thing", "many"], ["thing", "many", "credit"], b48⟩ := by
  show (fun args => (Δ 48).bind fun d => runDef (callN Δ k) d args) = _
  rw [show Δ 48 = T3 48 from A3.h 48 (by decide) (by decide)]
  rfl
theorem fn49 (Δ : Tb) [A3 Δ] (k : Nat) : callN Δ (k + 1) 49 = runDef (callN Δ k) ⟨["credit", "weight", "behind"], ["credit", "weight", "behind"], b49⟩ := by
  show (fun args => (Δ 49).bind fun d => runDef (callN Δ k) d args) = _
  rw [show Δ 49 = T3 49 from A3.h 49 (by decide) (by decide)]
  rfl
theorem fn50 (Δ : Tb) [A3 Δ] (k : Nat) : callN Δ (k + 1) 50 = runDef (callN Δ k) ⟨["arena", "weights", "credits"], ["arena", "weights", "credits", "side", "moves", "row", "credit", "good", "move", "weight"], b50⟩ := by
  show (fun args => (Δ 50).bind fun d => runDef (callN Δ k) d args) = _
  rw [show Δ 50 = T3 50 from A3.h 50 (by decide) (by decide)]
  rfl
theorem fn51 (Δ : Tb) [A3 Δ] (k : Nat) : callN Δ (k + 1) 51 = runDef (callN Δ k) ⟨["arena", "side"], ["arena", "side", "found", "place", "goals", "grown", "rule", "move"], b51⟩ := by
  show (fun args => (Δ 51).bind fun d => runDef (callN Δ k) d args) = _
  rw [show Δ 51 = T3 51 from A3.h 51 (by decide) (by decide)]
  rfl
theorem fn52 (Δ : Tb) [A3 Δ] (k : Nat) : callN Δ (k + 1) 52 = runDef (callN Δ k) ⟨["draws", "row", "many"], ["draws", "row", "many", "k", "j", "kind"], b52⟩ := by
  show (fun args => (Δ 52).bind fun d => runDef (callN Δ k) d args) = _
  rw [show Δ 52 = T3 52 from A3.h 52 (by decide) (by decide)]
  rfl
theorem fn53 (Δ : Tb) [A3 Δ] (k : Nat) : callN Δ (k + 1) 53 = runDef (callN Δ k) ⟨["draws"], ["draws", "small"], b53⟩ := by
  show (fun args => (Δ 53).bind fun d => runDef (callN Δ k) d args) = _
  rw [show Δ 53 = T3 53 from A3.h 53 (by decide) (by decide)]
  rfl
theorem fn54 (Δ : Tb) [A3 Δ] (k : Nat) : callN Δ (k + 1) 54 = runDef (callN Δ k) ⟨["draws", "arena"], ["draws", "arena", "place", "move"], b54⟩ := by
  show (fun args => (Δ 54).bind fun d => runDef (callN Δ k) d args) = _
  rw [show Δ 54 = T3 54 from A3.h 54 (by decide) (by decide)]
  rfl
theorem fn55 (Δ : Tb) [A3 Δ] (k : Nat) : callN Δ (k + 1) 55 = runDef (callN Δ k) ⟨["weights", "factor", "more"], ["weights", "factor", "more", "row", "weight"], b55⟩ := by
  show (fun args => (Δ 55).bind fun d => runDef (callN Δ k) d args) = _
  rw [show Δ 55 = T3 55 from A3.h 55 (by decide) (by decide)]
  rfl
theorem fn56 (Δ : Tb) [A3 Δ] (k : Nat) : callN Δ (k + 1) 56 = runDef (callN Δ k) ⟨["steps"], ["steps", "many", "needs", "ahead", "turn", "lost", "k", "step"], b56⟩ := by
  show (fun args => (Δ 56).bind fun d => runDef (callN Δ k) d args) = _
  rw [show Δ 56 = T3 56 from A3.h 56 (by decide) (by decide)]
  rfl
theorem fn57 (Δ : Tb) [A3 Δ] (k : Nat) : callN Δ (k + 1) 57 = runDef (callN Δ k) ⟨["arena", "weights", "side", "rule"], ["arena", "weights", "side", "rule", "told", "place", "goals", "steps", "k", "step"], b57⟩ := by
  show (fun args => (Δ 57).bind fun d => runDef (callN Δ k) d args) = _
  rw [show Δ 57 = T3 57 from A3.h 57 (by decide) (by decide)]
  rfl
theorem fn58 (Δ : Tb) [A3 Δ] (k : Nat) : callN Δ (k + 1) 58 = runDef (callN Δ k) ⟨["arena", "weights"], ["arena", "weights", "found", "rule", "needs", "k"], b58⟩ := by
  show (fun args => (Δ 58).bind fun d => runDef (callN Δ k) d args) = _
  rw [show Δ 58 = T3 58 from A3.h 58 (by decide) (by decide)]
  rfl
theorem fn59 (Δ : Tb) [A3 Δ] (k : Nat) : callN Δ (k + 1) 59 = runDef (callN Δ k) ⟨["arena", "weights", "purses"], ["arena", "weights", "purses", "purse", "place", "owner", "goals", "kept", "k", "behind"], b59⟩ := by
  show (fun args => (Δ 59).bind fun d => runDef (callN Δ k) d args) = _
  rw [show Δ 59 = T3 59 from A3.h 59 (by decide) (by decide)]
  rfl
theorem fn60 (Δ : Tb) [A3 Δ] (k : Nat) : callN Δ (k + 1) 60 = runDef (callN Δ k) ⟨["purses", "more"], ["purses", "more", "told", "purse"], b60⟩ := by
  show (fun args => (Δ 60).bind fun d => runDef (callN Δ k) d args) = _
  rw [show Δ 60 = T3 60 from A3.h 60 (by decide) (by decide)]
  rfl
theorem zip3_map {α β γ : Type} (f : α → D) (g : β → D) (h : γ → D) : ∀ (a : List α) (b : List β) (c : List γ), zip3D (a.map f) (b.map g) (c.map h) = (a.zip (b.zip c)).map fun p => .tup [f p.1, g p.2.1, h p.2.2]
  | [], _, _ => by simp [zip3D]
  | _ :: _, [], _ => by simp [zip3D]
  | _ :: _, _ :: _, [] => by simp [zip3D]
  | x :: a, y :: b, z :: c => by simp only [List.map_cons, zip3D, zip3_map f g h a b c, List.zip_cons_cons]
theorem zip3S_t {xs ys zs : List D} : zip3S (.tup xs) (.tup ys) (.tup zs) = some (zip3D xs ys zs) := rfl
def crB (d : D) : Bool := isNon d || natB d
def NatC (cs : Cs) : Prop := ∀ c, some c ∈ cs → 0 ≤ c
theorem crB_of : ∀ {es : List D}, (es.all crB = true) → ∃ cs : Cs, es = cs.map oD ∧ NatC cs
  | [], _ => ⟨[], rfl, fun c h => by simp at h⟩
  | d :: es, h => by
    simp only [List.all_cons, Bool.and_eq_true] at h
    obtain ⟨cs, rfl, hp⟩ := crB_of h.2
    have h1 := h.1
    unfold crB at h1
    rw [Bool.or_eq_true] at h1
    rcases h1 with h1 | h1
    · refine ⟨none :: cs, (by cases d with
        | non => rfl
        | _ => cases h1), fun c hc => ?_⟩
      simp at hc
      exact hp c hc
    · unfold natB at h1
      split at h1
      · rename_i i
        refine ⟨some i :: cs, rfl, fun c hc => ?_⟩
        simp at hc
        rcases hc with rfl | hc
        · simpa using h1
        · exact hp c hc
      · cases h1
theorem crB_nat {cs : Cs} : (cs.map oD).all crB = true ↔ NatC cs := by
  constructor
  · intro h c hc
    have := List.all_eq_true.mp h (oD (some c)) (List.mem_map.mpr ⟨_, hc, rfl⟩)
    simpa [crB, oD, isNon, natB] using this
  · intro h
    rw [List.all_eq_true]
    intro d hd
    obtain ⟨x, hx, rfl⟩ := List.mem_map.mp hd
    cases x with
    | none => rfl
    | some c => simpa [crB, oD, isNon, natB] using h c hx
theorem arecr_ok (Δ : Tb) [A1 Δ] [A3 Δ] (k : Nat) (es : List D) (n : Int) (he : ∀ d ∈ es, noB d = true) (hl : es.length ≤ 1000) :
    callN Δ (k + 2) 48 [.fz (.tup es), .fz (.int n)] = some (.v (.bl ((es.length : Int) == n && es.all crB)), [.fz (.tup es), .fz (.int n)]) := by
  refine eq_of ?_
  have h17 := isrow_ok Δ k
  have h18 := isnat_ok Δ k
  rw [fn48]
  generalize callN Δ (k + 1) = cl at h17 h18
  walk_at "in"
  refine kt ?_
  simp_arith! [h17, rowB]
  refine ⟨fun hc => ?_, fun hc => ?_⟩
  · refine lcI D.bl crB (fun d hd => ?_) ?_
    · unfold crB
      cases hb : isNon d with
      | true => simp_arith! [hb]
      | false => simp_arith! [hb, h18 d (he d hd)]
    · have ea : (es.map crB).all id = es.all crB := by rw [List.all_map]; rfl
      simp_arith! [ea, hc]
      exact ⟨by omega, by rw [beq_self_eq_true, Bool.true_and]⟩
  · have : ((es.length : Int) == n) = false := by simpa using hc
    rw [this]; rfl
def enB (c x : Int) (b : Option Int) : Bool := match b with
  | none => false
  | some y => decide (y ≤ c + x)
theorem enough_ok (Δ : Tb) [A3 Δ] (k : Nat) (c x : Int) (b : Option Int) : callN Δ (k + 1) 49 [.fz (.int c), .fz (.int x), .fz (oD b)] = some (.v (.bl (enB c x b)), [.fz (.int c), .fz (.int x), .fz (oD b)]) := by
  refine eq_of ?_
  rw [fn49]
  generalize callN Δ k = cl
  walk_at "in"
  refine kt ?_
  cases b <;> simp_arith! [enB, oD]
def goodL (cs : Cs) (c : Int) (p : Int × List Int) (w : List Int) : List Bool := (p.2.zip w).map fun q => enB c q.2 (cs.getD q.1.toNat none)
def crOn (cs : Cs) (x : Option Int) (p : Int × List Int) (w : List Int) : Bool := match x with
  | none => true
  | some c => if p.1 = 0 then (goodL cs c p w).any id else (goodL cs c p w).all id
def crAt (ar : List (Int × List Int)) (ws : List (List Int)) (cs : Cs) (i : Nat) : Bool := crOn cs (cs.getD i none) (ar.getD i (0, [])) (ws.getD i [])
def CrP (ar : List (Int × List Int)) (ws : List (List Int)) (es : List D) : Prop := ∃ cs : Cs, es = cs.map oD ∧ cs.length = ar.length ∧ NatC cs ∧ ∀ i, i < ar.length → crAt ar ws cs i = true
theorem oD_inj {p q : Option Int} (h : oD p = oD q) : p = q := by
  cases p <;> cases q <;> first | rfl | (simp only [oD, D.int.injEq] at h; rw [h]) | cases h
theorem map_oD_inj : ∀ {a b : Cs}, a.map oD = b.map oD → a = b
  | [], [], _ => rfl
  | [], _ :: _, h => by cases h
  | _ :: _, [], h => by cases h
  | x :: a, y :: b, h => by
    simp only [List.map_cons, List.cons.injEq] at h
    rw [oD_inj h.1, map_oD_inj h.2]
set_option maxHeartbeats 0 in
theorem jcred_ok (Δ : Tb) [A1 Δ] [A3 Δ] (k : Nat) (ar : List (Int × List Int)) (ws : List (List Int)) (es : List D) (h : Okay ar ws) (he : ∀ d ∈ es, noB d = true) (hel : es.length ≤ 1000) :
    Ev (callN Δ (k + 3) 50 [.fz (arD ar), .fz (wsD ws), .fz (.tup es)]) fun z => ∃ b, z = (.v (.bl b), [.fz (arD ar), .fz (wsD ws), .fz (.tup es)]) ∧ (b = true ↔ CrP ar ws es) := by
  have h48 := arecr_ok Δ k es ar.length he hel
  have h49 := enough_ok Δ (k + 1)
  rw [fn50]
  generalize callN Δ (k + 2) = cl at h48 h49
  have hn := h.n
  walk_at "in"
  refine kt ?_
  simp_arith! [h48, ar_len]
  have no : ((es.length : Int) == (ar.length : Int) && es.all crB) = false → ¬ CrP ar ws es := by
    rintro hc ⟨cs, rfl, h1, h2, _⟩
    rw [crB_nat.mpr h2, List.length_map, h1] at hc
    simp at hc
  refine ⟨fun hc => ?_, fun hc => ?_⟩
  · refine kt ?_
    simp_arith! []
    refine ⟨false, rfl, iff_f (no ?_)⟩
    rcases hc with hc | hc
    · have : ((es.length : Int) == (ar.length : Int)) = false := by simpa using hc
      rw [this]; rfl
    · rw [hc, Bool.and_false]
  obtain ⟨hc1, hc2⟩ : es.length = ar.length ∧ es.all crB = true := by
    have : ((es.length : Int) == (ar.length : Int) && es.all crB) = true := by simpa using hc
    rw [Bool.and_eq_true, beq_iff_eq] at this
    exact ⟨by omega, this.2⟩
  clear hc no
  obtain ⟨cs, rfl, hnat⟩ := crB_of hc2
  have hcl : cs.length = ar.length := by simpa using hc1
  refine kt ?_
  simp_arith! [arD, wsD, zip3S_t, zip3_map]
  refine foM (fun j e => (∀ i, i < j → crAt ar ws cs i = true) ∧ ∃ s3 s4 s5 s6 s7, fr s3 = true ∧ fr s4 = true ∧ fr s5 = true ∧ fr s6 = true ∧ fr s7 = true ∧ e = [.fz (arD ar), .fz (wsD ws), .fz (.tup (cs.map oD)), s3, s4, s5, s6, s7, .un, .un]) ⟨(fun _ h => absurd h (Nat.not_lt_zero _)), _, _, _, _, _, rfl, rfl, rfl, rfl, rfl, rfl⟩ ?_ ?_
  · rintro j x hx e ⟨hj, s3, s4, s5, s6, s7, f3, f4, f5, f6, f7, rfl⟩
    obtain ⟨p, w, c⟩ := x
    rw [List.getElem?_zip_eq_some, List.getElem?_zip_eq_some] at hx
    obtain ⟨hxp, hxw, hxc⟩ := hx
    have hg := h.g p (List.mem_of_getElem? hxp)
    have hjl : j < ar.length := (List.getElem?_eq_some_iff.mp hxp).1
    have hat : crAt ar ws cs j = crOn cs c p w := by
      unfold crAt
      rw [List.getD_eq_getElem?_getD, List.getD_eq_getElem?_getD, List.getD_eq_getElem?_getD, hxp, hxw, hxc]
      rfl
    have next : crOn cs c p w = true → ∀ i, i < j + 1 → crAt ar ws cs i = true := by
      intro ht i hi
      rcases Nat.lt_succ_iff_lt_or_eq.mp hi with hi | rfl
      · exact hj i hi
      · rw [hat]; exact ht
    have bad : crOn cs c p w = false → ¬ CrP ar ws (cs.map oD) := by
      rintro hf ⟨cs', e, h1, h2, h3⟩
      have := map_oD_inj e
      subst this
      have := h3 j hjl
      rw [hat, hf] at this
      cases this
    simp only [plD]
    cases c with
    | none =>
      simp_arith! [f3, f4, f5, f6, oD, tupI]
      refine kt ?_
      simp_arith! []
      exact ⟨next rfl, _, _, _, _, _, rfl, rfl, rfl, rfl, f7, rfl⟩
    | some c =>
      have hg2 := hg.2.2.1
      simp_arith! [f3, f4, f5, f6, oD, tupI]
      refine kt ?_
      simp_arith! []
      refine kt ?_
      simp_arith! [zipS_t, zip_ints]
      refine lcH D.bl (fun q : Int × Int => enB c q.2 (cs.getD q.1.toNat none)) (fun q hq => ?_) ?_
      · have hm1 := hg.2.2.2 q.1 (List.of_mem_zip hq).1
        have ix := idx_ost (cs := cs) (m := q.1) hm1.1 (by omega)
        have e49 := h49 c q.2 (cs.getD q.1.toNat none)
        simp_arith! [ix, e49]
      have hzl := List.length_zip (l₁ := p.2) (l₂ := w)
      simp_arith! [f7]
      refine ⟨by omega, ?_⟩
      refine kt ?_
      simp_arith! []
      refine ⟨fun h0 => ?_, fun h0 => ?_⟩
      · have ec : crOn cs (some c) p w = ((p.2.zip w).map fun q : Int × Int => enB c q.2 (cs.getD q.1.toNat none)).any id := by
          show (if p.1 = 0 then _ else _) = _
          rw [if_pos h0]; rfl
        refine ⟨fun hb => ?_, fun hb => ?_⟩
        · refine kt ?_
          simp_arith! []
          exact ⟨false, rfl, iff_f (bad (by rw [ec]; exact hb))⟩
        · exact ⟨next (by rw [ec]; exact hb), _, _, _, _, _, rfl, rfl, rfl, rfl, rfl, rfl⟩
      · have ec : crOn cs (some c) p w = ((p.2.zip w).map fun q : Int × Int => enB c q.2 (cs.getD q.1.toNat none)).all id := by
          show (if p.1 = 0 then _ else _) = _
          rw [if_neg h0]; rfl
        refine ⟨fun hb => ?_, fun hb => ?_⟩
        · refine kt ?_
          simp_arith! []
          exact ⟨false, rfl, iff_f (bad (by rw [ec]; exact hb))⟩
        · exact ⟨next (by rw [ec]; exact hb), _, _, _, _, _, rfl, rfl, rfl, rfl, rfl, rfl⟩
  · rintro e ⟨hj, s3, s4, s5, s6, s7, f3, f4, f5, f6, f7, rfl⟩
    simp_arith! []
    refine kt ?_
    simp_arith! []
    refine ⟨true, rfl, Iff.intro (fun _ => ⟨cs, rfl, hcl, hnat, fun i hi => hj i ?_⟩) fun _ => rfl⟩
    have l1 := List.length_zip (l₁ := ws) (l₂ := cs)
    have l2 := List.length_zip (l₁ := ar) (l₂ := ws.zip cs)
    have l3 := h.f.1
    omega
theorem foI {cl : CallF} {t : T} {b : Ss} {xs : List D} {Q : Fl → Prop} {env : En} (P : Nat → En → Prop) (h0 : P 0 env)
    (hs : ∀ i x, xs[i]? = some x → ∀ e, P i e → Ev (t.put e x) fun e1 => Ev (evSs cl b e1) (Tn (P (i + 1)) Q)) (hd : ∀ e, P xs.length e → Q (.nx e)) : FoE cl t b xs env Q := by
  have := foM (cl := cl) (f := fun d : D => d) (t := t) (b := b) (xs := xs) (Q := Q) (env := env) P h0 hs hd
  rwa [List.map_id'] at this
def goodAt (cs : Cs) (c : Int) (p : Int × List Int) (w : List Int) (t : Nat) : Bool := enB c (w.getD t 0) (cs.getD (p.2.getD t 0).toNat none)
theorem goodL_eq {cs : Cs} {c : Int} {p : Int × List Int} {w : List Int} (h : w.length = p.2.length) : (List.range p.2.length).map (goodAt cs c p w) = goodL cs c p w := by
  unfold goodL goodAt
  apply List.ext_getElem?
  intro i
  rw [List.getElem?_map, List.getElem?_map, List.zip_eq_zipWith, List.getElem?_zipWith]
  by_cases hi : i < p.2.length
  · rw [List.getElem?_range hi, List.getElem?_eq_getElem hi, List.getElem?_eq_getElem (show i < w.length by omega)]
    simp [hi, h]
  · rw [List.getElem?_eq_none (show p.2.length ≤ i by omega), List.getElem?_eq_none (show (List.range p.2.length).length ≤ i by simpa using hi)]
    rfl
theorem crB_int {i : Int} : crB (.int i) = decide (0 ≤ i) := rfl
set_option maxHeartbeats 0 in
theorem scred_ok (Δ : Tb) [A1 Δ] [A3 Δ] (k : Nat) (ar : List (Int × List Int)) (ws : List (List Int)) (es : List D) (h : Okay ar ws) (he : ∀ d ∈ es, noB d = true) (hel : es.length ≤ 1000) :
    Ev (callN Δ (k + 2) 59 [.fz (arD ar), .fz (wsD ws), .fz (.tup es)]) fun z => ∃ b, z = (.v (.bl b), [.fz (arD ar), .fz (wsD ws), .fz (.tup es)]) ∧ (b = true ↔ CrP ar ws es) := by
  have h24 := isint_ok Δ k
  rw [fn59]
  generalize callN Δ (k + 1) = cl at h24
  have hn := h.n
  walk_at "in"
  refine kt ?_
  simp_arith! [ar_len]
  refine ⟨fun hc => ?_, fun hc => ?_⟩
  · refine kt ?_
    simp_arith! []
    refine ⟨false, rfl, iff_f ?_⟩
    rintro ⟨cs, rfl, h1, h2, _⟩
    rw [List.length_map, h1] at hc
    exact absurd rfl hc
  refine kt ?_
  simp_arith! []
  refine foI (fun j e => (∀ i d, i < j → es[i]? = some d → crB d = true) ∧ ∃ s3, fr s3 = true ∧ e = [.fz (arD ar), .fz (wsD ws), .fz (.tup es), s3, .un, .un, .un, .un, .un, .un]) ⟨(fun _ _ h => absurd h (Nat.not_lt_zero _)), _, rfl, rfl⟩ ?_ ?_
  · rintro j d hd e ⟨hj, s3, f3, rfl⟩
    have next : crB d = true → ∀ i d, i < j + 1 → es[i]? = some d → crB d = true := by
      intro ht i d' hi hd'
      rcases Nat.lt_succ_iff_lt_or_eq.mp hi with hi | rfl
      · exact hj i d' hi hd'
      · rw [hd] at hd'; cases hd'; exact ht
    have bad : crB d = false → ¬ CrP ar ws es := by
      rintro hf ⟨cs, rfl, h1, h2, _⟩
      have := List.all_eq_true.mp (crB_nat.mpr h2) d (List.mem_of_getElem? hd)
      rw [hf] at this
      cases this
    simp_arith! [f3]
    have e24 := h24 d
    cases d with
    | non =>
      refine kt ?_
      simp_arith! []
      exact ⟨next rfl, _, rfl, rfl⟩
    | int i =>
      refine kt ?_
      simp_arith! [e24]
      refine ⟨fun hi => ?_, fun hi => ?_⟩
      · refine kt ?_
        simp_arith! []
        exact ⟨false, rfl, iff_f (bad (by rw [crB_int]; exact decide_eq_false (by omega)))⟩
      · exact ⟨next (by rw [crB_int]; exact decide_eq_true (by omega)), _, rfl, rfl⟩
    | scr ns =>
      refine kt ?_
      simp_arith! [e24, show isNon (.scr ns) = false from rfl]
      refine kt ?_
      simp_arith! []
      exact ⟨false, rfl, iff_f (bad rfl)⟩
    | _ =>
      refine kt ?_
      simp_arith! [e24]
      refine kt ?_
      simp_arith! []
      exact ⟨false, rfl, iff_f (bad rfl)⟩
  · rintro e ⟨hj, s3, f3, rfl⟩
    have hx : es.all crB = true := List.all_eq_true.mpr fun d hd => by
      obtain ⟨i, hi⟩ := List.getElem?_of_mem hd
      exact hj i d (List.getElem?_eq_some_iff.mp hi).1 hi
    clear hj
    obtain ⟨cs, rfl, hnat⟩ := crB_of hx
    have hcl : cs.length = ar.length := by simp only [List.length_map] at hc; omega
    simp_arith! []
    refine kt ?_
    simp_arith! [ar_len]
    refine foR (fun j e => (∀ i, i < j → crAt ar ws cs i = true) ∧ ∃ s4 s5 s6 s7 s8 s9, fr s4 = true ∧ fr s5 = true ∧ fr s6 = true ∧ fr s7 = true ∧ fr s8 = true ∧ fr s9 = true ∧ e = [.fz (arD ar), .fz (wsD ws), .fz (.tup (cs.map oD)), s3, s4, s5, s6, s7, s8, s9]) ⟨(fun _ h => absurd h (Nat.not_lt_zero _)), _, _, _, _, _, _, rfl, rfl, rfl, rfl, rfl, rfl, rfl⟩ ?_ ?_
    · rintro j hjl e ⟨hj, s4, s5, s6, s7, s8, s9, f4, f5, f6, f7, f8, f9, rfl⟩
      obtain ⟨p, hxp⟩ : ∃ p, ar[j]? = some p := ⟨_, List.getElem?_eq_getElem hjl⟩
      obtain ⟨w, hxw, hwl⟩ := h.row hxp
      have hg := h.g p (List.mem_of_getElem? hxp)
      have hg2 := hg.2.2.1
      have ia := idx_ar hxp
      have iw : idxS (wsD ws) (.int j) = some (tupI w) := atI_map hxw
      have ip := idx_ost (cs := cs) (m := j) (by omega) (by omega)
      rw [Int.toNat_natCast] at ip
      have hat : crAt ar ws cs j = crOn cs (cs.getD j none) p w := by
        unfold crAt
        rw [List.getD_eq_getElem?_getD (l := ar), List.getD_eq_getElem?_getD (l := ws), hxp, hxw]
        rfl
      generalize hcj : cs.getD j none = c at ip hat
      have next : crOn cs c p w = true → ∀ i, i < j + 1 → crAt ar ws cs i = true := by
        intro ht i hi
        rcases Nat.lt_succ_iff_lt_or_eq.mp hi with hi | rfl
        · exact hj i hi
        · rw [hat]; exact ht
      have bad : crOn cs c p w = false → ¬ CrP ar ws (cs.map oD) := by
        rintro hf ⟨cs', e, h1, h2, h3⟩
        have := map_oD_inj e
        subst this
        have := h3 j hjl
        rw [hat, hf] at this
        cases this
      simp only [plD] at ia
      simp_arith! [f4]
      refine kt ?_
      simp_arith! [ia, f5, f6]
      refine kt ?_
      simp_arith! [ip]
      cases c with
      | none =>
        simp_arith! [oD]
        exact ⟨next rfl, _, _, _, _, _, _, rfl, rfl, rfl, f7, f8, f9, rfl⟩
      | some c =>
        simp_arith! [oD]
        refine kt ?_
        simp_arith! [f7]
        refine kt ?_
        simp_arith! []
        refine foR (fun t e => ∃ s8 s9, fr s8 = true ∧ fr s9 = true ∧ e = [.fz (arD ar), .fz (wsD ws), .fz (.tup (cs.map oD)), s3, .fz (.int (j : Nat)), .fz (.int p.1), .fz (.tup (p.2.map .int)), .ow false (.lst (((List.range t).map (goodAt cs c p w)).map .bl)), s8, s9]) ⟨_, _, f8, f9, rfl⟩ ?_ ?_
        · clear f8 f9 s8 s9
          rintro t ht e ⟨s8, s9, f8, f9, rfl⟩
          have hmm : p.2.getD t 0 ∈ p.2 := by
            rw [List.getD_eq_getElem?_getD, List.getElem?_eq_getElem ht]
            exact List.getElem_mem _
          have hm1 := hg.2.2.2 _ hmm
          have ix := idx_ost (cs := cs) (m := p.2.getD t 0) hm1.1 (by omega)
          have ig : goodAt cs c p w t = enB c (w.getD t 0) (cs.getD (p.2.getD t 0).toNat none) := rfl
          generalize cs.getD (p.2.getD t 0).toNat none = b at ix ig
          simp_arith! [f8]
          refine kt ?_
          simp_arith! [ix, f9]
          have hs : ((List.range (t + 1)).map (goodAt cs c p w)).map D.bl = ((List.range t).map (goodAt cs c p w)).map D.bl ++ [.bl (enB c (w.getD t 0) b)] := by
            rw [List.range_succ, List.map_append, List.map_append, ← ig]; rfl
          rw [hs]
          have ip' : idxS (.tup (cs.map oD)) (.int (j : Nat)) = some (.int c) := ip
          refine kt ?_
          cases b with
          | none =>
            simp_arith! [oD, enB]
            exact ⟨_, _, rfl, rfl, rfl⟩
          | some b =>
            simp_arith! [oD, enB, ip', iw, tupI]
            exact ⟨_, _, rfl, rfl, rfl⟩
        · clear f8 f9 s8 s9
          rintro e ⟨s8, s9, f8, f9, rfl⟩
          rw [goodL_eq hwl]
          have nx : ∀ {s8 s9}, fr s8 = true → fr s9 = true → crOn cs (some c) p w = true → (∀ i, i < j + 1 → crAt ar ws cs i = true) ∧ ∃ s4 s5 s6 s7 s8' s9', fr s4 = true ∧ fr s5 = true ∧ fr s6 = true ∧ fr s7 = true ∧ fr s8' = true ∧ fr s9' = true ∧ ([.fz (arD ar), .fz (wsD ws), .fz (.tup (cs.map oD)), s3, .fz (.int (j : Nat)), .fz (.int p.1), .fz (.tup (p.2.map .int)), .ow false (.lst ((goodL cs c p w).map .bl)), s8, s9] : List Sl) = [.fz (arD ar), .fz (wsD ws), .fz (.tup (cs.map oD)), s3, s4, s5, s6, s7, s8', s9'] :=
            fun f8 f9 ht => ⟨next ht, _, _, _, _, _, _, rfl, rfl, rfl, rfl, f8, f9, rfl⟩
          have a1 := any_t (goodL cs c p w)
          have a2 := any_f (goodL cs c p w)
          rcases hg.1 with h0 | h0
          · have ec : crOn cs (some c) p w = (goodL cs c p w).any id := by
              show (if p.1 = 0 then _ else _) = _
              rw [if_pos h0]
            rw [h0] at nx ⊢
            simp_arith! []
            refine kt ?_
            simp_arith! [in_bls, notin_bls, a1]
            refine ⟨fun hb => ?_, fun hb => ?_⟩
            · refine kt ?_
              simp_arith! []
              exact ⟨false, rfl, iff_f (bad (by rw [ec]; exact (hb.resolve_right fun z => absurd z.1 (by decide))))⟩
            · exact nx f8 f9 (by rw [ec]; exact hb.1)
          · have ec : crOn cs (some c) p w = (goodL cs c p w).all id := by
              show (if p.1 = 0 then _ else _) = _
              rw [if_neg (by omega)]
            have a3 : ((goodL cs c p w).any fun x => x == false) = !(goodL cs c p w).all id := by rw [← a2, Bool.not_not]
            rw [h0] at nx ⊢
            simp_arith! []
            refine kt ?_
            simp_arith! [in_bls, notin_bls, a3]
            refine ⟨fun hb => ?_, fun hb => ?_⟩
            · refine kt ?_
              simp_arith! []
              exact ⟨false, rfl, iff_f (bad (by rw [ec]; exact (hb.resolve_left fun z => absurd z.1 (by decide))))⟩
            · exact nx f8 f9 (by rw [ec]; exact hb.2)
    · rintro e ⟨hj, s4, s5, s6, s7, s8, s9, f4, f5, f6, f7, f8, f9, rfl⟩
      simp_arith! []
      refine kt ?_
      simp_arith! []
      exact ⟨true, rfl, Iff.intro (fun _ => ⟨cs, rfl, hcl, hnat, hj⟩) fun _ => rfl⟩
/-- 1 to m things, no two the same -/
theorem some2_ok (Δ : Tb) [A0 Δ] (k : Nat) (ds ts : List Int) (m : Int) (ht : 0 < ts.length) (hm : 0 < m ∧ m ≤ 1000) :
    Ev (callN Δ (k + 3) 9 [.ow true (LI ds), .fz (LI ts), .fz (.int m)]) fun z => ∃ rs ds', z = (.nw (LI rs), [.ow true (LI ds'), .fz (LI ts), .fz (.int m)]) ∧ 0 < rs.length ∧ (rs.length : Int) ≤ m ∧ (∀ x ∈ rs, x ∈ ts) ∧ rs.Nodup := by
  rw [fn9]
  have hp := pickOk Δ k
  have hk := takeOk Δ (k + 1)
  generalize callN Δ (k + 2) = cl at hp hk
  refine enter ⟨rfl, rfl⟩ ?_
  show Ev (evSs cl b9 [.ow true (LI ds), .fz (LI ts), .fz (.int m), .un, .un, .un]) _
  apply c_nx
  · simp -implicitDefEqProofs [evS, evE, evDs, stO, putS]
    rfl
  obtain ⟨r, ds1, h1, h2, h3⟩ := hk ds m hm.1
  apply c_ev
  refine s_fo (items := (List.range (1 + r).toNat).map fun k => .int (k : Nat)) (lk := []) (env1 := [.ow true (LI ds1), .fz (LI ts), .fz (.int m), .ow false (LI []), .un, .un]) ?_ ?_
  · simp -implicitDefEqProofs [evI, evB, evE, evBs, frz_v, frz_p, rd, rds, toArgs, toArg, lent, h1, backArgs, add_i, intD, rngS_ok (show 0 ≤ 1 + r ∧ 1 + r < 2 ^ 62 by omega)]
  refine fo_ind (fun i e => ∃ (ds fs : List Int) (s1 s2 : Sl), fr s1 = true ∧ fr s2 = true ∧ fs.length ≤ i ∧ (0 < i → 0 < fs.length) ∧ (∀ x ∈ fs, x ∈ ts) ∧ fs.Nodup ∧ e = [.ow true (LI ds), .fz (LI ts), .fz (.int m), .ow false (LI fs), s1, s2]) ?_ ?_ ⟨ds1, [], .un, .un, rfl, rfl, Nat.le_refl _, fun h => absurd h (Nat.lt_irrefl _), (fun x h => nomatch h), List.nodup_nil, rfl⟩
  · rintro i hi e ⟨ds, fs, s1, s2, f1, f2, hl, hne, hin, hnd, rfl⟩
    simp only [List.length_map, List.length_range] at hi
    refine ev_of (a := [.ow true (LI ds), .fz (LI ts), .fz (.int m), .ow false (LI fs), .fz (.int (i : Nat)), s2]) ?_ ?_
    · simp [T.put, putS_at, f1]
    obtain ⟨d, ds', h4, h5⟩ := hp ds (ts.map .int) (by simpa using ht)
    obtain ⟨t, h6, rfl⟩ := List.mem_map.mp h5
    apply c_nx
    · simp -implicitDefEqProofs [evS, evE, evBs, evB, frz_v, frz_p, toArgs, toArg, lent, h4, backArgs, stO, putS_at, f2]
      rfl
    apply c_one
    refine s_ifs (env1 := [.ow true (LI ds'), .fz (LI ts), .fz (.int m), .ow false (LI fs), .fz (.int (i : Nat)), .fz (.int t)]) (k := !decide (t ∈ fs)) ?_ (fun hk => ?_) (fun hk => ?_)
    · simp -implicitDefEqProofs [evC, evE, evB, frz_v, frz_p, rd, notin_ints]
    · have hz : (fs.map D.int).length < sizeLine := by have : sizeLine = 16777216 := rfl; simp; omega
      have hk : ¬ t ∈ fs := by simpa using hk
      apply c_nx
      · simp -implicitDefEqProofs [evS, evE, evDs, isOwL, esc, app_1 hz]
        rfl
      apply c_nil
      refine ⟨ds', fs ++ [t], .fz (.int (i : Nat)), .fz (.int t), rfl, rfl, by simp; omega, fun _ => by simp, fun x hx => ?_, ?_, by simp⟩
      · rcases List.mem_append.mp hx with hx | hx
        · exact hin x hx
        · simp at hx; subst hx; exact h6
      · refine List.nodup_append.mpr ⟨hnd, by simp, fun a ha b hb => ?_⟩
        simp at hb
        subst hb
        rintro rfl
        exact hk ha
    · apply c_nil
      have hk : t ∈ fs := by simpa using hk
      exact ⟨ds', fs, .fz (.int (i : Nat)), .fz (.int t), rfl, rfl, by omega, fun _ => List.length_pos_of_mem hk, hin, hnd, rfl⟩
  · rintro e ⟨ds, fs, s1, s2, f1, f2, hl, hne, hin, hnd, rfl⟩
    simp only [List.length_map, List.length_range] at hl hne
    show Ev (evSs cl _ _) _
    apply c_rt
    · simp -implicitDefEqProofs [evS, evE, evBs, evB, frz_p, rd, rds, unlock, bl_sorted, retO]
      exact ⟨rfl, rfl⟩
    · have hp := List.mergeSort_perm fs (fun a b => decide (a ≤ b))
      refine ⟨_, rfl, fs.mergeSort (fun a b => decide (a ≤ b)), ds, by simp [finA], ?_, ?_, fun x hx => hin x (hp.mem_iff.mp hx), hp.nodup_iff.mpr hnd⟩
      · rw [hp.length_eq]; exact hne (by omega)
      · rw [hp.length_eq]; omega
/-- a place of at most m moves, no two the same -/
def GoodM (n m : Int) (p : Int × List Int) : Prop := GoodP n p ∧ (p.2.length : Int) ≤ m ∧ p.2.Nodup
theorem arena2_ok (Δ : Tb) [A0 Δ] (k : Nat) (ds : List Int) (n m : Int) (hn : 0 < n ∧ n ≤ 1000) (hm : 0 < m ∧ m ≤ 1000) :
    Ev (callN Δ (k + 4) 10 [.ow true (LI ds), .fz (.int n), .fz (.int m)]) fun z => ∃ ar ds', z = (.v (arD ar), [.ow true (LI ds'), .fz (.int n), .fz (.int m)]) ∧ (ar.length : Int) = n ∧ ∀ p ∈ ar, GoodM n m p := by
  have hk := take_ev Δ (k + 2)
  have hs := some2_ok Δ k
  rw [fn10]
  generalize callN Δ (k + 3) = cl at hk hs
  walk_at "in"
  refine kt ?_
  simp_arith! []
  refine lcR (fun i acc e => ∃ (ar : List (Int × List Int)) (ds : List Int), ar.length = i ∧ acc = ar.map plD ∧ e = [.ow true (LI ds), .fz (.int n), .fz (.int m), .un] ∧ ∀ p ∈ ar, GoodM n m p) ⟨[], ds, rfl, rfl, rfl, fun p h => nomatch h⟩ ?_ ?_
  · rintro i hi acc e ⟨ar, ds, hl, rfl, rfl, hg⟩
    simp_arith! []
    refine ev_mono (hk ds 2 (by omega)) ?_
    rintro _ ⟨r, ds, rfl, hr0, hr1⟩
    simp_arith! []
    have h9 := hs ds ((List.range n.toNat).map fun k : Nat => (k : Int)) m (by simp; omega) hm
    simp only [LI] at h9
    rw [← rng_ints] at h9
    refine ev_mono h9 ?_
    rintro _ ⟨rs, ds, rfl, h0, h1, h2, h3⟩
    simp_arith! [LI]
    refine ⟨ar ++ [(r, rs)], ds, by simp [hl], by simp [plD], rfl, fun p hp => ?_⟩
    rcases List.mem_append.mp hp with hp | hp
    · exact hg p hp
    · simp at hp
      subst hp
      refine ⟨⟨by show r = 0 ∨ r = 1; omega, h0, by show rs.length ≤ 1000; omega, fun x hx => ?_⟩, h1, h3⟩
      have := h2 x hx
      simp at this
      obtain ⟨a, ha, rfl⟩ := this
      omega
  · rintro acc e ⟨ar, ds, hl, rfl, rfl, hg⟩
    simp_arith! []
    exact ⟨by omega, ar, ds, rfl, by omega, hg⟩
theorem pow_15' : binS .Pow (.int 10) (.int 15) = some (.v (.int 1000000000000000)) := pow_15
theorem mw_ok (Δ : Tb) [A0 Δ] [A3 Δ] (k : Nat) (ds : List Int) :
    Ev (callN Δ (k + 3) 53 [.ow true (LI ds)]) fun z => ∃ w ds', z = (.v (.int w), [.ow true (LI ds')]) := by
  have h5 := take_ev Δ (k + 1)
  have h6 := pick_ev Δ k
  rw [fn53]
  generalize callN Δ (k + 2) = cl at h5 h6
  walk_at "in"
  refine kt ?_
  simp_arith! []
  refine ev_mono (h5 ds 11 (by omega)) ?_
  rintro _ ⟨r, ds, rfl, hr0, hr1⟩
  simp_arith! []
  refine kt ?_
  simp_arith! []
  refine ev_mono (h5 ds 10 (by omega)) ?_
  rintro _ ⟨q, ds, rfl, hq0, hq1⟩
  simp_arith! []
  refine ⟨fun _ => ?_, fun _ => ?_⟩
  · refine kt ?_
    simp_arith! []
    exact ⟨_, _, rfl⟩
  · refine kt ?_
    simp_arith! [pow_15']
    refine ev_mono (h6 ds _ (by simp)) ?_
    rintro _ ⟨d, ds, rfl, hd⟩
    obtain ⟨w, rfl⟩ : ∃ w, d = .int w := by
      simp only [List.mem_cons, List.not_mem_nil, or_false] at hd
      rcases hd with rfl | rfl | rfl | rfl <;> exact ⟨_, rfl⟩
    simp_arith! []
    exact ⟨_, _, rfl⟩
theorem mws_ok (Δ : Tb) [A0 Δ] [A3 Δ] (k : Nat) (ds : List Int) (ar : List (Int × List Int)) (ha : ar.length ≤ 1000) (hp2 : ∀ p ∈ ar, p.2.length ≤ 1000) :
    Ev (callN Δ (k + 4) 54 [.ow true (LI ds), .fz (arD ar)]) fun z => ∃ (ws : List (List Int)) (ds' : List Int), z = (.v (wsD ws), [.ow true (LI ds'), .fz (arD ar)]) ∧ Fits ar ws := by
  have h53 := mw_ok Δ k
  rw [fn54]
  generalize callN Δ (k + 3) = cl at h53
  walk_at "in"
  refine kt ?_
  simp_arith! [ar_items]
  refine lcM (fun i acc e => ∃ (ws : List (List Int)) (ds : List Int), ws.length = i ∧ (∀ (j : Nat) p w, ar[j]? = some p → ws[j]? = some w → w.length = p.2.length) ∧ acc = ws.map tupI ∧ e = [.ow true (LI ds), .fz (arD ar), .un, .un]) ⟨[], ds, rfl, (fun j p w _ h => by simp at h), rfl, rfl⟩ ?_ ?_
  · rintro i p hpi acc e ⟨ws, ds, hl, hw, rfl, rfl⟩
    have hlen := hp2 p (List.mem_of_getElem? hpi)
    simp only [plD]
    have i1 : idxS (.tup [.int p.1, .tup (p.2.map .int)]) (.int 1) = some (.tup (p.2.map .int)) := rfl
    simp_arith! [i1]
    refine lcM (fun i acc e => ∃ (rs : List Int) (ds : List Int), rs.length = i ∧ acc = rs.map .int ∧ e = [.ow true (LI ds), .fz (arD ar), .fz (.tup [.int p.1, .tup (p.2.map .int)]), .un]) ⟨[], ds, rfl, rfl, rfl⟩ ?_ ?_
    · rintro m x hx acc e ⟨rs, ds, hr, rfl, rfl⟩
      simp_arith! []
      refine ev_mono (h53 ds) ?_
      rintro _ ⟨w, ds, rfl⟩
      simp_arith! []
      exact ⟨rs ++ [w], ds, by simp [hr], by simp, rfl⟩
    · rintro acc e ⟨rs, ds, hr, rfl, rfl⟩
      simp_arith! []
      refine ⟨by omega, ws ++ [rs], ds, by simp [hl], fun j p' w h1 h2 => ?_, by simp [tupI], rfl⟩
      rcases Nat.lt_or_ge j ws.length with hj | hj
      · rw [List.getElem?_append_left hj] at h2
        exact hw j p' w h1 h2
      · rw [List.getElem?_append_right hj] at h2
        have : j - ws.length = 0 := by
          rcases Nat.eq_zero_or_pos (j - ws.length) with h | h
          · exact h
          · rw [List.getElem?_eq_none (by simp; omega)] at h2; cases h2
        have hji : j = i := by omega
        subst hji
        rw [this] at h2
        simp at h2
        subst h2
        rw [hpi] at h1
        cases h1
        exact hr
  · rintro acc e ⟨ws, ds, hl, hw, rfl, rfl⟩
    simp_arith! []
    exact ⟨by omega, ws, ds, rfl, hl, hw⟩
def chW (f m : Int) (ws : List (List Int)) : List (List Int) := ws.map fun w => w.map fun x => f * x + m
theorem changed_ok (Δ : Tb) [A3 Δ] (k : Nat) (ws : List (List Int)) (f m : Int) (hf : -(2 ^ 64) < f ∧ f < 2 ^ 64) (hl : ws.length ≤ 1000) (hw : ∀ w ∈ ws, w.length ≤ 1000) :
    callN Δ (k + 1) 55 [.fz (wsD ws), .fz (.int f), .fz (.int m)] = some (.v (wsD (chW f m ws)), [.fz (wsD ws), .fz (.int f), .fz (.int m)]) := by
  refine eq_of ?_
  rw [fn55]
  generalize callN Δ k = cl
  walk_at "in"
  refine kt ?_
  simp_arith! [wsD]
  refine lcH tupI (fun w : List Int => w.map fun x => f * x + m) (fun w hwm => ?_) ?_
  · have := hw w hwm
    simp only [tupI]
    simp_arith! []
    refine lcH D.int (fun x : Int => f * x + m) (fun x _ => ?_) ?_
    · have e : binS .Mult (.int f) (.int x) = some (.v (.int (f * x))) := mul_l1 hf.1 hf.2
      simp_arith! [e]
    · simp_arith! []
      omega
  · simp_arith! []
    exact ⟨by omega, rfl⟩
def moreC (m : Int) (cs : Cs) : Cs := cs.map fun x => x.map (· + m)
theorem more_ok (Δ : Tb) [A3 Δ] (k : Nat) (cs : Cs) (m : Int) (hl : cs.length ≤ 1000) :
    callN Δ (k + 1) 60 [.fz (.tup (cs.map oD)), .fz (.int m)] = some (.v (.tup ((moreC m cs).map oD)), [.fz (.tup (cs.map oD)), .fz (.int m)]) := by
  refine eq_of ?_
  rw [fn60]
  generalize callN Δ k = cl
  walk_at "in"
  refine kt ?_
  simp_arith! []
  refine kt ?_
  simp_arith! []
  refine foM (fun i e => ∃ s3, fr s3 = true ∧ e = [.fz (.tup (cs.map oD)), .fz (.int m), .ow false (.lst ((moreC m (cs.take i)).map oD)), s3]) ⟨_, rfl, rfl⟩ ?_ ?_
  · rintro i x hx e ⟨s3, f3, rfl⟩
    have hi : i < cs.length := (List.getElem?_eq_some_iff.mp hx).1
    have ht : cs.take (i + 1) = cs.take i ++ [x] := by rw [List.take_add_one, hx]; rfl
    have hlt : (moreC m (cs.take i)).length ≤ i := by simp [moreC]; omega
    rw [ht]
    have hm : (moreC m (cs.take i ++ [x])).map oD = (moreC m (cs.take i)).map oD ++ [oD (x.map (· + m))] := by
      unfold moreC
      rw [List.map_append, List.map_append]; rfl
    rw [hm]
    simp_arith! [f3]
    refine kt ?_
    cases x with
    | none =>
      simp_arith! [oD]
      refine kt ?_
      simp_arith! []
      exact ⟨_, rfl, rfl⟩
    | some x =>
      simp_arith! [oD]
      refine kt ?_
      simp_arith! []
      exact ⟨_, rfl, rfl⟩
  · rintro e ⟨s3, f3, rfl⟩
    rw [List.take_length]
    simp_arith! []
    refine kt ?_
    have hlt : (moreC m cs).length ≤ 1000 := by simp [moreC]; omega
    simp_arith! []
/-- rows of no truth values -/
structure RowN (es : List D) : Prop where
  e : ∀ d ∈ es, noB d = true
  n : es.length ≤ 1000
theorem RowN.set {es : List D} (h : RowN es) {j : Nat} {d : D} (hd : noB d = true) : RowN (es.set j d) :=
  ⟨fun x hx => by
    rcases List.mem_or_eq_of_mem_set hx with hx | rfl
    · exact h.e x hx
    · exact hd, by rw [List.length_set]; exact h.n⟩
theorem oD_noB (x : Option Int) : noB (oD x) = true := by cases x <;> rfl
theorem RowN.cs {cs : Cs} (h : cs.length ≤ 1000) : RowN (cs.map oD) :=
  ⟨fun d hd => by obtain ⟨x, _, rfl⟩ := List.mem_map.mp hd; exact oD_noB x, by simpa using h⟩
theorem miss2_ok (Δ : Tb) [A1 Δ] (k : Nat) (es : List D) (h : RowN es) (h0 : 0 < es.length) (h1 : es.length ≤ 900) :
    Ev (callN Δ (k + 2) 26 [.fz (.tup es)]) fun z => ∃ rows : List (List D), z = (.nw (.lst (rows.map .tup)), [.fz (.tup es)]) ∧ rows.length = 5 ∧ ∀ r ∈ rows, RowN r := by
  have h25 := put_ok Δ k
  rw [fn26]
  generalize callN Δ (k + 1) = cl at h25
  walk_at "in"
  refine kt ?_
  simp_arith! []
  have hj0 : 0 ≤ (es.length : Int) / 2 := by omega
  have hj1 : (es.length : Int) / 2 < es.length := by omega
  generalize (es.length : Int) / 2 = j at hj0 hj1
  obtain ⟨d, hd⟩ : ∃ d, es[j.toNat]? = some d := ⟨_, List.getElem?_eq_getElem (by omega)⟩
  have ip := idx_tupD hd
  rw [show ((j.toNat : Nat) : Int) = j by omega] at ip
  have e1 := h25 es j (.tup [d]) hj0 hj1 (by omega)
  have un1 : unS .USub (.int 1) = some (.int (-1)) := rfl
  refine kt ?_
  simp_arith! [sl_tup, un1, cut_m1, cut_hi (show (0 : Int) ≤ 1 by decide), ip, e1, add_tup1 (show es.length + (es.take (1 : Int).toNat).length ≤ 16777216 by simp; omega)]
  refine ⟨[[], es.dropLast, es ++ es.take 1, [.tup es], es.set j.toNat (.tup [d])], rfl, rfl, fun r hr => ?_⟩
  simp only [List.mem_cons, List.not_mem_nil, or_false] at hr
  rcases hr with rfl | rfl | rfl | rfl | rfl
  · exact ⟨(fun _ hx => nomatch hx), by simp⟩
  · exact ⟨fun x hx => h.e x (by rw [List.dropLast_eq_take] at hx; exact List.mem_of_mem_take hx), by simp; omega⟩
  · exact ⟨fun x hx => by
      rcases List.mem_append.mp hx with hx | hx
      · exact h.e x hx
      · exact h.e x (List.mem_of_mem_take hx), by simp; omega⟩
  · exact ⟨fun x hx => by simp only [List.mem_singleton] at hx; subst hx; rfl, by simp⟩
  · exact h.set rfl
theorem putC_ok (Δ : Tb) [A1 Δ] (k : Nat) (cs : Cs) (j : Int) (x : Option Int) (h0 : 0 ≤ j) (h : j < cs.length) (hl : cs.length ≤ 1000) :
    callN Δ (k + 1) 25 [.fz (.tup (cs.map oD)), .fz (.int j), .fz (oD x)] = some (.v (.tup ((cs.set j.toNat x).map oD)), [.fz (.tup (cs.map oD)), .fz (.int j), .fz (oD x)]) := by
  have := put_ok Δ k (cs.map oD) j (oD x) h0 (by simpa using h) (by simp; omega)
  rw [this, List.map_set]
theorem pick_int {cl : CallF} (h6 : ∀ (ds : List Int) (xs : List D), 0 < xs.length → Ev (cl 6 [.ow true (LI ds), .fz (.lst xs)]) fun z => ∃ d ds', z = (.v d, [.ow true (LI ds'), .fz (.lst xs)]) ∧ d ∈ xs)
    (ds : List Int) (xs : List D) (h0 : 0 < xs.length) (hx : ∀ d ∈ xs, ∃ w, d = D.int w) : Ev (cl 6 [.ow true (LI ds), .fz (.lst xs)]) fun z => ∃ w ds', z = (.v (.int w), [.ow true (LI ds'), .fz (.lst xs)]) ∧ D.int w ∈ xs := by
  refine ev_mono (h6 ds xs h0) ?_
  rintro _ ⟨d, ds, rfl, hd⟩
  obtain ⟨w, rfl⟩ := hx d hd
  exact ⟨w, ds, rfl, hd⟩
set_option maxHeartbeats 0 in
theorem numbers_ok (Δ : Tb) [A0 Δ] [A1 Δ] [A3 Δ] (k : Nat) (ds : List Int) (cs : Cs) (n : Int) (h0 : 0 < cs.length) (h1 : cs.length ≤ 1000) :
    Ev (callN Δ (k + 3) 52 [.ow true (LI ds), .fz (.tup (cs.map oD)), .fz (.int n)]) fun z => ∃ (cs' : Cs) (ds' : List Int), z = (.v (.tup (cs'.map oD)), [.ow true (LI ds'), .fz (.tup (cs.map oD)), .fz (.int n)]) ∧ cs'.length = cs.length := by
  have h25 := putC_ok Δ (k + 1)
  have h5 := take_ev Δ (k + 1)
  have h6 := pick_ev Δ k
  rw [fn52]
  generalize callN Δ (k + 2) = cl at h25 h5 h6
  replace h6 := pick_int h6
  walk_at "in"
  refine kt ?_
  simp_arith! []
  refine ev_mono (h5 ds cs.length (by omega)) ?_
  rintro _ ⟨a, ds, rfl, ha0, ha1⟩
  simp_arith! []
  refine kt ?_
  simp_arith! []
  refine ev_mono (h5 ds cs.length (by omega)) ?_
  rintro _ ⟨b, ds, rfl, hb0, hb1⟩
  simp_arith! []
  refine kt ?_
  simp_arith! []
  refine ev_mono (h5 ds 8 (by omega)) ?_
  rintro _ ⟨c, ds, rfl, hc0, hc1⟩
  have ia := idx_ost (cs := cs) (m := a) ha0 ha1
  have ib := idx_ost (cs := cs) (m := b) hb0 hb1
  generalize cs.getD a.toNat none = xa at ia
  generalize cs.getD b.toNat none = xb at ib
  have pA := fun x => h25 cs a x ha0 ha1 h1
  have pB := fun x y => h25 (cs.set a.toNat x) b y hb0 (by rw [List.length_set]; exact hb1) (by rw [List.length_set]; exact h1)
  have pn := pA none
  have pi := fun i => pA (some i)
  simp only [oD] at pn pi
  simp_arith! []
  refine kt ?_
  simp_arith! []
  refine ⟨fun _ => ?_, fun _ => ?_⟩
  · refine kt ?_
    simp_arith! [pn]
    exact ⟨_, _, rfl, by simp⟩
  refine kt ?_
  simp_arith! []
  refine ⟨fun _ => ?_, fun _ => ?_⟩
  · refine kt ?_
    simp_arith! []
    refine ev_mono (h6 ds _ (by simp) (by intro d hd; simp at hd; rcases hd with rfl | rfl | rfl <;> exact ⟨_, rfl⟩)) ?_
    rintro _ ⟨w, ds, rfl, _⟩
    simp_arith! [pi]
    exact ⟨_, _, rfl, by simp⟩
  refine kt ?_
  simp_arith! []
  refine ⟨fun _ => ?_, fun _ => ?_⟩
  · refine kt ?_
    have e1 := pA xb
    have e2 := pB xb xa
    simp_arith! [ib, e1, ia, e2]
    exact ⟨_, _, rfl, by simp⟩
  refine kt ?_
  simp_arith! []
  refine ⟨fun _ => ?_, fun _ => ?_⟩
  · refine kt ?_
    have e1 := pA xb
    simp_arith! [ib, e1]
    exact ⟨_, _, rfl, by simp⟩
  refine kt ?_
  cases xa with
  | none =>
    simp_arith! [ia, oD]
    refine kt ?_
    simp_arith! [pow_20]
    refine ev_mono (h6 ds _ (by simp) (by intro d hd; simp at hd; rcases hd with rfl | rfl | rfl | rfl <;> exact ⟨_, rfl⟩)) ?_
    rintro _ ⟨w, ds, rfl, _⟩
    simp_arith! [pi]
    exact ⟨_, _, rfl, by simp⟩
  | some x =>
    simp_arith! [ia, oD]
    refine kt ?_
    simp_arith! [ia, oD, pow_20]
    refine ev_mono (h6 ds _ (by simp) (by intro d hd; simp at hd; rcases hd with rfl | rfl | rfl <;> exact ⟨_, rfl⟩)) ?_
    rintro _ ⟨w, ds, rfl, _⟩
    simp_arith! [pi]
    exact ⟨_, _, rfl, by simp⟩
theorem ext_n {xs ys : List D} (h : xs.length + ys.length ≤ 16777216) : mthS .extend xs [.lst ys] = some (.non, xs ++ ys) := by
  have hs : sizeLine = 16777216 := rfl
  simp only [mthS]
  rw [if_pos (by rw [hs]; exact h)]
/-- a rule: the moves of one side, None elsewhere -/
def rD (r : Cs) : D := .tup (r.map oD)
def goalsOf (sd : Int) (p : Int × List Int) : Cs := if p.1 = sd then p.2.map some else [none]
def growOne (gs : Cs) (r : Cs) : List Cs := gs.map fun g => r ++ [g]
def growR (sd : Int) (R : List Cs) (p : Int × List Int) : List Cs := R.flatMap (growOne (goalsOf sd p))
def rulesF (sd : Int) (ar : List (Int × List Int)) : List Cs := ar.foldl (growR sd) [[]]
theorem rules_snoc {sd : Int} {ar : List (Int × List Int)} {p : Int × List Int} : rulesF sd (ar ++ [p]) = growR sd (rulesF sd ar) p := by
  unfold rulesF
  rw [List.foldl_append]; rfl
theorem take_snoc {α : Type} {l : List α} {i : Nat} {p : α} (h : l[i]? = some p) : l.take (i + 1) = l.take i ++ [p] := by
  rw [List.take_add_one, h]; rfl
theorem grow_len {gs : Cs} : ∀ (R : List Cs), (R.flatMap (growOne gs)).length = R.length * gs.length
  | [] => by simp
  | r :: R => by
    rw [List.flatMap_cons, List.length_append, grow_len R, List.length_cons, Nat.succ_mul]
    simp [growOne]
    omega
theorem rules_to {sd : Int} {ar : List (Int × List Int)} : ∀ i, i ≤ ar.length → ∀ r ∈ rulesF sd (ar.take i), r.length = i ∧ ∀ j p, j < i → ar[j]? = some p → ∃ g ∈ goalsOf sd p, r[j]? = some g
  | 0, _, r, h => by
    simp [rulesF] at h
    subst h
    exact ⟨rfl, fun j p hj => absurd hj (Nat.not_lt_zero _)⟩
  | i + 1, hi, r, h => by
    have hp : ar[i]? = some ar[i] := List.getElem?_eq_getElem hi
    generalize ar[i] = p at hp
    rw [take_snoc hp, rules_snoc] at h
    unfold growR growOne at h
    rw [List.mem_flatMap] at h
    obtain ⟨r', h1, h2⟩ := h
    obtain ⟨g, hg, rfl⟩ := List.mem_map.mp h2
    obtain ⟨h3, h4⟩ := rules_to i (by omega) r' h1
    refine ⟨by simp [h3], fun j q hj hq => ?_⟩
    rcases Nat.lt_succ_iff_lt_or_eq.mp hj with hj | rfl
    · obtain ⟨g', hg', e⟩ := h4 j q hj hq
      exact ⟨g', hg', by rw [List.getElem?_append_left (by omega)]; exact e⟩
    · rw [hp] at hq
      cases hq
      exact ⟨g, hg, by rw [List.getElem?_append_right (by omega), h3, Nat.sub_self]; rfl⟩
theorem rules_le {sd : Int} {ar : List (Int × List Int)} {m : Nat} (hm : 1 ≤ m) (hg : ∀ p ∈ ar, p.2.length ≤ m) : ∀ i, i ≤ ar.length → (rulesF sd (ar.take i)).length ≤ m ^ i
  | 0, _ => by simp [rulesF]
  | i + 1, hi => by
    have hp : ar[i]? = some ar[i] := List.getElem?_eq_getElem hi
    generalize ar[i] = p at hp
    rw [take_snoc hp, rules_snoc]
    unfold growR
    rw [grow_len, Nat.pow_succ]
    have h1 := rules_le (sd := sd) hm hg i (by omega)
    have h2 := hg p (List.mem_of_getElem? hp)
    refine Nat.mul_le_mul h1 ?_
    unfold goalsOf
    split
    · simpa using h2
    · simpa using hm
set_option maxHeartbeats 0 in
theorem rules_ok (Δ : Tb) [A3 Δ] (k : Nat) (ar : List (Int × List Int)) (sd : Int) (hg : ∀ p ∈ ar, p.2.length ≤ 1000) (hb : ∀ i, i ≤ ar.length → (rulesF sd (ar.take i)).length ≤ 100000) (hn : ar.length ≤ 1000) (h0 : 0 < ar.length) :
    callN Δ (k + 1) 51 [.fz (arD ar), .fz (.int sd)] = some (.v (.lst ((rulesF sd ar).map rD)), [.fz (arD ar), .fz (.int sd)]) := by
  refine eq_of ?_
  rw [fn51]
  generalize callN Δ k = cl
  walk_at "in"
  refine kt ?_
  simp_arith! []
  refine kt ?_
  simp_arith! [ar_items]
  refine foM (fun i e => ∃ s2 s3 s4 s5 s6, (s2 = (if i = 0 then Sl.ow false (.lst ((rulesF sd (ar.take i)).map rD)) else .fz (.lst ((rulesF sd (ar.take i)).map rD)))) ∧ fr s3 = true ∧ fr s4 = true ∧ fr s5 = true ∧ fr s6 = true ∧ e = [.fz (arD ar), .fz (.int sd), s2, s3, s4, s5, s6, .un]) ⟨_, _, _, _, _, rfl, rfl, rfl, rfl, rfl, rfl⟩ ?_ ?_
  · rintro i p hpi e ⟨s2, s3, s4, s5, s6, h2, f3, f4, f5, f6, rfl⟩
    have hi : i < ar.length := (List.getElem?_eq_some_iff.mp hpi).1
    have hgp := hg p (List.mem_of_getElem? hpi)
    have hb1 := hb (i + 1) hi
    have hgl : (goalsOf sd p).length ≤ 1000 := by
      unfold goalsOf
      split
      · simpa using hgp
      · simp
    rw [if_neg (Nat.succ_ne_zero i)]
    rw [take_snoc hpi, rules_snoc] at hb1 ⊢
    have hrl : ∀ r ∈ rulesF sd (ar.take i), r.length ≤ 1000 := fun r hr => by
      have := (rules_to (sd := sd) (ar := ar) i (by omega) r hr).1
      omega
    generalize rulesF sd (ar.take i) = R at h2 hb1 hrl
    have ip0 : idxS (plD p) (.int 0) = some (.int p.1) := rfl
    have ip1 : idxS (plD p) (.int 1) = some (.tup (p.2.map .int)) := rfl
    have key : Ev (evSs cl b51_4 [.fz (arD ar), .fz (.int sd), s2, .fz (plD p), .fz (.tup ((goalsOf sd p).map oD)), s5, s6, .un]) fun fl => ∃ s6, fr s6 = true ∧ fl = .nx [.fz (arD ar), .fz (.int sd), .fz (.lst ((growR sd R p).map rD)), .fz (plD p), .fz (.tup ((goalsOf sd p).map oD)), .fz (.lst ((growR sd R p).map rD)), s6, .un] := by
      unfold growR at hb1 ⊢
      generalize goalsOf sd p = gs at hb1 hgl
      have hpre : ∀ j, ((R.take j).flatMap (growOne gs)).length ≤ 100000 := fun j => by
        rw [grow_len] at hb1 ⊢
        refine Nat.le_trans (Nat.mul_le_mul_right _ ?_) hb1
        rw [List.length_take]
        omega
      have body : ∀ s2', FoE cl (.nm 6) b51_1 (R.map rD) [.fz (arD ar), .fz (.int sd), s2', .fz (plD p), .fz (.tup (gs.map oD)), .ow false (.lst []), s6, .un] fun fl => ∃ s6, fr s6 = true ∧ fl = .nx [.fz (arD ar), .fz (.int sd), s2', .fz (plD p), .fz (.tup (gs.map oD)), .ow false (.lst ((R.flatMap (growOne gs)).map rD)), s6, .un] := by
        intro s2'
        refine foM (fun j e => ∃ s6, fr s6 = true ∧ e = [.fz (arD ar), .fz (.int sd), s2', .fz (plD p), .fz (.tup (gs.map oD)), .ow false (.lst (((R.take j).flatMap (growOne gs)).map rD)), s6, .un]) ⟨_, f6, rfl⟩ ?_ ?_
        · rintro j r hr e ⟨s6, f6, rfl⟩
          have hrr := hrl r (List.mem_of_getElem? hr)
          have h1 := hpre j
          simp only [rD]
          simp_arith! [f6]
          refine kt ?_
          simp_arith! []
          refine lcH rD (fun g => r ++ [g]) (fun g _ => ?_) ?_
          · simp_arith! [rD]
            rw [List.map_append]; rfl
          have e1 : mthS .extend (((R.take j).flatMap (growOne gs)).map rD) [.lst ((gs.map fun g => r ++ [g]).map rD)] = some (.non, ((R.take j).flatMap (growOne gs)).map rD ++ (gs.map fun g => r ++ [g]).map rD) := ext_n (by simp only [List.length_map]; omega)
          simp_arith! [e1]
          refine ⟨by omega, .fz (.tup (r.map oD)), rfl, ?_⟩
          rw [take_snoc hr, List.flatMap_append, List.map_append, List.flatMap_singleton]
          rfl
        · rintro e ⟨s6, f6, rfl⟩
          rw [List.take_length]
          exact ⟨_, f6, rfl⟩
      refine kt ?_
      simp_arith! [f5]
      have h2' : s2 = .ow false (.lst (R.map rD)) ∨ s2 = .fz (.lst (R.map rD)) := by
        by_cases hz : i = 0
        · rw [if_pos hz] at h2; exact .inl h2
        · rw [if_neg hz] at h2; exact .inr h2
      rcases h2' with rfl | rfl
      · refine kt ?_
        simp_arith! []
        refine ev_mono (body _) ?_
        rintro _ ⟨s6, f6, rfl⟩
        simp_arith! []
        refine kt ?_
        simp_arith! []
        exact ⟨_, f6, rfl⟩
      · refine kt ?_
        simp_arith! []
        refine ev_mono (body _) ?_
        rintro _ ⟨s6, f6, rfl⟩
        simp_arith! []
        refine kt ?_
        simp_arith! []
        exact ⟨_, f6, rfl⟩
    simp_arith! [f3]
    refine kt ?_
    simp_arith! [f4]
    refine kt ?_
    simp_arith! [ip0]
    refine ⟨fun hs => ?_, fun hs => ?_⟩
    · refine kt ?_
      simp_arith! [ip1]
      have eg : p.2.map D.int = (goalsOf sd p).map oD := by
        unfold goalsOf
        rw [if_pos hs, List.map_map]; rfl
      rw [eg]
      refine ev_mono key ?_
      rintro _ ⟨s6, f6, rfl⟩
      exact ⟨_, _, _, _, _, rfl, rfl, rfl, rfl, f6, rfl⟩
    · have eg : ([.non] : List D) = (goalsOf sd p).map oD := by
        unfold goalsOf
        rw [if_neg hs]; rfl
      rw [eg]
      refine ev_mono key ?_
      rintro _ ⟨s6, f6, rfl⟩
      exact ⟨_, _, _, _, _, rfl, rfl, rfl, rfl, f6, rfl⟩
  · rintro e ⟨s2, s3, s4, s5, s6, h2, f3, f4, f5, f6, rfl⟩
    rw [List.take_length, if_neg (by omega)] at h2
    subst h2
    simp_arith! []
    refine kt ?_
    simp_arith! []
abbrev St := List (Int × Int)
def stD (st : St) : D := .lst (st.map prD)
def stepsOf (sd : Int) (g : Option Int) (p : Int × List Int) (w : List Int) : St := if p.1 = sd then (p.2.zip w).filter (fun q => g == some q.1) else p.2.zip w
def stAt (ar : List (Int × List Int)) (ws : List (List Int)) (sd : Int) (r : Cs) (i : Nat) : St := stepsOf sd (r.getD i none) (ar.getD i (0, [])) (ws.getD i [])
def stepsL (ar : List (Int × List Int)) (ws : List (List Int)) (sd : Int) (r : Cs) : List St := (List.range ar.length).map (stAt ar ws sd r)
theorem zip_range {a b : List Int} (h : b.length = a.length) : (List.range a.length).map (fun t => (a.getD t 0, b.getD t 0)) = a.zip b := by
  apply List.ext_getElem?
  intro i
  rw [List.getElem?_map, List.zip_eq_zipWith, List.getElem?_zipWith]
  by_cases hi : i < a.length
  · rw [List.getElem?_range hi, List.getElem?_eq_getElem hi, List.getElem?_eq_getElem (show i < b.length by omega)]
    simp [hi, h]
  · rw [List.getElem?_eq_none (show a.length ≤ i by omega), List.getElem?_eq_none (show (List.range a.length).length ≤ i by simpa using hi)]
    rfl
theorem eq_io {x : Int} {g : Option Int} : cmpS .Eq (.int x) (oD g) = some (g == some x) := by
  cases g with
  | none => rfl
  | some y =>
    have : cmpS .Eq (.int x) (.int y) = some (decide (x = y)) := eq_int
    show cmpS .Eq (.int x) (.int y) = _
    rw [this]
    congr 1
    by_cases h : x = y
    · subst h; simp
    · have : ¬ y = x := fun z => h z.symm
      simp [h, this]
set_option maxHeartbeats 0 in
theorem wsteps_ok (Δ : Tb) [A3 Δ] (k : Nat) (ar : List (Int × List Int)) (ws : List (List Int)) (sd : Int) (r : Cs) (h : Okay ar ws) (hr : r.length = ar.length) :
    callN Δ (k + 1) 57 [.fz (arD ar), .fz (wsD ws), .fz (.int sd), .fz (rD r)] = some (.nw (.lst ((stepsL ar ws sd r).map stD)), [.fz (arD ar), .fz (wsD ws), .fz (.int sd), .fz (rD r)]) := by
  refine eq_of ?_
  rw [fn57]
  generalize callN Δ k = cl
  have hn := h.n
  walk_at "in"
  refine kt ?_
  simp_arith! []
  refine kt ?_
  simp_arith! [ar_len]
  refine foR (fun i e => ∃ s5 s6 s7, fr s5 = true ∧ fr s6 = true ∧ fr s7 = true ∧ e = [.fz (arD ar), .fz (wsD ws), .fz (.int sd), .fz (rD r), .ow false (.lst (((List.range i).map (stAt ar ws sd r)).map stD)), s5, s6, s7, .un, .un]) ⟨_, _, _, rfl, rfl, rfl, rfl⟩ ?_ ?_
  · rintro i hi e ⟨s5, s6, s7, f5, f6, f7, rfl⟩
    obtain ⟨p, hxp⟩ : ∃ p, ar[i]? = some p := ⟨_, List.getElem?_eq_getElem hi⟩
    obtain ⟨w, hxw, hwl⟩ := h.row hxp
    have hg := h.g p (List.mem_of_getElem? hxp)
    have hg2 := hg.2.2.1
    have ia := idx_ar hxp
    have iw : idxS (wsD ws) (.int i) = some (tupI w) := atI_map hxw
    have ir : idxS (rD r) (.int i) = some (oD (r.getD i none)) := by
      have := idx_ost (cs := r) (m := i) (by omega) (by omega)
      rwa [Int.toNat_natCast] at this
    have i0 : idxS (plD p) (.int 0) = some (.int p.1) := rfl
    have i1 : idxS (plD p) (.int 1) = some (.tup (p.2.map .int)) := rfl
    have hst : stAt ar ws sd r i = stepsOf sd (r.getD i none) p w := by
      unfold stAt
      rw [show ar.getD i (0, []) = p by rw [List.getD_eq_getElem?_getD, hxp]; rfl, show ws.getD i [] = w by rw [List.getD_eq_getElem?_getD, hxw]; rfl]
    rw [List.range_succ, List.map_append, List.map_append, List.map_singleton, List.map_singleton, hst]
    generalize r.getD i none = g at ir hst
    have hal : ((List.range i).map (stAt ar ws sd r)).length ≤ 1000 := by simp; omega
    generalize (List.range i).map (stAt ar ws sd r) = acc at hal
    simp_arith! [f5]
    refine kt ?_
    simp_arith! [ia, i1, f6]
    refine kt ?_
    simp_arith! []
    refine lcH (xs := List.range p.2.length) (f := fun k : Nat => D.int k) prD (fun t => (p.2.getD t 0, w.getD t 0)) (fun t ht => ?_) ?_
    · have ht' : t < p.2.length := by simpa using ht
      simp_arith! [iw, tupI, prD]
    rw [zip_range hwl]
    have hz := List.length_zip (l₁ := p.2) (l₂ := w)
    simp_arith! [f7]
    refine ⟨by omega, ?_⟩
    refine kt ?_
    simp_arith! [ia, i0]
    refine ⟨fun hs => ?_, fun hs => ?_⟩
    · refine kt ?_
      simp_arith! []
      refine lcF (f := prD) prD (fun q => g == some q.1) (fun q hq => ?_) ?_
      · have e1 : idxS (prD q) (.int 0) = some (.int q.1) := rfl
        have e2 := eq_io (x := q.1) (g := g)
        simp_arith! [e1, ir, e2]
      have hfl : ((p.2.zip w).filter fun q => g == some q.1).length ≤ (p.2.zip w).length := List.length_filter_le _ _
      simp_arith! []
      refine ⟨by omega, ?_⟩
      refine kt ?_
      simp_arith! []
      refine ⟨.fz (.int (i : Nat)), .fz (.tup (p.2.map .int)), .fz (stD (stepsOf sd g p w)), rfl, rfl, rfl, ?_⟩
      unfold stepsOf stD
      rw [if_pos hs]
    · refine kt ?_
      simp_arith! []
      refine ⟨.fz (.int (i : Nat)), .fz (.tup (p.2.map .int)), .fz (stD (stepsOf sd g p w)), rfl, rfl, rfl, ?_⟩
      unfold stepsOf stD
      rw [if_neg hs]
  · rintro e ⟨s5, s6, s7, f5, f6, f7, rfl⟩
    simp_arith! []
    refine kt ?_
    simp_arith! []
    rfl
def needAt (a : List Int) (st : St) : Int := maxL (0 :: st.map fun q => a.getD q.1.toNat 0 - q.2)
def needN (L : List St) (a : List Int) : List Int := L.map (needAt a)
def iterN (L : List St) : Nat → List Int
  | 0 => List.replicate L.length 0
  | t + 1 => needN L (iterN L t)
theorem iterN_len {L : List St} : ∀ {t}, (iterN L t).length = L.length
  | 0 => by simp [iterN]
  | t + 1 => by simp [iterN, needN]
def lostAt (l : List Bool) (L : List St) (k : Nat) : Bool := l.getD k false || (L.getD k []).any fun q => l.getD q.1.toNat false
def lostN (L : List St) (l : List Bool) : List Bool := (List.range L.length).map (lostAt l L)
def lost0 (a b : List Int) : List Bool := (List.range a.length).map fun k => a.getD k 0 != b.getD k 0
def iterL (L : List St) (l : List Bool) : Nat → List Bool
  | 0 => l
  | t + 1 => lostN L (iterL L l t)
theorem iterL_len {L : List St} {l : List Bool} (h : l.length = L.length) : ∀ {t}, (iterL L l t).length = L.length
  | 0 => h
  | t + 1 => by simp [iterL, lostN]
def lostS (L : List St) : List Bool := iterL L (lost0 (iterN L (L.length + 1)) (iterN L L.length)) L.length
def worst (L : List St) : Cs := (List.range L.length).map fun k => if (lostS L).getD k false then none else some ((iterN L (L.length + 1)).getD k 0)
structure StOk (L : List St) : Prop where
  n : L.length ≤ 1000
  l : ∀ st ∈ L, st.length ≤ 1000
  g : ∀ st ∈ L, ∀ q ∈ st, 0 ≤ q.1 ∧ q.1 < L.length
theorem idx_bl' {l : List Bool} {p : Int} (h0 : 0 ≤ p) (h : p < l.length) : idxS (.lst (l.map .bl)) (.int p) = some (.bl (l.getD p.toNat false)) := by
  have := idx_bl (l := l) (p := p.toNat) (by omega)
  rwa [show ((p.toNat : Nat) : Int) = p by omega] at this
theorem max_0 {l : List Int} : bltS .max [.lst (.int 0 :: l.map .int)] = some (.v (.int (maxL (0 :: l)))) := max_n (l := 0 :: l) (by simp)
set_option maxHeartbeats 0 in
theorem worst_ok (Δ : Tb) [A3 Δ] (k : Nat) (L : List St) (h : StOk L) :
    callN Δ (k + 1) 56 [.fz (.lst (L.map stD))] = some (.nw (.lst ((worst L).map oD)), [.fz (.lst (L.map stD))]) := by
  refine eq_of ?_
  rw [fn56]
  generalize callN Δ k = cl
  have hn := h.n
  have q0 : ∀ q : Int × Int, idxS (prD q) (.int 0) = some (.int q.1) := fun _ => rfl
  have q1 : ∀ q : Int × Int, idxS (prD q) (.int 1) = some (.int q.2) := fun _ => rfl
  have iL : ∀ i st, L[i]? = some st → idxS (.lst (L.map stD)) (.int (i : Nat)) = some (.lst (st.map prD)) := fun i st h => atI_map h
  walk_at "in"
  refine kt ?_
  simp_arith! []
  refine kt ?_
  simp_arith! []
  have hr0 : List.replicate L.length (D.int 0) = (iterN L 0).map .int := by simp [iterN]
  rw [hr0]
  refine kt ?_
  simp_arith! []
  refine kt ?_
  simp_arith! []
  refine foR (fun i e => ∃ s2 s3 s4, s2 = (if i = 0 then Sl.fz (.lst ((iterN L i).map .int)) else .ow false (.lst ((iterN L i).map .int))) ∧ s3 = Sl.fz (.lst ((iterN L (i - 1)).map .int)) ∧ fr s4 = true ∧ e = [.fz (.lst (L.map stD)), .fz (.int L.length), s2, s3, s4, .un, .un, .un]) ⟨_, _, _, rfl, rfl, rfl, rfl⟩ ?_ ?_
  · rintro i hi e ⟨s2, s3, s4, h2, rfl, f4, rfl⟩
    have hl := iterN_len (L := L) (t := i)
    rw [if_neg (Nat.succ_ne_zero i), show i + 1 - 1 = i by omega, show iterN L (i + 1) = needN L (iterN L i) from rfl]
    generalize iterN L i = a at h2 hl
    have h2' : s2 = .ow false (.lst (a.map .int)) ∨ s2 = .fz (.lst (a.map .int)) := by
      by_cases hz : i = 0
      · rw [if_pos hz] at h2; exact .inr h2
      · rw [if_neg hz] at h2; exact .inl h2
    have step : ∀ s2', Ev (evSs cl b56_0 [.fz (.lst (L.map stD)), .fz (.int L.length), .fz s2', .fz (.lst (a.map .int)), .fz (.int (i : Nat)), .un, .un, .un]) fun fl => fl = .nx [.fz (.lst (L.map stD)), .fz (.int L.length), .ow false (.lst ((needN L a).map .int)), .fz (.lst (a.map .int)), .fz (.int (i : Nat)), .un, .un, .un] := by
      intro s2'
      refine kt ?_
      simp_arith! []
      refine lcH (xs := List.range L.length) (f := fun k : Nat => D.int k) D.int (fun k => needAt a (L.getD k [])) (fun k hk => ?_) ?_
      · obtain ⟨st, hst⟩ : ∃ st, L[k]? = some st := ⟨_, List.getElem?_eq_getElem (by simpa using hk)⟩
        have e1 := iL k st hst
        have hm := List.mem_of_getElem? hst
        have hsl := h.l st hm
        have hsg := h.g st hm
        rw [show L.getD k [] = st by rw [List.getD_eq_getElem?_getD, hst]; rfl]
        simp_arith! [e1]
        refine lcH D.int (fun q : Int × Int => a.getD q.1.toNat 0 - q.2) (fun q hq => ?_) ?_
        · have hq := hsg q hq
          have e2 := idx_ints (l := a) (p := q.1) hq.1 (by omega)
          simp_arith! [q0, q1, e2]
        simp_arith! [max_0]
        exact ⟨by omega, rfl⟩
      simp_arith! []
      refine ⟨by omega, ?_⟩
      have : (List.range L.length).map (fun k => needAt a (L.getD k [])) = needN L a := by
        have := range_getD [] L
        unfold needN
        conv => rhs; rw [← this]
        rw [List.map_map]; rfl
      rw [this]
    rcases h2' with rfl | rfl
    · simp_arith! [f4]
      refine kt ?_
      simp_arith! []
      refine ev_mono (step _) ?_
      rintro _ rfl
      exact ⟨_, _, _, rfl, rfl, rfl, rfl⟩
    · simp_arith! [f4]
      refine kt ?_
      simp_arith! []
      refine ev_mono (step _) ?_
      rintro _ rfl
      exact ⟨_, _, _, rfl, rfl, rfl, rfl⟩
  · rintro e ⟨s2, s3, s4, h2, rfl, f4, rfl⟩
    rw [if_neg (by omega)] at h2
    subst h2
    have l1 := iterN_len (L := L) (t := L.length + 1)
    have l2 := iterN_len (L := L) (t := L.length)
    rw [show ((L.length : Int) + 1).toNat = L.length + 1 by omega, show L.length + 1 - 1 = L.length by omega]
    have hl0 : (lost0 (iterN L (L.length + 1)) (iterN L L.length)).length = L.length := by simp [lost0, l1]
    have hw : worst L = (List.range L.length).map fun k => if (iterL L (lost0 (iterN L (L.length + 1)) (iterN L L.length)) L.length).getD k false then none else some ((iterN L (L.length + 1)).getD k 0) := rfl
    rw [hw]
    have el : lost0 (iterN L (L.length + 1)) (iterN L L.length) = (List.range L.length).map fun k => (iterN L (L.length + 1)).getD k 0 != (iterN L L.length).getD k 0 := by unfold lost0; rw [l1]
    generalize iterN L (L.length + 1) = a at *
    generalize iterN L L.length = b at *
    simp_arith! []
    refine kt ?_
    simp_arith! []
    refine lcH (xs := List.range L.length) (f := fun k : Nat => D.int k) D.bl (fun k => a.getD k 0 != b.getD k 0) (fun k hk => ?_) ?_
    · have hk' : k < L.length := by simpa using hk
      simp_arith! []
      rfl
    rw [← el]
    generalize lost0 a b = l0 at hl0 ⊢
    clear el
    simp_arith! []
    refine ⟨by omega, ?_⟩
    refine kt ?_
    simp_arith! []
    refine foR (fun i e => ∃ s4, fr s4 = true ∧ e = [.fz (.lst (L.map stD)), .fz (.int L.length), .ow false (.lst (a.map .int)), .fz (.lst (b.map .int)), s4, .ow false (.lst ((iterL L l0 i).map .bl)), .un, .un]) ⟨_, f4, rfl⟩ ?_ ?_
    · clear f4 s4
      rintro i hi e ⟨s4, f4, rfl⟩
      have hl := iterL_len hl0 (t := i)
      rw [show iterL L l0 (i + 1) = lostN L (iterL L l0 i) from rfl]
      generalize iterL L l0 i = l at hl
      simp_arith! [f4]
      refine kt ?_
      simp_arith! []
      refine lcH (xs := List.range L.length) (f := fun k : Nat => D.int k) D.bl (lostAt l L) (fun k hk => ?_) ?_
      · have hk' : k < L.length := by simpa using hk
        obtain ⟨st, hst⟩ : ∃ st, L[k]? = some st := ⟨_, List.getElem?_eq_getElem hk'⟩
        have e1 := iL k st hst
        have hm := List.mem_of_getElem? hst
        have hsl := h.l st hm
        have hsg := h.g st hm
        have ik := idx_bl (l := l) (p := k) (by omega)
        have ek : lostAt l L k = (l.getD k false || st.any fun q => l.getD q.1.toNat false) := by
          unfold lostAt
          rw [show L.getD k [] = st by rw [List.getD_eq_getElem?_getD, hst]; rfl]
        rw [ek]
        generalize l.getD k false = bk at ik
        cases bk with
        | true => simp_arith! [ik]
        | false =>
          simp_arith! [ik, e1]
          refine lcH D.bl (fun q : Int × Int => l.getD q.1.toNat false) (fun q hq => ?_) ?_
          · have hq := hsg q hq
            have e2 := idx_bl' (l := l) (p := q.1) hq.1 (by omega)
            simp_arith! [q0, e2]
          simp_arith! [in_bls]
          refine ⟨by omega, ?_⟩
          rw [any_t, List.any_map]
          rfl
      simp_arith! []
      refine ⟨by omega, .fz (.int (i : Nat)), rfl, ?_⟩
      rfl
    · clear f4 s4
      rintro e ⟨s4, f4, rfl⟩
      have hl := iterL_len hl0 (t := L.length)
      generalize iterL L l0 L.length = l at hl
      simp_arith! []
      refine kt ?_
      simp_arith! []
      refine lcH (xs := List.range L.length) (f := fun k : Nat => D.int k) oD (fun k => if l.getD k false then none else some (a.getD k 0)) (fun k hk => ?_) ?_
      · have hk' : k < L.length := by simpa using hk
        have ik := idx_bl (l := l) (p := k) (by omega)
        generalize l.getD k false = bk at ik
        cases bk with
        | true =>
          have j1 : idxS (.lst [.int (a.getD k 0), .non]) (.int 1) = some .non := rfl
          simp_arith! [ik, j1]
          rfl
        | false =>
          have j0 : idxS (.lst [.int (a.getD k 0), .non]) (.int 0) = some (.int (a.getD k 0)) := rfl
          simp_arith! [ik, j0]
          rfl
      simp_arith! []
      omega
/-- the lesser of two, None being the greatest; the first if they are equal -/
def lessO (f d : Option Int) : Option Int := match d with
  | none => f
  | some d => match f with
    | none => some d
    | some f => if d < f then some d else some f
def mergeC (f d : Cs) : Cs := (List.range f.length).map fun k => lessO (f.getD k none) (d.getD k none)
def mergeTo (f d : Cs) (j : Nat) : Cs := (List.range f.length).map fun k => if k < j then lessO (f.getD k none) (d.getD k none) else f.getD k none
def wOf (ar : List (Int × List Int)) (ws : List (List Int)) (r : Cs) : Cs := worst (stepsL ar ws 0 r)
def credsTo (ar : List (Int × List Int)) (ws : List (List Int)) (R : List Cs) : Cs := R.foldl (fun f r => mergeC f (wOf ar ws r)) (List.replicate ar.length none)
def creds (ar : List (Int × List Int)) (ws : List (List Int)) : Cs := credsTo ar ws (rulesF 0 ar)
theorem mergeC_len {f d : Cs} : (mergeC f d).length = f.length := by simp [mergeC]
theorem mergeTo_len {f d : Cs} {j : Nat} : (mergeTo f d j).length = f.length := by simp [mergeTo]
theorem mergeTo_0 {f d : Cs} : mergeTo f d 0 = f := by
  unfold mergeTo
  have := range_getD none f
  conv => rhs; rw [← this]
  refine List.map_congr_left fun k _ => ?_
  rw [if_neg (Nat.not_lt_zero _)]
theorem mergeTo_all {f d : Cs} : mergeTo f d f.length = mergeC f d := by
  unfold mergeTo mergeC
  refine List.map_congr_left fun k hk => ?_
  rw [if_pos (by simpa using hk)]
theorem mergeTo_get {f d : Cs} {j k : Nat} (h : k < f.length) : (mergeTo f d j).getD k none = if k < j then lessO (f.getD k none) (d.getD k none) else f.getD k none := by
  unfold mergeTo
  rw [List.getD_eq_getElem?_getD, List.getElem?_map, List.getElem?_range h]; rfl
theorem mergeTo_set {f d : Cs} {j : Nat} (h : j < f.length) (x : Option Int) (hx : x = lessO (f.getD j none) (d.getD j none)) : (mergeTo f d j).set j x = mergeTo f d (j + 1) := by
  apply List.ext_getElem?
  intro i
  rw [List.getElem?_set]
  by_cases hi : i < f.length
  · have e : ∀ j', (mergeTo f d j')[i]? = some (if i < j' then lessO (f.getD i none) (d.getD i none) else f.getD i none) := fun j' => by
      unfold mergeTo
      rw [List.getElem?_map, List.getElem?_range hi]; rfl
    rw [e, e, mergeTo_len]
    by_cases hij : j = i
    · subst hij
      rw [if_pos rfl, if_pos h, if_pos (Nat.lt_succ_self _), hx]
    · rw [if_neg hij]
      by_cases h2 : i < j
      · rw [if_pos h2, if_pos (by omega)]
      · rw [if_neg h2, if_neg (by omega)]
  · rw [List.getElem?_eq_none (by rw [mergeTo_len]; omega), List.getElem?_eq_none (by rw [mergeTo_len]; omega), if_neg (by omega)]
theorem mergeTo_same {f d : Cs} {j : Nat} (h : j < f.length) (hx : lessO (f.getD j none) (d.getD j none) = f.getD j none) : mergeTo f d (j + 1) = mergeTo f d j := by
  rw [← mergeTo_set h (f.getD j none) hx.symm]
  apply List.ext_getElem?
  intro i
  rw [List.getElem?_set]
  by_cases hij : j = i
  · subst hij
    rw [if_pos rfl, mergeTo_len, if_pos h]
    unfold mergeTo
    rw [List.getElem?_map, List.getElem?_range h]
    simp
  · rw [if_neg hij]
theorem credsTo_len {ar ws} : ∀ {R : List Cs}, (credsTo ar ws R).length = ar.length := by
  intro R
  have : ∀ (R : List Cs) (f : Cs), (R.foldl (fun f r => mergeC f (wOf ar ws r)) f).length = f.length := by
    intro R
    induction R with
    | nil => intro f; rfl
    | cons r R ih => intro f; rw [List.foldl_cons, ih, mergeC_len]
  unfold credsTo
  rw [this, List.length_replicate]
theorem steps_ok {ar ws sd r} (h : Okay ar ws) : StOk (stepsL ar ws sd r) := by
  have key : ∀ st ∈ stepsL ar ws sd r, ∃ p w, p ∈ ar ∧ ∃ g, st = stepsOf sd g p w := by
    intro st hst
    unfold stepsL at hst
    obtain ⟨i, hi, rfl⟩ := List.mem_map.mp hst
    have hi : i < ar.length := by simpa using hi
    refine ⟨ar.getD i (0, []), ws.getD i [], ?_, r.getD i none, rfl⟩
    rw [List.getD_eq_getElem?_getD, List.getElem?_eq_getElem hi]
    exact List.getElem_mem hi
  have sub : ∀ g p w q, q ∈ stepsOf sd g p w → q ∈ p.2.zip w := by
    intro g p w q hq
    unfold stepsOf at hq
    split at hq
    · exact (List.mem_filter.mp hq).1
    · exact hq
  refine ⟨by simp [stepsL]; exact h.n, fun st hst => ?_, fun st hst q hq => ?_⟩
  · obtain ⟨p, w, hp, g, rfl⟩ := key st hst
    have h1 := (h.g p hp).2.2.1
    have h2 : (p.2.zip w).length ≤ p.2.length := by rw [List.length_zip]; omega
    unfold stepsOf
    split
    · have := List.length_filter_le (fun q => g == some q.1) (p.2.zip w)
      omega
    · omega
  · obtain ⟨p, w, hp, g, rfl⟩ := key st hst
    have := (h.g p hp).2.2.2 q.1 (List.of_mem_zip (sub g p w q hq)).1
    simpa [stepsL] using this
theorem worst_len {L : List St} : (worst L).length = L.length := by simp [worst]
set_option maxHeartbeats 0 in
theorem creds_ok (Δ : Tb) [A3 Δ] (k : Nat) (ar : List (Int × List Int)) (ws : List (List Int)) (h : Okay ar ws) (h0 : 0 < ar.length) (hb : ∀ i, i ≤ ar.length → (rulesF 0 (ar.take i)).length ≤ 100000) :
    callN Δ (k + 2) 58 [.fz (arD ar), .fz (wsD ws)] = some (.v (.tup ((creds ar ws).map oD)), [.fz (arD ar), .fz (wsD ws)]) := by
  refine eq_of ?_
  have h51 := rules_ok Δ k ar 0 (fun p hp => (h.g p hp).2.2.1) hb h.n h0
  have h57 := fun r hr => wsteps_ok Δ k ar ws 0 r h hr
  have h56 := fun r => worst_ok Δ k (stepsL ar ws 0 r) (steps_ok h)
  rw [fn58]
  generalize callN Δ (k + 1) = cl at h51 h57 h56
  have hn := h.n
  have hrb := hb ar.length (Nat.le_refl _)
  rw [List.take_length] at hrb
  have hrl : ∀ r ∈ rulesF 0 ar, r.length = ar.length := fun r hr => by
    have := (rules_to (sd := 0) (ar := ar) ar.length (Nat.le_refl _) r (by rw [List.take_length]; exact hr)).1
    exact this
  unfold creds
  generalize rulesF 0 ar = R at h51 hrb hrl
  walk_at "in"
  refine kt ?_
  simp_arith! [ar_len]
  have hr0 : List.replicate ar.length D.non = (credsTo ar ws []).map oD := by simp [credsTo, oD]
  rw [hr0]
  refine kt ?_
  simp_arith! [h51]
  refine foM (fun i e => ∃ s3 s4 s5, fr s3 = true ∧ fr s4 = true ∧ fr s5 = true ∧ e = [.fz (arD ar), .fz (wsD ws), .ow false (.lst ((credsTo ar ws (R.take i)).map oD)), s3, s4, s5]) ⟨_, _, _, rfl, rfl, rfl, rfl⟩ ?_ ?_
  · rintro i r hr e ⟨s3, s4, s5, f3, f4, f5, rfl⟩
    have hrr := hrl r (List.mem_of_getElem? hr)
    have e57 := h57 r hrr
    have e56 := h56 r
    have es : credsTo ar ws (R.take (i + 1)) = mergeC (credsTo ar ws (R.take i)) (wOf ar ws r) := by
      rw [take_snoc hr]
      unfold credsTo
      rw [List.foldl_append]; rfl
    rw [es]
    have hfl := credsTo_len (ar := ar) (ws := ws) (R := R.take i)
    have hdl : (wOf ar ws r).length = ar.length := by unfold wOf; rw [worst_len]; simp [stepsL]
    rw [show worst (stepsL ar ws 0 r) = wOf ar ws r from rfl] at e56
    generalize credsTo ar ws (R.take i) = f at hfl
    generalize wOf ar ws r = d at hdl e56
    simp_arith! [f3]
    refine kt ?_
    simp_arith! [e57, e56, f4]
    refine kt ?_
    simp_arith! []
    refine foR (fun j e => ∃ s5, fr s5 = true ∧ e = [.fz (arD ar), .fz (wsD ws), .ow false (.lst ((mergeTo f d j).map oD)), .fz (rD r), .ow false (.lst (d.map oD)), s5]) ⟨_, f5, by rw [mergeTo_0]⟩ ?_ ?_
    · clear f5 s5
      rintro j hj e ⟨s5, f5, rfl⟩
      have hml := mergeTo_len (f := f) (d := d) (j := j)
      have i1 := idx_os (cs := d) (m := j) (by omega) (by omega)
      have i2 := idx_os (cs := mergeTo f d j) (m := j) (by omega) (by omega)
      rw [Int.toNat_natCast] at i1 i2
      rw [mergeTo_get hj, if_neg (Nat.lt_irrefl _)] at i2
      have same := mergeTo_same (f := f) (d := d) hj
      have sets := mergeTo_set (f := f) (d := d) hj
      generalize d.getD j none = x at i1 same sets
      generalize f.getD j none = y at i2 same sets
      simp_arith! [f5]
      refine kt ?_
      cases x with
      | none =>
        simp_arith! [i1, oD]
        exact ⟨_, rfl, by rw [same rfl]⟩
      | some x =>
        cases y with
        | none =>
          simp_arith! [i1, i2, oD]
          refine kt ?_
          simp_arith! [i1, oD]
          refine ⟨.fz (.int (j : Nat)), rfl, ?_⟩
          rw [← sets (some x) rfl, List.map_set]; rfl
        | some y =>
          simp_arith! [i1, i2, oD]
          refine ⟨fun hc => ?_, fun hc => ?_⟩
          · refine kt ?_
            simp_arith! [i1, oD]
            refine ⟨.fz (.int (j : Nat)), rfl, ?_⟩
            rw [← sets (some x) (by show _ = if x < y then _ else _; rw [if_pos hc]), List.map_set]; rfl
          · refine ⟨.fz (.int (j : Nat)), rfl, ?_⟩
            rw [same (by show (if x < y then _ else _) = _; rw [if_neg (by omega)])]
    · clear f5 s5
      rintro e ⟨s5, f5, rfl⟩
      rw [mergeTo_all]
      simp_arith! []
      exact ⟨_, _, _, rfl, rfl, f5, rfl⟩
  · rintro e ⟨s3, s4, s5, f3, f4, f5, rfl⟩
    rw [List.take_length]
    have hfl := credsTo_len (ar := ar) (ws := ws) (R := R)
    simp_arith! []
    refine kt ?_
    simp_arith! []
/-! the own credits are a paper -/
theorem count_lt : ∀ {a b : List Bool}, a.length = b.length → (∀ k, a.getD k false = true → b.getD k false = true) → a ≠ b → a.count true < b.count true
  | [], [], _, _, h => absurd rfl h
  | [], _ :: _, h, _, _ => by cases h
  | _ :: _, [], h, _, _ => by cases h
  | x :: a, y :: b, hl, hm, hne => by
    have h0 := hm 0
    have hs : ∀ k, a.getD k false = true → b.getD k false = true := fun k => hm (k + 1)
    simp only [List.getD_cons_zero] at h0
    have hl : a.length = b.length := by simpa using hl
    by_cases he : a = b
    · subst he
      cases x <;> cases y
      · exact absurd rfl hne
      · simp
      · exact absurd (h0 rfl) (by decide)
      · exact absurd rfl hne
    · have ih := count_lt hl hs he
      cases x <;> cases y
      · simpa using ih
      · simp; omega
      · exact absurd (h0 rfl) (by decide)
      · simpa using ih
theorem lostN_get {L : List St} {l : List Bool} {k : Nat} (h : k < L.length) : (lostN L l).getD k false = lostAt l L k := by
  unfold lostN
  rw [List.getD_eq_getElem?_getD, List.getElem?_map, List.getElem?_range h]; rfl
theorem getD_len {l : List Bool} {k : Nat} (h : l.getD k false = true) : k < l.length := by
  rcases Nat.lt_or_ge k l.length with hk | hk
  · exact hk
  · rw [List.getD_eq_getElem?_getD, List.getElem?_eq_none hk] at h; cases h
theorem lostN_mono {L : List St} {l : List Bool} (hl : l.length = L.length) {k : Nat} (h : l.getD k false = true) : (lostN L l).getD k false = true := by
  rw [lostN_get (by have := getD_len h; omega)]
  unfold lostAt
  rw [h]; rfl
theorem lost_fix {L : List St} {l : List Bool} (hl : l.length = L.length) : lostN L (iterL L l L.length) = iterL L l L.length := by
  have key : ∀ t, lostN L (iterL L l t) = iterL L l t ∨ t ≤ (iterL L l t).count true := by
    intro t
    induction t with
    | zero => exact .inr (Nat.zero_le _)
    | succ t ih =>
      rcases ih with ih | ih
      · left
        show lostN L (lostN L (iterL L l t)) = lostN L (iterL L l t)
        rw [ih, ih]
      · by_cases he : lostN L (iterL L l t) = iterL L l t
        · left
          show lostN L (lostN L (iterL L l t)) = lostN L (iterL L l t)
          rw [he, he]
        · right
          have h1 := iterL_len hl (t := t)
          have := count_lt (a := iterL L l t) (b := lostN L (iterL L l t)) (by rw [h1]; simp [lostN]) (fun k hk => lostN_mono h1 hk) (fun z => he z.symm)
          show t + 1 ≤ (lostN L (iterL L l t)).count true
          omega
  rcases key L.length with h | h
  · exact h
  · by_cases he : lostN L (iterL L l L.length) = iterL L l L.length
    · exact he
    · have h1 := iterL_len hl (t := L.length)
      have := count_lt (a := iterL L l L.length) (b := lostN L (iterL L l L.length)) (by rw [h1]; simp [lostN]) (fun k hk => lostN_mono h1 hk) (fun z => he z.symm)
      have h2 : (lostN L (iterL L l L.length)).count true ≤ L.length := by
        have := List.count_le_length (a := true) (l := lostN L (iterL L l L.length))
        simpa [lostN] using this
      omega
theorem lostS_len {L : List St} : (lostS L).length = L.length := iterL_len (by simp [lost0, iterN_len])
theorem lostS_closed {L : List St} {k : Nat} (hk : k < L.length) {q : Int × Int} (hq : q ∈ L.getD k []) (h : (lostS L).getD k false = false) : (lostS L).getD q.1.toNat false = false := by
  have hf : lostN L (lostS L) = lostS L := lost_fix (by simp [lost0, iterN_len])
  have := lostN_get (l := lostS L) hk
  rw [hf, h] at this
  unfold lostAt at this
  rw [h, Bool.false_or] at this
  have := List.any_eq_false.mp this.symm q hq
  simpa using this
theorem lostS_0 {L : List St} {k : Nat} (hk : k < L.length) (h : (lostS L).getD k false = false) : (iterN L (L.length + 1)).getD k 0 = (iterN L L.length).getD k 0 := by
  have mono : ∀ t, (lost0 (iterN L (L.length + 1)) (iterN L L.length)).getD k false = true → (iterL L (lost0 (iterN L (L.length + 1)) (iterN L L.length)) t).getD k false = true := by
    intro t ht
    induction t with
    | zero => exact ht
    | succ t ih => exact lostN_mono (iterL_len (by simp [lost0, iterN_len])) ih
  cases hb : (lost0 (iterN L (L.length + 1)) (iterN L L.length)).getD k false with
  | true => have h2 : (lostS L).getD k false = true := mono L.length hb
            rw [h] at h2; cases h2
  | false =>
    unfold lost0 at hb
    rw [List.getD_eq_getElem?_getD, List.getElem?_map, List.getElem?_range (by rw [iterN_len]; exact hk)] at hb
    simpa using hb
/-- where the needs are known -/
theorem worst_get {L : List St} {k : Nat} {x : Int} (h : (worst L).getD k none = some x) : k < L.length ∧ (lostS L).getD k false = false ∧ x = (iterN L (L.length + 1)).getD k 0 := by
  have hk : k < L.length := by
    rcases Nat.lt_or_ge k L.length with hk | hk
    · exact hk
    · rw [List.getD_eq_getElem?_getD, List.getElem?_eq_none (by rw [worst_len]; exact hk)] at h; cases h
  refine ⟨hk, ?_⟩
  unfold worst at h
  rw [List.getD_eq_getElem?_getD, List.getElem?_map, List.getElem?_range hk] at h
  simp only [Option.map_some, Option.getD_some] at h
  cases hb : (lostS L).getD k false with
  | true => rw [hb, if_pos rfl] at h; cases h
  | false => rw [hb, if_neg (by decide)] at h; cases h; exact ⟨rfl, rfl⟩
theorem worst_some {L : List St} {k : Nat} (hk : k < L.length) (h : (lostS L).getD k false = false) : (worst L).getD k none = some ((iterN L (L.length + 1)).getD k 0) := by
  unfold worst
  rw [List.getD_eq_getElem?_getD, List.getElem?_map, List.getElem?_range hk]
  simp only [Option.map_some, Option.getD_some]
  rw [h, if_neg (by decide)]
theorem worst_law {L : List St} (hL : StOk L) {k : Nat} {x : Int} (h : (worst L).getD k none = some x) : 0 ≤ x ∧ ∀ q ∈ L.getD k [], ∃ y, (worst L).getD q.1.toNat none = some y ∧ y ≤ x + q.2 := by
  obtain ⟨hk, hb, hx⟩ := worst_get h
  have hst : L.getD k [] ∈ L := by
    rw [List.getD_eq_getElem?_getD, List.getElem?_eq_getElem hk]; exact List.getElem_mem hk
  have hn : (iterN L (L.length + 1)).getD k 0 = needAt (iterN L L.length) (L.getD k []) := by
    show (needN L (iterN L L.length)).getD k 0 = _
    unfold needN
    rw [List.getD_eq_getElem?_getD, List.getElem?_map, List.getElem?_eq_getElem hk, List.getD_eq_getElem?_getD, List.getElem?_eq_getElem hk]; rfl
  have hmx := (maxL_spec (l := 0 :: (L.getD k []).map fun q => (iterN L L.length).getD q.1.toNat 0 - q.2) (by simp)).1
  have hx' : x = maxL (0 :: (L.getD k []).map fun q => (iterN L L.length).getD q.1.toNat 0 - q.2) := by rw [hx, hn]; rfl
  rw [← hx'] at hmx
  refine ⟨hmx 0 (by simp), fun q hq => ?_⟩
  have hr := hL.g _ hst q hq
  have hq1 : q.1.toNat < L.length := by omega
  have hnl := lostS_closed hk hq hb
  refine ⟨_, worst_some hq1 hnl, ?_⟩
  rw [lostS_0 hq1 hnl]
  have := hmx ((iterN L L.length).getD q.1.toNat 0 - q.2) (List.mem_cons_of_mem _ (List.mem_map.mpr ⟨q, hq, rfl⟩))
  omega
theorem lessO_from {f d : Option Int} {x : Int} (h : lessO f d = some x) : f = some x ∨ d = some x := by
  unfold lessO at h
  split at h
  · exact .inl h
  · split at h
    · exact .inr h
    · split at h
      · exact .inr h
      · exact .inl h
theorem lessO_f {f d : Option Int} {y : Int} (h : f = some y) : ∃ z, lessO f d = some z ∧ z ≤ y := by
  subst h
  cases d with
  | none => exact ⟨y, rfl, Int.le_refl _⟩
  | some d =>
    by_cases hd : d < y
    · exact ⟨d, if_pos hd, by omega⟩
    · exact ⟨y, if_neg hd, Int.le_refl _⟩
theorem lessO_d {f d : Option Int} {y : Int} (h : d = some y) : ∃ z, lessO f d = some z ∧ z ≤ y := by
  subst h
  cases f with
  | none => exact ⟨y, rfl, Int.le_refl _⟩
  | some f =>
    by_cases hd : y < f
    · exact ⟨y, if_pos hd, Int.le_refl _⟩
    · exact ⟨f, if_neg hd, by omega⟩
theorem mergeC_get {f d : Cs} {i : Nat} (h : i < f.length) : (mergeC f d).getD i none = lessO (f.getD i none) (d.getD i none) := by
  rw [← mergeTo_all, mergeTo_get h, if_pos h]
theorem fold_from {wf : Cs → Cs} : ∀ (R : List Cs) (f : Cs) (i : Nat) (x : Int), i < f.length → (R.foldl (fun f r => mergeC f (wf r)) f).getD i none = some x → f.getD i none = some x ∨ ∃ r ∈ R, (wf r).getD i none = some x
  | [], _, _, _, _, h => .inl h
  | r :: R, f, i, x, hi, h => by
    rw [List.foldl_cons] at h
    rcases fold_from R (mergeC f (wf r)) i x (by rw [mergeC_len]; exact hi) h with h | ⟨r', h1, h2⟩
    · rw [mergeC_get hi] at h
      rcases lessO_from h with h | h
      · exact .inl h
      · exact .inr ⟨r, List.mem_cons_self .., h⟩
    · exact .inr ⟨r', List.mem_cons_of_mem _ h1, h2⟩
theorem fold_le {wf : Cs → Cs} : ∀ (R : List Cs) (f : Cs) (i : Nat) (y : Int), i < f.length → (f.getD i none = some y ∨ ∃ r ∈ R, (wf r).getD i none = some y) → ∃ z, (R.foldl (fun f r => mergeC f (wf r)) f).getD i none = some z ∧ z ≤ y
  | [], _, _, y, _, h => by
    rcases h with h | ⟨_, h, _⟩
    · exact ⟨y, h, Int.le_refl _⟩
    · cases h
  | r :: R, f, i, y, hi, h => by
    rw [List.foldl_cons]
    have hi' : i < (mergeC f (wf r)).length := by rw [mergeC_len]; exact hi
    have fin : ∀ z, (mergeC f (wf r)).getD i none = some z → z ≤ y → ∃ z, (R.foldl (fun f r => mergeC f (wf r)) (mergeC f (wf r))).getD i none = some z ∧ z ≤ y := fun z hz hy => by
      obtain ⟨u, h1, h2⟩ := fold_le R (mergeC f (wf r)) i z hi' (.inl hz)
      exact ⟨u, h1, by omega⟩
    rcases h with h | ⟨r', hr, h⟩
    · obtain ⟨z, h1, h2⟩ := lessO_f (d := (wf r).getD i none) h
      exact fin z (by rw [mergeC_get hi]; exact h1) h2
    · rcases List.mem_cons.mp hr with rfl | hr
      · obtain ⟨z, h1, h2⟩ := lessO_d (f := f.getD i none) h
        exact fin z (by rw [mergeC_get hi]; exact h1) h2
      · exact fold_le R (mergeC f (wf r)) i y hi' (.inr ⟨r', hr, h⟩)
theorem rep_get {n i : Nat} : (List.replicate n (none : Option Int)).getD i none = none := by
  rw [List.getD_eq_getElem?_getD, List.getElem?_replicate]
  split <;> rfl
theorem creds_len {ar ws} : (creds ar ws).length = ar.length := credsTo_len
theorem creds_from {ar ws} {i : Nat} {x : Int} (hi : i < ar.length) (h : (creds ar ws).getD i none = some x) : ∃ r ∈ rulesF 0 ar, (wOf ar ws r).getD i none = some x := by
  rcases fold_from (wf := wOf ar ws) _ _ i x (by simpa using hi) h with h | h
  · rw [rep_get] at h; cases h
  · exact h
theorem creds_le {ar ws} {i : Nat} {y : Int} (hi : i < ar.length) {r : Cs} (hr : r ∈ rulesF 0 ar) (h : (wOf ar ws r).getD i none = some y) : ∃ z, (creds ar ws).getD i none = some z ∧ z ≤ y :=
  fold_le (wf := wOf ar ws) _ _ i y (by simpa using hi) (.inr ⟨r, hr, h⟩)
theorem creds_at {ar ws} (h : Okay ar ws) {i : Nat} (hi : i < ar.length) : crAt ar ws (creds ar ws) i = true := by
  obtain ⟨p, hp⟩ : ∃ p, ar[i]? = some p := ⟨_, List.getElem?_eq_getElem hi⟩
  obtain ⟨w, hw, hwl⟩ := h.row hp
  have hg := h.g p (List.mem_of_getElem? hp)
  unfold crAt
  rw [getD_of hp, getD_of hw]
  cases hx : (creds ar ws).getD i none with
  | none => rfl
  | some x =>
    obtain ⟨r, hr, hrx⟩ := creds_from hi hx
    have hlen : (stepsL ar ws 0 r).length = ar.length := by simp [stepsL]
    have law := worst_law (steps_ok (sd := 0) (r := r) h) hrx
    have hst : (stepsL ar ws 0 r).getD i [] = stepsOf 0 (r.getD i none) p w := by
      unfold stepsL
      rw [List.getD_eq_getElem?_getD, List.getElem?_map, List.getElem?_range hi]
      show stAt ar ws 0 r i = _
      unfold stAt
      rw [getD_of hp, getD_of hw]
    have en : ∀ q ∈ stepsOf 0 (r.getD i none) p w, enB x q.2 ((creds ar ws).getD q.1.toNat none) = true := by
      intro q hq
      rw [← hst] at hq
      obtain ⟨y, h1, h2⟩ := law.2 q hq
      have hq1 : q.1.toNat < ar.length := by
        have := (worst_get h1).1
        rwa [hlen] at this
      obtain ⟨z, h3, h4⟩ := creds_le hq1 hr h1
      rw [h3]
      exact decide_eq_true (by omega)
    show (if p.1 = 0 then _ else _) = true
    by_cases h0 : p.1 = 0
    · rw [if_pos h0, List.any_eq_true]
      obtain ⟨g, hg1, hg2⟩ := (rules_to (sd := 0) (ar := ar) ar.length (Nat.le_refl _) r (by rw [List.take_length]; exact hr)).2 i p hi hp
      unfold goalsOf at hg1
      rw [if_pos h0] at hg1
      obtain ⟨m, hm, rfl⟩ := List.mem_map.mp hg1
      obtain ⟨t, ht⟩ := List.getElem?_of_mem hm
      have htl : t < w.length := by have := (List.getElem?_eq_some_iff.mp ht).1; omega
      have hz : (m, w[t]) ∈ p.2.zip w := List.mem_of_getElem? (i := t) (by rw [List.getElem?_zip_eq_some]; exact ⟨ht, List.getElem?_eq_getElem htl⟩)
      have hs : (m, w[t]) ∈ stepsOf 0 (r.getD i none) p w := by
        unfold stepsOf
        rw [if_pos h0, getD_of hg2]
        exact List.mem_filter.mpr ⟨hz, by simp⟩
      exact ⟨true, List.mem_map.mpr ⟨_, hz, en _ hs⟩, rfl⟩
    · rw [if_neg h0, List.all_eq_true]
      intro b hb
      obtain ⟨q, hq, rfl⟩ := List.mem_map.mp hb
      exact en q (by unfold stepsOf; rw [if_neg h0]; exact hq)
theorem creds_nat {ar ws} (h : Okay ar ws) : NatC (creds ar ws) := by
  intro c hc
  obtain ⟨i, hi⟩ := List.getElem?_of_mem hc
  have hil : i < ar.length := by have := (List.getElem?_eq_some_iff.mp hi).1; rwa [creds_len] at this
  obtain ⟨r, hr, hrx⟩ := creds_from hil (x := c) (getD_of hi)
  exact (worst_law (steps_ok (sd := 0) (r := r) h) hrx).1
theorem creds_crp {ar ws} (h : Okay ar ws) : CrP ar ws ((creds ar ws).map oD) := ⟨_, rfl, creds_len, creds_nat h, fun i hi => creds_at h hi⟩
theorem moreC_get {m : Int} {cs : Cs} {i : Nat} : (moreC m cs).getD i none = (cs.getD i none).map (· + m) := by
  unfold moreC
  rw [List.getD_eq_getElem?_getD, List.getD_eq_getElem?_getD, List.getElem?_map]
  cases cs[i]? <;> rfl
theorem moreC_at {ar ws} {m : Int} {cs : Cs} {i : Nat} : crAt ar ws (moreC m cs) i = crAt ar ws cs i := by
  unfold crAt
  rw [moreC_get]
  cases cs.getD i none with
  | none => rfl
  | some x =>
    have : goodL (moreC m cs) (x + m) (ar.getD i (0, [])) (ws.getD i []) = goodL cs x (ar.getD i (0, [])) (ws.getD i []) := by
      unfold goodL
      refine List.map_congr_left fun q _ => ?_
      rw [moreC_get]
      cases cs.getD q.1.toNat none with
      | none => rfl
      | some y =>
        show decide (y + m ≤ x + m + q.2) = decide (y ≤ x + q.2)
        congr 1
        exact propext ⟨fun h => by omega, fun h => by omega⟩
    show (if _ then _ else _) = (if _ then _ else _)
    rw [this]
theorem more_crp {ar ws} {m : Int} (hm : 0 ≤ m) {cs : Cs} (h : CrP ar ws (cs.map oD)) : CrP ar ws ((moreC m cs).map oD) := by
  obtain ⟨cs', e, h1, h2, h3⟩ := h
  have := map_oD_inj e
  subst this
  refine ⟨_, rfl, by simp [moreC, h1], fun c hc => ?_, fun i hi => by rw [moreC_at]; exact h3 i hi⟩
  unfold moreC at hc
  obtain ⟨x, hx, e⟩ := List.mem_map.mp hc
  cases x with
  | none => cases e
  | some x => cases e; have := h2 x hx; show 0 ≤ x + m; omega
theorem none_crp {ar : List (Int × List Int)} {ws : List (List Int)} : CrP ar ws ((List.replicate ar.length none).map oD) := by
  refine ⟨_, rfl, by simp, fun c hc => by simp at hc, fun i hi => ?_⟩
  unfold crAt
  rw [rep_get]
  rfl
def b61_0 : Ss := .cons (.ret (.lit (.bl false))) .nil
def b61_1 : Ss := .cons (.expr (.mth .append 8 (.cons (.call 52 (.cons (.nm 1) (.cons (.idx (.lst (.cons (.nm 5) (.cons (.nm 6) (.cons (.nm 5) .nil)))) (.bin .Mod (.blt .int (.cons (.nm 9) .nil)) (.lit (.int 3)))) (.cons (.blt .len (.cons (.nm 3) .nil)) .nil)))) .nil))) .nil
def b61_2 : Ss := .cons (.ret (.lit (.bl false))) .nil
def b61_3 : Ss := .cons (.ifs (.not (.val (.call 7 (.cons (.call 50 (.cons (.nm 3) (.cons (.nm 4) (.cons (.nm 10) .nil)))) (.cons (.call 59 (.cons (.nm 3) (.cons (.nm 4) (.cons (.nm 10) .nil)))) .nil))))) b61_2 .nil) .nil
def b61_4 : Ss := .cons (.fo (.nm 10) (.seq (.nm 8)) b61_3) .nil
def b61_5 : Ss := .cons (.fo (.nm 9) (.rng1 (.lit (.int 12))) b61_1) b61_4
def b61_6 : Ss := .cons (.set 8 (.call 26 (.cons (.nm 5) .nil))) b61_5
def b61_7 : Ss := .cons (.ifs (.cmp .In (.lit (.bl false)) (.lc [10] (.cmp .Is (.call 50 (.cons (.nm 3) (.cons (.nm 4) (.cons (.nm 10) .nil)))) (.lit (.bl true))) (.nm 10) (.seq (.nm 7)) .no)) b61_0 .nil) b61_6
def b61_8 : Ss := .cons (.set 7 (.lst (.cons (.nm 5) (.cons (.nm 6) (.cons (.bin .Mult (.tup (.cons (.lit .non) .nil)) (.blt .len (.cons (.nm 3) .nil))) .nil))))) b61_7
def b61_9 : Ss := .cons (.set 6 (.call 60 (.cons (.nm 5) (.cons (.call 6 (.cons (.nm 1) (.cons (.lst (.cons (.lit (.int 1)) (.cons (.lit (.int 7)) (.cons (.bin .Pow (.lit (.int 10)) (.lit (.int 20))) .nil)))) .nil))) .nil)))) b61_8
def b61_10 : Ss := .cons (.set 5 (.call 58 (.cons (.nm 3) (.cons (.nm 4) .nil)))) b61_9
def b61_11 : Ss := .cons (.set 4 (.call 55 (.cons (.call 54 (.cons (.nm 1) (.cons (.nm 3) .nil))) (.cons (.lit (.int 1)) (.cons (.idx (.lst (.cons (.lit (.int 0)) (.cons (.lit (.int 2)) (.cons (.lit (.int 3)) (.cons (.lit (.int 0)) .nil))))) (.nm 2)) .nil))))) b61_10
def b61_12 : Ss := .cons (.set 3 (.call 10 (.cons (.nm 1) (.cons (.bin .Add (.lit (.int 1)) (.call 5 (.cons (.nm 1) (.cons (.idx (.lst (.cons (.lit (.int 5)) (.cons (.lit (.int 4)) (.cons (.lit (.int 5)) (.cons (.lit (.int 4)) .nil))))) (.nm 2)) .nil)))) (.cons (.idx (.lst (.cons (.lit (.int 2)) (.cons (.lit (.int 3)) (.cons (.lit (.int 2)) (.cons (.lit (.int 2)) .nil))))) (.nm 2)) .nil))))) b61_11
def b61_13 : Ss := .cons (.ret (.lit (.bl true))) .nil
def b61_14 : Ss := .cons (.fo (.nm 2) (.rng1 (.lit (.int 4))) b61_12) b61_13
def b61_15 : Ss := .cons (.set 1 (.call 4 (.cons (.nm 0) (.cons (.lit (.int 900)) .nil)))) b61_14
/-- law -/
def b61 : Ss := b61_15
def TK11 : Tb := fun i => match i with
  | 61 => some ⟨["script"], ["script", "draws", "turn", "arena", "weights", "least", "more", "right", "asked", "k", "one"], b61⟩
  | _ => none
class AK11 (Δ : Tb) : Prop where
  h : ∀ i, 61 ≤ i → i < 62 → Δ i = TK11 i
theorem fn61 (Δ : Tb) [AK11 Δ] (k : Nat) : callN Δ (k + 1) 61 = runDef (callN Δ k) ⟨["script"], ["script", "draws", "turn", "arena", "weights", "least", "more", "right", "asked", "k", "one"], b61⟩ := by
  show (fun args => (Δ 61).bind fun d => runDef (callN Δ k) d args) = _
  rw [show Δ 61 = TK11 61 from AK11.h 61 (by decide) (by decide)]
  rfl
theorem is_bl4 {a b : Bool} : cmpS .Is (.bl a) (.bl b) = some (a == b) := rfl
theorem same_bl4 (Δ : Tb) [A0 Δ] (k : Nat) (b : Bool) : callN Δ (k + 1) 7 [.fz (.bl b), .fz (.bl b)] = some (.v (.bl true), [.fz (.bl b), .fz (.bl b)]) := by
  refine eq_of ?_
  rw [fn7]
  generalize callN Δ k = cl
  walk_at "in"
  unfold b7
  refine kt ?_
  simp_arith! []
  refine kt ?_
  simp_arith! []
  refine kt ?_
  simp_arith! []
  refine kt ?_
  simp_arith! []
  rw [beq_self_eq_true]
theorem tupRep {x : D} {n : Nat} (h : 0 < n ∧ n ≤ 1000) : binS .Mult (.tup [x]) (.int (n : Nat)) = some (.v (.tup (List.replicate n x))) := by
  simp only [binS]
  rw [if_pos (by simp; omega)]
  simp
theorem chW_fits {ar : List (Int × List Int)} {ws : List (List Int)} {f m : Int} (h : Fits ar ws) : Fits ar (chW f m ws) := by
  refine ⟨by simp [chW, h.1], fun i p w hp hw => ?_⟩
  unfold chW at hw
  rw [List.getElem?_map] at hw
  obtain ⟨w', hw', rfl⟩ := Option.map_eq_some_iff.mp hw
  rw [List.length_map]
  exact h.2 i p w' hp hw'
theorem fits_rows {ar : List (Int × List Int)} {ws : List (List Int)} (h : Fits ar ws) (hp : ∀ p ∈ ar, p.2.length ≤ 1000) : ∀ w ∈ ws, w.length ≤ 1000 := by
  intro w hw
  obtain ⟨i, hi⟩ := List.getElem?_of_mem hw
  have hil : i < ar.length := by rw [← h.1]; exact (List.getElem?_eq_some_iff.mp hi).1
  rw [h.2 i _ w (List.getElem?_eq_getElem hil) hi]
  exact hp _ (List.getElem_mem hil)
theorem three_of {A B : D} (k : Nat) : idxS (.lst [A, B, A]) (.int ((k : Int) % 3)) = some A ∨ idxS (.lst [A, B, A]) (.int ((k : Int) % 3)) = some B := by
  rcases (by omega : (k : Int) % 3 = 0 ∨ (k : Int) % 3 = 1 ∨ (k : Int) % 3 = 2) with h | h | h <;> rw [h]
  · exact .inl rfl
  · exact .inr rfl
  · exact .inl rfl
set_option maxHeartbeats 0 in
theorem body11 (Δ : Tb) [A0 Δ] [A1 Δ] [A2 Δ] [A3 Δ] [AK11 Δ] (ns : List Int) (hns : ns.length ≤ 63) : Ev (callN Δ 40 61 [.fz (.scr ns)]) fun z => z = (.v (.bl true), [.fz (.scr ns)]) := by
  have h4 : ∀ m : Int, 0 ≤ m ∧ m ≤ 2 ^ 24 → Ev (callN Δ 39 4 [.fz (.scr ns), .fz (.int m)]) _ := fun m hm => draws_ok Δ 38 ns m hns hm
  have h5 : ∀ (ds : List Int) (m : Int), 0 < m → Ev (callN Δ 39 5 [.ow true (LI ds), .fz (.int m)]) _ := fun ds m hm => take_ok Δ 38 ds m hm
  have h6 := pick_ev Δ 37
  have h10 := arena2_ok Δ 35
  have h54 := mws_ok Δ 35
  have h55 := changed_ok Δ 38
  have h58 := creds_ok Δ 37
  have h60 := more_ok Δ 38
  have h50 := jcred_ok Δ 36
  have h59 := scred_ok Δ 37
  have h26 := miss2_ok Δ 37
  have h52 := numbers_ok Δ 36
  have h7 := same_bl4 Δ 38
  rw [fn61]
  generalize callN Δ 39 = cl at h4 h5 h6 h10 h54 h55 h58 h60 h50 h59 h26 h52 h7
  replace h6 := pick_int h6
  walk_at "in"
  refine kt ?_
  simp_arith! []
  refine ev_mono (h4 900 (by omega)) ?_
  rintro _ ⟨ds, rfl⟩
  simp_arith! []
  refine kt ?_
  simp_arith! []
  refine foR (fun i e => ∃ (ds : List Int) (s2 s3 s4 s5 s6 s7 s8 s9 s10 : Sl), fr s2 = true ∧ fr s3 = true ∧ fr s4 = true ∧ fr s5 = true ∧ fr s6 = true ∧ fr s7 = true ∧ fr s8 = true ∧ fr s9 = true ∧ fr s10 = true ∧ e = [.fz (.scr ns), .ow false (LI ds), s2, s3, s4, s5, s6, s7, s8, s9, s10])
    ⟨ds, _, _, _, _, _, _, _, _, _, rfl, rfl, rfl, rfl, rfl, rfl, rfl, rfl, rfl, rfl⟩ ?_ ?_
  · rintro i hi e ⟨ds, s2, s3, s4, s5, s6, s7, s8, s9, s10, f2, f3, f4, f5, f6, f7, f8, f9, f10, rfl⟩
    obtain ⟨n, en, hn0, hn1⟩ : ∃ n : Int, idxS (.lst [.int 5, .int 4, .int 5, .int 4]) (.int (i : Nat)) = some (.int n) ∧ 0 < n ∧ n ≤ 5 := by
      rcases (by omega : i = 0 ∨ i = 1 ∨ i = 2 ∨ i = 3) with rfl | rfl | rfl | rfl <;> exact ⟨_, rfl, by decide, by decide⟩
    obtain ⟨m, em, hm0, hm1⟩ : ∃ n : Int, idxS (.lst [.int 2, .int 3, .int 2, .int 2]) (.int (i : Nat)) = some (.int n) ∧ 0 < n ∧ n ≤ 3 := by
      rcases (by omega : i = 0 ∨ i = 1 ∨ i = 2 ∨ i = 3) with rfl | rfl | rfl | rfl <;> exact ⟨_, rfl, by decide, by decide⟩
    obtain ⟨t, et⟩ : ∃ n : Int, idxS (.lst [.int 0, .int 2, .int 3, .int 0]) (.int (i : Nat)) = some (.int n) := by
      rcases (by omega : i = 0 ∨ i = 1 ∨ i = 2 ∨ i = 3) with rfl | rfl | rfl | rfl <;> exact ⟨_, rfl⟩
    simp_arith! [f2]
    refine kt ?_
    simp_arith! [en, em]
    refine ev_mono (h5 ds n (by omega)) ?_
    rintro _ ⟨r, ds, rfl, hr0, hr1⟩
    simp_arith! [en, em]
    refine ev_mono (h10 ds (1 + r) m (by omega) (by omega)) ?_
    rintro _ ⟨ar, ds, rfl, ha1, ha2⟩
    have hal : 0 < ar.length ∧ ar.length ≤ 5 := by omega
    simp_arith! [f3]
    refine kt ?_
    simp_arith! [et]
    refine ev_mono (h54 ds ar (by omega) (fun p hp => (ha2 p hp).1.2.2.1)) ?_
    rintro _ ⟨ws0, ds, rfl, hw0⟩
    have hp2 : ∀ p ∈ ar, p.2.length ≤ 1000 := fun p hp => (ha2 p hp).1.2.2.1
    have e55 := h55 ws0 1 t (by omega) (by rw [hw0.1]; omega) (fits_rows hw0 hp2)
    have hok : Okay ar (chW 1 t ws0) := ⟨by omega, fun p hp => by rw [ha1]; exact (ha2 p hp).1, chW_fits hw0⟩
    generalize chW 1 t ws0 = ws at e55 hok
    simp_arith! [et, e55, f4]
    have hrb : ∀ i, i ≤ ar.length → (rulesF 0 (ar.take i)).length ≤ 100000 := fun i hi => by
      have h1 := rules_le (sd := 0) (ar := ar) (m := 3) (by decide) (fun p hp => by have := (ha2 p hp).2.1; omega) i hi
      have h2 : 3 ^ i ≤ 3 ^ 5 := Nat.pow_le_pow_right (by decide) (by omega)
      omega
    have e58 := h58 ar ws hok (by omega) hrb
    have hcl := creds_len (ar := ar) (ws := ws)
    have hcp := creds_crp hok
    generalize creds ar ws = cs at e58 hcl hcp
    refine kt ?_
    simp_arith! [e58, f5]
    refine kt ?_
    simp_arith! [pow_20]
    refine ev_mono (h6 ds [.int 1, .int 7, .int 100000000000000000000] (by simp) (by intro d hd; simp at hd; rcases hd with rfl | rfl | rfl <;> exact ⟨_, rfl⟩)) ?_
    rintro _ ⟨mo, ds, rfl, hmo⟩
    have hmo0 : 0 ≤ mo := by
      simp only [List.mem_cons, List.not_mem_nil, or_false, D.int.injEq] at hmo
      rcases hmo with rfl | rfl | rfl <;> decide
    have e60 := h60 cs mo (by omega)
    have hml : (moreC mo cs).length = ar.length := by simp [moreC, hcl]
    have hmp := more_crp hmo0 hcp
    generalize moreC mo cs = ms at e60 hml hmp
    simp_arith! [e60, f6]
    have hnp := none_crp (ar := ar) (ws := ws)
    have etr := tupRep (x := .non) (n := ar.length) (by omega)
    have hrn : List.replicate ar.length D.non = (List.replicate ar.length (none : Option Int)).map oD := by simp [oD]
    rw [hrn] at etr
    have hnl : (List.replicate ar.length (none : Option Int)).length = ar.length := by simp
    generalize List.replicate ar.length (none : Option Int) = nn at etr hnp hnl
    clear hrn
    have jt : ∀ c : Cs, c.length = ar.length → CrP ar ws (c.map oD) → cl 50 [.fz (arD ar), .fz (wsD ws), .fz (.tup (c.map oD))] = some (.v (.bl true), [.fz (arD ar), .fz (wsD ws), .fz (.tup (c.map oD))]) := by
      intro c hl hc
      have R := RowN.cs (cs := c) (by omega)
      obtain ⟨_, e, b, rfl, hb⟩ := h50 ar ws (c.map oD) hok R.e R.n
      rw [hb.mpr hc] at e
      exact e
    have j1 := jt cs hcl hcp
    have j2 := jt ms hml hmp
    have j3 := jt nn hnl hnp
    refine kt ?_
    simp_arith! [ar_len, etr, f7]
    refine kt ?_
    simp_arith! []
    refine lcI D.bl (fun _ => true) (fun d hd => ?_) ?_
    · simp only [List.mem_cons, List.not_mem_nil, or_false] at hd
      rcases hd with rfl | rfl | rfl
      · simp_arith! [j1, is_bl4]; rfl
      · simp_arith! [j2, is_bl4]; rfl
      · simp_arith! [j3, is_bl4]; rfl
    simp_arith! [in_bls]
    refine ⟨fun hc => by simp at hc, fun _ => ?_⟩
    have RL := RowN.cs (cs := cs) (by omega)
    refine kt ?_
    simp_arith! []
    refine ev_mono (h26 (cs.map oD) RL (by simp; omega) (by simp; omega)) ?_
    rintro _ ⟨rows, rfl, hr5, hrows⟩
    simp_arith! [f8]
    refine kt ?_
    simp_arith! []
    refine foR (fun k e => ∃ (rows : List (List D)) (ds : List Int) (s9 : Sl), (∀ r ∈ rows, RowN r) ∧ rows.length = 5 + k ∧ fr s9 = true ∧ e = [.fz (.scr ns), .ow false (LI ds), .fz (.int (i : Nat)), .fz (arD ar), .fz (wsD ws), .fz (.tup (cs.map oD)), .fz (.tup (ms.map oD)), .ow false (.lst [.tup (cs.map oD), .tup (ms.map oD), .tup (nn.map oD)]), .ow false (.lst (rows.map .tup)), s9, s10])
      ⟨rows, ds, _, hrows, hr5, f9, rfl⟩ ?_ ?_
    · clear f9 s9 hrows hr5 rows
      rintro k hk e ⟨rows, ds, s9, hrows, hr5, f9, rfl⟩
      obtain ⟨c, hc, ec⟩ : ∃ c : Cs, c.length = ar.length ∧ idxS (.lst [.tup (cs.map oD), .tup (ms.map oD), .tup (cs.map oD)]) (.int ((k : Int) % 3)) = some (.tup (c.map oD)) := by
        rcases three_of (A := .tup (cs.map oD)) (B := .tup (ms.map oD)) k with h | h
        · exact ⟨cs, hcl, h⟩
        · exact ⟨ms, hml, h⟩
      simp_arith! [f9]
      refine kt ?_
      simp_arith! [ec, ar_len]
      refine ev_mono (h52 ds c ar.length (by omega) (by omega)) ?_
      rintro _ ⟨c', ds, rfl, hc'⟩
      simp_arith! []
      refine ⟨rows ++ [c'.map oD], ds, .fz (.int (k : Nat)), fun r hr => ?_, by simp; omega, rfl, by simp⟩
      rcases List.mem_append.mp hr with hr | hr
      · exact hrows r hr
      · simp at hr
        subst hr
        exact RowN.cs (by omega)
    · clear f9 s9 hrows hr5 rows
      rintro e ⟨rows, ds, s9, hrows, hr5, f9, rfl⟩
      simp_arith! []
      refine kt ?_
      simp_arith! []
      refine foM (f := D.tup) (fun k e => ∃ s10, fr s10 = true ∧ e = [.fz (.scr ns), .ow false (LI ds), .fz (.int (i : Nat)), .fz (arD ar), .fz (wsD ws), .fz (.tup (cs.map oD)), .fz (.tup (ms.map oD)), .ow false (.lst [.tup (cs.map oD), .tup (ms.map oD), .tup (nn.map oD)]), .lk false (.lst (rows.map .tup)), s9, s10]) ⟨_, f10, rfl⟩ ?_ ?_
      · clear f10 s10
        rintro k es hes e ⟨s10, f10, rfl⟩
        have R := hrows es (List.mem_of_getElem? hes)
        obtain ⟨_, e50, b, rfl, hb⟩ := h50 ar ws es hok R.e R.n
        obtain ⟨_, e59, b', rfl, hb'⟩ := h59 ar ws es hok R.e R.n
        have hbb : b' = b := by
          cases b with
          | true => exact hb'.mpr (hb.mp rfl)
          | false => cases b' with
            | false => rfl
            | true => exact (hb.mpr (hb'.mp rfl)).symm
        subst hbb
        have e7 := h7 b'
        simp_arith! [f10]
        refine kt ?_
        simp_arith! [e50, e59, e7]
        exact ⟨_, rfl, rfl⟩
      · clear f10 s10
        rintro e ⟨s10, f10, rfl⟩
        simp_arith! []
        exact ⟨ds, _, _, _, _, _, _, _, _, _, rfl, rfl, rfl, rfl, rfl, rfl, rfl, f9, f10, rfl⟩
  · rintro e ⟨ds, s2, s3, s4, s5, s6, s7, s8, s9, s10, f2, f3, f4, f5, f6, f7, f8, f9, f10, rfl⟩
    simp_arith! []
    refine kt ?_
    simp_arith! []
theorem law11 (Δ : Tb) [A0 Δ] [A1 Δ] [A2 Δ] [A3 Δ] [AK11 Δ] (ns : List Int) (hns : ns.length ≤ 63) : ∃ fin, callN Δ 40 61 [.fz (.scr ns)] = some (.v (.bl true), fin) := by
  obtain ⟨_, h, rfl⟩ := body11 Δ ns hns
  exact ⟨_, h⟩
/-! the table, the text -/
def ΔL : Tb := fun i => if 0 ≤ i ∧ i < 16 then T0 i else if 17 ≤ i ∧ i < 33 then T1 i else if 34 ≤ i ∧ i < 45 then T2 i else if 48 ≤ i ∧ i < 61 then T3 i else if 61 ≤ i ∧ i < 62 then TK11 i else none
instance iA0 : A0 ΔL := ⟨fun i h1 h2 => by unfold ΔL; rw [if_pos ⟨h1, h2⟩]⟩
instance iA1 : A1 ΔL := ⟨fun i h1 h2 => by unfold ΔL; rw [if_neg (show ¬ (0 ≤ i ∧ i < 16) by omega), if_pos ⟨h1, h2⟩]⟩
instance iA2 : A2 ΔL := ⟨fun i h1 h2 => by unfold ΔL; rw [if_neg (show ¬ (0 ≤ i ∧ i < 16) by omega), if_neg (show ¬ (17 ≤ i ∧ i < 33) by omega), if_pos ⟨h1, h2⟩]⟩
instance iA3 : A3 ΔL := ⟨fun i h1 h2 => by unfold ΔL; rw [if_neg (show ¬ (0 ≤ i ∧ i < 16) by omega), if_neg (show ¬ (17 ≤ i ∧ i < 33) by omega), if_neg (show ¬ (34 ≤ i ∧ i < 45) by omega), if_pos ⟨h1, h2⟩]⟩
instance iAK11 : AK11 ΔL := ⟨fun i h1 h2 => by unfold ΔL; rw [if_neg (show ¬ (0 ≤ i ∧ i < 16) by omega), if_neg (show ¬ (17 ≤ i ∧ i < 33) by omega), if_neg (show ¬ (34 ≤ i ∧ i < 45) by omega), if_neg (show ¬ (48 ≤ i ∧ i < 61) by omega), if_pos ⟨h1, h2⟩]⟩
def topL (i : Nat) : Stmt := PySem.Challenge.pw_eachsmove_k11_judge_of_credits.main.body.getD i (.Pass ⟨0, 0, 0, 0⟩)
def tpi : Nat → Nat := fun i => match i with
  | 17 => 1
  | 18 => 2
  | 48 => 4
  | 49 => 5
  | 50 => 6
  | 4 => 8
  | 5 => 9
  | 6 => 10
  | 7 => 11
  | 24 => 12
  | 9 => 13
  | 10 => 14
  | 25 => 15
  | 26 => 16
  | 51 => 17
  | 52 => 18
  | 53 => 19
  | 54 => 20
  | 55 => 21
  | 56 => 22
  | 57 => 23
  | 58 => 24
  | 59 => 25
  | 60 => 26
  | 61 => 27
  | _ => 0
def tpL (i : Nat) : Stmt := topL (tpi i)
def namesL : List (Str × Nat) := ([("is_row", 17), ("is_natural", 18), ("are_credits", 48), ("is_enough", 49), ("judge_credits", 50), ("_law_draws", 4), ("_law_take", 5), ("_law_pick", 6), ("_law_same", 7), ("_law_is_int", 24), ("_law_some_of", 9), ("_law_arena", 10), ("_law_put", 25), ("_law_misshapen", 26), ("_law_rules_in", 51), ("_law_other_numbers", 52), ("_law_move_weight", 53), ("_law_move_weights", 54), ("_law_changed_weights", 55), ("_law_worst_needs", 56)] : List (Str × Nat)) ++ ([("_law_weighted_steps", 57), ("_law_credits", 58), ("_law_shows_credits", 59), ("_law_more_credits", 60), ("law", 61)] : List (Str × Nat))
def freesL : List Str := (["all", "any", "bool", "int", "isinstance", "len", "list", "max", "range", "sorted", "str", "tuple", "zip"] : List Str)
theorem okL0 : OkAt ΔL tpL (gmL namesL freesL) ("is_row", 17) := ⟨_, rfl, fun _ _ _ _ _ _ _ us hl => match us, hl with | [_, _], _ => rfl, by decide +kernel⟩
theorem okL1 : OkAt ΔL tpL (gmL namesL freesL) ("is_natural", 18) := ⟨_, rfl, fun _ _ _ _ _ _ _ us hl => match us, hl with | [_], _ => rfl, by decide +kernel⟩
theorem okL2 : OkAt ΔL tpL (gmL namesL freesL) ("are_credits", 48) := ⟨_, rfl, fun _ _ _ _ _ _ _ us hl => match us, hl with | [_, _], _ => rfl, by decide +kernel⟩
theorem okL3 : OkAt ΔL tpL (gmL namesL freesL) ("is_enough", 49) := ⟨_, rfl, fun _ _ _ _ _ _ _ us hl => match us, hl with | [_, _, _], _ => rfl, by decide +kernel⟩
theorem okL4 : OkAt ΔL tpL (gmL namesL freesL) ("judge_credits", 50) := ⟨_, rfl, fun _ _ _ _ _ _ _ us hl => match us, hl with | [_, _, _], _ => rfl, by decide +kernel⟩
theorem okL5 : OkAt ΔL tpL (gmL namesL freesL) ("_law_draws", 4) := ⟨_, rfl, fun _ _ _ _ _ _ _ us hl => match us, hl with | [_, _], _ => rfl, by decide +kernel⟩
theorem okL6 : OkAt ΔL tpL (gmL namesL freesL) ("_law_take", 5) := ⟨_, rfl, fun _ _ _ _ _ _ _ us hl => match us, hl with | [_, _], _ => rfl, by decide +kernel⟩
theorem okL7 : OkAt ΔL tpL (gmL namesL freesL) ("_law_pick", 6) := ⟨_, rfl, fun _ _ _ _ _ _ _ us hl => match us, hl with | [_, _], _ => rfl, by decide +kernel⟩
theorem okL8 : OkAt ΔL tpL (gmL namesL freesL) ("_law_same", 7) := ⟨_, rfl, fun _ _ _ _ _ _ _ us hl => match us, hl with | [_, _], _ => rfl, by decide +kernel⟩
theorem okL9 : OkAt ΔL tpL (gmL namesL freesL) ("_law_is_int", 24) := ⟨_, rfl, fun _ _ _ _ _ _ _ us hl => match us, hl with | [_], _ => rfl, by decide +kernel⟩
theorem okL10 : OkAt ΔL tpL (gmL namesL freesL) ("_law_some_of", 9) := ⟨_, rfl, fun _ _ _ _ _ _ _ us hl => match us, hl with | [_, _, _], _ => rfl, by decide +kernel⟩
theorem okL11 : OkAt ΔL tpL (gmL namesL freesL) ("_law_arena", 10) := ⟨_, rfl, fun _ _ _ _ _ _ _ us hl => match us, hl with | [_, _, _], _ => rfl, by decide +kernel⟩
theorem okL12 : OkAt ΔL tpL (gmL namesL freesL) ("_law_put", 25) := ⟨_, rfl, fun _ _ _ _ _ _ _ us hl => match us, hl with | [_, _, _], _ => rfl, by decide +kernel⟩
theorem okL13 : OkAt ΔL tpL (gmL namesL freesL) ("_law_misshapen", 26) := ⟨_, rfl, fun _ _ _ _ _ _ _ us hl => match us, hl with | [_], _ => rfl, by decide +kernel⟩
theorem okL14 : OkAt ΔL tpL (gmL namesL freesL) ("_law_rules_in", 51) := ⟨_, rfl, fun _ _ _ _ _ _ _ us hl => match us, hl with | [_, _], _ => rfl, by decide +kernel⟩
theorem okL15 : OkAt ΔL tpL (gmL namesL freesL) ("_law_other_numbers", 52) := ⟨_, rfl, fun _ _ _ _ _ _ _ us hl => match us, hl with | [_, _, _], _ => rfl, by decide +kernel⟩
theorem okL16 : OkAt ΔL tpL (gmL namesL freesL) ("_law_move_weight", 53) := ⟨_, rfl, fun _ _ _ _ _ _ _ us hl => match us, hl with | [_], _ => rfl, by decide +kernel⟩
theorem okL17 : OkAt ΔL tpL (gmL namesL freesL) ("_law_move_weights", 54) := ⟨_, rfl, fun _ _ _ _ _ _ _ us hl => match us, hl with | [_, _], _ => rfl, by decide +kernel⟩
theorem okL18 : OkAt ΔL tpL (gmL namesL freesL) ("_law_changed_weights", 55) := ⟨_, rfl, fun _ _ _ _ _ _ _ us hl => match us, hl with | [_, _, _], _ => rfl, by decide +kernel⟩
theorem okL19 : OkAt ΔL tpL (gmL namesL freesL) ("_law_worst_needs", 56) := ⟨_, rfl, fun _ _ _ _ _ _ _ us hl => match us, hl with | [_], _ => rfl, by decide +kernel⟩
theorem okL20 : OkAt ΔL tpL (gmL namesL freesL) ("_law_weighted_steps", 57) := ⟨_, rfl, fun _ _ _ _ _ _ _ us hl => match us, hl with | [_, _, _, _], _ => rfl, by decide +kernel⟩
theorem okL21 : OkAt ΔL tpL (gmL namesL freesL) ("_law_credits", 58) := ⟨_, rfl, fun _ _ _ _ _ _ _ us hl => match us, hl with | [_, _], _ => rfl, by decide +kernel⟩
theorem okL22 : OkAt ΔL tpL (gmL namesL freesL) ("_law_shows_credits", 59) := ⟨_, rfl, fun _ _ _ _ _ _ _ us hl => match us, hl with | [_, _, _], _ => rfl, by decide +kernel⟩
theorem okL23 : OkAt ΔL tpL (gmL namesL freesL) ("_law_more_credits", 60) := ⟨_, rfl, fun _ _ _ _ _ _ _ us hl => match us, hl with | [_, _], _ => rfl, by decide +kernel⟩
theorem okL24 : OkAt ΔL tpL (gmL namesL freesL) ("law", 61) := ⟨_, rfl, fun _ _ _ _ _ _ _ us hl => match us, hl with | [_], _ => rfl, by decide +kernel⟩
theorem okL : ∀ p ∈ namesL, OkAt ΔL tpL (gmL namesL freesL) p := by
  intro p hp
  simp only [namesL, List.cons_append, List.nil_append, List.mem_cons, List.not_mem_nil, or_false] at hp
  rcases hp with rfl | rfl | rfl | rfl | rfl | rfl | rfl | rfl | rfl | rfl | rfl | rfl | rfl | rfl | rfl | rfl | rfl | rfl | rfl | rfl | rfl | rfl | rfl | rfl | rfl
  · exact okL0
  · exact okL1
  · exact okL2
  · exact okL3
  · exact okL4
  · exact okL5
  · exact okL6
  · exact okL7
  · exact okL8
  · exact okL9
  · exact okL10
  · exact okL11
  · exact okL12
  · exact okL13
  · exact okL14
  · exact okL15
  · exact okL16
  · exact okL17
  · exact okL18
  · exact okL19
  · exact okL20
  · exact okL21
  · exact okL22
  · exact okL23
  · exact okL24
end G
set_option maxHeartbeats 0
namespace HdL
open PySem PySem.Spec PyProof.Rows L2
abbrev R : PySem.W.OpenRow := PySem.W.OpenLaw.row PySem.Challenge.rw_eachsmove_k11_judge_of_credits
abbrev hk : PySem.W.Hook := He.hookD 4 (VI.faL G.namesL G.freesL) (VI.fnL G.namesL G.tpL)
def ob (s : PySem.W.SharedT) : He.AlD := He.obsDG 4 (VI.faL G.namesL G.freesL) (VI.fnL G.namesL G.tpL) (HandSHeadRun.getT s)
theorem ob_eq (s : PySem.W.SharedT) : ob s = hk.obs s.abs := He.obsDG_eq (HandSHeadRun.getT_eq s)
def loose : List PySem.Str := (["is_row", "is_natural", "are_credits", "is_enough", "judge_credits", "_law_draws", "_law_take", "_law_pick", "_law_same", "_law_is_int", "_law_some_of", "_law_arena", "_law_put", "_law_misshapen", "_law_rules_in", "_law_other_numbers", "_law_move_weight", "_law_move_weights", "_law_changed_weights", "_law_worst_needs"] : List PySem.Str) ++ (["_law_weighted_steps", "_law_credits", "_law_shows_credits", "_law_more_credits"] : List PySem.Str)
theorem run (w : World) : HandSHeadRun.RunEq R (PySem.W.view R.prog [27]) hk ob 4000 loose w := by
  intro os
  kernel_rfl
end HdL
open PySem PySem.W PySem.Calls PyProof.Rows
theorem PySem.Challenge.cw_eachsmove_k11_judge_of_credits_holds : PySem.Challenge.rw_eachsmove_k11_judge_of_credits.Holds := by
  w_on; o_law
  refine HandSHeadRun.head_any (r := HdL.R) (q := view HdL.R.prog [27]) (H := HdL.hk) (ob := HdL.ob) (M := 4000) (loose := HdL.loose) (d := HandSHeadRun.topDef HdL.R.prog 27) (kwd := []) HdL.ob_eq
    (by kernel_rfl) (fun s => by kernel_rfl) HdL.run (by kernel_rfl) (by kernel_rfl) (by kernel_rfl) (by rfl) (by first | assumption | decide +kernel) (by decide +kernel) ⟨rfl, rfl, rfl, rfl, rfl, by decide +kernel⟩ ?hw ?hc
  case hw => w_witness2
  case hc =>
    refine L2.walk_ofE (l := PySem.Challenge.rw_eachsmove_k11_judge_of_credits) (n := 63) (k := 40) (x := "script") (CX := L2.CX0) rfl (by decide) (by kernel_rfl) ⟨rfl, by decide, by decide⟩ ?F (fun _ _ _ _ z => z)
    intro w mg fa h Y Gh hmg0
    obtain ⟨K, KX, c⟩ := Y
    have hmg : mg ("law" : PySem.Str) = some (.ref fa) := by
      have e : (HandSHeadRun.topDef HdL.R.prog 27).name = ("law" : PySem.Str) := by kernel_rfl
      rw [← e]
      exact hmg0
    obtain ⟨fd, sp, hb, hs, hF⟩ := VI.law_F (gc := false) (P := (PySem.Challenge.rw_eachsmove_k11_judge_of_credits).prog) (w := w) (n := 63) (k := 40) (i := 61) KX Gh c hmg (fun _ _ _ h => nomatch h) G.okL (by simp [G.namesL]) (fun d hd => by cases hd; rfl) (fun ns hns => G.law11 G.ΔL ns hns)
    exact ⟨K, fd, sp, KX, hb, fun H a ns hl _ hS => hs H a ns hl hS, hF⟩
