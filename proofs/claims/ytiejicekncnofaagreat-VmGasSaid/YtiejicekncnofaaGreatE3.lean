/-
  Part 3 of what the row needs: the executor and what is said of the program's functions, each shown; no condition.
-/
import Derived.RangeFuncRecord
import Derived.RecoverIn
import Derived.Scope
import Derived.Test.YtiejicekncnofaaGreatE2
section
namespace Go.Abs
open Go
section
variable {E : Env} {fuel : Nat} {ops : Array Oper} {anc : List Nat} {tm0 : List AV} {σ0 : Nat → AObj} {n0 : Nat}
theorem lenOf_take_le {evs : List Ev} (hg : Good E fuel ops anc tm0 σ0 n0 evs) : ∀ (k i : Nat), i ≤ k → k ≤ evs.length → lenOf n0 (evs.take i) ≤ lenOf n0 (evs.take k)
  | 0, i, h, _ => by have : i = 0 := by omega
                     subst this; exact Nat.le_refl _
  | k + 1, i, h, hk => by
    by_cases hi : i = k + 1
    · subst hi; exact Nat.le_refl _
    · refine Nat.le_trans (lenOf_take_le hg k i (by omega) (by omega)) ?_
      have hlt : k < evs.length := by omega
      have he : evs[k]? = some evs[k] := by simp [hlt]
      rw [List.take_add_one, he]
      simp only [Option.toList_some, lenOf_snoc]
      have := hg k _ he
      rw [← this.nx]; exact this.le
theorem nx_mono {evs : List Ev} (hg : Good E fuel ops anc tm0 σ0 n0 evs) {i j : Nat} {e e' : Ev} (hi : evs[i]? = some e) (hj : evs[j]? = some e') (hij : i < j) : e.nx' ≤ e'.nx := by
  have hjl : j < evs.length := by
    rcases Nat.lt_or_ge j evs.length with h | h
    · exact h
    · rw [List.getElem?_eq_none h] at hj; cases hj
  rw [(hg j e' hj).nx]
  have := lenOf_take_le hg j (i + 1) (by omega) (by omega)
  rw [List.take_add_one, hi] at this
  simpa [lenOf_snoc] using this
theorem nx_top {evs : List Ev} (hg : Good E fuel ops anc tm0 σ0 n0 evs) {i : Nat} {e : Ev} (hi : evs[i]? = some e) : e.nx' ≤ lenOf n0 evs ∧ n0 ≤ e.nx := by
  have hil : i < evs.length := by
    rcases Nat.lt_or_ge i evs.length with h | h
    · exact h
    · rw [List.getElem?_eq_none h] at hi; cases hi
  constructor
  · have := lenOf_take_le hg evs.length (i + 1) (by omega) (Nat.le_refl _)
    rw [List.take_add_one, hi, List.take_length] at this
    simpa [lenOf_snoc] using this
  · rw [(hg i e hi).nx]
    exact lenOf_take_le hg i 0 (Nat.zero_le _) (by omega)
theorem stS_dead {evs : List Ev} (hg : Good E fuel ops anc tm0 σ0 n0 evs) (h0 : ∀ k, n0 ≤ k → σ0 k = .dead) (S : Nat → Bool) {k : Nat} (hk : lenOf n0 evs ≤ k) : stS S 0 evs σ0 k = .dead := by
  have h1 : stS S 0 evs σ0 k = stS (fun _ => false) 0 evs σ0 k := stS_agree evs 0 σ0 σ0 rfl fun i e hi _ hke => by
    have := (hg i e hi).keys k hke
    have := (nx_top hg hi).1
    omega
  rw [h1, stS_none _ _ _ fun _ _ => rfl]
  have := lenOf_take_le hg evs.length 0 (Nat.zero_le _) (Nat.le_refl _)
  rw [List.take_length] at this
  exact h0 k (Nat.le_trans this hk)
def osOf (N : Nat) (σ : Nat → AObj) : List AObj := (List.range N).map σ
theorem look_osOf {N : Nat} {σ : Nat → AObj} (h : ∀ k, N ≤ k → σ k = .dead) : look (osOf N σ) = σ := by
  funext k
  simp only [look, osOf, List.getD, List.getElem?_map]
  rcases Nat.lt_or_ge k N with hk | hk
  · simp [hk]
  · rw [List.getElem?_eq_none (by simpa using hk), h k hk]; rfl
theorem osOf_look (os : List AObj) : osOf os.length (look os) = os := by
  refine List.ext_getElem (by simp [osOf]) fun i h1 h2 => ?_
  simp [osOf, look, List.getD, h2]
variable {φ0 : Emb} {L0 : Nat → Prop} {w0 : World} {ro : Option Nat} {nf : Nat}
theorem Inv.step2 {aa : AAct} {a : Act} {φ : Emb} {os : List AObj} {w : World} (h : Inv φ0 L0 w0 ro nf aa a φ os w) {nx : Nat} {wr : List (Nat × AObj)} {x : AV} {u : Value} {φ' : Emb} {w' : World} (hres : Res2 φ (look os) w nx wr x u φ' w') (hnx : nf ≤ nx)
    {os2 : List AObj} (hlk : look os2 = updF (look os) wr) (hl : os.length ≤ os2.length) (hk : ∀ k ∈ wr.map Prod.fst, k < os2.length) :
    Inv φ0 L0 w0 ro nf aa a φ' os2 w' ∧ VR φ' (Lv φ' (look os2)) w' x u := by
  refine ⟨⟨by rw [hlk]; exact hres.rel, fun i hi => ?_, hres.le.2.trans h.F, fun i hi => ?_, Nat.le_trans h.len hl, h.keep.trans hres.keep h.lv, fun b hb => (hres.frame b (by rw [h.F]; exact hb)).trans (h.frame b hb),
    fun b hb => ?_, VRs.mono hres.le hres.keep (by rw [hlk]; exact hres.lv) _ _ h.tmps, h.defers.mono hres.le hres.keep (by rw [hlk]; exact hres.lv), h.rnd, h.ft⟩, by rw [hlk]; exact hres.val⟩
  · by_cases he : φ' i = φ i
    · rw [he]; exact h.top i (by omega)
    · have := hk i (hres.new i he).2; omega
  · by_cases he : φ' i = φ i
    · rw [he]; exact h.low i hi
    · have := (hres.new i he).1
      have := h.ft; omega
  · rw [hlk] at hb
    rcases hres.lv b hb with h3 | h3
    · exact h.lv b h3
    · right; exact Nat.le_trans h.keep.size h3
structure Mid (φ0 : Emb) (L0 : Nat → Prop) (w0 : World) (ro : Option Nat) (nf : Nat) (ops : Array Oper) (tm0 : List AV) (σ0 : Nat → AObj) (n0 : Nat) (aa0 : AAct) (evs : List Ev) (listed : Array Bool) (a : Act) (φ : Emb) (w : World) : Prop where
  size : listed.size = ops.size
  below : ∀ j, listed.getD j false = true → j < evs.length
  closed : ∀ j o, ops[j]? = some o → listed.getD j false = true → ∀ e ∈ o.after, Region.binds .any e = true → listed.getD e.on false = true
  inv : Inv φ0 L0 w0 ro nf { aa0 with tmps := tmS (fun j => listed.getD j false) 0 evs tm0 } a φ (osOf (lenOf n0 evs) (stS (fun j => listed.getD j false) 0 evs σ0)) w
  free : ∀ i ev, evs[i]? = some ev → listed.getD i false = false → ∀ k, ev.nx ≤ k → k < ev.nx' → φ k = none ∧ stS (fun j => listed.getD j false) 0 evs σ0 k = .dead
theorem getD_set {listed : Array Bool} {i : Nat} (hi : i < listed.size) (k : Nat) : (listed.setIfInBounds i true).getD k false = (listed.getD k false || k == i) := by
  by_cases hk : i = k
  · subst hk; simp [hi]
  · rw [getD_set_ne false hk]
    have : (k == i) = false := by simp; exact fun h => hk h.symm
    rw [this, Bool.or_false]
theorem drawn_step (hE : ∀ g, SpecOK E.P g (E.spec g)) (hanc : anc = ancs ops.toList []) (hd : drawnOk ops anc 0 [] ops.toList = true) {aa0 : AAct} {evs : List Ev} (hg : Good E fuel ops anc tm0 σ0 n0 evs) (h0 : ∀ k, n0 ≤ k → σ0 k = .dead) (hnf : nf ≤ n0)
    {e : AExit} {aa' : AAct} {os' : List AObj} (hfin : Fin E fuel ops anc tm0 σ0 n0 aa0 evs e aa' os') {m : Nat} {K : Act → World → Prop} {listed : Array Bool} {a : Act} {φ : Emb} {w : World}
    (hM : Mid φ0 L0 w0 ro nf ops tm0 σ0 n0 aa0 evs listed a φ w) {i : Nat} (hi : i ∈ Region.ready .any ops listed)
    (hK : ∀ a' φ' w', Mid φ0 L0 w0 ro nf ops tm0 σ0 n0 aa0 evs (listed.setIfInBounds i true) a' φ' w' → K a' w') :
    wpOpIn (FW ro) m E.P ops (Q0 φ0 L0 w0 ro nf e aa' os') i K a w := by
  obtain ⟨hun, o, ho, hpre⟩ := mem_ready.1 hi
  have hin : i < ops.size := (Array.getElem?_eq_some_iff.1 ho).1
  have hil : i < listed.size := by rw [hM.size]; exact hin
  have hSi : listed.getD i false = false := by simpa [hil] using hun
  let S : Nat → Bool := fun j => listed.getD j false
  have hcl : ∀ j o, ops[j]? = some o → S j = true → ∀ e ∈ o.after, Region.binds .any e = true → S e.on = true := hM.closed
  have pre_in : ∀ j, (anc.getD i 0).testBit j = true → S j = true := fun j h => anc_ready hcl ho hpre (by rw [← hanc]; exact h)
  have not_post : ∀ j, S j = true → ¬ (anc.getD j 0).testBit i = true := fun j hj h => by
    have hjs : j < ops.size := by
      have := hM.below j hj
      rcases Nat.lt_or_ge j listed.size with h' | h'
      · rw [← hM.size]; exact h'
      · have hj' : listed.getD j false = true := hj
        simp [Array.getElem?_eq_none h'] at hj'
    have := anc_closed hcl j i ⟨ops[j], by simp [hjs]⟩ hj (by rw [← hanc]; exact h)
    rw [show S i = false from hSi] at this; cases this
  have hspec := fun (k : Nat) (y : Oper) (hy : ops[k]? = some y) => drawnOk_spec ops.toList [] 0 rfl hd k y (by simpa using hy)
  have apart1 : ∀ j y, ops[j]? = some y → i < j → S j = true → o.apart ops y = true := fun j y hy hij hj => by
    have := (hspec j y hy).2 i o (by omega) (by simpa using ho)
    simp only [Nat.zero_add] at this
    exact this.resolve_left (not_post j hj)
  have apart2 : ∀ j x, ops[j]? = some x → j < i → S j = false → x.apart ops o = true := fun j x hx hij hj => by
    have := (hspec i o ho).2 j x (by omega) (by simpa using hx)
    simp only [Nat.zero_add] at this
    exact this.resolve_left fun h => by rw [pre_in j h] at hj; cases hj
  have hdead : ∀ k, lenOf n0 evs ≤ k → stS S 0 evs σ0 k = .dead := fun k hk => stS_dead hg h0 S hk
  have hlk : look (osOf (lenOf n0 evs) (stS S 0 evs σ0)) = stS S 0 evs σ0 := look_osOf hdead
  have hinv := hM.inv
  unfold wpOpIn
  simp only [ho]
  rcases Nat.lt_or_ge i evs.length with hie | hie
  ·
    have hev : evs[i]? = some evs[i] := by simp [hie]
    generalize evs[i] = ev at hev
    have hga := hg i ev hev
    have hlen : (evs.take i).length = i := by simp; omega
    obtain ⟨⟨o', ho', hdst, hcase⟩, hnx, hle, hkeys⟩ := hga
    rw [hlen] at ho' hcase
    rw [ho] at ho'
    cases ho'
    have dstOf : ∀ (j : Nat) e', evs[j]? = some e' → ∃ y, ops[j]? = some y ∧ e'.dst = y.dst := fun j e' hj => by
      obtain ⟨⟨y, hy, hyd, _⟩, _⟩ := hg j e' hj
      have : (evs.take j).length = j := by
        have : j < evs.length := by
          rcases Nat.lt_or_ge j evs.length with h' | h'
          · exact h'
          · rw [List.getElem?_eq_none h'] at hj; cases hj
        simp; omega
      rw [this] at hy
      exact ⟨y, hy, hyd⟩
    have tmAgree : ∀ d ∈ o.looksAt ops, (tmS S 0 evs tm0).getD d .junk = (TM (evs.take i) tm0).getD d .junk := fun d hd' => by
      rw [TM_take evs i (by omega)]
      refine tmS_agree evs 0 tm0 tm0 rfl rfl fun j e' hj hne => ?_
      simp only [Nat.zero_add] at hne
      obtain ⟨y, hy, hyd⟩ := dstOf j e' hj
      rw [hyd]
      intro hdy
      cases hSj : S j with
      | true =>
        have hji : i < j := by
          rcases Nat.lt_trichotomy i j with h | h | h
          · exact h
          · subst h; rw [show S i = false from hSi] at hSj; cases hSj
          · rw [hSj] at hne; simp [ltB, h] at hne
        exact (Oper.apart_spec (apart1 j y hy hji hSj)).2.2 d hdy hd'
      | false =>
        have hji : j < i := by
          rw [hSj] at hne
          simpa [ltB] using hne
        exact (Oper.apart_spec (apart2 j y hy hji hSj)).1 d hdy hd'
    have hguard : guardA ops (tmS S 0 evs tm0) o = guardA ops (TM (evs.take i) tm0) o := guardA_congr tmAgree
    have hSS : ∀ k, (listed.setIfInBounds i true).getD k false = (S k || k == i) := fun k => getD_set hil k
    have hputS : tmS (fun j => (listed.setIfInBounds i true).getD j false) 0 evs tm0 = putL (tmS S 0 evs tm0) o.dst ev.x := by
      rw [← hdst]
      refine tmS_insert (S := S) (i := i) hSi hSS evs 0 tm0 (Nat.zero_le _) (by simpa using hev) fun k e' hk he' hs d hdd hdd' => ?_
      simp only [Nat.zero_add] at hk hs
      obtain ⟨y, hy, hyd⟩ := dstOf k e' he'
      rw [hyd] at hdd'
      rw [hdst] at hdd
      exact (Oper.apart_spec (apart1 k y hy hk hs)).2.1 d hdd hdd'
    have closed' : ∀ j o, ops[j]? = some o → (listed.setIfInBounds i true).getD j false = true → ∀ e ∈ o.after, Region.binds .any e = true → (listed.setIfInBounds i true).getD e.on false = true := fun j y hy hj e' he' hb => by
      rw [hSS] at hj
      rw [hSS]
      rcases Bool.or_eq_true_iff.1 hj with hj | hj
      · rw [show S e'.on = true from hM.closed j y hy hj e' he' hb]; rfl
      · have : j = i := by simpa using hj
        subst this
        rw [ho] at hy; cases hy
        have := hpre e' he' hb
        rw [show S e'.on = true from this]; rfl
    have below' : ∀ j, (listed.setIfInBounds i true).getD j false = true → j < evs.length := fun j hj => by
      rw [hSS] at hj
      rcases Bool.or_eq_true_iff.1 hj with hj | hj
      · exact hM.below j hj
      · have : j = i := by simpa using hj
        omega
    rcases hcase with ⟨hgd, hx, hwr, hnx'⟩ | ⟨hgd, hlt, hval, hreads, hclash⟩
    ·
      rw [← hguard] at hgd
      rw [wanted_of_guard hgd hinv.tmps]
      simp only [Bool.false_eq_true, if_false]
      have hst : stS (fun j => (listed.setIfInBounds i true).getD j false) 0 evs σ0 = stS S 0 evs σ0 := by
        rw [stS_insert (S := S) (i := i) hSi hSS evs 0 σ0 (Nat.zero_le _) (by simpa using hev) fun k e' _ _ _ q _ => by simp [Ev.keys, hwr], hwr]
        rfl
      refine ⟨fun _ _ => trivial, hK _ φ w ⟨by simpa using hM.size, below', closed', ?_, fun j e' hj hSj k h1 h2 => ?_⟩⟩
      · rw [hst, hputS, hx]
        exact hinv.put o.dst (by rw [VR_v])
      · rw [hst]
        rw [hSS] at hSj
        exact hM.free j e' hj (Bool.or_eq_false_iff.1 hSj).1 k h1 h2
    · rw [← hguard] at hgd
      rw [wanted_of_guard hgd hinv.tmps]
      simp only [if_true]
      have F1 : ∀ (j : Nat) e', evs[j]? = some e' → i < j → S j = true → ∀ k ∈ e'.wrs, k ∉ ev.reads ∧ k ∉ ev.wrs := fun j e' hj hij hSj k hk => by
        obtain ⟨⟨y, hy, hyd, hc⟩, _⟩ := hg j e' hj
        have hjl : (evs.take j).length = j := by
          have : j < evs.length := by
            rcases Nat.lt_or_ge j evs.length with h' | h'
            · exact h'
            · rw [List.getElem?_eq_none h'] at hj; cases hj
          simp; omega
        rcases hc with ⟨_, _, hw, hnn⟩ | ⟨_, _, _, hrd, hcl'⟩
        · simp [Ev.wrs, Ev.keys, hw, hnn] at hk
        · cases hcc : clash (ev.reads, ev.wrs) (e'.reads, e'.wrs) with
          | true =>
            have := hcl' i ev (by rw [List.getElem?_take_of_lt hij]; exact hev) hcc
            rw [hjl] at this
            exact absurd this (not_post j hSj)
          | false =>
            simp only [clash, Bool.or_eq_false_iff] at hcc
            obtain ⟨_, h2, h3⟩ := hcc
            refine ⟨fun hh => ?_, fun hh => ?_⟩
            · rw [meets_iff.2 ⟨k, hk, hh⟩] at h3; cases h3
            · rw [meets_iff.2 ⟨k, hh, hk⟩] at h2; cases h2
      have F2 : ∀ (j : Nat) e', evs[j]? = some e' → j < i → S j = false → ∀ k ∈ e'.wrs, k ∉ ev.reads ∧ k ∉ ev.wrs := fun j e' hj hij hSj k hk => by
        cases hcc : clash (e'.reads, e'.wrs) (ev.reads, ev.wrs) with
        | true =>
          have := hclash j e' (by rw [List.getElem?_take_of_lt hij]; exact hj) hcc
          rw [pre_in j this] at hSj; cases hSj
        | false =>
          simp only [clash, Bool.or_eq_false_iff] at hcc
          obtain ⟨h1, h2, _⟩ := hcc
          refine ⟨fun hh => ?_, fun hh => ?_⟩
          · rw [meets_iff.2 ⟨k, hk, hh⟩] at h1; cases h1
          · rw [meets_iff.2 ⟨k, hk, hh⟩] at h2; cases h2
      have keyW : ∀ {e' : Ev} {k : Nat}, k ∈ e'.keys → k ∈ e'.wrs := fun h => List.mem_append.2 (.inl h)
      have hrd : ∀ k ∈ touchA E (evA (TM (evs.take i) tm0)) (ST (evs.take i) σ0) fuel o, ST (evs.take i) σ0 k = stS S 0 evs σ0 k := fun k hk => by
        rw [← hreads] at hk
        rw [ST_take evs i (by omega)]
        refine (stS_agree evs 0 σ0 σ0 rfl fun j e' hj hne hke => ?_).symm
        simp only [Nat.zero_add] at hne
        cases hSj : S j with
        | true =>
          have hji : i < j := by
            rcases Nat.lt_trichotomy i j with h | h | h
            · exact h
            · subst h; rw [show S i = false from hSi] at hSj; cases hSj
            · rw [hSj] at hne; simp [ltB, h] at hne
          exact (F1 j e' hj hji hSj k (keyW hke)).1 hk
        | false =>
          have hji : j < i := by
            rw [hSj] at hne
            simpa [ltB] using hne
          exact (F2 j e' hj hji hSj k (keyW hke)).1 hk
      have hval' : ∀ (X : Type) (k : AEnd → List (Nat × AObj) → Option X), opVal E fuel o (evA (tmS S 0 evs tm0)) (stS S 0 evs σ0) ev.nx k = k (.ret ev.x) ev.wr := fun X k => by
        rw [opVal_congr_ev (evA_congr tmAgree), opVal_congr_lk hrd]
        exact hval X k
      have hst : stS (fun j => (listed.setIfInBounds i true).getD j false) 0 evs σ0 = updF (stS S 0 evs σ0) ev.wr :=
        stS_insert (S := S) (i := i) hSi hSS evs 0 σ0 (Nat.zero_le _) (by simpa using hev) fun k e' hk he' hs q hq hqe => by
          simp only [Nat.zero_add] at hk hs
          exact (F1 k e' he' hk hs q (keyW hq)).2 (keyW hqe)
      have hfr := hM.free i ev hev hSi
      have htop := nx_top hg hev
      have hrel := hinv.rel
      have htm := hinv.tmps
      rw [hlk] at hrel htm
      refine opVal_sound hE hrel (hfr _ (Nat.le_refl _) hlt).1 (hfr _ (Nat.le_refl _) hlt).2 (fun y => VR_evA htm y) hval' (fun k hk hle' => (hfr k hle' (hkeys k hk)).1) (fun x' hx' φ' u w' hres => ?_) (fun x' hx' => by cases hx')
      cases hx'
      have hst2 := hinv.step2 (os2 := osOf (lenOf n0 evs) (stS (fun j => (listed.setIfInBounds i true).getD j false) 0 evs σ0)) (nx := ev.nx) (wr := ev.wr) (x := ev.x) (u := u) (φ' := φ') (w' := w') (by rw [hlk]; exact hres) (by omega) (by
        rw [look_osOf (fun k hk => stS_dead hg h0 _ hk), hlk]; exact hst) (by simp [osOf]) (fun k hk => by
        have := hkeys k hk
        simp [osOf]; omega)
      refine hK _ φ' w' ⟨by simpa using hM.size, below', closed', ?_, fun j e' hj hSj k h1 h2 => ?_⟩
      · rw [hputS]
        exact hst2.1.put o.dst hst2.2
      · rw [hSS] at hSj
        obtain ⟨hSj, hji⟩ := Bool.or_eq_false_iff.1 hSj
        have hji : j ≠ i := by simpa using hji
        obtain ⟨h3, h4⟩ := hM.free j e' hj hSj k h1 h2
        have hno : k ∈ ev.keys → ev.nx ≤ k → False := fun hk hle' => by
          have := hkeys k hk
          rcases Nat.lt_or_gt_of_ne hji with h | h
          · have := nx_mono hg hj hev h; omega
          · have := nx_mono hg hev hj h; omega
        constructor
        · by_cases hne : φ' k = φ k
          · rw [hne]; exact h3
          · obtain ⟨h5, h6⟩ := hres.new k hne
            exact (hno h6 h5).elim
        · rw [hst]
          by_cases hk : k ∈ ev.keys
          · rcases Nat.lt_or_gt_of_ne hji with h | h
            · refine absurd (keyW hk) (F2 j e' hj h hSj k (List.mem_append.2 (.inr ?_))).2
              rw [List.mem_range'_1]; omega
            · have := nx_mono hg hev hj h
              have := hkeys k hk
              omega
          · rw [updF_not hk]; exact h4
  ·
    rcases hfin with ⟨h1, _⟩ | ⟨o', x, wr, osj, ho', hgd, hoj, hnj, rfl, hval, hsole, rfl, rfl⟩
    · omega
    · unfold soleOk at hsole
      rw [Bool.and_eq_true, List.all_eq_true, List.all_eq_true] at hsole
      obtain ⟨hs1, hs2⟩ := hsole
      have hie' : i = evs.length := by
        rcases Nat.lt_or_ge evs.length i with h | h
        · have := hs2 (i - (evs.length + 1)) (by simp; omega)
          rw [show i - (evs.length + 1) + (evs.length + 1) = i by omega] at this
          have := hM.below _ (pre_in _ this)
          omega
        · omega
      subst hie'
      rw [ho] at ho'
      cases ho'
      have hall : ∀ k, k < evs.length → S (0 + k) = allT (0 + k) := fun k hk => by
        rw [Nat.zero_add]
        exact pre_in k (hs1 k (by simpa using hk))
      have htmE : tmS S 0 evs tm0 = TM evs tm0 := tmS_eq evs 0 tm0 hall
      have hstE : stS S 0 evs σ0 = ST evs σ0 := stS_eq evs 0 σ0 hall
      have hinv' : Inv φ0 L0 w0 ro nf { aa0 with tmps := TM evs tm0 } a φ (osOf (lenOf n0 evs) (ST evs σ0)) w := by
        have := hinv
        rw [show tmS (fun j => listed.getD j false) 0 evs tm0 = TM evs tm0 from htmE, show stS (fun j => listed.getD j false) 0 evs σ0 = ST evs σ0 from hstE] at this
        exact this
      have hlk' : look (osOf (lenOf n0 evs) (ST evs σ0)) = ST evs σ0 := by rw [← hstE]; exact hlk
      rw [wanted_of_guard hgd hinv'.tmps]
      simp only [if_true]
      have hrel := hinv'.rel
      have htm := hinv'.tmps
      rw [hlk'] at hrel htm
      have hlen : (osOf (lenOf n0 evs) (ST evs σ0)).length = lenOf n0 evs := by simp [osOf]
      refine opVal_sound hE hrel (hinv'.top _ (by rw [hlen]; exact Nat.le_refl _)) (by rw [← hstE]; exact hdead _ (Nat.le_refl _)) (fun y => VR_evA htm y) hval (fun k _ hle' => hinv'.top k (by rw [hlen]; exact hle')) (fun x' hx' => by cases hx') (fun x' hx' φ' u w' hres => ?_)
      cases hx'
      obtain ⟨hp1, hp2⟩ := length_putsO wr osj
      have hn0 : n0 ≤ lenOf n0 evs := by
        have := lenOf_take_le hg evs.length 0 (Nat.zero_le _) (Nat.le_refl _)
        rw [List.take_length] at this
        exact this
      have hst2 := hinv'.step2 (os2 := putsO osj wr) (nx := lenOf n0 evs) (wr := wr) (x := x) (u := u) (φ' := φ') (w' := w') (by rw [hlk']; exact hres) (by omega) (by
        rw [look_putsO, hoj, hlk']) (by rw [hlen]; omega) hp2
      exact ⟨φ', ⟨u, rfl, hst2.2⟩, hst2.1⟩
theorem drawn_all (hE : ∀ g, SpecOK E.P g (E.spec g)) (hanc : anc = ancs ops.toList []) (hd : drawnOk ops anc 0 [] ops.toList = true) {aa0 : AAct} {evs : List Ev} (hg : Good E fuel ops anc tm0 σ0 n0 evs) (hlen : evs.length ≤ ops.size) (h0 : ∀ k, n0 ≤ k → σ0 k = .dead) (hnf : nf ≤ n0)
    {e : AExit} {aa' : AAct} {os' : List AObj} (hfin : Fin E fuel ops anc tm0 σ0 n0 aa0 evs e aa' os') {m : Nat} : ∀ (f : Nat) (listed : Array Bool) (a : Act) (φ : Emb) (w : World),
    listed.toList.count false = f → Mid φ0 L0 w0 ro nf ops tm0 σ0 n0 aa0 evs listed a φ w → wpAnyIn (FW ro) m E.P .any ops (Q0 φ0 L0 w0 ro nf e aa' os') f listed a w := by
  have hspec := fun (k : Nat) (y : Oper) (hy : ops[k]? = some y) => drawnOk_spec ops.toList [] 0 rfl hd k y (by simpa using hy)
  have none_ready : ∀ (listed : Array Bool), listed.size = ops.size → Region.ready .any ops listed = [] → ∀ j, j < ops.size → listed.getD j false = true := by
    intro listed hs hr j
    induction j using Nat.strongRecOn with
    | _ j ih =>
      intro hj
      cases hl : listed.getD j false with
      | true => rfl
      | false =>
        have : j ∈ Region.ready .any ops listed := mem_ready.2 ⟨by simpa [hs, hj] using hl, ops[j], by simp [hj], fun e' he' hb => by
          have := (hspec j ops[j] (by simp [hj])).1 e' he' hb
          exact ih e'.on (by omega) (by omega)⟩
        rw [hr] at this; cases this
  have done : ∀ (listed : Array Bool) (a : Act) (φ : Emb) (w : World), Mid φ0 L0 w0 ro nf ops tm0 σ0 n0 aa0 evs listed a φ w → (∀ j, j < ops.size → listed.getD j false = true) → Q0 φ0 L0 w0 ro nf e aa' os' .normal a w := by
    intro listed a φ w hM hall
    have hle : ops.size ≤ evs.length := by
      rcases Nat.lt_or_ge evs.length ops.size with h | h
      · have := hM.below _ (hall _ h); omega
      · exact h
    rcases hfin with ⟨h1, rfl, rfl, hlk, hl⟩ | ⟨o', x, wr, osj, ho', _⟩
    · have hT : ∀ k, k < evs.length → listed.getD (0 + k) false = allT (0 + k) := fun k hk => by rw [Nat.zero_add]; exact hall k (by omega)
      have := hM.inv
      rw [show tmS (fun j => listed.getD j false) 0 evs tm0 = TM evs tm0 from tmS_eq evs 0 tm0 hT, show stS (fun j => listed.getD j false) 0 evs σ0 = ST evs σ0 from stS_eq evs 0 σ0 hT, ← hlk, ← hl, osOf_look] at this
      exact ⟨φ, trivial, this⟩
    · have := (Array.getElem?_eq_some_iff.1 ho').1
      omega
  intro f
  induction f with
  | zero =>
    intro listed a φ w hc hM
    have hall : ∀ j, j < ops.size → listed.getD j false = true := fun j hj => by
      have hjl : j < listed.size := by rw [hM.size]; exact hj
      cases hl : listed.getD j false with
      | true => rfl
      | false =>
        have : false ∈ listed.toList := by
          have : listed[j] = false := by simpa [hjl] using hl
          rw [← this]; exact Array.mem_toList_iff.2 (Array.getElem_mem hjl)
        have := List.count_pos_iff.2 this
        omega
    refine ⟨?_, done listed a φ w hM hall⟩
    refine List.eq_nil_iff_forall_not_mem.2 fun j hj => ?_
    obtain ⟨h1, o, ho, _⟩ := mem_ready.1 hj
    have hjs := (Array.getElem?_eq_some_iff.1 ho).1
    have hjl : j < listed.size := by rw [hM.size]; exact hjs
    have h2 := hall j hjs
    simp [hjl] at h1 h2
    rw [h1] at h2; cases h2
  | succ f ih =>
    intro listed a φ w hc hM
    refine ⟨fun hr => done listed a φ w hM (none_ready listed hM.size hr), fun i hi => ?_⟩
    refine drawn_step hE hanc hd hg h0 hnf hfin hM hi fun a' φ' w' hM' => ih _ a' φ' w' ?_ hM'
    obtain ⟨h1, o, ho, _⟩ := mem_ready.1 hi
    have hil : i < listed.toList.length := by
      have := (Array.getElem?_eq_some_iff.1 ho).1
      rw [← hM.size] at this; simpa using this
    have hfalse : listed.toList[i] = false := by
      have hil' : i < listed.size := by simpa using hil
      simpa [hil'] using h1
    rw [Array.toList_setIfInBounds, List.count_set hil, hfalse, hc]
    rfl
theorem drawnOK (hE : ∀ g, SpecOK E.P g (E.spec g)) : DrawnOK E := by
  intro fuel ops φ0 L0 w0 ro nf n aa a φ os w e aa' os' hd h hi
  obtain ⟨evs, hg, hlen, hfin⟩ := chain (tm0 := aa.tmps) (σ0 := look os) (n0 := os.length) hE (aa0 := aa) ops.toList [] [] aa os rfl (Nat.zero_le _) rfl rfl rfl rfl (fun i ev h => by simp at h) h
  refine drawn_all hE rfl hd hg hlen (fun k hk => look_lt hk) (by rw [← hi.ft]; exact hi.len) hfin ops.size _ a φ w (by simp) ?_
  have hS : ∀ i, (Array.replicate ops.size false).getD i false = false := fun i => by
    simp only [Array.getD_eq_getD_getElem?, Array.getElem?_replicate]
    split <;> rfl
  have htm : tmS (fun j => (Array.replicate ops.size false).getD j false) 0 evs aa.tmps = aa.tmps := tmS_none _ _ _ fun i _ => hS _
  have hst : stS (fun j => (Array.replicate ops.size false).getD j false) 0 evs (look os) = look os := stS_none _ _ _ fun i _ => hS _
  have hn0 : os.length ≤ lenOf os.length evs := by
    have := lenOf_take_le hg evs.length 0 (Nat.zero_le _) (Nat.le_refl _)
    rw [List.take_length] at this
    exact this
  have hlk : look (osOf (lenOf os.length evs) (look os)) = look os := look_osOf fun k hk => look_lt (by omega)
  refine ⟨by simp, fun j hj => absurd hj (by rw [hS]; simp), fun j o _ hj => absurd hj (by rw [hS]; simp), ?_, fun i ev hev _ k h1 h2 => ?_⟩
  · rw [htm, hst]
    exact ⟨by rw [hlk]; exact hi.rel, fun k hk => hi.top k (by simp [osOf] at hk; omega), hi.F, hi.low, by simp [osOf]; exact Nat.le_trans hi.len hn0, hi.keep, hi.frame, by rw [hlk]; exact hi.lv, by rw [hlk]; exact hi.tmps, by rw [hlk]; exact hi.defers, hi.rnd, hi.ft⟩
  · rw [hst]
    have := (nx_top hg hev).2
    exact ⟨hi.top k (by omega), look_lt (by omega)⟩
end
end Go.Abs
end
section
namespace Go.Abs
open Go
section
variable {P : Program} {φ : Emb} {L : Nat → Prop} {w : World} {σ : Nat → AObj}
def resSem (tmps : Array Value) : ResultVar → Sem Value
  | .tmp t => pure (tmps.getD t undef)
  | .cell a t => do loadVar t (← asAddr (tmps.getD a undef))
theorem results_eq (fn : Func) (tmps : Array Value) : results fn tmps = (do let vs ← fn.results.mapM (resSem tmps); pure (if h : vs.size = 1 then vs[0] else .tuple vs)) := by
  unfold results
  congr 1
theorem resultA_sound {tm : List AV} {tmps : Array Value} {os : List AObj} (hr : Rel φ (look os) w) (h : VRs φ (Lv φ (look os)) w tm tmps.toList) {rv : ResultVar} {x : AV} (hx : resultA P tm os rv = some x) :
    ∃ u, (resSem tmps rv).run P w = .ok u w ∧ VR φ (Lv φ (look os)) w x u := by
  cases rv with
  | tmp t =>
    simp only [resultA, Option.some.injEq] at hx
    subst hx
    exact ⟨_, rfl, by simpa using VRs_getD h t undef⟩
  | cell t ty =>
    simp only [resultA] at hx
    split at hx
    case h_2 => cases hx
    rename_i i off ht
    split at hx
    case h_2 => cases hx
    rename_i cs hcs
    split at hx
    case h_2 => cases hx
    rename_i y hy
    simp only [Option.some.injEq] at hx
    subst hx
    have hv := VRs_getD h t undef
    rw [ht] at hv
    simp only [VR] at hv
    obtain ⟨s, hs, _, he⟩ := hv
    have hob := hr.obj i
    rw [hcs] at hob
    obtain ⟨s', e, _, _, _, hc⟩ := hob
    rw [hs] at e; cases e
    obtain ⟨u, h1, h2⟩ := load_sound (P := P) hy hc
    refine ⟨u, ?_, h2⟩
    have he' : tmps.getD t undef = .pointer (some ⟨s.b, s.o + off, none⟩) := by simpa using he
    simp only [resSem, he']
    rw [Sem.run_bind]
    exact h1
theorem resultsL_sound {tm : List AV} {tmps : Array Value} {os : List AObj} (hr : Rel φ (look os) w) (h : VRs φ (Lv φ (look os)) w tm tmps.toList) : ∀ {rs : List ResultVar} {xs : List AV}, resultsL P tm os rs = some xs →
    ∃ us, (rs.mapM (resSem tmps)).run P w = .ok us w ∧ VRs φ (Lv φ (look os)) w xs us
  | [], xs, hx => by
    simp only [resultsL, Option.some.injEq] at hx
    subst hx
    exact ⟨[], rfl, by simp [VRs]⟩
  | r :: rs, xs, hx => by
    simp only [resultsL] at hx
    split at hx
    · rename_i y ys hy hys
      simp only [Option.some.injEq] at hx
      subst hx
      obtain ⟨u, h1, h2⟩ := resultA_sound hr h hy
      obtain ⟨us, h3, h4⟩ := resultsL_sound hr h hys
      refine ⟨u :: us, ?_, by simp only [VRs]; exact ⟨u, us, rfl, h2, h4⟩⟩
      rw [List.mapM_cons, Sem.run_bind, h1, Result.andThen_ok, Sem.run_bind, h3]
      rfl
    · cases hx
theorem resultsA_sound {fn : Func} {tm : List AV} {tmps : Array Value} {os : List AObj} (hr : Rel φ (look os) w) (h : VRs φ (Lv φ (look os)) w tm tmps.toList) {x : AV} (hx : resultsA P fn tm os = some x) :
    ∃ u, (results fn tmps).run P w = .ok u w ∧ VR φ (Lv φ (look os)) w x u := by
  unfold resultsA at hx
  have key : ∀ xs, resultsL P tm os fn.results.toList = some xs → ∃ us : List Value, VRs φ (Lv φ (look os)) w xs us ∧ (results fn tmps).run P w = .ok (if h : us.toArray.size = 1 then us.toArray[0] else .tuple us.toArray) w := fun xs hxs => by
    obtain ⟨us, h1, h2⟩ := resultsL_sound (P := P) hr h hxs
    refine ⟨us, h2, ?_⟩
    rw [results_eq]
    rw [Array.mapM_eq_mapM_toList, Sem.run_bind, Sem.run_map, h1]
    rfl
  split at hx
  · rename_i y hy
    simp only [Option.some.injEq] at hx
    subst hx
    obtain ⟨us, h1, h2⟩ := key _ hy
    simp only [VRs] at h1
    obtain ⟨u, _, rfl, h3, rfl⟩ := h1
    exact ⟨u, by simpa using h2, h3⟩
  · rename_i xs hne hxs
    simp only [Option.some.injEq] at hx
    subst hx
    obtain ⟨us, h1, h2⟩ := key _ hxs
    have hl := VRs_length h1
    have : us.length ≠ 1 := fun e => by
      rw [e] at hl
      obtain ⟨y, rfl⟩ := List.length_eq_one_iff.1 hl.symm
      exact hne y rfl
    refine ⟨.tuple us.toArray, by simpa [this] using h2, ?_⟩
    simp only [VR]
    exact ⟨_, rfl, by simpa using h1⟩
  · cases hx
theorem leaveA_det (fuel foot : Nat) (e : AEnd) (os : List AObj) :
    (∃ e' os', ∀ (X : Type) (k : AEnd → List AObj → Option X), leaveA fuel foot e os k = k e' os') ∨ ∀ (X : Type) (k : AEnd → List AObj → Option X), leaveA fuel foot e os k = none := by
  unfold leaveA
  cases Nat.ble os.length foot with
  | true => exact .inl ⟨_, _, fun _ _ => rfl⟩
  | false =>
    simp only [cond_false]
    generalize reach (look os) fuel _ [] = ids
    cases prefOk foot 0 ids with
    | true => exact .inl ⟨_, _, fun _ _ => rfl⟩
    | false => exact .inr fun _ _ => rfl
theorem finishA_det (m : Mode) (kss : List (List LK)) (fuel foot : Nat) (x : AV) (os : List AObj) :
    (∃ e' os', ∀ (X : Type) (k : AEnd → List AObj → Option X), finishA m kss fuel foot x os k = k e' os') ∨ ∀ (X : Type) (k : AEnd → List AObj → Option X), finishA m kss fuel foot x os k = none := by
  cases m <;> exact leaveA_det _ _ _ _
theorem prefOk_get : ∀ {n i : Nat} {ids : List Nat}, prefOk n i ids = true → n ≤ ids.length ∧ ∀ j, j < n → ids[j]? = some (i + j)
  | 0, _, _, _ => ⟨Nat.zero_le _, fun j h => absurd h (Nat.not_lt_zero _)⟩
  | n + 1, i, [], h => by simp [prefOk] at h
  | n + 1, i, k :: ids, h => by
    simp only [prefOk, Bool.and_eq_true] at h
    obtain ⟨h1, h2⟩ := h
    have : i = k := Nat.eq_of_beq_eq_true h1
    subst this
    obtain ⟨h3, h4⟩ := prefOk_get h2
    refine ⟨by simpa using h3, fun j hj => ?_⟩
    cases j with
    | zero => simp
    | succ j =>
      have := h4 j (by omega)
      rw [show i + (j + 1) = i + 1 + j by omega]
      simpa using this
theorem leaveA_sound {φ0 : Emb} {σ0 : Nat → AObj} {w0 : World} {fuel n : Nat} {e e' : AEnd} {os os' : List AObj} (h : ∀ (X : Type) (k : AEnd → List AObj → Option X), leaveA fuel n e os k = k e' os') (hi : Last φ0 σ0 w0 n φ os w) {en : Ending}
    (hv : endR (VR φ (Lv φ (look os)) w) e en) : ∃ φ', endR (fun x u => Post φ0 σ0 n w0 x os' u w φ') e' en := by
  unfold leaveA at h
  cases hb : Nat.ble os.length n with
  | true =>
    simp only [hb, cond_true] at h
    obtain ⟨rfl, rfl⟩ := some_of_det (f := fun X (k : AEnd → List AObj → Option X) => k e os) (fun _ _ => rfl) h
    exact ⟨φ, hv.mono fun x v h => ⟨hi.len, hi.F, hi.low, hi.top, hi.keep, hi.rel, hi.lv, hi.frame, h⟩⟩
  | false =>
    simp only [hb, cond_false] at h
    generalize hids : reach (look os) fuel _ [] = ids at h
    have hnd : ids.Nodup := by rw [← hids]; exact reach_nodup _ _ _ _ List.nodup_nil
    cases hp : prefOk n 0 ids with
    | false => rw [hp] at h; exact (none_of_det h fun _ _ => rfl).elim
    | true =>
      rw [hp] at h
      simp only [cond_true] at h
      obtain ⟨rfl, rfl⟩ := some_of_det (f := fun X (k : AEnd → List AObj → Option X) => k (e.map (subA (downS ids))) (ids.map fun i => (look os i).sub (downS ids))) (fun _ _ => rfl) h
      obtain ⟨hlen, hget⟩ := prefOk_get hp
      obtain ⟨hrd, hlv, hvd⟩ := hi.rel.down hnd (F := φ.F) (fun b h => .inl h)
      refine ⟨subφ φ ids φ.F, hv.map fun x v h => ⟨by simpa using hlen, hi.F, fun i hi' => ?_, fun i hi' => ?_, hi.keep, by rw [look_sub]; exact hrd, fun b hb' => hi.lv b (hlv b (by rw [look_sub] at hb'; exact hb')), hi.frame, ?_⟩⟩
      · have := hget i hi'
        rw [subφ_at (i := i) (by simpa using this)]
        exact hi.low i hi'
      · simp only [List.length_map] at hi'
        show (ids[i]?).bind _ = none
        rw [List.getElem?_eq_none hi']; rfl
      · rw [look_sub]; exact hvd x v h
theorem frz2_sound (hr : Rel φ σ w) (kss : List (List LK)) {x : AV} {u : Value} (h : VR φ (Lv φ σ) w x u) : VR φ (Lv φ (frzBy σ (ownIds2 σ x))) w (frz2 σ kss x) u := by
  unfold frz2
  split
  · rename_i vs
    simp only [VR] at h ⊢
    obtain ⟨us, e, h⟩ := h
    exact ⟨us, e, VRs_frzAll hr kss h fun i hi => hi⟩
  · rename_i y hy
    have h2 : ownIds2 σ x = ownIds1 σ x := by cases x <;> first | rfl | exact absurd rfl (hy _)
    rw [h2]
    split
    · exact VR_frz1 hr _ h fun i hi => hi
    · have h3 := VR_frz1 hr (js := ownIds1 σ x) [] h fun i hi => hi
      have base : VR φ (Lv φ (frzBy σ (ownIds1 σ x))) w x u := by
        rw [← frzBy_eq]
        exact VR.mono φ.le_refl (Keep.refl _ _) (fun b hb => .inl ((hr.weaken (frzWr_weak _)).2 b hb)) _ _ h
      exact base
theorem finishA_sound {φ0 : Emb} {σ0 : Nat → AObj} {w0 : World} {m : Mode} {kss : List (List LK)} {fuel n : Nat} {x : AV} {e' : AEnd} {os os' : List AObj} (h : ∀ (X : Type) (k : AEnd → List AObj → Option X), finishA m kss fuel n x os k = k e' os') (hi : Last φ0 σ0 w0 n φ os w) {u : Value}
    (hv : VR φ (Lv φ (look os)) w x u) : ∃ φ', endR (fun x u => Post φ0 σ0 n w0 x os' u w φ') e' (.returned u) := by
  have other : (∀ (X : Type) (k : AEnd → List AObj → Option X), leaveA fuel n (.ret x) os k = k e' os') → ∃ φ', endR (fun x u => Post φ0 σ0 n w0 x os' u w φ') e' (.returned u) := fun h => leaveA_sound h hi (en := .returned u) hv
  cases m with
  | ref => exact other h
  | fresh => exact other h
  | val =>
    simp only [finishA] at h
    obtain ⟨hr1, hlv1⟩ := hi.rel.weaken (frzWr_weak (σ := look os) (ownIds2 (look os) x))
    have hlk : look (putsO os ((ownIds2 (look os) x).map fun i => (i, frzObj (look os i)))) = frzBy (look os) (ownIds2 (look os) x) := by
      rw [look_putsO, ← frzBy_eq]; rfl
    rw [frzBy_eq] at hr1 hlv1
    obtain ⟨hl1, hl2⟩ := length_putsO ((ownIds2 (look os) x).map fun i => (i, frzObj (look os i))) os
    refine leaveA_sound h ⟨by rw [hlk]; exact hr1, fun i hi' => hi.top i (by omega), hi.F, hi.low, Nat.le_trans hi.len hl1, hi.keep, hi.frame, fun b hb => hi.lv b (hlv1 b (by rw [hlk] at hb; exact hb))⟩ (en := .returned u) ?_
    rw [hlk]
    exact frz2_sound hi.rel kss hv
end
structure RunOK (E : Env) (run : Runs) : Prop where
  det : ∀ c a os, Det3 (run c a os)
  ok : ∀ (φ0 : Emb) (L0 : Nat → Prop) (w0 : World) (ro : Option Nat) (nf m : Nat) (c : Code) (aa : AAct) (os : List AObj) (e : AExit) (aa' : AAct) (os' : List AObj), (∀ X k, run c aa os X k = k e aa' os') →
    ∀ (a : Act) (φ : Emb) (w : World), Inv φ0 L0 w0 ro nf aa a φ os w → c.wpIn (FW ro) m E.P (Q0 φ0 L0 w0 ro nf e aa' os') a w
def InlOK (E : Env) : Prop := ∀ g fc, E.inl g = some fc → E.P.funcs[g]? = some fc.1 ∧ fc.1.body = some fc.2 ∧ (fc.1.name == "runtime.NumGoroutine") = false
def DetK {B : Type} (f : ∀ X : Type, (B → List AObj → Option X) → Option X) : Prop := (∃ b os', ∀ X k, f X k = k b os') ∨ ∀ X (k : B → List AObj → Option X), f X k = none
section run
variable {E : Env} {run : Runs}
theorem plainOps_det : ∀ (l : List Oper) (a : AAct) (os : List AObj), (∃ a' os', ∀ (X : Type) (k : AAct → List AObj → Option X), plainOps E l a os X k = k a' os') ∨ ∀ (X : Type) (k : AAct → List AObj → Option X), plainOps E l a os X k = none
  | [], a, os => .inl ⟨_, _, fun _ _ => rfl⟩
  | o :: l, a, os => by
    simp only [plainOps]
    split
    · exact .inr fun _ _ => rfl
    · split
      · exact .inr fun _ _ => rfl
      · rename_i b x wr _
        cases b with
        | false => exact .inr fun _ _ => rfl
        | true => exact plainOps_det l _ _
theorem endD_det (e : AExit) (a : AAct) (os : List AObj) : (∃ os', ∀ (X : Type) (k : List AObj → Option X), endD e a os k = k os') ∨ ∀ (X : Type) (k : List AObj → Option X), endD e a os k = none := by
  unfold endD
  cases e with
  | normal => cases a.defers.isEmpty with
    | true => exact .inl ⟨_, fun _ _ => rfl⟩
    | false => exact .inr fun _ _ => rfl
  | ret => cases a.defers.isEmpty with
    | true => exact .inl ⟨_, fun _ _ => rfl⟩
    | false => exact .inr fun _ _ => rfl
  | _ => exact .inr fun _ _ => rfl
theorem runD_det (hrun : RunOK E run) (c : Code) (a : AAct) (st : Option AV) (os : List AObj) : DetK fun _ k => runD E run c a st os k := by
  have tail : ∀ (c : Code) (a : AAct) (os : List AObj) (st : Option AV), DetK fun X (k : Option AV → List AObj → Option X) => run c a os X fun e a os => endD e a os fun os => k st os := fun c a os st => by
    rcases hrun.det c a os with ⟨e, a1, os1, h⟩ | h
    · simp only [DetK, h]
      rcases endD_det e a1 os1 with ⟨os2, h2⟩ | h2
      · exact .inl ⟨st, os2, fun X k => h2 X _⟩
      · exact .inr fun X k => h2 X _
    · exact .inr fun X k => h X _
  unfold runD
  split
  · rename_i o ops rest _
    rcases plainOps_det (E := E) (ops.toList.drop 1) (a.put o.dst (st.getD (.v .nilIface))) os with ⟨a1, os1, h⟩ | h
    · simp only [DetK, h]; exact tail rest a1 os1 none
    · exact .inr fun X k => h X _
  · exact tail c a os st
theorem unwind_det (hrun : RunOK E run) (fuel : Nat) (f : FuncId) (fn : Func) (tm : List AV) (foot : Nat) : ∀ (ds : List (Option FuncId × List AV)) (st : Option AV) (os : List AObj), DetK (unwind E run fuel f fn tm foot ds st os)
  | [], none, os => by
    simp only [DetK, unwind]
    split
    · exact finishA_det _ _ _ _ _ _
    · exact .inr fun _ _ => rfl
  | [], some x, os => by
    simp only [DetK, unwind]
    exact leaveA_det _ _ _ _
  | (none, args) :: ds, st, os => by
    simp only [DetK, unwind]
    split
    · split
      · exact unwind_det hrun fuel f fn tm foot ds st _
      · exact .inr fun _ _ => rfl
    · exact .inr fun _ _ => rfl
  | (some g, args) :: ds, st, os => by
    simp only [DetK, unwind]
    split
    · exact .inr fun _ _ => rfl
    · rename_i fc _
      cases fc.1.results.isEmpty with
      | false => exact .inr fun _ _ => rfl
      | true =>
        simp only [cond_true]
        rcases runD_det hrun fc.2 (initAct g fc.1 args os) st os with ⟨st1, os1, h⟩ | h
        · simp only [h]
          exact unwind_det hrun fuel f fn tm foot ds st1 os1
        · exact .inr fun X k => h X _
theorem ends_det (hrun : RunOK E run) (n : Nat) (f : FuncId) (fn : Func) (e : AExit) (a : AAct) (os : List AObj) : DetK fun _ k => ends E run n f fn e a os k := by
  unfold ends
  cases e with
  | normal => exact unwind_det hrun _ _ _ _ _ _ _ _
  | ret => exact unwind_det hrun _ _ _ _ _ _ _ _
  | panic x => exact unwind_det hrun _ _ _ _ _ _ _ _
  | exit i => exact .inr fun _ _ => rfl
variable {φ0 : Emb} {σ0 : Nat → AObj} {w0 : World}
theorem Last.step {n : Nat} {φ : Emb} {os : List AObj} {w : World} (h : Last φ0 σ0 w0 n φ os w) {nx : Nat} {wr : List (Nat × AObj)} {x : AV} {u : Value} {φ' : Emb} {w' : World} (hres : Res2 φ (look os) w nx wr x u φ' w') (hnx : n ≤ nx)
    {os2 : List AObj} (hlk : look os2 = updF (look os) wr) (hl : os.length ≤ os2.length) (hk : ∀ k ∈ wr.map Prod.fst, k < os2.length) : Last φ0 σ0 w0 n φ' os2 w' := by
  refine ⟨by rw [hlk]; exact hres.rel, fun i hi => ?_, hres.le.2.trans h.F, fun i hi => ?_, Nat.le_trans h.len hl, h.keep.trans hres.keep h.lv, fun b hb => (hres.frame b (by rw [h.F]; exact hb)).trans (h.frame b hb), fun b hb => ?_⟩
  · by_cases he : φ' i = φ i
    · rw [he]; exact h.top i (by omega)
    · have := hk i (hres.new i he).2; omega
  · by_cases he : φ' i = φ i
    · rw [he]; exact h.low i hi
    · have := (hres.new i he).1; omega
  · rw [hlk] at hb
    rcases hres.lv b hb with h3 | h3
    · exact h.lv b h3
    · right; exact Nat.le_trans h.keep.size h3
theorem Last.trans {n : Nat} {φ : Emb} {os : List AObj} {w : World} (h : Last φ0 σ0 w0 n φ os w) {φ' : Emb} {os' : List AObj} {w' : World} (hl : Last φ (look os) w os.length φ' os' w') :
    Last φ0 σ0 w0 n φ' os' w' ∧ φ.le φ' := by
  have hle1 : ∀ i s, φ i = some s → φ' i = some s := fun i s e => by
    rcases Nat.lt_or_ge i os.length with h1 | h1
    · rw [hl.low i h1]; exact e
    · rw [h.top i h1] at e; cases e
  exact ⟨⟨hl.rel, hl.top, hl.F.trans h.F, fun i hi => (hl.low i (Nat.lt_of_lt_of_le hi h.len)).trans (h.low i hi), Nat.le_trans h.len hl.len, h.keep.trans hl.keep h.lv, fun b hb => (hl.frame b (by rw [h.F]; exact hb)).trans (h.frame b hb),
    fun b hb => (hl.lv b hb).elim (h.lv b) fun h2 => .inr (Nat.le_trans h.keep.size h2)⟩, hle1, hl.F⟩
theorem Last.shut {n : Nat} {φ : Emb} {os : List AObj} {w : World} (h : Last φ0 σ0 w0 n φ os w) {i : Nat} {s : Slot} (hi : φ i = some s) (hreal : s.real = true) (hlive : (look os i).live = true) {w' : World} (hkeep : Keep (fun b => b = s.b) w w') :
    Last φ0 σ0 w0 n φ (putO os i .dead) w' ∧ Keep (Lv φ (look os)) w w' ∧ ∀ b, Lv φ (look (putO os i .dead)) b → Lv φ (look os) b := by
  have hres : Res φ (look os) w n [(i, .dead)] .junk undef φ w' := Res.write h.rel hi hreal hlive hkeep .dead .junk undef fun L _ _ => ⟨trivial, VR_junk _⟩
  have hlk : look (putO os i .dead) = updF (look os) [(i, .dead)] := look_putsO [(i, .dead)] os
  have hil : i < os.length := by
    rcases Nat.lt_or_ge i os.length with h1 | h1
    · exact h1
    · rw [h.top i h1] at hi; cases hi
  refine ⟨h.step hres.two (Nat.le_refl _) hlk (by rw [length_putO]; omega) (fun k hk => ?_), hres.keep, fun b hb => ?_⟩
  · simp only [List.map_cons, List.map_nil, List.mem_singleton] at hk
    subst hk; rw [length_putO]; omega
  · rcases hb with hF | ⟨j, t, h1, h2, h3, h4⟩
    · exact .inl hF
    · rw [look_putO] at h1
      split at h1
      · cases h1
      · exact .inr ⟨j, t, h1, h2, h3, h4⟩
def stR (V : AV → Value → Prop) : Option AV → FrameMode → Prop
  | none, u => u = .returning
  | some x, u => ∃ v, u = .panicking [{ v, recovered := false }] ∧ V x v
theorem plainOps_sound {ro : Option Nat} {nf : Nat} {L0 : Nat → Prop} {ops : Array Oper} {cs : List Frame} {m : Nat} {Q : Exit → Act → List Frame → World → Prop} {aa' : AAct} {os' : List AObj} : ∀ (l : List Oper) (j : Nat) (aa : AAct) (os : List AObj) (a : Act) (φ : Emb) (w : World),
    ops.toList.drop j = l → (∀ (X : Type) (k : AAct → List AObj → Option X), plainOps E l aa os X k = k aa' os') → Inv φ0 L0 w0 ro nf aa a φ os w → (∀ a' φ' w', Inv φ0 L0 w0 ro nf aa' a' φ' os' w' → Q .normal a' cs w') →
    wpOpsSIn (FW none) m E.P ops Q (List.range' j l.length) a cs w
  | [], j, aa, os, a, φ, w, _, h, hi, hQ => by
    obtain ⟨rfl, rfl⟩ := some_of_det (f := fun X (k : AAct → List AObj → Option X) => k aa os) (fun _ _ => rfl) h
    exact hQ a φ w hi
  | o :: l, j, aa, os, a, φ, w, hl, h, hi, hQ => by
    have hoj : ops[j]? = some o := by
      have : (ops.toList.drop j)[0]? = some o := by rw [hl]; rfl
      simpa using this
    have hl' : ops.toList.drop (j + 1) = l := by
      have : (ops.toList.drop j).drop 1 = l := by rw [hl]; rfl
      simpa [List.drop_drop] using this
    simp only [List.length_cons, List.range'_succ, wpOpsSIn, hoj]
    refine ⟨fun _ _ => trivial, ?_⟩
    simp only [plainOps] at h
    split at h
    · exact (none_of_det h fun _ _ => rfl).elim
    rename_i hg
    split at h
    · exact (none_of_det h fun _ _ => rfl).elim
    rename_i b x wr hop
    cases b with
    | false => exact (none_of_det h fun _ _ => rfl).elim
    | true =>
      simp only [cond_true] at h
      have hw : Region.wanted o (yielded ops a.tmps) = true := by simp [Region.wanted, hg]
      rw [hw]
      simp only [if_true]
      obtain ⟨φ', u, w', hy, hres⟩ := opA_sound hi.rel (hi.top _ (Nat.le_refl _)) (look_lt (Nat.le_refl _)) (fun y => VR_evA hi.tmps y) hop
      obtain ⟨hi', hv⟩ := hi.step hres.two
      rcases hy with hy | ⟨hy, rfl⟩
      · rw [hy]
        exact plainOps_sound l (j + 1) _ _ _ φ' w' hl' h (hi'.put o.dst hv) hQ
      · rw [hy]
        exact plainOps_sound l (j + 1) _ _ _ φ' w' hl' h (hi'.put o.dst hv) hQ
theorem results_none {P : Program} {fn : Func} (h : fn.results.isEmpty = true) (tmps : Array Value) (w : World) : (results fn tmps).run P w = .ok (.tuple #[]) w := by
  have : fn.results = #[] := by simpa using h
  rw [results_eq, this, Array.mapM_eq_mapM_toList, Sem.run_bind, Sem.run_map]
  rfl
theorem recoverOf_some {c : Code} {o : Oper} {ops : Array Oper} {rest : Code} (h : recoverOf c = some (o, ops, rest)) : ∃ id cl, c = .seq (.region id ops false) rest ∧ ops[0]? = some o ∧ o.guard = none ∧ o.op = .call cl ∧ cl.callee = .builtin .recover := by
  unfold recoverOf at h
  split at h
  case h_2 => cases h
  rename_i id ops' rest'
  split at h
  case h_2 => cases h
  rename_i o' ho
  split at h
  case h_2 => cases h
  rename_i cl hop hg
  split at h
  case h_2 => cases h
  rename_i hcal
  simp only [Option.some.injEq, Prod.mk.injEq] at h
  obtain ⟨rfl, rfl, rfl⟩ := h
  exact ⟨id, cl, rfl, ho, hg, hop, hcal⟩
theorem runD_sound (hrun : RunOK E run) {g : FuncId} {fn : Func} {c : Code} (hf : E.P.funcs[g]? = some fn) (hb : fn.body = some c) (hres : fn.results.isEmpty = true) {args : List AV} {st st' : Option AV} {os os' : List AObj}
    (h : ∀ (X : Type) (k : Option AV → List AObj → Option X), runD E run c (initAct g fn args os) st os k = k st' os') {φ : Emb} {w : World} {vals : Array Value} (hr : Rel φ (look os) w) (htop : ∀ i, os.length ≤ i → φ i = none)
    (hv : VRs φ (Lv φ (look os)) w args vals.toList) {u : FrameMode} (hst : stR (VR φ (Lv φ (look os)) w) st u) {m : Nat} :
    CallsDIn (FW none) m E.P g vals u w fun en u' w' => (∃ v, en = .returned v) ∧ ∃ φ', Last φ (look os) w os.length φ' os' w' ∧ stR (VR φ' (Lv φ' (look os')) w') st' (settle u') := by
  have hi : Inv φ (Lv φ (look os)) w none os.length (initAct g fn args os) { tmps := vals ++ Array.replicate (fn.ntmps - vals.size) undef, defers := [] } φ os w :=
    ⟨hr, htop, rfl, fun _ _ => rfl, Nat.le_refl _, Keep.refl _ _, fun _ _ => rfl, fun _ h => .inl h, by
      simp only [initAct, Array.toList_append, Array.toList_replicate]
      refine VRs_append hv ?_
      have hl := VRs_length hv
      have : vals.size = args.length := by simpa using hl
      rw [this]
      exact VRs_replicate _ (by rw [VR_v]), rfl, rfl, rfl⟩
  have last : ∀ {aa1 : AAct} {a' : Act} {φ' : Emb} {os1 : List AObj} {w' : World}, Inv φ (Lv φ (look os)) w none os.length aa1 a' φ' os1 w' → Last φ (look os) w os.length φ' os1 w' := fun hi1 =>
    ⟨hi1.rel, hi1.top, hi1.F, fun i hi' => hi1.low i (by rw [hi1.ft]; exact hi'), by have := hi1.len; rw [hi1.ft] at this; exact this, hi1.keep, hi1.frame, hi1.lv⟩
  have fin : ∀ {e1 : AExit} {aa1 : AAct} {os1 : List AObj} {st1 : Option AV}, (∀ (X : Type) (k : Option AV → List AObj → Option X), (endD e1 aa1 os1 fun os => k st1 os) = k st' os') → st1 = st' ∧ os1 = os' ∧ aa1.defers.isEmpty = true ∧ (e1 = .normal ∨ e1 = .ret) := by
    intro e1 aa1 os1 st1 h
    unfold endD at h
    cases e1 with
    | normal =>
      cases hd : aa1.defers.isEmpty with
      | false => simp only [hd] at h; exact (none_of_det h fun _ _ => rfl).elim
      | true =>
        simp only [hd, cond_true] at h
        obtain ⟨h1, h2⟩ := some_of_det (f := fun X (k : Option AV → List AObj → Option X) => k st1 os1) (fun _ _ => rfl) h
        exact ⟨h1, h2, rfl, .inl rfl⟩
    | ret =>
      cases hd : aa1.defers.isEmpty with
      | false => simp only [hd] at h; exact (none_of_det h fun _ _ => rfl).elim
      | true =>
        simp only [hd, cond_true] at h
        obtain ⟨h1, h2⟩ := some_of_det (f := fun X (k : Option AV → List AObj → Option X) => k st1 os1) (fun _ _ => rfl) h
        exact ⟨h1, h2, rfl, .inr rfl⟩
    | exit i => exact (none_of_det h fun _ _ => rfl).elim
    | panic x => exact (none_of_det h fun _ _ => rfl).elim
  have nodef : ∀ {aa1 : AAct} {a' : Act} {φ' : Emb} {os1 : List AObj} {w' : World}, Inv φ (Lv φ (look os)) w none os.length aa1 a' φ' os1 w' → aa1.defers.isEmpty = true → a'.defers = [] := fun hi1 hd => by
    have := hi1.defers
    rw [List.isEmpty_iff.1 hd] at this
    exact this
  unfold runD at h
  split at h
  · rename_i o ops rest hrec
    obtain ⟨id, cl, rfl, ho0, hg, hop, hcal⟩ := recoverOf_some hrec
    rcases plainOps_det (E := E) (ops.toList.drop 1) ((initAct g fn args os).put o.dst (st.getD (.v .nilIface))) os with ⟨aa1, os1, h1⟩ | h1
    rotate_left
    · exact (none_of_det h fun X k => by rw [h1]).elim
    simp only [h1] at h
    rcases hrun.det rest aa1 os1 with ⟨e2, aa2, os2, h2⟩ | h2
    rotate_left
    · exact (none_of_det h fun X k => by rw [h2]).elim
    simp only [h2] at h
    obtain ⟨rfl, rfl, hd2, he2⟩ := fin h
    refine callsDIn_of_wpSIn hf hb trivial fun c₀ cs hc₀ => ?_
    have hrecD : ∃ u1 v, (match recoverD (c₀ :: cs) with | some (v, cs') => v = v ∧ True | none => True) ∧ True ∧ settle u1 = .returning ∧ VR φ (Lv φ (look os)) w (st.getD (.v .nilIface)) v ∧
        ((recoverD (c₀ :: cs) = some (v, { c₀ with mode := u1 } :: cs)) ∨ (recoverD (c₀ :: cs) = none ∧ v = .nilIface ∧ { c₀ with mode := u1 } = c₀)) := by
      cases st with
      | none =>
        have hu : u = .returning := hst
        refine ⟨.returning, .nilIface, ?_, trivial, rfl, by simp [VR], .inr ⟨?_, rfl, ?_⟩⟩
        · split <;> simp
        · simp [recoverD, hc₀, hu]
        · rw [← hu, ← hc₀]
      | some x =>
        obtain ⟨v, hu, hvx⟩ := hst
        refine ⟨.panicking [{ v, recovered := true }], v, ?_, trivial, rfl, hvx, .inl ?_⟩
        · split <;> simp
        · simp [recoverD, hc₀, hu]
    obtain ⟨u1, v, _, _, hset, hvx, hrecc⟩ := hrecD
    have hi0 := hi.put o.dst hvx
    have rest_ok : ∀ a' φ' w', Inv φ (Lv φ (look os)) w none os.length aa1 a' φ' os1 w' → rest.wpSIn (FW none) m E.P (bodyPostS E.P fn c₀ cs fun en u' w' => (∃ v, en = .returned v) ∧ ∃ φ', Last φ (look os) w os.length φ' os2 w' ∧ stR (VR φ' (Lv φ' (look os2)) w') none (settle u')) a' ({ c₀ with mode := u1 } :: cs) w' := by
      intro a' φ' w' hi'
      refine wpSIn_of_wpIn rfl (wpIn_mono (hrun.ok φ (Lv φ (look os)) w none os.length m rest aa1 os1 e2 aa2 os2 h2 a' φ' w' hi') ?_)
      rintro e' a2 w2 ⟨φ2, he, hi2⟩
      rcases he2 with rfl | rfl
      · cases e' <;> simp only [exitR] at he
        exact ⟨nodef hi2 hd2, u1, rfl, .tuple #[], results_none hres _ _, ⟨_, rfl⟩, φ2, last hi2, hset⟩
      · cases e' <;> simp only [exitR] at he
        exact ⟨nodef hi2 hd2, u1, rfl, .tuple #[], results_none hres _ _, ⟨_, rfl⟩, φ2, last hi2, hset⟩
    refine wpSIn_seq (wpSIn_region ?_)
    have hsz : ops.size = (ops.toList.drop 1).length + 1 := by
      have := (Array.getElem?_eq_some_iff.1 ho0).1
      simp; omega
    rw [List.range_eq_range', hsz, List.range'_succ]
    simp only [wpOpsSIn, ho0]
    refine ⟨fun _ _ => trivial, ?_⟩
    rw [show Region.wanted o (yielded ops _) = true by simp [Region.wanted, hg]]
    simp only [if_true]
    have hrr : ∀ (ev : Operand → Value), (execOp ev o).run E.P w = .ok .recover w := fun ev => by
      unfold execOp
      simp only [hop, resolve, hcal]
      rfl
    rw [hrr]
    have fwd := plainOps_sound (ops := ops) (m := m) (cs := { c₀ with mode := u1 } :: cs) (Q := Exit.thenS (rest.wpSIn (FW none) m E.P (bodyPostS E.P fn c₀ cs fun en u' w' => (∃ v, en = .returned v) ∧ ∃ φ', Last φ (look os) w os.length φ' os2 w' ∧ stR (VR φ' (Lv φ' (look os2)) w') none (settle u'))) (bodyPostS E.P fn c₀ cs fun en u' w' => (∃ v, en = .returned v) ∧ ∃ φ', Last φ (look os) w os.length φ' os2 w' ∧ stR (VR φ' (Lv φ' (look os2)) w') none (settle u')))
      (ops.toList.drop 1) 1 _ os _ φ w rfl h1 hi0 fun a' φ' w' hi' => rest_ok a' φ' w' hi'
    rcases hrecc with hrecc | ⟨hrecc, rfl, hcc⟩
    · simp only [hrecc]
      exact fwd
    · simp only [hrecc]
      rw [hcc] at fwd
      exact fwd
  · rename_i hrec
    rcases hrun.det c (initAct g fn args os) os with ⟨e2, aa2, os2, h2⟩ | h2
    rotate_left
    · exact (none_of_det h fun X k => by rw [h2]).elim
    simp only [h2] at h
    obtain ⟨rfl, rfl, hd2, he2⟩ := fin h
    refine CallsDIn.mono (callsDIn_of_wp (R := fun en w' => (∃ v, en = .returned v) ∧ ∃ φ', Last φ (look os) w os.length φ' os2 w' ∧ stR (VR φ' (Lv φ' (look os2)) w') st (settle u)) hf hb trivial (wpIn_mono (hrun.ok φ (Lv φ (look os)) w none os.length m c _ os e2 aa2 os2 h2 _ φ w hi) ?_)) ?_
    · rintro e' a2 w2 ⟨φ2, he, hi2⟩
      have hl2 := last hi2
      have hle : φ.le φ2 := ⟨fun i s e => by
        rcases Nat.lt_or_ge i os.length with h1 | h1
        · rw [hl2.low i h1]; exact e
        · rw [htop i h1] at e
          exact absurd e (by simp), hl2.F⟩
      have hstu : stR (VR φ2 (Lv φ2 (look os2)) w2) st (settle u) := by
        cases st with
        | none => have : u = .returning := hst
                  subst this; rfl
        | some x =>
          obtain ⟨v, rfl, hvx⟩ := hst
          exact ⟨v, rfl, VR.mono hle hl2.keep hl2.lv _ _ hvx⟩
      rcases he2 with rfl | rfl
      · cases e' <;> simp only [exitR] at he
        exact ⟨nodef hi2 hd2, .tuple #[], results_none hres _ _, ⟨_, rfl⟩, φ2, hl2, hstu⟩
      · cases e' <;> simp only [exitR] at he
        exact ⟨nodef hi2 hd2, .tuple #[], results_none hres _ _, ⟨_, rfl⟩, φ2, hl2, hstu⟩
    · rintro en u' w' ⟨rfl, h⟩
      exact h
theorem keep_putObj {w : World} {b : Nat} (o : Obj) : Keep (fun k => k = b) w (w.putObj b o) :=
  ⟨rfl, rfl, rfl, by simp, fun k _ hk => World.putObj_heap_other hk⟩
theorem unwind_sound (hrun : RunOK E run) (hinl : InlOK E) {fuel : Nat} {f : FuncId} {fn : Func} {tm : List AV} {foot : Nat} {tmps : Array Value} {e : AEnd} {os' : List AObj} {m : Nat} : ∀ (ds : List (Option FuncId × List AV)) (st : Option AV) (os : List AObj),
    (∀ (X : Type) (k : AEnd → List AObj → Option X), unwind E run fuel f fn tm foot ds st os X k = k e os') → ∀ (es : List Deferred) (φ : Emb) (w : World) (u : FrameMode), Last φ0 σ0 w0 foot φ os w → VRs φ (Lv φ (look os)) w tm tmps.toList → DefR φ (Lv φ (look os)) w ds es →
    stR (VR φ (Lv φ (look os)) w) st u → LeavesInM (FW none) m E.P fn tmps (fun en w' => ∃ φ', endR (fun x u => Post φ0 σ0 foot w0 x os' u w' φ') e en) es u w
  | [], none, os, h, es, φ, w, u, hl, ht, hd, hst => by
    have hes : es = [] := hd
    have hu : u = .returning := hst
    subst hes; subst hu
    simp only [unwind] at h
    split at h
    · rename_i x hx
      obtain ⟨v, h1, h2⟩ := resultsA_sound hl.rel ht hx
      exact ⟨v, h1, finishA_sound h hl h2⟩
    · exact (none_of_det h fun _ _ => rfl).elim
  | [], some x, os, h, es, φ, w, u, hl, ht, hd, hst => by
    have hes : es = [] := hd
    subst hes
    obtain ⟨v, rfl, hv⟩ := hst
    simp only [unwind] at h
    exact leaveA_sound h hl (en := .panicked [{ v, recovered := false }]) ⟨v, rfl, hv⟩
  | (none, args) :: ds, st, os, h, es, φ, w, u, hl, ht, hd, hst => by
    simp only [unwind] at h
    split at h
    case h_2 => exact (none_of_det h fun _ _ => rfl).elim
    rename_i i
    split at h
    case h_2 => exact (none_of_det h fun _ _ => rfl).elim
    rename_i hblk
    simp only [DefR] at hd
    obtain ⟨b, rest, rfl, h2, h3⟩ := hd
    simp only [VRs] at h2
    obtain ⟨y, ys, he, hy, rfl⟩ := h2
    simp only [List.cons.injEq, and_true] at he
    subst he
    simp only [VR] at hy
    obtain ⟨s, hs, hreal, hb⟩ := hy
    simp only [Value.func.injEq, Fn.yield.injEq, and_true] at hb
    subst hb
    have hob := hl.rel.obj i
    rw [hblk] at hob
    obtain ⟨s', e', _, hheap⟩ := hob
    rw [hs] at e'; cases e'
    have hrun' := run_takeDeferred (P := E.P) hheap
    obtain ⟨hl', hk', hlv'⟩ := hl.shut hs hreal (by rw [hblk]; rfl) (keep_putObj (b := s.b) (.deferred none))
    generalize w.putObj s.b (.deferred none) = w' at hrun' hl' hk' hlv'
    have hmono : ∀ x v, VR φ (Lv φ (look os)) w x v → VR φ (Lv φ (look (putO os i .dead))) w' x v := fun x v h => VR.mono φ.le_refl hk' (fun b hb => .inl (hlv' b hb)) x v h
    have hst' : stR (VR φ (Lv φ (look (putO os i .dead))) w') st u := by
      cases st with
      | none => exact hst
      | some x => obtain ⟨v, hu, hv⟩ := hst; exact ⟨v, hu, hmono _ _ hv⟩
    refine ⟨fun hu => ?_, .inl ⟨s.b, w', rfl, hrun', ?_⟩⟩
    · subst hu
      cases st with
      | none => cases hst
      | some x => obtain ⟨v, hu, _⟩ := hst; cases hu
    · exact unwind_sound hrun hinl ds st _ h rest φ w' u hl' (VRs.mono φ.le_refl hk' (fun b hb => .inl (hlv' b hb)) _ _ ht) (h3.mono φ.le_refl hk' fun b hb => .inl (hlv' b hb)) hst'
  | (some g, args) :: ds, st, os, h, es, φ, w, u, hl, ht, hd, hst => by
    simp only [unwind] at h
    split at h
    · exact (none_of_det h fun _ _ => rfl).elim
    rename_i fc hfc
    cases hre : fc.1.results.isEmpty with
    | false => simp only [hre, cond_false] at h; exact (none_of_det h fun _ _ => rfl).elim
    | true =>
      simp only [hre, cond_true] at h
      obtain ⟨hf, hb, hnm⟩ := hinl g fc hfc
      rcases runD_det hrun fc.2 (initAct g fc.1 args os) st os with ⟨st1, os1, h1⟩ | h1
      rotate_left
      · exact (none_of_det h fun X k => h1 X _).elim
      simp only [h1] at h
      simp only [DefR] at hd
      obtain ⟨cap, ars, rest, rfl, h2, h3⟩ := hd
      refine ⟨fun hu => ?_, .inr ⟨fun h => by simp at h, .func g, cap, g, ars ++ cap, rfl, ?_, fun _ _ => trivial, ?_⟩⟩
      · subst hu
        cases st with
        | none => cases hst
        | some x => obtain ⟨v, hu, _⟩ := hst; cases hu
      · show (invoke (.fn (.func g) cap) ars).run E.P w = _
        unfold invoke callFunc
        simp only
        rw [Sem.run_bind, run_program]
        simp only [Result.andThen_ok, hf, hnm, hb, Option.isNone_some, Bool.false_eq_true, if_false]
        rfl
      · refine CallsDIn.mono (runD_sound hrun hf hb hre h1 hl.rel hl.top h2 hst) ?_
        rintro en u' w' ⟨⟨v, rfl⟩, φ', hl1, hst1⟩
        obtain ⟨hl2, hle⟩ := hl.trans hl1
        exact unwind_sound hrun hinl ds st1 os1 h rest φ' w' (settle u') hl2 (VRs.mono hle hl1.keep hl1.lv _ _ ht) (h3.mono hle hl1.keep hl1.lv) hst1
theorem bodyWith_det (hrun : RunOK E run) (n : Nat) (f : FuncId) (fn : Func) (c : Code) (args : List AV) (os : List AObj) : DetK (bodyWith E run n f fn c args os) := by
  unfold DetK bodyWith
  rcases hrun.det c (initAct f fn args os) os with ⟨e, a, os1, h⟩ | h
  · simp only [h]
    exact ends_det hrun _ _ _ _ _ _
  · exact .inr fun X k => h X _
theorem bodyWith_ok (hrun : RunOK E run) (hinl : InlOK E) {n : Nat} {f : FuncId} {fn : Func} {c : Code} (hf : E.P.funcs[f]? = some fn) (hb : fn.body = some c) (hnm : (fn.name == "runtime.NumGoroutine") = false) : SpecOK E.P f (bodyWith E run n f fn c) := by
  refine ⟨fun args os => bodyWith_det hrun n f fn c args os, fun args os e os' h φ w vals hr htop hv => ?_⟩
  unfold bodyWith at h
  right
  constructor
  · unfold callFunc
    rw [Sem.run_bind, run_program]
    simp only [Result.andThen_ok, hf, hnm, hb, Option.isNone_some, Bool.false_eq_true, if_false]
    rfl
  · rcases hrun.det c (initAct f fn args os) os with ⟨e1, a1, os1, h1⟩ | h1
    rotate_left
    · exact (none_of_det h fun X k => by rw [h1]).elim
    simp only [h1] at h
    have hl := VRs_length hv
    have hi : Inv φ (Lv φ (look os)) w none os.length (initAct f fn args os) { tmps := vals ++ Array.replicate (fn.ntmps - vals.size) undef, defers := [] } φ os w :=
      ⟨hr, htop, rfl, fun _ _ => rfl, Nat.le_refl _, Keep.refl _ _, fun _ _ => rfl, fun _ h => .inl h, by
        simp only [initAct, Array.toList_append, Array.toList_replicate]
        refine VRs_append hv ?_
        have : vals.size = args.length := by simpa using hl
        rw [this]
        exact VRs_replicate _ (by rw [VR_v]), rfl, rfl, rfl⟩
    refine (callsIn_wide (n := 0)).1 (callsIn_of_wp_marks (F := FW none) (n := 0) hf hb trivial (wpIn_mono (hrun.ok φ (Lv φ (look os)) w none os.length 0 c _ os e1 a1 os1 h1 _ φ w hi) ?_))
    rintro e' a' w' ⟨φ1, he, hi1⟩
    have hfoot : a1.foot = os.length := hi1.ft
    have last : Last φ (look os) w os.length φ1 os1 w' :=
      ⟨hi1.rel, hi1.top, hi1.F, fun i hi' => hi1.low i (by rw [hfoot]; exact hi'), by rw [← hfoot]; exact hi1.len, hi1.keep, hi1.frame, hi1.lv⟩
    unfold ends at h
    rw [hfoot] at h
    cases e1 with
    | normal =>
      cases e' <;> simp only [exitR] at he
      exact unwind_sound hrun hinl a1.defers none os1 h a'.defers φ1 w' .returning last hi1.tmps hi1.defers rfl
    | ret =>
      cases e' <;> simp only [exitR] at he
      exact unwind_sound hrun hinl a1.defers none os1 h a'.defers φ1 w' .returning last hi1.tmps hi1.defers rfl
    | exit i => exact (none_of_det h fun _ _ => rfl).elim
    | panic x =>
      cases e' <;> simp only [exitR] at he
      obtain ⟨v, rfl, hv'⟩ := he
      exact unwind_sound hrun hinl a1.defers (some x) os1 h a'.defers φ1 w' _ last hi1.tmps hi1.defers ⟨v, rfl, hv'⟩
theorem at_ok (hE : ∀ g, SpecOK E.P g (E.spec g)) (hrun : RunOK E run) (hinl : InlOK E) (n : Nat) (g : FuncId) : SpecOK (Env.at E run n).P g ((Env.at E run n).spec g) := by
  show SpecOK E.P g (match E.inl g with | some fc => bodyWith E run n g fc.1 fc.2 | none => E.spec g)
  cases hg : E.inl g with
  | none => exact hE g
  | some fc =>
    obtain ⟨h1, h2, h3⟩ := hinl g fc hg
    exact bodyWith_ok hrun hinl h1 h2 h3
end run
end Go.Abs
end
section
namespace Go.Abs
open Go
section
variable {E : Env} {run : Runs}
theorem yieldF_det (hrun : RunOK E run) : YDet (yieldF run) := by
  intro i args os
  unfold yieldF
  split
  · rename_i fn tm ps asg bd _
    split
    · rcases hrun.det asg { tmps := (ps.zip args).foldl (fun tm p => tm.set p.1 p.2) tm, defers := [], fn := fn, foot := os.length, round := true } (putO os i .dead) with ⟨e, a1, os1, h⟩ | h
      · simp only [h]
        cases e with
        | normal =>
          rcases hrun.det bd a1 os1 with ⟨e2, a2, os2, h2⟩ | h2
          · simp only [h2]
            cases e2 with
            | panic x => exact .inr fun _ _ => rfl
            | _ => exact .inl ⟨_, _, fun _ _ => rfl⟩
          · exact .inr fun X k => h2 X _
        | _ => exact .inr fun _ _ => rfl
      · exact .inr fun X k => h X _
    · exact .inr fun _ _ => rfl
  · exact .inr fun _ _ => rfl
theorem VRs_fold {φ : Emb} {L : Nat → Prop} {w : World} : ∀ (ps : List Tmp) (args : List AV) (vals : List Value) (tm : List AV) (tmps : Array Value), VRs φ L w args vals → VRs φ L w tm tmps.toList →
    VRs φ L w ((ps.zip args).foldl (fun tm p => tm.set p.1 p.2) tm) ((ps.zip vals).foldl (fun (tmps : Array Value) p => tmps.setIfInBounds p.1 p.2) tmps).toList
  | [], args, vals, tm, tmps, _, h => by simpa using h
  | p :: ps, [], vals, tm, tmps, ha, h => by
    simp only [VRs] at ha
    subst ha; simpa using h
  | p :: ps, a :: args, vals, tm, tmps, ha, h => by
    simp only [VRs] at ha
    obtain ⟨v, vs, rfl, h1, h2⟩ := ha
    simp only [List.zip_cons_cons, List.foldl_cons]
    exact VRs_fold ps args vs _ _ h2 (by rw [Array.toList_setIfInBounds]; exact VRs_set h p h1)
theorem Rel.poke {φ : Emb} {σ : Nat → AObj} {w w' : World} (hr : Rel φ σ w) {b : Nat} (hb : φ.F b) (hk : Keep (fun k => k = b) w w') : Rel φ σ w' := by
  have hk' : Keep (Lv φ σ) w w' := hk.mono fun k _ e => e ▸ .inl hb
  exact ⟨fun i => (hr.obj i).mono φ.le_refl hk' (fun _ h => .inl h) fun s e hl hrl => hk.block _ ((hr.obj i).lt hl e hrl) fun e' => hr.out i s hl e hrl (e' ▸ hb), hr.inj, hr.out, fun k hk0 => Nat.lt_of_lt_of_le (hr.old k hk0) hk.size⟩
theorem yieldF_ok (hrun : RunOK E run) {ro : Option Nat} : YOK E.P ro (yieldF run) := by
  intro i args os x os' h φ w vals s hr htop hv hs hreal
  unfold yieldF at h
  split at h
  case h_2 => exact (none_of_det h fun _ _ => rfl).elim
  rename_i fn tm ps asg bd hobj
  split at h
  case isFalse => exact (none_of_det h fun _ _ => rfl).elim
  rename_i hlen
  have hil : i < os.length := by
    rcases Nat.lt_or_ge i os.length with h1 | h1
    · exact h1
    · rw [htop i h1] at hs; cases hs
  have hob := hr.obj i
  rw [hobj] at hob
  obtain ⟨s', e, _, r, hheap, htm, hps, hasg, hbd, hpend, hst⟩ := hob
  rw [hs] at e; cases e
  simp only [Option.isNone_none, if_true] at hst
  have hil' : (look os i).live = true := by rw [hobj]; rfl
  have hblt : s.b < w.heap.size := (Array.getElem?_eq_some_iff.1 hheap).1
  have hvl : vals.size = args.length := by simpa using VRs_length hv
  have hy := run_yield (P := E.P) (args := vals) hheap (by rw [hps]; simp; omega)
  rw [hasg, hbd] at hy
  refine ⟨r.fn, _, asg, bd, hy, fun n => ?_⟩
  let aa0 : AAct := { tmps := (ps.zip args).foldl (fun tm p => tm.set p.1 p.2) tm, defers := [], fn := fn, foot := os.length, round := true }
  rcases hrun.det asg aa0 (putO os i .dead) with ⟨e1, a1, os1, h1⟩ | h1
  rotate_left
  · exact (none_of_det h fun X k => h1 X _).elim
  have h1' : ∀ (X : Type) (k : AExit → AAct → List AObj → Option X), run asg { tmps := (ps.zip args).foldl (fun tm p => tm.set p.1 p.2) tm, defers := [], fn := fn, foot := os.length, round := true } (putO os i .dead) X k = k e1 a1 os1 := h1
  simp only [h1'] at h
  cases e1 with
  | exit id => exact (none_of_det h fun _ _ => rfl).elim
  | ret => exact (none_of_det h fun _ _ => rfl).elim
  | panic y => exact (none_of_det h fun _ _ => rfl).elim
  | normal =>
  rcases hrun.det bd a1 os1 with ⟨e2, a2, os2, h2⟩ | h2
  rotate_left
  · exact (none_of_det h fun X k => h2 X _).elim
  simp only [h2] at h
  let φF : Emb := ⟨φ.at_, fun b => φ.F b ∨ b = s.b⟩
  have hat : ∀ j, φF j = φ j := fun _ => rfl
  have notF : ¬ φ.F s.b := hr.out i s hil' hs hreal
  have lk0 : ∀ j, look (putO os i .dead) j = if j = i then .dead else look os j := look_putO os i .dead
  have hLv1 : ∀ b, Lv φF (look (putO os i .dead)) b → Lv φ (look os) b := by
    rintro b ((hF | rfl) | ⟨j, t, l1, l2, l3, l4⟩)
    · exact .inl hF
    · exact .inr ⟨i, s, hil', hs, hreal, rfl⟩
    · rw [lk0] at l1
      split at l1
      · cases l1
      · exact .inr ⟨j, t, l1, l2, l3, l4⟩
  have hLv2 : ∀ b, Lv φ (look os) b → Lv φF (look (putO os i .dead)) b := by
    rintro b (hF | ⟨j, t, l1, l2, l3, l4⟩)
    · exact .inl (.inl hF)
    · by_cases hj : j = i
      · subst hj
        rw [hs] at l2; cases l2
        exact .inl (.inr l4.symm)
      · exact .inr ⟨j, t, by rw [lk0, if_neg hj]; exact l1, l2, l3, l4⟩
  have hrF : Rel φF (look (putO os i .dead)) w := by
    refine ⟨fun j => ?_, fun j k t t' lj lk ej ek rj rk hb => ?_, fun j t lj ej rj => ?_, fun b hb => ?_⟩
    · rw [lk0]
      split
      · trivial
      · exact (hr.obj j).mono' (fun _ _ h => h) (Keep.refl _ _) (fun b hb => .inl (hLv1 b hb)) fun _ _ _ _ => rfl
    · rw [lk0] at lj lk
      split at lj
      · cases lj
      · split at lk
        · cases lk
        · exact hr.inj j k t t' lj lk ej ek rj rk hb
    · rw [lk0] at lj
      split at lj
      · cases lj
      · rename_i hj
        rintro (hF | hb)
        · exact hr.out j t lj ej rj hF
        · exact hj (hr.inj j i t s lj hil' ej hs rj hreal hb)
    · rcases hb with hb | rfl
      · exact hr.old b hb
      · exact hblt
  have hl0 : (putO os i .dead).length = os.length := by rw [length_putO]; omega
  have htm0 : VRs φF (Lv φF (look (putO os i .dead))) w aa0.tmps (((r.params.zip vals).foldl (fun tmps (p : Tmp × Value) => tmps.setIfInBounds p.1 p.2) r.tmps)).toList := by
    have := VRs_fold ps args vals.toList tm r.tmps hv htm
    have e1 : ((r.params.zip vals).foldl (fun (tmps : Array Value) (p : Tmp × Value) => tmps.setIfInBounds p.1 p.2) r.tmps) = (ps.zip vals.toList).foldl (fun (tmps : Array Value) p => tmps.setIfInBounds p.1 p.2) r.tmps := by
      rw [hps, ← Array.foldl_toList, Array.toList_zip]
    rw [e1]
    exact VRs.mono' (φ := φ) (φ' := φF) (fun _ _ h => h) (Keep.refl _ _) (fun b hb => .inl (hLv1 b hb)) _ _ this
  have hi0 : Inv φF (Lv φF (look (putO os i .dead))) w (some s.b) os.length aa0 { tmps := (r.params.zip vals).foldl (fun tmps (p : Tmp × Value) => tmps.setIfInBounds p.1 p.2) r.tmps, defers := [] } φF (putO os i .dead) w :=
    ⟨hrF, fun j hj => htop j (by omega), rfl, fun _ _ => rfl, by show os.length ≤ _; omega, Keep.refl _ _, fun _ _ => rfl, fun _ h => .inl h, htm0, rfl, rfl, rfl⟩
  refine roundIn_of_wpIn (F := FW ro) trivial (wpIn_mono (hrun.ok φF (Lv φF (look (putO os i .dead))) w (some s.b) os.length n asg aa0 (putO os i .dead) .normal a1 os1 h1 _ φF w hi0) ?_)
  rintro e' a' w1 ⟨φ1, he, hi1⟩
  cases e' <;> simp only [exitR] at he
  have hheap1 : w1.heap[s.b]? = some (.loop r) := (hi1.frame s.b (.inr rfl)).trans hheap
  refine ⟨_, run_beginRound hheap1 hst, ?_⟩
  generalize hw2 : w1.putObj s.b (.loop { r with state := .busy }) = w2
  have hk12 : Keep (fun k => k = s.b) w1 w2 := by rw [← hw2]; exact keep_putObj _
  have hF1 : φ1.F s.b := by rw [hi1.F]; exact .inr rfl
  have hheap2 : w2.heap[s.b]? = some (.loop { r with state := .busy }) := by
    rw [← hw2]; exact World.putObj_heap_same (Array.getElem?_eq_some_iff.1 hheap1).1
  have hk12' : Keep (Lv φ1 (look os1)) w1 w2 := hk12.mono fun k _ e => e ▸ .inl hF1
  have hi2 : Inv φ1 (Lv φ1 (look os1)) w2 (some s.b) os.length a1 a' φ1 os1 w2 :=
    ⟨hi1.rel.poke hF1 hk12, hi1.top, rfl, fun _ _ => rfl, hi1.len, Keep.refl _ _, fun _ _ => rfl, fun _ h => .inl h, VRs.mono φ1.le_refl hk12' (fun _ h => .inl h) _ _ hi1.tmps, hi1.defers.mono φ1.le_refl hk12' (fun _ h => .inl h), hi1.rnd, hi1.ft⟩
  refine wpIn_mono (hrun.ok φ1 (Lv φ1 (look os1)) w2 (some s.b) os.length n bd a1 os1 e2 a2 os2 h2 a' φ1 w2 hi2) ?_
  rintro e' a3 w3 ⟨φ3, he, hi3⟩
  have hheap3 : w3.heap[s.b]? = some (.loop { r with state := .busy }) := (hi3.frame s.b hF1).trans hheap2
  have hF3 : ∀ b, φ3.F b ↔ (φ.F b ∨ b = s.b) := fun b => by rw [hi3.F, hi1.F]
  have low3 : ∀ j, j < os.length → φ3 j = φ j := fun j hj => (hi3.low j (by rw [hi3.ft]; exact hj)).trans (hi1.low j (by rw [hi1.ft]; exact hj))
  have len3 : os.length ≤ os2.length := by have := hi3.len; rw [hi3.ft] at this; exact this
  have done : ∀ (jump : Option Code), ∃ w4 φ', (Instr.endRound s.b jump).run E.P w3 = .ok (.bool jump.isNone) w4 ∧ Last φ (look os) w os.length φ' (putO os2 i (.loop fn tm ps asg bd jump)) w4 := by
    intro jump
    have hend := run_endRound (P := E.P) jump hheap3
    simp only at hend
    generalize hw4 : w3.putObj s.b (.loop { r with state := if jump.isNone then .ready else .done, pending := jump }) = w4 at hend
    have hk34 : Keep (fun k => k = s.b) w3 w4 := by rw [← hw4]; exact keep_putObj _
    have hheap4 : w4.heap[s.b]? = some (.loop { r with state := if jump.isNone then .ready else .done, pending := jump }) := by
      rw [← hw4]; exact World.putObj_heap_same (Array.getElem?_eq_some_iff.1 hheap3).1
    let φ' : Emb := ⟨φ3.at_, φ.F⟩
    have lk' : ∀ j, look (putO os2 i (.loop fn tm ps asg bd jump)) j = if j = i then .loop fn tm ps asg bd jump else look os2 j := look_putO os2 i _
    have hl3 : ∀ b, Lv φ3 (look os2) b → Lv φ (look os) b ∨ w.heap.size ≤ b := fun b hb => by
      rcases hi3.lv b hb with h4 | h4
      · rcases hi1.lv b h4 with h5 | h5
        · exact .inl (hLv1 b h5)
        · exact .inr h5
      · right
        have h5 := hi1.keep.size
        have h6 := hk12.size
        omega
    have hlv' : ∀ b, Lv φ' (look (putO os2 i (.loop fn tm ps asg bd jump))) b → Lv φ3 (look os2) b := by
      rintro b (hF | ⟨j, t, l1, l2, l3, l4⟩)
      · exact .inl ((hF3 b).2 (.inl hF))
      · rw [lk'] at l1
        split at l1
        · rename_i hj
          subst hj
          have : φ3 j = some t := l2
          rw [low3 j hil, hs] at this
          cases this
          exact .inl ((hF3 b).2 (.inr l4.symm))
        · exact .inr ⟨j, t, l1, l2, l3, l4⟩
    have hsb : Lv φ (look os) s.b := .inr ⟨i, s, hil', hs, hreal, rfl⟩
    have hkeep : Keep (Lv φ (look os)) w w4 := by
      have k1 : Keep (Lv φ (look os)) w w1 := hi1.keep.mono fun b _ hb => hLv1 b hb
      have k2 : Keep (Lv φ (look os)) w w2 := k1.trans hk12 fun b hb => .inl (hb ▸ hsb)
      have k3 : Keep (Lv φ (look os)) w w3 := k2.trans hi3.keep fun b hb => (hi1.lv b hb).imp (hLv1 b) id
      exact k3.trans hk34 fun b hb => .inl (hb ▸ hsb)
    have hle : ∀ j t, φ j = some t → φ' j = some t := fun j t e => by
      have hj : j < os.length := by
        rcases Nat.lt_or_ge j os.length with h4 | h4
        · exact h4
        · rw [htop j h4] at e; cases e
      show φ3 j = some t
      rw [low3 j hj]; exact e
    have hlvw : ∀ b, Lv φ' (look (putO os2 i (.loop fn tm ps asg bd jump))) b → Lv φ (look os) b ∨ w.heap.size ≤ b := fun b hb => hl3 b (hlv' b hb)
    have hk34' : Keep (Lv φ3 (look os2)) w3 w4 := hk34.mono fun k _ e => e ▸ .inl ((hF3 _).2 (.inr rfl))
    refine ⟨w4, φ', hend, ⟨⟨fun j => ?_, fun j k t t' lj lk ej ek rj rk hb => ?_, fun j t lj ej rj => ?_, fun b hb => Nat.lt_of_lt_of_le (hr.old b hb) hkeep.size⟩, fun j hj => ?_, rfl, fun j hj => low3 j hj, ?_, hkeep, fun b hb => ?_, hlvw⟩⟩
    · rw [lk']
      split
      · rename_i hj
        subst hj
        refine ⟨s, (low3 j hil).trans hs, hreal, _, hheap4, VRs.mono' hle hkeep hlvw _ _ htm, hps, hasg, hbd, rfl, rfl⟩
      · rename_i hj
        exact (hi3.rel.obj j).mono' (fun _ _ h => h) hk34' (fun b hb => .inl (hlv' b hb)) fun t et lt rt => hk34.block _ ((hi3.rel.obj j).lt lt et rt) fun e' => hi3.rel.out j t lt et rt ((hF3 _).2 (.inr e'))
    · have key : ∀ (k : Nat) (t' : Slot), k ≠ i → (look os2 k).live = true → φ3 k = some t' → t'.real = true → t'.b ≠ s.b := fun k t' _ lk ek rk e' => hi3.rel.out k t' lk ek rk ((hF3 _).2 (.inr e'))
      have isI : ∀ (t : Slot), φ' i = some t → t = s := fun t et => by
        have : φ3 i = some t := et
        rw [low3 i hil, hs] at this
        cases this; rfl
      rw [lk'] at lj lk
      by_cases hji : j = i <;> by_cases hki : k = i
      · rw [hji, hki]
      · rw [if_neg hki] at lk
        subst hji
        exact absurd ((isI t ej) ▸ hb).symm (key k t' hki lk ek rk)
      · rw [if_neg hji] at lj
        subst hki
        exact absurd ((isI t' ek) ▸ hb) (key j t hji lj ej rj)
      · rw [if_neg hji] at lj
        rw [if_neg hki] at lk
        exact hi3.rel.inj j k t t' lj lk ej ek rj rk hb
    · rw [lk'] at lj
      split at lj
      · rename_i hj
        subst hj
        have : φ3 j = some t := ej
        rw [low3 j hil, hs] at this
        cases this
        exact notF
      · exact fun hF => hi3.rel.out j t lj ej rj ((hF3 _).2 (.inl hF))
    · rw [length_putO] at hj
      exact hi3.top j (by omega)
    · rw [length_putO]; omega
    · have hb' : b ≠ s.b := fun e => notF (e ▸ hb)
      have b1 : w1.heap[b]? = w.heap[b]? := hi1.frame b (.inl hb)
      have hlt := hr.old b hb
      have hlt1 : b < w1.heap.size := Nat.lt_of_lt_of_le hlt hi1.keep.size
      have b2 : w2.heap[b]? = w1.heap[b]? := hk12.block b hlt1 hb'
      have b3 : w3.heap[b]? = w2.heap[b]? := hi3.frame b (by rw [hi1.F]; exact .inl hb)
      have hlt3 : b < w3.heap.size := Nat.lt_of_lt_of_le (Nat.lt_of_lt_of_le hlt1 hk12.size) hi3.keep.size
      exact (hk34.block b hlt3 hb').trans (b3.trans (b2.trans b1))
  cases e2 with
  | normal =>
    cases e' <;> simp only [exitR] at he
    obtain ⟨rfl, rfl⟩ := some_of_det (f := fun X (k : AV → List AObj → Option X) => k (boolV true) (putO os2 i (.loop fn tm ps asg bd none))) (fun _ _ => rfl) h
    obtain ⟨w4, φ', h3, h4⟩ := done none
    exact ⟨_, w4, h3, φ', h4, by simp [boolV, VR]⟩
  | ret =>
    cases e' <;> simp only [exitR] at he
    obtain ⟨rfl, rfl⟩ := some_of_det (f := fun X (k : AV → List AObj → Option X) => k (boolV false) (putO os2 i (.loop fn tm ps asg bd (some .ret)))) (fun _ _ => rfl) h
    obtain ⟨w4, φ', h3, h4⟩ := done (some .ret)
    exact ⟨_, w4, h3, φ', h4, by simp [boolV, VR]⟩
  | exit id =>
    cases e' <;> simp only [exitR] at he
    subst he
    obtain ⟨rfl, rfl⟩ := some_of_det (f := fun X (k : AV → List AObj → Option X) => k (boolV false) (putO os2 i (.loop fn tm ps asg bd (some (.exit id))))) (fun _ _ => rfl) h
    obtain ⟨w4, φ', h3, h4⟩ := done (some (.exit id))
    exact ⟨_, w4, h3, φ', h4, by simp [boolV, VR]⟩
  | panic y => exact (none_of_det h fun _ _ => rfl).elim
theorem pendK_det (pend : Option Code) (a : AAct) (os : List AObj) : Det3 fun _ k => pendK pend a os k := by
  unfold pendK
  split
  · exact .inl ⟨_, _, _, fun _ _ => rfl⟩
  · split
    · exact .inl ⟨_, _, _, fun _ _ => rfl⟩
    · exact .inl ⟨_, _, _, fun _ _ => rfl⟩
    · exact .inr fun _ _ => rfl
theorem rangeA_det {E' : Env} {P : Program} (hE : ∀ g, SpecOK P g (E'.spec g)) (fuel : Nat) (g : Operand) (ps : Array Tmp) (asg bd : Code) (a : AAct) (os : List AObj) : Det3 fun _ k => rangeA E E' fuel g ps asg bd a os k := by
  unfold rangeA
  cases a.round with
  | true => exact .inr fun _ _ => rfl
  | false =>
    simp only [cond_false]
    split
    · exact .inr fun _ _ => rfl
    · rename_i f first captured _
      split
      · exact .inr fun _ _ => rfl
      · rcases callRows_det (m := .ref) (first := first) (args := [.yld (putO os os.length .dblk).length]) (captured := captured) (kss := []) (lk := look (putO (putO os os.length .dblk) (putO os os.length .dblk).length (.loop a.fn a.tmps ps.toList asg bd none)))
          (nx := (putO (putO os os.length .dblk) (putO os os.length .dblk).length (.loop a.fn a.tmps ps.toList asg bd none)).length) (fuel := fuel) (hE f) with ⟨e, wr, h⟩ | h
        · simp only [Det3, h]
          cases e with
          | panic x => exact .inl ⟨_, _, _, fun _ _ => rfl⟩
          | ret x =>
            simp only
            split
            · exact pendK_det _ _ _
            · exact .inr fun _ _ => rfl
        · exact .inr fun X k => h X _
theorem Last.refl {φ : Emb} {os : List AObj} {w : World} (hr : Rel φ (look os) w) (htop : ∀ i, os.length ≤ i → φ i = none) : Last φ (look os) w os.length φ os w :=
  ⟨hr, htop, rfl, fun _ _ => rfl, Nat.le_refl _, Keep.refl _ _, fun _ _ => rfl, fun _ h => .inl h⟩
variable {φ0 : Emb} {L0 : Nat → Prop} {w0 : World} {ro : Option Nat} {nf : Nat}
theorem rangeA_sound {E' : Env} (hE : ∀ g, SpecOK E.P g (E'.spec g)) (hinl : InlOK E) {fuel : Nat} {g : Operand} {ps : Array Tmp} {asg bd : Code} {aa aa' : AAct} {os os' : List AObj} {e : AExit}
    (h : ∀ (X : Type) (k : AExit → AAct → List AObj → Option X), rangeA E E' fuel g ps asg bd aa os k = k e aa' os') {a : Act} {φ : Emb} {w : World} (hi : Inv φ0 L0 w0 ro nf aa a φ os w) (m : Nat) :
    (Code.rangeFunc g ps asg bd).wpIn (FW ro) m E.P (Q0 φ0 L0 w0 ro nf e aa' os') a w := by
  unfold rangeA at h
  cases hrd : aa.round with
  | true => rw [hrd] at h; exact (none_of_det3 h fun _ _ => rfl).elim
  | false =>
  have hro : ro = none := by
    have := hi.rnd
    rw [hrd] at this
    cases ro with
    | none => rfl
    | some l => simp at this
  subst hro
  rw [hrd] at h
  simp only [cond_false] at h
  split at h
  · exact (none_of_det3 h fun _ _ => rfl).elim
  rename_i f first captured hl
  split at h
  · exact (none_of_det3 h fun _ _ => rfl).elim
  rename_i fc hfc
  obtain ⟨hfun, hbody, hnm⟩ := hinl f fc hfc
  have hf : evA aa.tmps g = .func (.func f) first captured := by
    unfold leadOf at hl
    split at hl
    · simp only [Option.some.injEq, Lead.func.injEq] at hl
      obtain ⟨rfl, rfl, rfl⟩ := hl
      assumption
    · cases hl
  refine wpIn_rangeFunc fun fnid _ => ?_
  have hres1 : Res φ (look os) w os.length [(os.length, .dblk)] (.yld os.length) (.func (.yield w.heap.size) #[] #[]) (setS φ os.length ⟨w.heap.size, 0, 0, 0, 0, true⟩) (w.alloc (.deferred (some []))) :=
    Res.freshO hi.rel (hi.top _ (Nat.le_refl _)) (look_lt (Nat.le_refl _)) (.deferred (some [])) .dblk _ rfl _ _ fun L _ hnew _ => ⟨⟨_, rfl, rfl, hnew⟩, by simp only [VR]; exact ⟨_, setS_same _ _, rfl, rfl⟩⟩
  obtain ⟨hi1, hy1⟩ := hi.step hres1.two
  rw [show putsO os [(os.length, AObj.dblk)] = putO os os.length .dblk from rfl] at hi1 hy1
  generalize hos1 : putO os os.length AObj.dblk = os1 at h hi1 hy1
  generalize setS φ os.length ⟨w.heap.size, 0, 0, 0, 0, true⟩ = φ1 at hi1 hy1
  generalize hw1 : w.alloc (.deferred (some [])) = w1 at hi1 hy1
  have hsz1 : w1.heap.size = w.heap.size + 1 := by rw [← hw1]; simp
  let r : Loop := { state := .ready, pending := none, fn := fnid, tmps := a.tmps, params := ps, assign := asg, body := bd, defers := w.heap.size }
  have hres2 : Res φ1 (look os1) w1 os1.length [(os1.length, .loop aa.fn aa.tmps ps.toList asg bd none)] (.yld os1.length) (.func (.yield w1.heap.size) #[] #[]) (setS φ1 os1.length ⟨w1.heap.size, 0, 0, 0, 0, true⟩) (w1.alloc (.loop r)) :=
    Res.freshO hi1.rel (hi1.top _ (Nat.le_refl _)) (look_lt (Nat.le_refl _)) (.loop r) _ _ rfl _ _ fun L hL hnew hm => ⟨⟨_, rfl, rfl, r, hnew, VRs.mono (setS_le (hi1.top _ (Nat.le_refl _)) _) (Keep.alloc _ _ _) hL _ _ hi1.tmps, rfl, rfl, rfl, rfl, rfl⟩, by simp only [VR]; exact ⟨_, setS_same _ _, rfl, rfl⟩⟩
  obtain ⟨hi2, hy2⟩ := hi1.step hres2.two
  have hle12 : φ1.le (setS φ1 os1.length ⟨w1.heap.size, 0, 0, 0, 0, true⟩) := hres2.le
  have hslot : (setS φ1 os1.length ⟨w1.heap.size, 0, 0, 0, 0, true⟩) os1.length = some ⟨w1.heap.size, 0, 0, 0, 0, true⟩ := setS_same _ _
  have hy1' : VR (setS φ1 os1.length ⟨w1.heap.size, 0, 0, 0, 0, true⟩) (Lv (setS φ1 os1.length ⟨w1.heap.size, 0, 0, 0, 0, true⟩) (look (putsO os1 [(os1.length, .loop aa.fn aa.tmps ps.toList asg bd none)]))) (w1.alloc (.loop r)) (.yld os.length) (.func (.yield w.heap.size) #[] #[]) :=
    VR.mono hres2.le hres2.keep (by rw [look_putsO]; exact hres2.lv) _ _ hy1
  rw [show putsO os1 [(os1.length, AObj.loop aa.fn aa.tmps ps.toList asg bd none)] = putO os1 os1.length (.loop aa.fn aa.tmps ps.toList asg bd none) from rfl] at hi2 hy2 hy1'
  generalize hos2 : putO os1 os1.length (AObj.loop aa.fn aa.tmps ps.toList asg bd none) = os2 at h hi2 hy2 hy1'
  generalize setS φ1 os1.length ⟨w1.heap.size, 0, 0, 0, 0, true⟩ = φ2 at hi2 hy2 hy1' hslot
  have hgv := VR_evA (φ := φ2) hi2.tmps g
  rw [hf] at hgv
  simp only [VR] at hgv
  obtain ⟨us, cs, hev, hus, hcs⟩ := hgv
  rcases callRows_det (m := .ref) (first := first) (args := [.yld os1.length]) (captured := captured) (kss := []) (lk := look os2) (nx := os2.length) (fuel := fuel) (hE f) with ⟨en, wr, hdet⟩ | hdet
  rotate_left
  · exact (none_of_det3 h fun X k => hdet X _).elim
  simp only [hdet] at h
  have hdo := callRows_sound (hE f) hi2.rel hdet hus (vs := #[.func (.yield w1.heap.size) #[] #[]]) (by simp only [VRs]; exact ⟨_, _, rfl, hy2, rfl⟩) hcs fun i _ hle => hi2.top i hle
  have hcall : (callFunc f (us ++ (#[.func (.yield w1.heap.size) #[] #[]] ++ cs))).run E.P (w1.alloc (.loop r)) = .ok (.enter f (us ++ (#[.func (.yield w1.heap.size) #[] #[]] ++ cs))) (w1.alloc (.loop r)) := by
    unfold callFunc
    rw [Sem.run_bind, run_program]
    simp only [Result.andThen_ok, hfun, hnm, hbody, Option.isNone_some, Bool.false_eq_true, if_false]
    rfl
  have hcalls : Calls E.P f (us ++ (#[.func (.yield w1.heap.size) #[] #[]] ++ cs)) (w1.alloc (.loop r)) fun en' w' => ∃ φ', endR (fun x u => Res2 φ2 (look os2) (w1.alloc (.loop r)) os2.length wr x u φ' w') en en' := by
    rcases hdo with ⟨v, w', h1, _⟩ | ⟨_, h1⟩
    · rw [hcall] at h1; cases h1
    · exact h1
  have henter := run_enterLoop_outer (P := E.P) (w := w) fnid a.tmps ps asg bd
  rw [hw1] at henter
  refine ⟨w1.heap.size, [{ target := .collected w.heap.size, args := #[] }], w1.alloc (.loop r), { target := .fn (.func f) cs, args := us ++ #[.func (.yield w1.heap.size) #[] #[]] }, w1.alloc (.loop r), f, us ++ (#[.func (.yield w1.heap.size) #[] #[]] ++ cs), w1.alloc (.loop r), ?_, ?_, fun _ _ => trivial, ?_, fun h => by simp at h, ?_⟩
  · rw [henter, hsz1]
  · have hm : (#[Operand.const (.func (.yield w1.heap.size) #[] #[])] : Array Operand).map a.eval = #[.func (.yield w1.heap.size) #[] #[]] := by simp [Act.eval]
    unfold resolve
    simp only [hev, Deferred.ofValue, hm]
    rfl
  · show (invoke (.fn (.func f) cs) (us ++ #[.func (.yield w1.heap.size) #[] #[]])).run E.P _ = _
    unfold invoke
    simp only
    rw [Array.append_assoc]
    exact hcall
  ·
    have hdef : ∀ {φ3 : Emb} {os3 : List AObj} {w3 : World}, Inv φ0 L0 w0 none nf aa a φ3 os3 w3 → VR φ3 (Lv φ3 (look os3)) w3 (.yld os.length) (.func (.yield w.heap.size) #[] #[]) →
        Inv φ0 L0 w0 none nf { aa with defers := (none, [.yld os.length]) :: aa.defers, round := false } { a with defers := [{ target := .collected w.heap.size, args := #[] }] ++ a.defers } φ3 os3 w3 := fun hi3 hv3 =>
      ⟨hi3.rel, hi3.top, hi3.F, hi3.low, hi3.len, hi3.keep, hi3.frame, hi3.lv, hi3.tmps, by
        simp only [DefR]
        exact ⟨w.heap.size, a.defers, rfl, by simp only [VRs]; exact ⟨_, _, rfl, hv3, rfl⟩, hi3.defers⟩, rfl, hi3.ft⟩
    refine callsIn_FW (Calls.mono hcalls fun en' w3 hR => ?_)
    obtain ⟨φ3, hR⟩ := hR
    cases en with
    | panic x =>
      cases en' <;> simp only [endR] at hR
      obtain ⟨v, rfl, hres⟩ := hR
      obtain ⟨hi3, hv3⟩ := hi2.step hres
      simp only at h
      obtain ⟨rfl, rfl, rfl⟩ := some_of_det3 (f := fun X (k : AExit → AAct → List AObj → Option X) => k (.panic x) { aa with defers := (none, [.yld os.length]) :: aa.defers, round := false } (putsO os2 wr)) (fun _ _ => rfl) h
      exact ⟨φ3, ⟨v, rfl, hv3⟩, hdef hi3 (VR.mono hres.le hres.keep (by rw [look_putsO]; exact hres.lv) _ _ hy1')⟩
    | ret x =>
      cases en' <;> simp only [endR] at hR
      rename_i v
      obtain ⟨hi3, hv3⟩ := hi2.step hR
      have hy3 := VR.mono hR.le hR.keep (L' := Lv φ3 (look (putsO os2 wr))) (by rw [look_putsO]; exact hR.lv) _ _ hy1'
      simp only at h
      split at h
      case h_2 => exact (none_of_det3 h fun _ _ => rfl).elim
      rename_i fn' tm' ps' asg' bd' pend hobj
      have hob := hi3.rel.obj os1.length
      rw [hobj] at hob
      obtain ⟨s', es', hreal, r', hheap, _, _, _, _, hpend, hst⟩ := hob
      have : s' = ⟨w1.heap.size, 0, 0, 0, 0, true⟩ := by
        have := hR.le.1 _ _ hslot
        rw [es'] at this; cases this; rfl
      subst this
      have hbusy : r'.state ≠ .busy := by rw [hst]; split <;> simp
      have hend : (Instr.endLoop w1.heap.size).run E.P w3 = .ok r'.pending (w3.putObj w1.heap.size (.loop { r' with state := .exhausted })) := run_endLoop hheap hbusy
      have hlast := (Last.refl hi3.rel hi3.top).shut es' hreal (by rw [hobj]; rfl) (keep_putObj (b := w1.heap.size) (.loop { r' with state := .exhausted }))
      generalize w3.putObj w1.heap.size (.loop { r' with state := .exhausted }) = w4 at hend hlast
      rw [hpend] at hend
      have hi4 := hi3.last hlast.1
      have hy4 := VR.mono φ3.le_refl hlast.2.1 (fun b hb => .inl (hlast.2.2 b hb)) _ _ hy3
      have hi5 := hdef hi4 hy4
      refine ⟨pend, w4, hend, ?_⟩
      unfold pendK at h
      cases pend with
      | none =>
        simp only at h
        obtain ⟨rfl, rfl, rfl⟩ := some_of_det3 (f := fun X (k : AExit → AAct → List AObj → Option X) => k .normal { aa with defers := (none, [.yld os.length]) :: aa.defers, round := false } (putO (putsO os2 wr) os1.length .dead)) (fun _ _ => rfl) h
        exact ⟨φ3, trivial, hi5⟩
      | some c =>
        simp only at h
        split at h
        · obtain ⟨rfl, rfl, rfl⟩ := some_of_det3 (f := fun X (k : AExit → AAct → List AObj → Option X) => k .ret { aa with defers := (none, [.yld os.length]) :: aa.defers, round := false } (putO (putsO os2 wr) os1.length .dead)) (fun _ _ => rfl) h
          exact wpIn_ret ⟨φ3, trivial, hi5⟩
        · rename_i id
          obtain ⟨rfl, rfl, rfl⟩ := some_of_det3 (f := fun X (k : AExit → AAct → List AObj → Option X) => k (.exit id) { aa with defers := (none, [.yld os.length]) :: aa.defers, round := false } (putO (putsO os2 wr) os1.length .dead)) (fun _ _ => rfl) h
          exact wpIn_exit ⟨φ3, rfl, hi5⟩
        · exact (none_of_det3 h fun _ _ => rfl).elim
end
end Go.Abs
end
section
namespace Go.Abs
open Go
theorem wpIn_scope {F : Fence} {n : Nat} {P : Program} {Q : Exit → Act → World → Prop} {a : Act} {w : World} {c : Code} (h : c.wpIn F n P (Exit.noGoto Q) a w) : (Code.scope c).wpIn F n P Q a w := by
  intro b k cs hro hb hr
  have h0 : (lone (b.atR a (.code (.scope c) :: k)) cs w).fenced P F := fenced_calm hb hr rfl
  have s1 : step P (lone (b.atR a (.code (.scope c) :: k)) cs w) = .next (lone (b.atR a (.code c :: .inScope c :: k)) cs w) := step_lone_go (by simp [stepG, stepG.exec, Frame.atR])
  have s2 : ∀ a w, step P (lone (b.atR a (.inScope c :: k)) cs w) = .next (lone (b.atR a k) cs w) := fun a w => step_lone_go (by simp [stepG, stepG.exec, Frame.atR])
  obtain ⟨e, a₁, w₁, hq, harr⟩ := h b (.inScope c :: k) cs hro hb hr
  cases e with
  | normal => exact ⟨.normal, a₁, w₁, hq, .head h0 s1 (StepsIn.trans harr (.one (fenced_calm hb hr rfl) (s2 _ _)))⟩
  | exit id => exact ⟨.exit id, a₁, w₁, hq, .of_steps (.one h0 s1) ⟨fun k' hk => harr.1 k' (by simp [exitTo, hk]), fun h1 h2 => harr.2 h1 (by simp [exitTo, h2])⟩⟩
  | goto l => exact hq.elim
  | ret => exact ⟨_, a₁, w₁, hq, .of_steps (.one h0 s1) harr⟩
  | panic ch => exact ⟨_, a₁, w₁, hq, .of_steps (.one h0 s1) harr⟩
  | outgrown => exact ⟨_, a₁, w₁, hq, .of_steps (.one h0 s1) harr⟩
section
variable {E : Env}
theorem tidy_det (ks : Option (List Tmp)) (fuel : Nat) (aa : AAct) (os : List AObj) :
    (∃ aa' os', ∀ (X : Type) (k : AAct → List AObj → Option X), tidy ks fuel aa os k = k aa' os') ∨ ∀ (X : Type) (k : AAct → List AObj → Option X), tidy ks fuel aa os k = none := by
  unfold tidy
  cases ks with
  | none => exact .inl ⟨_, _, fun _ _ => rfl⟩
  | some ks =>
    simp only
    cases Nat.ble os.length aa.foot with
    | true => exact .inl ⟨_, _, fun _ _ => rfl⟩
    | false =>
      simp only [cond_false]
      generalize reach (look os) fuel _ [] = ids
      cases prefOk aa.foot 0 ids with
      | true => exact .inl ⟨_, _, fun _ _ => rfl⟩
      | false => exact .inr fun _ _ => rfl
theorem concA_cases : ∀ (ps : List (Tmp × List Int)) (tm : List AV), (∀ (X : Type) (k : List AV → Option X), concA ps tm X k = k tm) ∨ ∀ (X : Type) (k : List AV → Option X), concA ps tm X k = none
  | [], tm => .inl fun _ _ => rfl
  | p :: ps, tm => by
    have hV : ∀ (n : Int) (vs : List Int), (∀ (X : Type) (k : Int → Option X), concV n k vs = k n) ∨ ∀ (X : Type) (k : Int → Option X), concV n k vs = none := fun n vs => by
      induction vs with
      | nil => exact .inr fun _ _ => rfl
      | cons v vs ih =>
        simp only [concV]
        cases h : n == v with
        | false => simpa using ih
        | true =>
          have : n = v := by simpa using h
          subst this
          exact .inl fun _ _ => rfl
    simp only [concA]
    split
    · rename_i kd n hn
      rcases hV n p.2 with h | h
      · simp only [h, set_same hn (by simp)]
        exact concA_cases ps tm
      · exact .inr fun X k => h X _
    · exact .inr fun _ _ => rfl
theorem tidyC_det (cs : List (Tmp × List Int)) (ks : Option (List Tmp)) (fuel : Nat) (aa : AAct) (os : List AObj) :
    (∃ aa' os', ∀ (X : Type) (k : AAct → List AObj → Option X), tidyC cs ks fuel aa os k = k aa' os') ∨ ∀ (X : Type) (k : AAct → List AObj → Option X), tidyC cs ks fuel aa os k = none := by
  unfold tidyC
  rcases concA_cases cs aa.tmps with h | h
  · simp only [h]; exact tidy_det ks fuel aa os
  · exact .inr fun X k => h X _
structure HookOK (E : Env) : Prop where
  det : ∀ f id S, E.hook f id = some S → ∀ c aa os, Det3 (S c aa os)
  ok : ∀ f id S, E.hook f id = some S → ∀ (φ0 : Emb) (L0 : Nat → Prop) (w0 : World) (ro : Option Nat) (nf m : Nat) (c : Code) (aa : AAct) (os : List AObj) (e : AExit) (aa' : AAct) (os' : List AObj), aa.fn = f → (∀ X k, S c aa os X k = k e aa' os') →
    ∀ (a : Act) (φ : Emb) (w : World), Inv φ0 L0 w0 ro nf aa a φ os w → (Code.block id c).wpIn (FW ro) m E.P (Q0 φ0 L0 w0 ro nf e aa' os') a w
theorem exec_det_step (hk : HookOK E) {n : Nat} (hrun : RunOK E (fun c a os => exec E n 0 c a os)) (hA : ∀ g, SpecOK (Env.at E (fun c a os => exec E n 0 c a os) n).P g ((Env.at E (fun c a os => exec E n 0 c a os) n).spec g))
    (ih : ∀ (blk : Nat) (c : Code) (aa : AAct) (os : List AObj), Det3 (exec E n blk c aa os)) (blk : Nat) (c : Code) (aa : AAct) (os : List AObj) : Det3 (exec E (n + 1) blk c aa os) := by
    have tail : ∀ (cs : List (Tmp × List Int)) (ks : Option (List Tmp)) (aa : AAct) (os : List AObj) (g : AAct → List AObj → ∀ X : Type, (AExit → AAct → List AObj → Option X) → Option X), (∀ aa os, Det3 (g aa os)) →
        Det3 fun X k => tidyC cs ks n aa os fun aa os => g aa os X k := fun cs ks aa os g hg => by
      rcases tidyC_det cs ks n aa os with ⟨aa', os', h⟩ | h
      · have := hg aa' os'
        unfold Det3 at this ⊢
        simp only [h]
        exact this
      · right; intro X k; exact h _ _
    have norm : ∀ (aa : AAct) (os : List AObj), Det3 fun _ k => k .normal aa os := fun aa os => .inl ⟨_, _, _, fun _ _ => rfl⟩
    cases c with
    | skip => simp only [Det3, exec]; exact .inl ⟨_, _, _, fun _ _ => rfl⟩
    | region id ops draw =>
      cases draw with
      | false => simp only [Det3, exec]; exact runOps_det (yieldF_det hrun) hA _ _ _
      | true =>
        simp only [Det3, exec]
        cases drawnOk ops (ancs ops.toList []) 0 [] ops.toList with
        | true => exact runDrawn_det hA _ _ _ _ _
        | false => exact .inr fun _ _ => rfl
    | seq x y =>
      simp only [Det3, exec]
      rcases ih blk x aa os with ⟨e, aa', os', h⟩ | h
      · simp only [h]
        cases e with
        | normal => exact ih blk y aa' os'
        | _ => exact .inl ⟨_, _, _, fun _ _ => rfl⟩
      · right; intro X k; rw [h]
    | cond c x y =>
      simp only [Det3, exec]
      split
      · rename_i b _
        cases b with
        | true => exact ih blk x aa os
        | false => exact ih blk y aa os
      · exact .inr fun _ _ => rfl
    | block id c =>
      simp only [Det3, exec]
      cases hh : E.hook aa.fn id with
      | some S => exact hk.det _ _ _ hh c aa os
      | none =>
      simp only
      rcases ih id c aa os with ⟨e, aa', os', h⟩ | h
      · simp only [h]
        cases e with
        | normal => exact tail _ _ aa' os' _ norm
        | exit id' =>
          simp only
          cases Nat.beq id' id with
          | true => exact tail _ _ aa' os' _ norm
          | false => exact .inl ⟨_, _, _, fun _ _ => rfl⟩
        | _ => exact .inl ⟨_, _, _, fun _ _ => rfl⟩
      · right; intro X k; rw [h]
    | loop c =>
      simp only [Det3, exec]
      refine tail _ _ aa os (fun aa os X k => exec E n blk c aa (viewInts (E.ints aa.fn blk) os) X fun e a os => match e with
        | .normal => tidy ((E.keep a.fn blk).map (·.1)) n a os fun a os => exec E n blk (.loop c) a os X k
        | e => k e a os) fun aa os => ?_
      unfold Det3
      rcases ih blk c aa (viewInts (E.ints aa.fn blk) os) with ⟨e, aa', os', h⟩ | h
      · simp only [h]
        cases e with
        | normal =>
          rcases tidy_det ((E.keep aa'.fn blk).map (·.1)) n aa' os' with ⟨aa2, os2, h2⟩ | h2
          · have := ih blk (.loop c) aa2 os2
            unfold Det3 at this
            simp only [h2]
            exact this
          · right; intro X k; exact h2 _ _
        | _ => exact .inl ⟨_, _, _, fun _ _ => rfl⟩
      · right; intro X k; exact h _ _
    | exit id => simp only [Det3, exec]; exact .inl ⟨_, _, _, fun _ _ => rfl⟩
    | label l => simp only [Det3, exec]; exact .inl ⟨_, _, _, fun _ _ => rfl⟩
    | scope c => simp only [Det3, exec]; exact ih blk c aa os
    | ret => simp only [Det3, exec]; exact .inl ⟨_, _, _, fun _ _ => rfl⟩
    | rangeFunc g ps asg bd => simp only [Det3, exec]; exact rangeA_det hA _ _ _ _ _ _ _
    | _ => exact .inr fun _ _ => by simp only [exec]
section
variable {φ0 : Emb} {L0 : Nat → Prop} {w0 : World} {ro : Option Nat} {nf : Nat}
theorem VRs_keepT {φ : Emb} {L : Nat → Prop} {w : World} (ks : List Tmp) : ∀ (i : Nat) {cs : List AV} {us : List Value}, VRs φ L w cs us → VRs φ L w (keepT ks i cs) us
  | _, [], _, h => h
  | i, c :: cs, us, h => by
    simp only [VRs, keepT] at h ⊢
    obtain ⟨x, xs, e, h1, h2⟩ := h
    refine ⟨x, xs, e, ?_, VRs_keepT ks (i + 1) h2⟩
    cases hasN ks i with
    | true => exact h1
    | false => exact VR_junk _
theorem tidy_sound {ks : Option (List Tmp)} {fuel : Nat} {aa aa' : AAct} {os os' : List AObj} (h : ∀ (X : Type) (k : AAct → List AObj → Option X), tidy ks fuel aa os k = k aa' os') {a : Act} {φ : Emb} {w : World}
    (hi : Inv φ0 L0 w0 ro nf aa a φ os w) : ∃ φ', Inv φ0 L0 w0 ro nf aa' a φ' os' w := by
  unfold tidy at h
  cases ks with
  | none =>
    obtain ⟨rfl, rfl⟩ := some_of_det (f := fun X (k : AAct → List AObj → Option X) => k aa os) (fun _ _ => rfl) h
    exact ⟨φ, hi⟩
  | some ks =>
    simp only at h
    have htm := VRs_keepT ks 0 hi.tmps
    cases hb : Nat.ble os.length aa.foot with
    | true =>
      simp only [hb, cond_true] at h
      obtain ⟨rfl, rfl⟩ := some_of_det (f := fun X (k : AAct → List AObj → Option X) => k { aa with tmps := keepT ks 0 aa.tmps } os) (fun _ _ => rfl) h
      exact ⟨φ, ⟨hi.rel, hi.top, hi.F, hi.low, hi.len, hi.keep, hi.frame, hi.lv, htm, hi.defers, hi.rnd, hi.ft⟩⟩
    | false =>
      simp only [hb, cond_false] at h
      generalize hids : reach (look os) fuel _ [] = ids at h
      have hnd : ids.Nodup := by rw [← hids]; exact reach_nodup _ _ _ _ List.nodup_nil
      cases hp : prefOk aa.foot 0 ids with
      | false => rw [hp] at h; exact (none_of_det h fun _ _ => rfl).elim
      | true =>
        rw [hp] at h
        simp only [cond_true] at h
        obtain ⟨rfl, rfl⟩ := some_of_det (f := fun X (k : AAct → List AObj → Option X) => k { aa with tmps := subL (downS ids) (keepT ks 0 aa.tmps), defers := aa.defers.map fun d => (d.1, subL (downS ids) d.2) } (ids.map fun i => (look os i).sub (downS ids))) (fun _ _ => rfl) h
        obtain ⟨hlen, hget⟩ := prefOk_get hp
        obtain ⟨hrd, hlv, _⟩ := hi.rel.down hnd (F := φ.F) (fun b h => .inl h)
        have hs : ∀ i j t, downS ids i = some j → φ i = some t → subφ φ ids φ.F j = some t := fun i j t e h => by rw [subφ_at (downS_some e)]; exact h
        refine ⟨subφ φ ids φ.F, ⟨by rw [look_sub]; exact hrd, fun i hi' => ?_, hi.F, fun i hi' => ?_, by simpa using hlen, hi.keep, hi.frame, fun b hb' => hi.lv b (hlv b (by rw [look_sub] at hb'; exact hb')), ?_, ?_, hi.rnd, hi.ft⟩⟩
        · simp only [List.length_map] at hi'
          show (ids[i]?).bind _ = none
          rw [List.getElem?_eq_none hi']; rfl
        · have := hget i hi'
          rw [subφ_at (i := i) (by simpa using this)]
          exact hi.low i hi'
        · rw [look_sub]; exact VRs.sub hs hlv _ _ htm
        · rw [look_sub]; exact hi.defers.sub hs hlv
theorem tidyC_sound {cs : List (Tmp × List Int)} {ks : Option (List Tmp)} {fuel : Nat} {aa aa' : AAct} {os os' : List AObj} (h : ∀ (X : Type) (k : AAct → List AObj → Option X), tidyC cs ks fuel aa os k = k aa' os') {a : Act} {φ : Emb} {w : World}
    (hi : Inv φ0 L0 w0 ro nf aa a φ os w) : ∃ φ', Inv φ0 L0 w0 ro nf aa' a φ' os' w := by
  unfold tidyC at h
  rcases concA_cases cs aa.tmps with h1 | h1
  · simp only [h1] at h
    exact tidy_sound (aa := aa) h hi
  · exact (none_of_det h fun X k => h1 X _).elim
end
theorem intsOfL_eq : ∀ {cs : List AV} {k : IntKind} {ds : List Int}, intsOfL cs = some (k, ds) → cs = intsC k ds
  | [], k, ds, h => by cases h
  | c :: rest, k, ds, h => by
    unfold intsOfL at h
    split at h
    · rename_i k' n rest' he
      simp only [List.cons.injEq] at he
      obtain ⟨rfl, rfl⟩ := he
      split at h
      · cases h; rfl
      · split at h
        · rename_i k2 ds2 h2
          split at h
          · rename_i hk
            subst hk
            cases h
            rw [intsOfL_eq h2]; rfl
          · cases h
        · cases h
    · cases h
theorem asInts_obj {φ : Emb} {L : Nat → Prop} {w : World} {o : AObj} {m : Option Slot} (h : ObjR φ L w o m) : ObjR φ L w (asInts o) m := by
  cases o with
  | cells cs =>
    simp only [asInts]
    split
    · rename_i k ds hi
      rw [intsOfL_eq hi] at h
      exact h
    · exact h
  | _ => exact h
theorem asInts_live (o : AObj) : (asInts o).live = o.live := by
  cases o with
  | cells cs => simp only [asInts]; split <;> rfl
  | _ => rfl
theorem Inv.view {φ0 : Emb} {L0 : Nat → Prop} {w0 : World} {ro : Option Nat} {nf : Nat} {aa : AAct} {a : Act} {φ : Emb} {w : World} : ∀ (ids : List Nat) {os : List AObj}, Inv φ0 L0 w0 ro nf aa a φ os w → Inv φ0 L0 w0 ro nf aa a φ (viewInts ids os) w
  | [], _, h => h
  | i :: ids, os, h => by
    refine Inv.view ids ?_
    have hlk : ∀ j, look (os.set i (asInts (look os i))) j = if j = i ∧ i < os.length then asInts (look os i) else look os j := fun j => by
      simp only [look, List.getD_eq_getElem?_getD, List.getElem?_set]
      by_cases hj : i = j
      · subst hj
        by_cases hl : i < os.length
        · simp [hl]
        · simp [hl]
      · have : ¬ (j = i ∧ i < os.length) := fun h => hj h.1.symm
        simp only [hj, if_false, this]
    have hlive : ∀ j, (look (os.set i (asInts (look os i))) j).live = (look os j).live := fun j => by
      rw [hlk]
      split
      · rename_i hh; rw [hh.1, asInts_live]
      · rfl
    have hLv : ∀ b, Lv φ (look (os.set i (asInts (look os i)))) b ↔ Lv φ (look os) b := fun b => by simp only [Lv, hlive]
    have hLe : Lv φ (look (os.set i (asInts (look os i)))) = Lv φ (look os) := funext fun b => propext (hLv b)
    refine ⟨⟨fun j => ?_, ?_, ?_, h.rel.old⟩, by simpa using h.top, h.F, h.low, by simpa using h.len, h.keep, h.frame, fun b hb => h.lv b ((hLv b).1 hb), ?_, ?_, h.rnd, h.ft⟩
    · rw [hLe, hlk]
      split
      · rename_i hh; rw [hh.1]; exact asInts_obj (h.rel.obj i)
      · exact h.rel.obj j
    · intro j k s s' h1 h2; rw [hlive] at h1 h2; exact h.rel.inj j k s s' h1 h2
    · intro j s h1; rw [hlive] at h1; exact h.rel.out j s h1
    · rw [hLe]; exact h.tmps
    · rw [hLe]; exact h.defers
def wpL (F : Fence) (n : Nat) (P : Program) (c : Code) (Q : Exit → Act → World → Prop) (a : Act) (w : World) : Prop :=
  ∀ (b : Frame) (k : List Item) (cs : List Frame), b.roundOf = F.round → F.fn b.fn → F.room (cs.length + 1 + n) →
    ∃ e a' w', Q e a' w' ∧ ArrivesIn (Machine.fenced P F) P (lone (b.atR a (.code c :: .inLoop c :: k)) cs w) b k cs e a' w'
theorem wpIn_of_L {F : Fence} {n : Nat} {P : Program} {c : Code} {Q : Exit → Act → World → Prop} {a : Act} {w : World} (h : wpL F n P c Q a w) : (Code.loop c).wpIn F n P Q a w := fun b k cs hro hb hr =>
  let ⟨e, a', w', hq, harr⟩ := h b k cs hro hb hr
  ⟨e, a', w', hq, .of_steps (.one (fenced_calm hb hr rfl) stepR_loop) harr⟩
theorem wpL_next {F : Fence} {n : Nat} {P : Program} {c : Code} {Q : Exit → Act → World → Prop} {a : Act} {w : World} (h : c.wpIn F n P (Exit.then (fun a w => wpL F n P c Q a w) Q) a w) : wpL F n P c Q a w := by
  intro b k cs hro hb hr
  obtain ⟨e, a₁, w₁, hq, harr⟩ := h b (.inLoop c :: k) cs hro hb hr
  cases e with
  | normal =>
    obtain ⟨e₂, a₂, w₂, hq₂, harr₂⟩ := hq b k cs hro hb hr
    exact ⟨e₂, a₂, w₂, hq₂, .of_steps (StepsIn.trans harr (.one (fenced_calm hb hr rfl) stepR_inLoop)) harr₂⟩
  | exit id => exact ⟨_, a₁, w₁, hq, .pass (x := .inLoop c) rfl (fun _ _ => .inl (by simp)) harr⟩
  | goto l => exact ⟨_, a₁, w₁, hq, .pass (x := .inLoop c) rfl (fun _ _ => .inl (by simp)) harr⟩
  | ret => exact ⟨_, a₁, w₁, hq, .pass (x := .inLoop c) rfl (fun _ _ => .inl (by simp)) harr⟩
  | panic ch => exact ⟨_, a₁, w₁, hq, .pass (x := .inLoop c) rfl (fun _ _ => .inl (by simp)) harr⟩
  | outgrown => exact ⟨_, a₁, w₁, hq, .pass (x := .inLoop c) rfl (fun _ _ => .inl (by simp)) harr⟩
theorem exitR_normal {V : AV → Value → Prop} {e : AExit} : exitR V e .normal → e = .normal := by cases e <;> simp [exitR]
structure ExecOK (E : Env) (n : Nat) : Prop where
  det : ∀ (blk : Nat) (c : Code) (aa : AAct) (os : List AObj), Det3 (exec E n blk c aa os)
  ok : ∀ (φ0 : Emb) (L0 : Nat → Prop) (w0 : World) (ro : Option Nat) (nf m : Nat) (blk : Nat) (c : Code) (aa : AAct) (os : List AObj) (e : AExit) (aa' : AAct) (os' : List AObj), (∀ X k, exec E n blk c aa os X k = k e aa' os') → ∀ (a : Act) (φ : Emb) (w : World), Inv φ0 L0 w0 ro nf aa a φ os w →
      c.wpIn (FW ro) m E.P (Q0 φ0 L0 w0 ro nf e aa' os') a w
  okL : ∀ (φ0 : Emb) (L0 : Nat → Prop) (w0 : World) (ro : Option Nat) (nf m : Nat) (blk : Nat) (c : Code) (aa : AAct) (os : List AObj) (e : AExit) (aa' : AAct) (os' : List AObj), (∀ X k, exec E n blk (.loop c) aa os X k = k e aa' os') → ∀ (a : Act) (φ : Emb) (w : World), Inv φ0 L0 w0 ro nf aa a φ os w →
      wpL (FW ro) m E.P c (Q0 φ0 L0 w0 ro nf e aa' os') a w
theorem exec_stepL {n : Nat} (hX : ExecOK E n) (φ0 : Emb) (L0 : Nat → Prop) (w0 : World) (ro : Option Nat) (nf m : Nat) : ∀ (blk : Nat) (c : Code) (aa : AAct) (os : List AObj) (e : AExit) (aa' : AAct) (os' : List AObj), (∀ X k, exec E (n + 1) blk (.loop c) aa os X k = k e aa' os') → ∀ (a : Act) (φ : Emb) (w : World), Inv φ0 L0 w0 ro nf aa a φ os w →
        wpL (FW ro) m E.P c (Q0 φ0 L0 w0 ro nf e aa' os') a w := by
      have hdet := hX.det
      have ih := hX.ok φ0 L0 w0 ro nf m
      have ihL := hX.okL φ0 L0 w0 ro nf m
      intro blk c aa os e aa' os' h a φ w hi
      simp only [exec] at h
      rcases tidyC_det (E.conc aa.fn blk).1 ((E.keep aa.fn blk).map (·.1)) n aa os with ⟨aa1, os1, ht⟩ | ht
      rotate_left
      · exact (none_of_det3 h fun X k => by rw [ht]).elim
      simp only [ht] at h
      obtain ⟨φ1, hi1'⟩ := tidyC_sound ht hi
      have hi1 := hi1'.view (E.ints aa1.fn blk)
      generalize viewInts (E.ints aa1.fn blk) os1 = os1 at h hi1
      rcases hdet blk c aa1 os1 with ⟨e2, aa2, os2, h2⟩ | h2
      rotate_left
      · exact (none_of_det3 h fun X k => by rw [h2]).elim
      simp only [h2] at h
      refine wpL_next (wpIn_mono (ih blk c aa1 os1 e2 aa2 os2 h2 a φ1 w hi1) ?_)
      rintro e' a' w' ⟨φ2, he, hi2⟩
      cases e2 with
      | normal =>
        cases e' <;> simp only [exitR] at he
        rcases tidy_det ((E.keep aa2.fn blk).map (·.1)) n aa2 os2 with ⟨aa3, os3, ht3⟩ | ht3
        rotate_left
        · exact (none_of_det3 h fun X k => ht3 X _).elim
        simp only [ht3] at h
        obtain ⟨φ3, hi3⟩ := tidy_sound ht3 hi2
        exact ihL blk c aa3 os3 e aa' os' h a' φ3 w' hi3
      | exit i =>
        obtain ⟨rfl, rfl, rfl⟩ := some_of_det3 (f := fun X (k : AExit → AAct → List AObj → Option X) => k (.exit i) aa2 os2) (fun _ _ => rfl) h
        cases e' <;> simp only [exitR] at he
        exact ⟨φ2, he, hi2⟩
      | ret =>
        obtain ⟨rfl, rfl, rfl⟩ := some_of_det3 (f := fun X (k : AExit → AAct → List AObj → Option X) => k .ret aa2 os2) (fun _ _ => rfl) h
        cases e' <;> simp only [exitR] at he
        exact ⟨φ2, trivial, hi2⟩
      | panic x =>
        obtain ⟨rfl, rfl, rfl⟩ := some_of_det3 (f := fun X (k : AExit → AAct → List AObj → Option X) => k (.panic x) aa2 os2) (fun _ _ => rfl) h
        cases e' <;> simp only [exitR] at he
        exact ⟨φ2, he, hi2⟩
theorem exec_step (hk : HookOK E) (hinl : InlOK E) (hm : E.P.follows .mixedOrders = true) {n : Nat} (hX : ExecOK E n) (hrun : RunOK E (fun c a os => exec E n 0 c a os)) (hA : ∀ g, SpecOK (Env.at E (fun c a os => exec E n 0 c a os) n).P g ((Env.at E (fun c a os => exec E n 0 c a os) n).spec g)) : ExecOK E (n + 1) := by
  refine ⟨exec_det_step hk hrun hA hX.det, ?_, exec_stepL hX⟩
  · intro φ0 L0 w0 ro nf m
    have hdet := hX.det
    have ih := hX.ok φ0 L0 w0 ro nf m
    have L := exec_stepL hX φ0 L0 w0 ro nf m
    intro blk c aa os e aa' os' h a φ w hi
    cases c with
    | skip =>
      simp only [exec] at h
      obtain ⟨rfl, rfl, rfl⟩ := some_of_det3 (f := fun X (k : AExit → AAct → List AObj → Option X) => k .normal aa os) (fun _ _ => rfl) h
      exact wpIn_skip ⟨φ, trivial, hi⟩
    | region id ops draw =>
      cases draw with
      | false =>
        simp only [exec] at h
        refine wpIn_region ?_
        rw [List.range_eq_range']
        exact runOps_sound (E := Env.at E (fun c a os => exec E n 0 c a os) n) (yieldF_det hrun) (yieldF_ok hrun) hA ops.toList 0 aa a φ os w (by simp) h hi
      | true =>
        simp only [exec] at h
        cases hd : drawnOk ops (ancs ops.toList []) 0 [] ops.toList with
        | false => rw [hd] at h; exact (none_of_det3 h fun _ _ => rfl).elim
        | true =>
          rw [hd] at h
          simp only [cond_true] at h
          exact wpIn_region_any hm (drawnOK (E := Env.at E (fun c a os => exec E n 0 c a os) n) hA n ops φ0 L0 w0 ro nf m aa a φ os _ e aa' os' hd h hi.drew)
    | seq x y =>
      simp only [exec] at h
      rcases hdet blk x aa os with ⟨e2, aa2, os2, h2⟩ | h2
      rotate_left
      · exact (none_of_det3 h fun X k => by rw [h2]).elim
      simp only [h2] at h
      refine wpIn_seq (wpIn_mono (ih blk x aa os e2 aa2 os2 h2 a φ w hi) ?_)
      rintro e' a' w' ⟨φ2, he, hi2⟩
      cases e2 with
      | normal =>
        cases e' <;> simp only [exitR] at he
        exact ih blk y aa2 os2 e aa' os' h a' φ2 w' hi2
      | exit i =>
        obtain ⟨rfl, rfl, rfl⟩ := some_of_det3 (f := fun X (k : AExit → AAct → List AObj → Option X) => k (.exit i) aa2 os2) (fun _ _ => rfl) h
        cases e' <;> simp only [exitR] at he
        exact ⟨φ2, he, hi2⟩
      | ret =>
        obtain ⟨rfl, rfl, rfl⟩ := some_of_det3 (f := fun X (k : AExit → AAct → List AObj → Option X) => k .ret aa2 os2) (fun _ _ => rfl) h
        cases e' <;> simp only [exitR] at he
        exact ⟨φ2, trivial, hi2⟩
      | panic x =>
        obtain ⟨rfl, rfl, rfl⟩ := some_of_det3 (f := fun X (k : AExit → AAct → List AObj → Option X) => k (.panic x) aa2 os2) (fun _ _ => rfl) h
        cases e' <;> simp only [exitR] at he
        exact ⟨φ2, he, hi2⟩
    | cond c x y =>
      simp only [exec] at h
      have hv := VR_evA (φ := φ) hi.tmps c
      split at h
      · rename_i b hc
        rw [hc, VR_v] at hv
        refine wpIn_cond hv ?_
        cases b with
        | true => exact ih blk x aa os e aa' os' h a φ w hi
        | false => exact ih blk y aa os e aa' os' h a φ w hi
      · exact (none_of_det3 h fun _ _ => rfl).elim
    | block id c =>
      simp only [exec] at h
      cases hh : E.hook aa.fn id with
      | some S =>
        simp only [hh] at h
        exact hk.ok _ _ _ hh φ0 L0 w0 ro nf m c aa os e aa' os' rfl h a φ w hi
      | none =>
      simp only [hh] at h
      rcases hdet id c aa os with ⟨e2, aa2, os2, h2⟩ | h2
      rotate_left
      · exact (none_of_det3 h fun X k => by rw [h2]).elim
      simp only [h2] at h
      refine wpIn_block (wpIn_mono (ih id c aa os e2 aa2 os2 h2 a φ w hi) ?_)
      have clean : ∀ {a' : Act} {w' : World} {φ2 : Emb}, Inv φ0 L0 w0 ro nf aa2 a' φ2 os2 w' → (∀ (X : Type) (k : AExit → AAct → List AObj → Option X), (tidyC (E.conc aa2.fn id).2 ((E.keep aa2.fn id).map (·.2)) n aa2 os2 fun a os => k .normal a os) = k e aa' os') → Q0 φ0 L0 w0 ro nf e aa' os' .normal a' w' := by
        intro a' w' φ2 hi2 h
        rcases tidyC_det (E.conc aa2.fn id).2 ((E.keep aa2.fn id).map (·.2)) n aa2 os2 with ⟨aa3, os3, ht⟩ | ht
        rotate_left
        · exact (none_of_det3 h fun X k => by rw [ht]).elim
        simp only [ht] at h
        obtain ⟨rfl, rfl, rfl⟩ := some_of_det3 (f := fun X (k : AExit → AAct → List AObj → Option X) => k .normal aa3 os3) (fun _ _ => rfl) h
        obtain ⟨φ3, hi3⟩ := tidyC_sound ht hi2
        exact ⟨φ3, trivial, hi3⟩
      rintro e' a' w' ⟨φ2, he, hi2⟩
      cases e2 with
      | normal =>
        cases e' <;> simp only [exitR] at he
        exact clean hi2 h
      | exit i =>
        cases e' <;> simp only [exitR] at he
        subst he
        simp only at h
        simp only [Exit.inBlock]
        cases hb : Nat.beq i id with
        | true =>
          have : i = id := Nat.eq_of_beq_eq_true hb
          rw [if_pos this]
          simp only [hb, cond_true] at h
          exact clean hi2 h
        | false =>
          have : i ≠ id := Nat.ne_of_beq_eq_false hb
          rw [if_neg this]
          simp only [hb, cond_false] at h
          obtain ⟨rfl, rfl, rfl⟩ := some_of_det3 (f := fun X (k : AExit → AAct → List AObj → Option X) => k (.exit i) aa2 os2) (fun _ _ => rfl) h
          exact ⟨φ2, rfl, hi2⟩
      | ret =>
        obtain ⟨rfl, rfl, rfl⟩ := some_of_det3 (f := fun X (k : AExit → AAct → List AObj → Option X) => k .ret aa2 os2) (fun _ _ => rfl) h
        cases e' <;> simp only [exitR] at he
        exact ⟨φ2, trivial, hi2⟩
      | panic x =>
        obtain ⟨rfl, rfl, rfl⟩ := some_of_det3 (f := fun X (k : AExit → AAct → List AObj → Option X) => k (.panic x) aa2 os2) (fun _ _ => rfl) h
        cases e' <;> simp only [exitR] at he
        exact ⟨φ2, he, hi2⟩
    | loop c => exact wpIn_of_L (L blk c aa os e aa' os' h a φ w hi)
    | exit id =>
      simp only [exec] at h
      obtain ⟨rfl, rfl, rfl⟩ := some_of_det3 (f := fun X (k : AExit → AAct → List AObj → Option X) => k (.exit id) aa os) (fun _ _ => rfl) h
      exact wpIn_exit ⟨φ, rfl, hi⟩
    | ret =>
      simp only [exec] at h
      obtain ⟨rfl, rfl, rfl⟩ := some_of_det3 (f := fun X (k : AExit → AAct → List AObj → Option X) => k .ret aa os) (fun _ _ => rfl) h
      exact wpIn_ret ⟨φ, trivial, hi⟩
    | label l =>
      simp only [exec] at h
      obtain ⟨rfl, rfl, rfl⟩ := some_of_det3 (f := fun X (k : AExit → AAct → List AObj → Option X) => k .normal aa os) (fun _ _ => rfl) h
      exact wpIn_label ⟨φ, trivial, hi⟩
    | scope c =>
      simp only [exec] at h
      refine wpIn_scope (wpIn_mono (ih blk c aa os e aa' os' h a φ w hi) ?_)
      rintro e' a' w' hq
      cases e' with
      | goto l => obtain ⟨_, he, _⟩ := hq; cases e <;> simp only [exitR] at he
      | _ => exact hq
    | rangeFunc g ps asg bd =>
      simp only [exec] at h
      exact rangeA_sound (E' := Env.at E (fun c a os => exec E n 0 c a os) n) hA hinl h hi m
    | _ => exact (none_of_det3 h fun _ _ => by simp only [exec]).elim
theorem exec_all (hk : HookOK E) (hE : ∀ g, SpecOK E.P g (E.spec g)) (hinl : InlOK E) (hm : E.P.follows .mixedOrders = true) : ∀ n, ExecOK E n
  | 0 => ⟨fun _ _ _ _ => .inr fun _ _ => by simp only [exec], fun _ _ _ _ _ _ _ _ _ _ _ _ _ h => (none_of_det3 h fun _ _ => by simp only [exec]).elim, fun _ _ _ _ _ _ _ _ _ _ _ _ _ h => (none_of_det3 h fun _ _ => by simp only [exec]).elim⟩
  | n + 1 => by
    have hX := exec_all hk hE hinl hm n
    have hrun : RunOK E (fun c a os => exec E n 0 c a os) := ⟨fun c a os => hX.det 0 c a os, fun φ0 L0 w0 ro nf m c aa os e aa' os' h => hX.ok φ0 L0 w0 ro nf m 0 c aa os e aa' os' h⟩
    exact exec_step hk hinl hm hX hrun (at_ok hE hrun hinl n)
theorem runOK (hk : HookOK E) (hE : ∀ g, SpecOK E.P g (E.spec g)) (hinl : InlOK E) (hm : E.P.follows .mixedOrders = true) (n : Nat) : RunOK E (fun c a os => exec E n 0 c a os) :=
  ⟨fun c a os => (exec_all hk hE hinl hm n).det 0 c a os, fun φ0 L0 w0 ro nf m c aa os e aa' os' h => (exec_all hk hE hinl hm n).ok φ0 L0 w0 ro nf m 0 c aa os e aa' os' h⟩
theorem body_ok (hk : HookOK E) (hE : ∀ g, SpecOK E.P g (E.spec g)) (hinl : InlOK E) (hm : E.P.follows .mixedOrders = true) (n : Nat) {f : FuncId} {fn : Func} {c : Code} (hf : E.P.funcs[f]? = some fn) (hb : fn.body = some c) (hnm : (fn.name == "runtime.NumGoroutine") = false) :
    SpecOK E.P f (body E n f fn c) := bodyWith_ok (runOK hk hE hinl hm n) hinl hf hb hnm
end
end Go.Abs
end
section
namespace Go.Abs
open Go
theorem SpecOK.none {P : Program} {f : FuncId} : SpecOK P f (fun _ _ _ _ => none) :=
  ⟨fun _ _ => .inr fun _ _ => rfl, fun _ _ _ _ h => (none_of_det h fun _ _ => rfl).elim⟩
abbrev Tbl := List (FuncId × ASpec)
def Tbl.get : Tbl → FuncId → ASpec
  | [], _ => fun _ _ _ _ => Option.none
  | p :: t, f => bif Nat.beq f p.1 then p.2 else Tbl.get t f
def Tbl.OK (P : Program) : Tbl → Prop
  | [] => True
  | p :: t => SpecOK P p.1 p.2 ∧ Tbl.OK P t
theorem Tbl.get_ok {P : Program} : ∀ {t : Tbl}, t.OK P → ∀ f, SpecOK P f (t.get f)
  | [], _, _ => SpecOK.none
  | p :: t, h, f => by
    unfold Tbl.get
    cases hb : Nat.beq f p.1 with
    | true =>
      have : f = p.1 := Nat.eq_of_beq_eq_true hb
      subst this
      exact h.1
    | false => exact Tbl.get_ok h.2 f
theorem Tbl.OK.append {P : Program} : ∀ {s t : Tbl}, s.OK P → t.OK P → Tbl.OK P (s ++ t)
  | [], _, _, ht => ht
  | _ :: _, _, hs, ht => ⟨hs.1, Tbl.OK.append hs.2 ht⟩
theorem SpecOK.of_body {E : Env} (hk : HookOK E) (hE : ∀ g, SpecOK E.P g (E.spec g)) (hinl : InlOK E) (hm : E.P.follows .mixedOrders = true) {f : FuncId} {fn : Func} {c : Code} (hf : E.P.funcs[f]? = some fn) (hb : fn.body = some c)
    (hnm : (fn.name == "runtime.NumGoroutine") = false) {S : ASpec} (h : ∀ args os, (∀ (X : Type) (k : AEnd → List AObj → Option X), S args os X k = Option.none) ∨ ∃ n, ∀ (X : Type) (k : AEnd → List AObj → Option X), body E n f fn c args os X k = S args os X k) : SpecOK E.P f S := by
  refine ⟨fun args os => ?_, fun args os e os' hs φ w vals hr htop hv => ?_⟩
  · rcases h args os with h | ⟨n, h⟩
    · exact .inr h
    · rcases (body_ok hk hE hinl hm n hf hb hnm).det args os with ⟨e, os', h1⟩ | h1
      · exact .inl ⟨e, os', fun X k => by rw [← h, h1]⟩
      · exact .inr fun X k => by rw [← h, h1]
  · rcases h args os with h | ⟨n, h⟩
    · exact (none_of_det hs h).elim
    · exact (body_ok hk hE hinl hm n hf hb hnm).ok args os e os' (fun X k => (h X k).trans (hs X k)) φ w vals hr htop hv
theorem SpecOK.of_value {P : Program} {f : FuncId} {S : ASpec} (h : ∀ args os, (∀ (X : Type) (k : AEnd → List AObj → Option X), S args os X k = Option.none) ∨
    ∃ x, (∀ (X : Type) (k : AEnd → List AObj → Option X), S args os X k = k (.ret x) os) ∧ ∀ (φ : Emb) (L : Nat → Prop) (w : World) (vals : Array Value), VRs φ L w args vals.toList → ∃ v, (callFunc f vals).run P w = .ok (.value v) w ∧ VR φ L w x v) : SpecOK P f S := by
  refine ⟨fun args os => ?_, fun args os e os' hs φ w vals hr htop hv => ?_⟩
  · rcases h args os with h | ⟨x, h, _⟩
    · exact .inr h
    · exact .inl ⟨_, _, h⟩
  · rcases h args os with h | ⟨x, h, h2⟩
    · exact (none_of_det hs h).elim
    · obtain ⟨rfl, rfl⟩ := some_of_det hs h
      obtain ⟨v, h3, h4⟩ := h2 φ _ w vals hv
      exact .inl ⟨v, w, h3, φ, ⟨Nat.le_refl _, rfl, fun _ _ => rfl, htop, Keep.refl _ _, hr, fun _ h => .inl h, fun _ _ => rfl, h4⟩⟩
def env (P : Program) (mode : FuncId → Mode) (keep : FuncId → Nat → Option (List Tmp × List Tmp)) (inl : FuncId → Option (Func × Code)) (t : Tbl) : Env := { P, mode, keep, inl, spec := t.get }
end Go.Abs
end
section
namespace Go.Abs
open Go
inductive Sh where
  | int (k : IntKind)
  | bool
  | str
  | junk
  | sl (sz : Nat) (ks : List Sh)
  | agg (ss : List Sh)
  | tup (ss : List Sh)
  | nilI
  | nilS
  | ptr (i o : Nat)
  | wref (i : Nat)
  | sref (i : Nat)
  | iface (t : TypeId) (s : Sh)
  | und
  | fn0 (f : FuncId) (ss : List Sh)
def AV.isUnd : AV → Bool
  | .v (.tuple vs) => vs.isEmpty
  | _ => false
def AV.items : AV → List AV
  | .agg cs => cs
  | .tuple vs => vs
  | .iface _ x => [x]
  | .func _ _ cs => cs
  | _ => []
def fnIs (f : FuncId) : AV → Bool
  | .func (.func g) [] _ => Nat.beq f g
  | _ => false
def AV.srOff : AV → Nat
  | .sref _ o _ => o
  | _ => 0
def AV.srN : AV → Nat
  | .sref _ _ n => n
  | _ => 0
mutual
def okS : Sh → AV → Bool
  | .int k, x => x.isInt k
  | .bool, x => x.isBool
  | .str, x => x.isStr
  | .junk, .junk => true
  | .sl sz ks, .sl sz' es => Nat.beq sz sz' && es.all fun e => okSs ks e
  | .agg ss, .agg cs => okSs ss cs
  | .tup ss, .tuple cs => okSs ss cs
  | .nilI, .v .nilIface => true
  | .nilS, .v (.slice none 0 0) => true
  | .ptr i o, .ptr i' o' => Nat.beq i i' && Nat.beq o o'
  | .wref i, .wref i' => Nat.beq i i'
  | .sref i, .sref i' _ _ => Nat.beq i i'
  | .iface t s, .iface t' x => Nat.beq t t' && okS s x
  | .und, x => x.isUnd
  | .fn0 f ss, x => fnIs f x && okSs ss x.items
  | _, _ => false
def okSs : List Sh → List AV → Bool
  | [], [] => true
  | s :: ss, c :: cs => okS s c && okSs ss cs
  | _, _ => false
end
mutual
def reb : Sh → AV → AV
  | .int k, x => .v (.int k x.toInt)
  | .bool, x => .v (.bool x.toBool)
  | .str, x => .v (.string x.toStr)
  | .junk, _ => .junk
  | .sl sz ks, x => .sl sz (x.toSl.map fun e => rebs ks e 0)
  | .agg ss, x => .agg (rebs ss x.items 0)
  | .tup ss, x => .tuple (rebs ss x.items 0)
  | .nilI, _ => .v .nilIface
  | .nilS, _ => .v (.slice none 0 0)
  | .ptr i o, _ => .ptr i o
  | .wref i, _ => .wref i
  | .sref i, x => .sref i x.srOff x.srN
  | .iface t s, x => .iface t (reb s (x.items.getD 0 .junk))
  | .und, _ => .v undef
  | .fn0 f ss, x => .func (.func f) [] (rebs ss x.items 0)
def rebs : List Sh → List AV → Nat → List AV
  | [], _, _ => []
  | s :: ss, cs, i => reb s (cs.getD i .junk) :: rebs ss cs (i + 1)
end
theorem eq_of_isInt {k : IntKind} : ∀ {x : AV}, x.isInt k = true → AV.v (.int k x.toInt) = x
  | .v (.int k' n), h => by simp only [AV.isInt, decide_eq_true_eq] at h; subst h; rfl
  | .v (.bool _), h | .v (.string _), h => by simp [AV.isInt] at h
  | .junk, h | .agg _, h => by simp [AV.isInt] at h
  | .v x, h => by cases x <;> simp [AV.isInt] at h; subst h; rfl
  | .tuple _, h | .iface _ _, h | .func _ _ _, h | .ptr _ _, h | .eptr _ _ _, h | .dptr _, h | .sl _ _, h | .wref _, h | .sref _ _ _, h | .aref _ _ _, h | .yld _, h => by simp [AV.isInt] at h
theorem eq_of_isBool {x : AV} (h : x.isBool = true) : AV.v (.bool x.toBool) = x := by
  unfold AV.isBool at h; split at h
  · rfl
  · cases h
theorem eq_of_isStr {x : AV} (h : x.isStr = true) : AV.v (.string x.toStr) = x := by
  unfold AV.isStr at h; split at h
  · rfl
  · cases h
theorem fnIs_eq {f : FuncId} {x : AV} (h : fnIs f x = true) : ∃ cs, x = .func (.func f) [] cs := by
  unfold fnIs at h
  split at h
  · rename_i g cs
    exact ⟨cs, by rw [Nat.eq_of_beq_eq_true h]⟩
  · cases h
theorem eq_of_isUnd {x : AV} (h : x.isUnd = true) : AV.v undef = x := by
  unfold AV.isUnd at h; split at h
  · rename_i vs
    rw [Array.isEmpty_iff] at h
    rw [h]; rfl
  · cases h
mutual
theorem reb_eq : ∀ (s : Sh) (x : AV), okS s x = true → reb s x = x
  | .int k, x, h => by simp only [okS] at h; simp only [reb]; exact eq_of_isInt h
  | .bool, x, h => by simp only [okS] at h; simp only [reb]; exact eq_of_isBool h
  | .str, x, h => by simp only [okS] at h; simp only [reb]; exact eq_of_isStr h
  | .junk, x, h => by unfold okS at h; split at h <;> first | contradiction | rfl | cases h
  | .sl sz ks, x, h => by
    cases x <;> simp only [okS, Bool.and_eq_true, Bool.false_eq_true] at h
    rename_i sz' es
    obtain ⟨h1, h2⟩ := h
    have := Nat.eq_of_beq_eq_true h1
    subst this
    simp only [reb, AV.toSl, AV.sl.injEq, true_and]
    refine (List.map_congr_left fun e he => ?_).trans (List.map_id es)
    exact rebs_eq ks [] e (List.all_eq_true.1 h2 e he)
  | .agg ss, x, h => by
    cases x <;> simp only [okS, Bool.false_eq_true] at h
    simp only [reb, AV.items, AV.agg.injEq]
    exact rebs_eq ss [] _ h
  | .tup ss, x, h => by
    cases x <;> simp only [okS, Bool.false_eq_true] at h
    simp only [reb, AV.items, AV.tuple.injEq]
    exact rebs_eq ss [] _ h
  | .nilI, x, h => by unfold okS at h; split at h <;> first | contradiction | rfl | cases h
  | .nilS, x, h => by unfold okS at h; split at h <;> first | contradiction | rfl | cases h
  | .ptr i o, x, h => by
    cases x <;> simp only [okS, Bool.and_eq_true, Bool.false_eq_true] at h
    rw [reb, Nat.eq_of_beq_eq_true h.1, Nat.eq_of_beq_eq_true h.2]
  | .wref i, x, h => by
    cases x <;> simp only [okS, Bool.false_eq_true] at h
    rw [reb, Nat.eq_of_beq_eq_true h]
  | .sref i, x, h => by
    cases x <;> simp only [okS, Bool.false_eq_true] at h
    rw [reb, AV.srOff, AV.srN, Nat.eq_of_beq_eq_true h]
  | .iface t s, x, h => by
    cases x <;> simp only [okS, Bool.and_eq_true, Bool.false_eq_true] at h
    have := Nat.eq_of_beq_eq_true h.1
    subst this
    simp only [reb, AV.items, AV.iface.injEq, true_and]
    exact reb_eq s _ h.2
  | .und, x, h => by simp only [okS] at h; simp only [reb]; exact eq_of_isUnd h
  | .fn0 f ss, x, h => by
    simp only [okS, Bool.and_eq_true] at h
    obtain ⟨cs, rfl⟩ := fnIs_eq h.1
    simp only [reb, AV.items, AV.func.injEq, true_and]
    exact rebs_eq ss [] _ h.2
theorem rebs_eq : ∀ (ss : List Sh) (pre cs : List AV), okSs ss cs = true → rebs ss (pre ++ cs) pre.length = cs
  | [], pre, cs, h => by
    cases cs with
    | nil => rfl
    | cons => simp [okSs] at h
  | s :: ss, pre, cs, h => by
    cases cs with
    | nil => simp [okSs] at h
    | cons c cs =>
      simp only [okSs, Bool.and_eq_true] at h
      simp only [rebs]
      have h1 : (pre ++ c :: cs).getD pre.length .junk = c := by simp [List.getD]
      have h2 := rebs_eq ss (pre ++ [c]) cs h.2
      simp only [List.append_assoc, List.singleton_append, List.length_append, List.length_singleton] at h2
      rw [h1, reb_eq s c h.1, h2]
end
inductive ShO where
  | cells (ss : List Sh)
  | row (sz : Nat) (ks : List Sh)
  | frow (sz : Nat) (ks : List Sh)
  | dead
  | bld (t : TypeId) (j : Option Nat)
  | brow (e : TypeId)
  | ints (k : IntKind)
  | loop (f : FuncId) (ss : List Sh) (ps : List Tmp) (asg bd : Code)
  | dblk
def AObj.tmpsOf : AObj → List AV
  | .loop _ tm _ _ _ _ => tm
  | _ => []
open Classical in
noncomputable def sameLoop (ps ps' : List Tmp) (a a' b b' : Code) (p : Option Code) : Bool := decide (ps = ps' ∧ a = a' ∧ b = b' ∧ p = none)
theorem sameLoop_t {ps : List Tmp} {a b : Code} : sameLoop ps ps a a b b none = true := by simp [sameLoop]
theorem sameLoop_eq {ps ps' : List Tmp} {a a' b b' : Code} {p : Option Code} (h : sameLoop ps ps' a a' b b' p = true) : ps = ps' ∧ a = a' ∧ b = b' ∧ p = none := by simpa [sameLoop] using h
def AObj.intsOf : AObj → List Int
  | .ints _ ds => ds
  | _ => []
def AObj.bytesOf : AObj → ByteArray
  | .brow _ bs => bs
  | _ => .empty
def eqON : Option Nat → Option Nat → Bool
  | none, none => true
  | some i, some j => Nat.beq i j
  | _, _ => false
theorem eqON_eq : ∀ {i j : Option Nat}, eqON i j = true → i = j
  | none, none, _ => rfl
  | some i, some j, h => by rw [Nat.eq_of_beq_eq_true h]
  | none, some _, h => by cases h
  | some _, none, h => by cases h
def AObj.cellsOf : AObj → List AV
  | .cells cs => cs
  | _ => []
def AObj.rowOf : AObj → List (List AV)
  | .row _ es => es
  | .frow _ es => es
  | _ => []
noncomputable def okO : ShO → AObj → Bool
  | .cells ss, .cells cs => okSs ss cs
  | .row sz ks, .row sz' es => Nat.beq sz sz' && es.all fun e => okSs ks e
  | .frow sz ks, .frow sz' es => Nat.beq sz sz' && es.all fun e => okSs ks e
  | .dead, .dead => true
  | .dblk, .dblk => true
  | .bld t j, .bld t' j' => Nat.beq t t' && eqON j j'
  | .brow e, .brow e' _ => Nat.beq e e'
  | .ints k, .ints k' _ => decide (k = k')
  | .loop f ss ps a b, .loop f' tm ps' a' b' p => Nat.beq f f' && (okSs ss tm && sameLoop ps ps' a a' b b' p)
  | _, _ => false
def rebO : ShO → AObj → AObj
  | .cells ss, o => .cells (rebs ss o.cellsOf 0)
  | .row sz ks, o => .row sz (o.rowOf.map fun e => rebs ks e 0)
  | .frow sz ks, o => .frow sz (o.rowOf.map fun e => rebs ks e 0)
  | .dead, _ => .dead
  | .dblk, _ => .dblk
  | .bld t j, _ => .bld t j
  | .brow e, o => .brow e o.bytesOf
  | .ints k, o => .ints k o.intsOf
  | .loop f ss ps a b, o => .loop f (rebs ss o.tmpsOf 0) ps a b none
theorem rebO_eq : ∀ (s : ShO) (o : AObj), okO s o = true → rebO s o = o
  | .cells ss, o, h => by
    cases o <;> simp only [okO, Bool.false_eq_true] at h
    simp only [rebO, AObj.cellsOf, AObj.cells.injEq]; exact rebs_eq ss [] _ h
  | .row sz ks, o, h => by
    cases o <;> simp only [okO, Bool.and_eq_true, Bool.false_eq_true] at h
    obtain ⟨h1, h2⟩ := h
    have := Nat.eq_of_beq_eq_true h1
    subst this
    simp only [rebO, AObj.rowOf, AObj.row.injEq, true_and]
    exact (List.map_congr_left fun e he => rebs_eq ks [] e (List.all_eq_true.1 h2 e he)).trans (List.map_id _)
  | .frow sz ks, o, h => by
    cases o <;> simp only [okO, Bool.and_eq_true, Bool.false_eq_true] at h
    obtain ⟨h1, h2⟩ := h
    have := Nat.eq_of_beq_eq_true h1
    subst this
    simp only [rebO, AObj.rowOf, AObj.frow.injEq, true_and]
    exact (List.map_congr_left fun e he => rebs_eq ks [] e (List.all_eq_true.1 h2 e he)).trans (List.map_id _)
  | .dead, o, h => by cases o <;> simp only [okO, Bool.false_eq_true] at h; rfl
  | .dblk, o, h => by cases o <;> simp only [okO, Bool.false_eq_true] at h; rfl
  | .bld t j, o, h => by
    cases o <;> simp only [okO, Bool.and_eq_true, Bool.false_eq_true] at h
    rw [rebO, Nat.eq_of_beq_eq_true h.1, eqON_eq h.2]
  | .brow e, o, h => by
    cases o <;> simp only [okO, Bool.false_eq_true] at h
    rw [rebO, Nat.eq_of_beq_eq_true h]; rfl
  | .ints k, o, h => by
    cases o <;> simp only [okO, Bool.false_eq_true, decide_eq_true_eq] at h
    rw [rebO, h]; rfl
  | .loop f ss ps a b, o, h => by
    cases o <;> simp only [okO, Bool.and_eq_true, Bool.false_eq_true] at h
    obtain ⟨h1, h2, h3⟩ := h
    obtain ⟨rfl, rfl, rfl, rfl⟩ := sameLoop_eq h3
    have := Nat.eq_of_beq_eq_true h1
    subst this
    simp only [rebO, AObj.tmpsOf, AObj.loop.injEq, true_and, and_true]
    exact rebs_eq ss [] _ h2
noncomputable def okOs : List ShO → List AObj → Bool
  | [], [] => true
  | s :: ss, o :: os => okO s o && okOs ss os
  | _, _ => false
def rebOs : List ShO → List AObj → Nat → List AObj
  | [], _, _ => []
  | s :: ss, os, i => rebO s (os.getD i .dead) :: rebOs ss os (i + 1)
theorem rebOs_eq : ∀ (ss : List ShO) (pre os : List AObj), okOs ss os = true → rebOs ss (pre ++ os) pre.length = os
  | [], pre, cs, h => by
    cases cs with
    | nil => rfl
    | cons => simp [okOs] at h
  | s :: ss, pre, cs, h => by
    cases cs with
    | nil => simp [okOs] at h
    | cons c cs =>
      simp only [okOs, Bool.and_eq_true] at h
      simp only [rebOs]
      have h1 : (pre ++ c :: cs).getD pre.length .dead = c := by simp [List.getD]
      have h2 := rebOs_eq ss (pre ++ [c]) cs h.2
      simp only [List.append_assoc, List.singleton_append, List.length_append, List.length_singleton] at h2
      rw [h1, rebO_eq s c h.1, h2]
abbrev RE := Option (AEnd × List AObj)
abbrev RF := List AV → List AObj → RE
def runR (B : ASpec) : RF := fun args os => B args os _ fun e os => some (e, os)
structure Alt where
  pan : Bool
  s : Sh
  os : List ShO
def rV (r : RE) : AV := match r with | some (e, _) => e.val | none => .junk
def rOs (r : RE) : List AObj := match r with | some (_, os) => os | none => []
noncomputable def okAlt (t : Alt) (r : RE) : Bool := match r with
  | some (.ret x, os) => !t.pan && (okS t.s x && okOs t.os os)
  | some (.panic x, os) => t.pan && (okS t.s x && okOs t.os os)
  | none => false
def mkEnd (t : Alt) (x : AV) : AEnd := match t.pan with
  | true => .panic (reb t.s x)
  | false => .ret (reb t.s x)
noncomputable def endSpec (r : RE) {X : Type} (k : AEnd → List AObj → Option X) : List Alt → Option X
  | [] => none
  | t :: ts => bif okAlt t r then k (mkEnd t (rV r)) (rebOs t.os (rOs r) 0) else endSpec r k ts
theorem okAlt_eq {t : Alt} {r : RE} (h : okAlt t r = true) : r = some (mkEnd t (rV r), rebOs t.os (rOs r) 0) := by
  unfold okAlt at h
  split at h
  · rename_i x os
    simp only [Bool.and_eq_true, Bool.not_eq_true'] at h
    obtain ⟨h1, h2, h3⟩ := h
    have h4 : rebOs t.os os 0 = os := rebOs_eq _ [] _ h3
    simp only [mkEnd, h1, rV, rOs, AEnd.val, reb_eq _ _ h2, h4]
  · rename_i x os
    simp only [Bool.and_eq_true] at h
    obtain ⟨h1, h2, h3⟩ := h
    have h4 : rebOs t.os os 0 = os := rebOs_eq _ [] _ h3
    simp only [mkEnd, h1, rV, rOs, AEnd.val, reb_eq _ _ h2, h4]
  · cases h
theorem endSpec_cases (r : RE) : ∀ ts, (∃ e os, r = some (e, os) ∧ ∀ (X : Type) (k : AEnd → List AObj → Option X), endSpec r k ts = k e os) ∨ ∀ (X : Type) (k : AEnd → List AObj → Option X), endSpec r k ts = none
  | [] => .inr fun _ _ => rfl
  | t :: ts => by
    cases h : okAlt t r with
    | true => exact .inl ⟨_, _, okAlt_eq h, fun X k => by simp only [endSpec, h, cond_true]⟩
    | false =>
      simp only [endSpec, h, cond_false]
      exact endSpec_cases r ts
noncomputable def shaped (ts : List Alt) (r : RF) : ASpec := fun args os _ k => endSpec (r args os) k ts
theorem SpecOK.forced {P : Program} {f : FuncId} {B : ASpec} (h : SpecOK P f B) (ts : List Alt) : SpecOK P f (shaped ts (runR B)) := by
  refine ⟨fun args os => ?_, fun args os e os' hs => ?_⟩
  · rcases endSpec_cases (runR B args os) ts with ⟨e, os, _, h⟩ | h
    · exact .inl ⟨e, os, h⟩
    · exact .inr h
  · refine h.ok args os e os' ?_
    rcases endSpec_cases (runR B args os) ts with ⟨e0, os0, h1, h2⟩ | h2
    · obtain ⟨rfl, rfl⟩ := some_of_det (f := fun X (k : AEnd → List AObj → Option X) => endSpec (runR B args os) k ts) h2 hs
      rcases h.det args os with ⟨e1, os1, h3⟩ | h3
      · have : runR B args os = some (e1, os1) := h3 _ _
        rw [this] at h1
        cases h1
        exact h3
      · have : runR B args os = Option.none := h3 _ _
        rw [this] at h1
        cases h1
    · exact (none_of_det hs h2).elim
abbrev RBE := Option (AExit × AAct × List AObj)
abbrev RB := Code → AAct → List AObj → RBE
def runB (B : BSpec) : RB := fun c a os => B c a os _ fun e a os => some (e, a, os)
inductive ExSh where
  | normal
  | ret
  | exit (id : Nat)
structure BAlt where
  e : ExSh
  tm : List Sh
  os : List ShO
  df : List Nat
def okD : List Nat → List (Option FuncId × List AV) → Bool
  | [], [] => true
  | i :: is, (none, [.yld j]) :: ds => Nat.beq i j && okD is ds
  | _, _ => false
def dfOf : List Nat → List (Option FuncId × List AV)
  | [] => []
  | i :: is => (none, [.yld i]) :: dfOf is
theorem okD_eq : ∀ {is : List Nat} {ds : List (Option FuncId × List AV)}, okD is ds = true → dfOf is = ds := by
  intro is
  induction is with
  | nil => intro ds h; cases ds with
    | nil => rfl
    | cons d ds => cases h
  | cons i is ih =>
    intro ds h
    unfold okD at h
    split at h
    · rename_i e; cases e
    · rename_i i' is' j ds' e
      cases e
      simp only [Bool.and_eq_true] at h
      rw [dfOf, ih h.2, Nat.eq_of_beq_eq_true h.1]
    · cases h
def okEx : ExSh → AExit → Bool
  | .normal, .normal => true
  | .ret, .ret => true
  | .exit i, .exit j => Nat.beq i j
  | _, _ => false
def rebEx : ExSh → AExit
  | .normal => .normal
  | .ret => .ret
  | .exit i => .exit i
theorem rebEx_eq : ∀ {s : ExSh} {e : AExit}, okEx s e = true → rebEx s = e := by
  intro s e h
  cases s <;> cases e <;> simp only [okEx, Bool.false_eq_true] at h <;> first | rfl | (rw [rebEx, Nat.eq_of_beq_eq_true h])
def bT (r : RBE) : List AV := match r with | some (_, a, _) => a.tmps | none => []
def bOs (r : RBE) : List AObj := match r with | some (_, _, os) => os | none => []
noncomputable def okB (t : BAlt) (fn foot : Nat) (round : Bool) (r : RBE) : Bool := match r with
  | some (e, a, os) => okEx t.e e && (okSs t.tm a.tmps && (okOs t.os os && (Nat.beq a.fn fn && (Nat.beq a.foot foot && ((a.round == round) && okD t.df a.defers)))))
  | none => false
def bAct (t : BAlt) (fn foot : Nat) (round : Bool) (r : RBE) : AAct := { tmps := rebs t.tm (bT r) 0, defers := dfOf t.df, fn, foot, round }
theorem okB_eq {t : BAlt} {fn foot : Nat} {round : Bool} {r : RBE} (h : okB t fn foot round r = true) : r = some (rebEx t.e, bAct t fn foot round r, rebOs t.os (bOs r) 0) := by
  unfold okB at h
  split at h
  · rename_i e a os
    simp only [Bool.and_eq_true] at h
    obtain ⟨h1, h2, h3, h4, h5, h6, h7⟩ := h
    have e4 := Nat.eq_of_beq_eq_true h4
    have e5 := Nat.eq_of_beq_eq_true h5
    have e6 : a.round = round := by simpa using h6
    have e7 := okD_eq h7
    subst e4 e5 e6
    have h4 : rebOs t.os os 0 = os := rebOs_eq _ [] _ h3
    have h5 : rebs t.tm a.tmps 0 = a.tmps := rebs_eq _ [] _ h2
    simp only [rebEx_eq h1, bAct, bT, bOs, h4, h5, e7]
  · cases h
noncomputable def bEnd (fn foot : Nat) (round : Bool) (r : RBE) {X : Type} (k : AExit → AAct → List AObj → Option X) : List BAlt → Option X
  | [] => none
  | t :: ts => bif okB t fn foot round r then k (rebEx t.e) (bAct t fn foot round r) (rebOs t.os (bOs r) 0) else bEnd fn foot round r k ts
theorem bEnd_cases (fn foot : Nat) (round : Bool) (r : RBE) : ∀ ts, (∃ e a os, r = some (e, a, os) ∧ ∀ (X : Type) (k : AExit → AAct → List AObj → Option X), bEnd fn foot round r k ts = k e a os) ∨ ∀ (X : Type) (k : AExit → AAct → List AObj → Option X), bEnd fn foot round r k ts = none
  | [] => .inr fun _ _ => rfl
  | t :: ts => by
    cases h : okB t fn foot round r with
    | true => exact .inl ⟨_, _, _, okB_eq h, fun X k => by simp only [bEnd, h, cond_true]⟩
    | false =>
      simp only [bEnd, h, cond_false]
      exact bEnd_cases fn foot round r ts
noncomputable def bShaped (ts : List BAlt) (cs : List (Tmp × List Int)) (ks : Option (List Tmp)) (r : RB) : BSpec := fun c a os _ k => tidyC cs ks 30 a os fun a os => bEnd a.fn a.foot a.round (r c a os) k ts
structure BlockOK (P : Program) (f : FuncId) (id : Nat) (S : BSpec) : Prop where
  det : ∀ c aa os, Det3 (S c aa os)
  ok : ∀ (φ0 : Emb) (L0 : Nat → Prop) (w0 : World) (ro : Option Nat) (nf m : Nat) (c : Code) (aa : AAct) (os : List AObj) (e : AExit) (aa' : AAct) (os' : List AObj), aa.fn = f → (∀ X k, S c aa os X k = k e aa' os') →
    ∀ (a : Act) (φ : Emb) (w : World), Inv φ0 L0 w0 ro nf aa a φ os w → (Code.block id c).wpIn (FW ro) m P (Q0 φ0 L0 w0 ro nf e aa' os') a w
theorem HookOK.of {E : Env} (h : ∀ f id S, E.hook f id = some S → BlockOK E.P f id S) : HookOK E := ⟨fun f id S hs => (h f id S hs).det, fun f id S hs => (h f id S hs).ok⟩
theorem HookOK.none {E : Env} (h : ∀ f id, E.hook f id = Option.none) : HookOK E := .of fun f id S hs => by rw [h] at hs; cases hs
def blockRun (E : Env) (fuel : AAct → List AObj → Nat) (id : Nat) : BSpec := fun c a os X k => exec E (fuel a os) id (.block id c) a os X k
theorem tidyC_fn {cs : List (Tmp × List Int)} {ks : Option (List Tmp)} {fuel : Nat} {aa aa' : AAct} {os os' : List AObj} (h : ∀ (X : Type) (k : AAct → List AObj → Option X), tidyC cs ks fuel aa os k = k aa' os') : aa'.fn = aa.fn := by
  have hs := h AAct (fun a _ => some a)
  unfold tidyC at hs
  rcases concA_cases cs aa.tmps with h1 | h1
  · rw [h1] at hs
    unfold tidy at hs
    cases ks with
    | none => simp only [Option.some.injEq] at hs; rw [← hs]
    | some ks =>
      simp only at hs
      cases hb : Nat.ble os.length aa.foot with
      | true => simp only [hb, cond_true, Option.some.injEq] at hs; rw [← hs]
      | false =>
        simp only [hb, cond_false] at hs
        generalize reach (look os) fuel _ [] = ids at hs
        cases hp : prefOk aa.foot 0 ids with
        | true => simp only [hp, cond_true, Option.some.injEq] at hs; rw [← hs]
        | false => simp [hp] at hs
  · rw [h1] at hs; cases hs
theorem BlockOK.forced {E : Env} (hk : HookOK E) (hE : ∀ g, SpecOK E.P g (E.spec g)) (hinl : InlOK E) (hm : E.P.follows .mixedOrders = true) (fuel : AAct → List AObj → Nat) (f : FuncId) (id : Nat) (ts : List BAlt) (cs : List (Tmp × List Int)) (ks : Option (List Tmp)) :
    BlockOK E.P f id (bShaped ts cs ks (runB (blockRun E fuel id))) := by
  refine ⟨fun c aa os => ?_, fun φ0 L0 w0 ro nf m c aa os e aa' os' _ hs a φ w hi => ?_⟩
  · rcases tidyC_det cs ks 30 aa os with ⟨aa1, os1, ht⟩ | ht
    · rcases bEnd_cases aa1.fn aa1.foot aa1.round (runB (blockRun E fuel id) c aa1 os1) ts with ⟨e, a, os, _, h⟩ | h
      · exact .inl ⟨e, a, os, fun X k => by simp only [bShaped, ht, h]⟩
      · exact .inr fun X k => by simp only [bShaped, ht, h]
    · exact .inr fun X k => by simp only [bShaped, ht]
  · rcases tidyC_det cs ks 30 aa os with ⟨aa1, os1, ht⟩ | ht
    rotate_left
    · exact (none_of_det3 hs fun X k => by simp only [bShaped, ht]).elim
    obtain ⟨φ1, hi1⟩ := tidyC_sound ht hi
    rcases bEnd_cases aa1.fn aa1.foot aa1.round (runB (blockRun E fuel id) c aa1 os1) ts with ⟨e0, a0, os0, h1, h2⟩ | h2
    rotate_left
    · exact (none_of_det3 hs fun X k => by simp only [bShaped, ht, h2]).elim
    have h0 : ∀ (X : Type) (k : AExit → AAct → List AObj → Option X), bShaped ts cs ks (runB (blockRun E fuel id)) c aa os X k = k e0 a0 os0 := fun X k => by simp only [bShaped, ht, h2]
    obtain ⟨rfl, rfl, rfl⟩ := some_of_det3 (f := fun X (k : AExit → AAct → List AObj → Option X) => bShaped ts cs ks (runB (blockRun E fuel id)) c aa os X k) h0 hs
    have hX := exec_all hk hE hinl hm (fuel aa1 os1)
    refine hX.ok φ0 L0 w0 ro nf m id (.block id c) aa1 os1 e0 a0 os0 ?_ a φ1 w hi1
    rcases hX.det id (.block id c) aa1 os1 with ⟨e1, a1, os1', h3⟩ | h3
    · have : runB (blockRun E fuel id) c aa1 os1 = some (e1, a1, os1') := h3 _ _
      rw [this] at h1
      cases h1
      exact h3
    · have : runB (blockRun E fuel id) c aa1 os1 = Option.none := h3 _ _
      rw [this] at h1
      cases h1
end Go.Abs
end
