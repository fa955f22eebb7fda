/-
  Part 5 of what the row needs: the executor and what is said of the program's functions, each shown; no condition.
-/
import Derived.Test.YtiejicekncnofaaGreatE4
section
namespace Go.Proofs.Vm
open Go Go.Abs
inductive BS : List AObj → ByteArray → Prop
  | fresh : BS [.bld 147 none] .empty
  | used (t : ByteArray) : BS [.bld 147 (some 1), .brow 5 t] t
def bsOf : List AObj → Option ByteArray
  | [.bld 147 none] => some .empty
  | [.bld 147 (some 1), .brow 5 t] => some t
  | _ => none
theorem BS.of {os : List AObj} {t : ByteArray} (h : bsOf os = some t) : BS os t := by
  unfold bsOf at h
  split at h <;> cases h
  · exact .fresh
  · exact .used _
def wrO (os : List AObj) (t : ByteArray) : List AObj := match os with
  | [_] => [.bld 147 (some 1), .brow 5 t]
  | _ => [.bld 147 (some 2), .dead, .brow 5 t]
theorem byteCells_len (t : ByteArray) : (byteCells t).length = t.size := by simp [byteCells]
theorem byteCells_one (t : ByteArray) : ∀ u ∈ byteCells t, oneV u = true := fun u hu => by
  simp only [byteCells, List.mem_map] at hu
  obtain ⟨_, _, rfl⟩ := hu
  rfl
structure BOpen (φ : Emb) (w : World) (os : List AObj) (t : ByteArray) (s0 : Slot) (p v : Value) : Prop where
  e0 : φ 0 = some s0
  r0 : s0.real = true
  o0 : s0.o = 0
  m0 : s0.room = 2
  heap : w.heap[s0.b]? = some (.cells #[p, v] 147 (0, 0))
  hp : p = .pointer none ∨ p = selfP s0.b
  buf : Buf w v (byteCells t)
  ne : v.ownBlock ≠ some s0.b
  own : ∀ k, v.ownBlock = some k → os.length = 2 ∧ ∃ s1, φ 1 = some s1 ∧ s1.real = true ∧ s1.b = k
theorem BOpen.of {φ : Emb} {w : World} {os : List AObj} {t : ByteArray} (h : BS os t) (hr : Rel φ (Abs.look os) w) : ∃ s0 p v, BOpen φ w os t s0 p v := by
  cases h with
  | fresh =>
    obtain ⟨s, e, hreal, ⟨h0, h1⟩, hh⟩ := hr.obj 0
    exact ⟨s, _, _, e, hreal, h0, h1, hh, .inl rfl, .inl ⟨rfl, rfl⟩, (fun h => by cases h), fun k hk => by cases hk⟩
  | used t =>
    obtain ⟨s, e, hreal, ⟨h0, h1⟩, s', e', u, hh, hu⟩ := hr.obj 0
    obtain ⟨s1, e1, hn, hb⟩ := hr.obj 1
    have : s1 = s' := Option.some.inj (e1.symm.trans e')
    subst this
    refine ⟨s, _, u, e, hreal, h0, h1, hh, .inr rfl, ?_, ?_, ?_⟩
    · rcases hu with ⟨_, hz, rfl⟩ | ⟨hre, _, rfl⟩
      · refine .inl ⟨rfl, ?_⟩
        have : (byteCells t).length = 0 := by rw [byteCells_len]; omega
        exact List.length_eq_zero_iff.1 this
      · rcases hb with ⟨hf, _⟩ | ⟨_, hroom, cur, hc1, hc2, hc3⟩
        · rw [hre] at hf; cases hf
        · exact .inr ⟨s1.b, s1.room, cur, by rw [byteCells_len, hn], hc1, hc2, by rw [byteCells_len]; omega, by rw [byteCells_len]; exact hc3⟩
    · rcases hu with ⟨_, hz, rfl⟩ | ⟨hre, hne, rfl⟩
      · intro h; cases h
      · intro h; exact hne (Option.some.inj h)
    · rcases hu with ⟨_, hz, rfl⟩ | ⟨hre, hne, rfl⟩
      · intro k h; cases h
      · intro k h; cases h; exact ⟨rfl, s1, e1, hre, rfl⟩
theorem live0 {os : List AObj} {t : ByteArray} (h : BS os t) : (Abs.look os 0).live = true := by cases h <;> rfl
theorem live1 {os : List AObj} {t : ByteArray} (h : BS os t) (hl : os.length = 2) : (Abs.look os 1).live = true := by cases h with | fresh => cases hl | used => rfl
theorem lenBS {os : List AObj} {t : ByteArray} (h : BS os t) : os.length = 1 ∨ os.length = 2 := by cases h; exact .inl rfl; exact .inr rfl
theorem lookHi {os : List AObj} {i : Nat} (h : os.length ≤ i) : Abs.look os i = .dead := by
  unfold Abs.look; rw [List.getD_eq_getElem?_getD, List.getElem?_eq_none h]; rfl
theorem wrO_len {os : List AObj} {t : ByteArray} (h : BS os t) (t' : ByteArray) : (wrO os t').length = os.length + 1 := by cases h <;> rfl
theorem wrO_0 {os : List AObj} {t : ByteArray} (h : BS os t) (t' : ByteArray) : Abs.look (wrO os t') 0 = .bld 147 (some os.length) := by cases h <;> rfl
theorem wrO_n {os : List AObj} {t : ByteArray} (h : BS os t) (t' : ByteArray) : Abs.look (wrO os t') os.length = .brow 5 t' := by cases h <;> rfl
theorem wrO_mid {os : List AObj} {t : ByteArray} (h : BS os t) (t' : ByteArray) {i : Nat} (h0 : i ≠ 0) (hn : i ≠ os.length) : Abs.look (wrO os t') i = .dead := by
  cases h with
  | fresh => exact lookHi (by simp only [List.length_singleton] at hn; simp only [wrO, List.length_cons, List.length_nil]; omega)
  | used =>
    by_cases h1 : i = 1
    · subst h1; rfl
    · exact lookHi (by simp only [List.length_cons, List.length_nil] at hn; simp only [wrO, List.length_cons, List.length_nil]; omega)
theorem post_wrote {φ : Emb} {w w' : World} {os : List AObj} {t t' : ByteArray} {s0 : Slot} {p v : Value} (h : BS os t) (hr : Rel φ (Abs.look os) w) (htop : ∀ i, os.length ≤ i → φ i = none) (ho : BOpen φ w os t s0 p v)
    (hW : Wrote w s0.b v (byteCells t') w') {x : AV} {u : Value} (hx : ∀ φ' L w, VR φ' L w x u) : ∃ φ', Post φ (Abs.look os) os.length w x (wrO os t') u w' φ' := by
  obtain ⟨⟨g, cap, cur, hh, hg, hcs, hle, htk, hgb, hor⟩, hk⟩ := hW
  rw [byteCells_len] at hh hle htk
  have hlen := lenBS h
  have hn0 : os.length ≠ 0 := by omega
  generalize hs : (⟨g, 0, 1, t'.size, cap, true⟩ : Slot) = s
  have hφn : φ os.length = none := htop _ (Nat.le_refl _)
  have hle' := setS_le hφn s
  have hL0 : Lv φ (Abs.look os) s0.b := .inr ⟨0, s0, live0 h, ho.e0, ho.r0, rfl⟩
  have hLv : ∀ k, v.ownBlock = some k → Lv φ (Abs.look os) k := fun k hk => by
    obtain ⟨hl, s1, h1, h2, rfl⟩ := ho.own k hk
    exact .inr ⟨1, s1, live1 h hl, h1, h2, rfl⟩
  have hkeep : Keep (Lv φ (Abs.look os)) w w' := hk.mono fun i _ hi => hi.elim (fun e => e ▸ hL0) (hLv i)
  have hsb : s.b = g := by rw [← hs]
  have hsr : s.real = true := by rw [← hs]
  have h0n : (0 : Nat) ≠ os.length := fun e => hn0 e.symm
  have e0' : setS φ os.length s 0 = some s0 := by rw [setS_other h0n]; exact ho.e0
  have hnewL : ∀ i s1, (Abs.look (wrO os t') i).live = true → setS φ os.length s i = some s1 → s1.real = true → i = 0 ∧ s1 = s0 ∨ i = os.length ∧ s1 = s := by
    intro i s1 hl e _
    by_cases hi0 : i = 0
    · subst hi0; rw [e0'] at e; exact .inl ⟨rfl, (Option.some.inj e).symm⟩
    · by_cases hin : i = os.length
      · subst hin; rw [setS_same] at e; exact .inr ⟨rfl, (Option.some.inj e).symm⟩
      · rw [wrO_mid h t' hi0 hin] at hl; cases hl
  refine ⟨setS φ os.length s, by rw [wrO_len h]; omega, rfl, fun i hi => setS_other (by omega) _, fun i hi => ?_, hkeep, ?_, ?_, fun b hb => ?_, hx _ _ _⟩
  · rw [wrO_len h] at hi; rw [setS_other (by omega)]; exact htop i (by omega)
  · refine hr.upd (fun i => i ≤ os.length) hle' hkeep (fun i hi => ⟨by rw [wrO_mid h t' (by omega) (by omega), lookHi (by omega)], setS_other (by omega) _⟩) (fun i s1 hi hl => by rw [lookHi (by omega)] at hl; cases hl) (fun i s1 _ hl e hreal => ?_) (fun i j s1 s2 _ _ hl1 hl2 e1 e2 r1 r2 hbb => ?_) (fun i hi => ?_)
    · rcases hnewL i s1 hl e hreal with ⟨_, rfl⟩ | ⟨_, rfl⟩
      · exact .inr ⟨0, s1, Nat.zero_le _, live0 h, ho.e0, ho.r0, rfl⟩
      · rw [hsb]
        rcases hor with h1 | h1
        · exact .inl h1
        · obtain ⟨hl2, s2, h2, h3, h4⟩ := ho.own g h1
          exact .inr ⟨1, s2, by omega, live1 h hl2, h2, h3, h4⟩
    · rcases hnewL i s1 hl1 e1 r1 with ⟨rfl, rfl⟩ | ⟨rfl, rfl⟩ <;> rcases hnewL j s2 hl2 e2 r2 with ⟨rfl, rfl⟩ | ⟨rfl, rfl⟩
      · rfl
      · rw [hsb] at hbb; exact absurd hbb.symm hgb
      · rw [hsb] at hbb; exact absurd hbb hgb
      · rfl
    · by_cases hi0 : i = 0
      · subst hi0
        rw [wrO_0 h t', e0']
        refine ⟨s0, rfl, ho.r0, ⟨ho.o0, ho.m0⟩, s, setS_same _ _, _, hh, .inr ⟨hsr, by rw [hsb]; exact hgb, by rw [← hs]⟩⟩
      · by_cases hin : i = os.length
        · subst hin
          rw [wrO_n h t', setS_same]
          refine ⟨s, rfl, by rw [← hs], .inr ⟨hsr, by rw [← hs]; exact hle, cur, by rw [hsb]; exact hg, by rw [← hs]; exact hcs, htk⟩⟩
        · rw [wrO_mid h t' hi0 hin]; trivial
  · rintro b (hF | ⟨i, s1, h1, h2, h3, rfl⟩)
    · exact .inl (.inl hF)
    · rcases hnewL i s1 h1 h2 h3 with ⟨_, rfl⟩ | ⟨_, rfl⟩
      · exact .inl hL0
      · rw [hsb]
        rcases hor with h1 | h1
        · exact .inr h1
        · exact .inl (hLv g h1)
  · refine hk.block b (hr.old b hb) ?_
    rintro (rfl | hv)
    · exact hr.out 0 s0 (live0 h) ho.e0 ho.r0 hb
    · obtain ⟨hl, s1, h1, h2, rfl⟩ := ho.own b hv
      exact hr.out 1 s1 (live1 h hl) h1 h2 hb
def r196 : RF := fun args os => match args, bsOf os with
  | [.ptr 0 0, .v (.int .u8 c)], some t => bif Nat.ble t.size 1048576 && (ile 0 c && ile c 255) then some (.ret (.v .nilIface), wrO os (t.push (UInt8.ofNat c.toNat))) else none
  | _, _ => none
def r134 : RF := fun args os => match args, bsOf os with
  | [.ptr 0 0, .v (.string x)], some t => bif Nat.ble (t.size + x.size) 16777216 && Nat.ble 1 x.size then some (.ret (.tuple [.v (.int .i64 x.size), .v .nilIface]), wrO os (t ++ x)) else none
  | _, _ => none
def r136 : RF := fun args os => match args, bsOf os with
  | [.ptr 0 0], some t => some (.ret (.v (.int .i64 t.size)), os)
  | _, _ => none
def r138 : RF := fun args os => match args, bsOf os with
  | [.ptr 0 0], some t => bif Nat.ble t.size 9223372036854775807 && (Nat.beq os.length 1 || Nat.ble 1 t.size) then some (.ret (.v (.string t)), os.map fun _ => .dead) else none
  | _, _ => none
def wrA (x : Sh) : List Alt := [⟨false, x, [.bld 147 (some 1), .brow 5]⟩, ⟨false, x, [.bld 147 (some 2), .dead, .brow 5]⟩]
def A196 : List Alt := wrA .nilI
def A134 : List Alt := wrA (.tup [.int .i64, .nilI])
def A136 : List Alt := [⟨false, .int .i64, [.bld 147 none]⟩, ⟨false, .int .i64, [.bld 147 (some 1), .brow 5]⟩]
def A138 : List Alt := [⟨false, .str, [.dead]⟩, ⟨false, .str, [.dead, .dead]⟩]
theorem ptr0 {φ : Emb} {L : Nat → Prop} {w : World} {s0 : Slot} {u : Value} (h : VR φ L w (.ptr 0 0) u) (e : φ 0 = some s0) (h0 : s0.o = 0) : u = selfP s0.b := by
  simp only [VR] at h
  obtain ⟨s, e', _, rfl⟩ := h
  rw [e] at e'
  cases e'
  rw [h0]
theorem byteCells_push (t : ByteArray) (c : Int) (h0 : 0 ≤ c) (h1 : c ≤ 255) : byteCells (t.push (UInt8.ofNat c.toNat)) = byteCells t ++ [.int .u8 c] := by
  simp only [byteCells, ByteArray.data_push, Array.toList_push, List.map_append, List.map_cons, List.map_nil]
  congr 3
  have : (UInt8.ofNat c.toNat).toNat = c.toNat := by rw [UInt8.toNat_ofNat']; omega
  rw [this]; omega
theorem byteCells_app (t x : ByteArray) : byteCells (t ++ x) = byteCells t ++ byteCells x := by
  simp [byteCells]
theorem ok196 : SpecOK P 196 (shaped A196 r196) := okRuns _ fun args os e os' h φ w vals hr htop hv => by
  unfold r196 at h
  split at h
  · rename_i c t ht
    cases hb : Nat.ble t.size 1048576 && (ile 0 c && ile c 255) with
    | false => rw [hb] at h; cases h
    | true =>
      rw [hb] at h
      simp only [cond_true, Option.some.injEq, Prod.mk.injEq] at h
      obtain ⟨rfl, rfl⟩ := h
      simp only [ile_eq, Bool.and_eq_true, decide_eq_true_eq, Nat.ble_eq] at hb
      obtain ⟨h1, h2, h3⟩ := hb
      have hB := BS.of ht
      obtain ⟨s0, p, v, ho⟩ := BOpen.of hB hr
      simp only [VRs, VR_v] at hv
      obtain ⟨x, xs, e1, hx, y, ys, rfl, rfl, rfl⟩ := hv
      rw [ptr0 hx ho.e0 ho.o0] at e1
      rw [show vals = #[selfP s0.b, .int .u8 c] from Array.ext' e1]
      refine Does.text Tryz.func196 (c := cod Tryz.f196) (by kernel_rfl) (by kernel_rfl) ((walk196 c ho.heap ho.hp ho.buf ho.ne (byteCells_one t) (by rw [byteCells_len]; omega)).mono fun en w' ⟨he, hw⟩ => ?_)
      subst he
      rw [← byteCells_push t c h2 h3] at hw
      obtain ⟨φ', hp⟩ := post_wrote hB hr htop ho hw (x := .v .nilIface) (u := .nilIface) (fun _ _ _ => rfl)
      exact ⟨φ', hp⟩
  · cases h
theorem ok134 : SpecOK P 134 (shaped A134 r134) := okRuns _ fun args os e os' h φ w vals hr htop hv => by
  unfold r134 at h
  split at h
  · rename_i x t ht
    cases hb : Nat.ble (t.size + x.size) 16777216 && Nat.ble 1 x.size with
    | false => rw [hb] at h; cases h
    | true =>
      rw [hb] at h
      simp only [cond_true, Option.some.injEq, Prod.mk.injEq] at h
      obtain ⟨rfl, rfl⟩ := h
      simp only [Bool.and_eq_true, Nat.ble_eq] at hb
      obtain ⟨h1, h2⟩ := hb
      have hB := BS.of ht
      obtain ⟨s0, p, v, ho⟩ := BOpen.of hB hr
      simp only [VRs, VR_v] at hv
      obtain ⟨y, xs, e1, hx, y, ys, rfl, rfl, rfl⟩ := hv
      rw [ptr0 hx ho.e0 ho.o0] at e1
      rw [show vals = #[selfP s0.b, .string x] from Array.ext' e1]
      refine Does.text Tryz.func134 (c := cod Tryz.f134) (by kernel_rfl) (by kernel_rfl) ((walk134 x ho.heap ho.hp ho.buf ho.ne (byteCells_one t) (by omega) (by rw [byteCells_len]; omega)).mono fun en w' ⟨he, hw⟩ => ?_)
      subst he
      rw [← byteCells_app t x] at hw
      obtain ⟨φ', hp⟩ := post_wrote hB hr htop ho hw (x := .tuple [.v (.int .i64 x.size), .v .nilIface]) (u := .tuple #[.int .i64 x.size, .nilIface]) (fun _ _ _ => by simp only [VR, VRs]; exact ⟨_, rfl, _, _, rfl, rfl, _, _, rfl, rfl, rfl⟩)
      exact ⟨φ', hp⟩
  · cases h
theorem ok136 : SpecOK P 136 (shaped A136 r136) := okRuns _ fun args os e os' h φ w vals hr htop hv => by
  unfold r136 at h
  split at h
  · rename_i t ht
    simp only [Option.some.injEq, Prod.mk.injEq] at h
    obtain ⟨rfl, rfl⟩ := h
    have hB := BS.of ht
    obtain ⟨s0, p, v, ho⟩ := BOpen.of hB hr
    simp only [VRs] at hv
    obtain ⟨x, xs, e1, hx, rfl⟩ := hv
    rw [ptr0 hx ho.e0 ho.o0] at e1
    rw [show vals = #[selfP s0.b] from Array.ext' e1]
    obtain ⟨a, cap, hva⟩ := ho.buf.one
    have hh := ho.heap
    rw [hva] at hh
    refine Does.text Tryz.func136 (c := cod Tryz.f136) (by kernel_rfl) (by kernel_rfl) ((walk136 hh).mono fun en w' ⟨he, hw⟩ => ⟨φ, ?_⟩)
    subst he hw
    exact post_below hr htop (Go.RowKit.Below.refl _ _) (by rw [byteCells_len]; rfl)
  · cases h
theorem ok138 : SpecOK P 138 (shaped A138 r138) := okRuns _ fun args os e os' h φ w vals hr htop hv => by
  unfold r138 at h
  split at h
  · rename_i t ht
    cases hb : Nat.ble t.size 9223372036854775807 && (Nat.beq os.length 1 || Nat.ble 1 t.size) with
    | false => rw [hb] at h; cases h
    | true =>
      rw [hb] at h
      simp only [cond_true, Option.some.injEq, Prod.mk.injEq] at h
      obtain ⟨rfl, rfl⟩ := h
      simp only [Bool.and_eq_true, Bool.or_eq_true, Nat.ble_eq] at hb
      obtain ⟨hb, hsz⟩ := hb
      have hB := BS.of ht
      obtain ⟨s0, p, v, ho⟩ := BOpen.of hB hr
      simp only [VRs] at hv
      obtain ⟨x, xs, e1, hx, rfl⟩ := hv
      rw [ptr0 hx ho.e0 ho.o0] at e1
      rw [show vals = #[selfP s0.b] from Array.ext' e1]
      have hL : ∀ k, v.ownBlock = some k → Lv φ (Abs.look os) k ∧ ¬ φ.F k := fun k hk => by
        obtain ⟨hl, s1, h1, h2, rfl⟩ := ho.own k hk
        exact ⟨.inr ⟨1, s1, live1 hB hl, h1, h2, rfl⟩, hr.out 1 s1 (live1 hB hl) h1 h2⟩
      have hdead : ∀ i, Abs.look (os.map fun _ => AObj.dead) i = .dead := fun i => by
        unfold Abs.look
        rw [List.getD_eq_getElem?_getD, List.getElem?_map]
        cases os[i]? <;> rfl
      have key : ∀ w', Keep (fun k => v.ownBlock = some k) w w' → ∃ φ', endR (fun x u => Post φ (Abs.look os) os.length w x (os.map fun _ => .dead) u w' φ') (.ret (.v (.string t))) (.returned (.string t)) := fun w' hk => by
        have hkeep : Keep (Lv φ (Abs.look os)) w w' := hk.mono fun i _ hi => (hL i hi).1
        refine ⟨φ, by simp, rfl, fun _ _ => rfl, fun i hi => htop i (by simpa using hi), hkeep, ⟨fun i => (by rw [hdead]; trivial), (fun i j s s' h1 => by rw [hdead] at h1; cases h1), (fun i s h1 => by rw [hdead] at h1; cases h1), fun b hb => Nat.lt_of_lt_of_le (hr.old b hb) hk.size⟩, ?_, fun b hF => hk.block b (hr.old b hF) fun hv => (hL b hv).2 hF, rfl⟩
        rintro b (hF | ⟨i, s, h1, _⟩)
        · exact .inl (.inl hF)
        · rw [hdead] at h1; cases h1
      rcases hbuf : ho.buf with ⟨hvn, hbn⟩ | ⟨g, cap, cur, hvg, hg, hcs, hle, htk⟩
      · subst hvn
        have h0 : t = .empty := by
          have : t.size = 0 := by rw [← byteCells_len, hbn]; rfl
          exact ByteArray.size_eq_zero_iff.1 this
        subst h0
        refine Does.text Tryz.func138 (c := cod Tryz.f138) (by kernel_rfl) (by kernel_rfl) ((walk138nil ho.heap).mono fun en w' ⟨he, hw⟩ => ?_)
        subst he
        exact key w' (hw.mono fun _ _ h => h.elim)
      · subst hvg
        by_cases h0 : t.size = 0
        · have h1 : os.length = 1 := by
            rcases hsz with h | h
            · exact Nat.eq_of_beq_eq_true h
            · omega
          have := (ho.own g rfl).1
          omega
        · have hh := ho.heap
          rw [byteCells_len] at hh hle htk
          refine Does.text Tryz.func138 (c := cod Tryz.f138) (by kernel_rfl) (by kernel_rfl) ((walk138 t hh hg hcs hle htk h0 hb).mono fun en w' ⟨he, hw⟩ => ?_)
          subst he
          exact key w' (hw.mono fun i _ h => by rw [h]; rfl)
  · cases h
end Go.Proofs.Vm
end
section
open Go Go.Abs
namespace Go.Proofs.Vm
def D17c (d0 d1 d2 d3 d4 d5 d6 d7 d8 d9 d10 d11 d12 d13 d14 d15 d16 : Int) : List AV := [u d0, u d1, u d2, u d3, u d4, u d5, u d6, u d7, u d8, u d9, u d10, u d11, u d12, u d13, u d14, u d15, u d16]
def D17 (d0 d1 d2 d3 d4 d5 d6 d7 d8 d9 d10 d11 d12 d13 d14 d15 d16 : Int) : AV := .agg (D17c d0 d1 d2 d3 d4 d5 d6 d7 d8 d9 d10 d11 d12 d13 d14 d15 d16)
def sh17c : List Sh := [sh6, sh6, sh6, sh6, sh6, sh6, sh6, sh6, sh6, sh6, sh6, sh6, sh6, sh6, sh6, sh6, sh6]
def sh17 : Sh := .agg sh17c
def r236 : RF := fun args os => match args with
  | [.v (.int .u64 x), .v (.int .u64 y)] => bif ile 0 x && (ile x 18446744073709551615 && (ile 0 y && ile y 18446744073709551615)) then some (.ret (.tuple [u (x * y / 18446744073709551616), u (x * y % 18446744073709551616)]), os) else none
  | _ => none
def a236 : Alt := ⟨false, .tup [sh6, sh6], []⟩
def A236 : List Alt := [a236]
theorem ok236 : SpecOK P 236 (shaped A236 r236) := okRuns _ fun args os e os' h φ w vals hr htop hv => by
  unfold r236 at h
  split at h
  · rename_i x y
    cases hb : ile 0 x && (ile x 18446744073709551615 && (ile 0 y && ile y 18446744073709551615)) with
    | false => rw [hb] at h; cases h
    | true =>
      rw [hb] at h
      simp only [cond_true, Option.some.injEq, Prod.mk.injEq] at h
      obtain ⟨rfl, rfl⟩ := h
      simp only [ile_eq, Bool.and_eq_true, decide_eq_true_eq] at hb
      obtain ⟨h1, h2, h3, h4⟩ := hb
      rw [vals2 hv]
      obtain ⟨a, rfl⟩ := Int.eq_ofNat_of_zero_le h1
      obtain ⟨b, rfl⟩ := Int.eq_ofNat_of_zero_le h3
      refine Does.text Tryz.func236 (c := cod Tryz.f236) (by kernel_rfl) (by kernel_rfl) ((Any.bits_Mul64 (P := P) (ρ := Tryz.lays105_ren) { Tryz.lays105 with } a b (by omega) (by omega) w).mono fun en w' ⟨he, hw⟩ => ⟨φ, ?_⟩)
      subst he hw
      exact post_below hr htop (Go.RowKit.Below.refl _ _) (by simp only [VR, VRs, u]; exact ⟨_, rfl, _, _, rfl, rfl, _, _, rfl, rfl, rfl⟩)
  · cases h
set_option maxRecDepth 100000
set_option maxHeartbeats 0
noncomputable def E171_2 (r236 : RF) (r89 : RF) : Env := En 171 [(0, [3, 4, 5, 6, 16, 17], [4, 5, 6]), (2, [3, 4, 5, 6, 7, 8, 9, 16, 17, 21, 22], [3, 4, 5, 6, 7, 9, 16, 17])] [] [] [] [] [(236, shaped A236 r236), (89, shaped A89 r89)] [(2, [3])]
def a171_2 : BAlt := ⟨.normal, (sj 3 (.ptr 0 0 :: .ptr 1 0 :: .ptr 2 0 :: .ptr 3 0 :: shI :: .junk :: sh6 :: sj 6 (shU :: shI :: sj 51 []))), [.cells [sh6, sh6, sh6, sh6], .cells [sh6, sh6, sh6, sh6], .cells [sh6, sh6, sh6, sh6], .ints .u64], []⟩
def A171_2 : List BAlt := [a171_2]
noncomputable def h171_2 : RB := runB (blockRun (E171_2 r236 r89) (fun _ _ => 200) 2)
theorem q171_2 (c : Code) (a : AAct) (os : List AObj) : h171_2 c a os = exec (E171_2 r236 r89) ((fun _ _ => 200) a os) 2 (.block 2 c) a os _ finB := qB _ _ _ _ _ _
theorem k171_2 : blk Tryz.f171 2 = .loop (rnd Tryz.f171 2) := by kernel_rfl
theorem p171_2 (T : List AV) (os : List AObj) (F : Nat) (hF : (fun _ _ => 200) (⟨T, [], 171, 0, false⟩ : AAct) os = F + 1) : h171_2 (blk Tryz.f171 2) ⟨T, [], 171, 0, false⟩ os = exec (E171_2 r236 r89) F 2 (.loop (rnd Tryz.f171 2)) ⟨T, [], 171, 0, false⟩ os _ (bK (E171_2 r236 r89) F 2 finB) := by
  rw [q171_2, hF, exec_block (by kernel_rfl), k171_2]
theorem okb171_2 : BlockOK P 171 2 (bShaped A171_2 [] (some [3, 4, 5, 6, 7, 8, 9, 16, 17, 21, 22]) h171_2) := by
  unfold h171_2 E171_2
  refine okBl _ ?_ ?_ ?_ _ _ _
  · exact (tcons ok236 (tcons ok89 tnil))
  · exact trivial
  · exact hnil
theorem TL171_2r (r236 : RF) (r89 : RF) (a0 a1 a2 a3 b0 b1 b2 b3 x i j kk c : Int) (ol : List Int) (d m : Nat) (L : AAct → List AObj → ∀ X : Type, (AExit → AAct → List AObj → Option X) → Option X) (X : Type) (k : AExit → AAct → List AObj → Option X)
    (x1 : RE) (e1 : r236 [u x, u ([u b0, u b1, u b2, u b3].getD (kk.toNat * 1) J).toInt] [] = x1)
    (x2 : RE) (e2 : r89 [u ((rV x1).items.getD 1 J).toInt, u c, u 0] [] = x2)
    (x3 : RE) (e3 : r89 [u ((List.map u ol).getD (0 + (IntKind.i64.wrap (i + kk)).toNat * 1) J).toInt, u ((rV x2).items.getD 0 J).toInt, u 0] [] = x3) :
    roundL (E171_2 r236 r89) (d + 59) 2 (rnd Tryz.f171 2) L ⟨(jn 3 (.ptr 0 0 :: .ptr 1 0 :: .ptr 2 0 :: .ptr 3 0 :: i64 i :: u x :: u c :: jn 6 (U a0 a1 a2 a3 :: i64 j :: jn 3 (U b0 b1 b2 b3 :: i64 kk :: jn 46 [])))), [], 171, 0, false⟩ [.cells [u b0, u b1, u b2, u b3], .cells [u 0, u 0, u 0, u 0], .cells [u 0, u 0, u 0, u 0], .ints .u64 ol] X (bK (E171_2 r236 r89) (m + 60) 2 k) =
    bif ilt kk 4 then bif decide (0 ≤ kk) && (decide (kk < (↑4 : Int)) && (decide (kk.toNat * 1 < [u b0, u b1, u b2, u b3].length) && (AV.isInt IntKind.u64 ([u b0, u b1, u b2, u b3].getD (kk.toNat * 1) J) && true))) then bif okAlt a236 x1 then bif okAlt { pan := false, s := .tup [sh6, sh6], os := [] } x2 then bif decide (0 ≤ IntKind.i64.wrap (i + kk)) && decide (IntKind.i64.wrap (i + kk) < (↑8 : Int)) then bif decide (0 + (IntKind.i64.wrap (i + kk)).toNat * 1 < (List.map u ol).length) && (AV.isInt IntKind.u64 ((List.map u ol).getD (0 + (IntKind.i64.wrap (i + kk)).toNat * 1) J) && true) then bif okAlt { pan := false, s := .tup [sh6, sh6], os := [] } x3 then bif decide (0 ≤ IntKind.i64.wrap (i + kk)) && decide (IntKind.i64.wrap (i + kk) < (↑8 : Int)) then bif decide (0 + (IntKind.i64.wrap (i + kk)).toNat * 1 + 1 ≤ ol.length) then L { tmps := (jn 3 (AV.ptr 0 0 :: AV.ptr 1 0 :: AV.ptr 2 0 :: AV.ptr 3 0 :: i64 i :: u x :: u (IntKind.u64.wrap (IntKind.u64.wrap (((rV x1).items.getD 0 J).toInt + ((rV x2).items.getD 1 J).toInt) + ((rV x3).items.getD 1 J).toInt)) :: jn 6 (U a0 a1 a2 a3 :: i64 j :: jn 3 (U b0 b1 b2 b3 :: i64 (IntKind.i64.wrap (kk + 1)) :: jn 46 [])))), defers := [], fn := 171, foot := 0, round := false } [AObj.cells [u b0, u b1, u b2, u b3], AObj.cells [u 0, u 0, u 0, u 0], AObj.cells [u 0, u 0, u 0, u 0], AObj.ints IntKind.u64 (ol.set (0 + (IntKind.i64.wrap (i + kk)).toNat * 1) ((rV x3).items.getD 0 J).toInt)] X (bK (E171_2 r236 r89) (m + 60) 2 k) else none else none else none else none else none else none else none else none else k AExit.normal { tmps := (jn 3 (AV.ptr 0 0 :: AV.ptr 1 0 :: AV.ptr 2 0 :: AV.ptr 3 0 :: i64 i :: J :: u c :: jn 6 (U a0 a1 a2 a3 :: i64 j :: jn 51 []))), defers := [], fn := 171, foot := 0, round := false } [AObj.cells [u b0, u b1, u b2, u b3], AObj.cells [u 0, u 0, u 0, u 0], AObj.cells [u 0, u 0, u 0, u 0], AObj.ints IntKind.u64 ol] := by subst e1 e2 e3; kernel_rfl
theorem T171_2r (r236 : RF) (r89 : RF) (a0 a1 a2 a3 b0 b1 b2 b3 x i j kk c : Int) (ol : List Int) (d m : Nat) (X : Type) (k : AExit → AAct → List AObj → Option X)
    (x1 : RE) (e1 : r236 [u x, u ([u b0, u b1, u b2, u b3].getD (kk.toNat * 1) J).toInt] [] = x1)
    (x2 : RE) (e2 : r89 [u ((rV x1).items.getD 1 J).toInt, u c, u 0] [] = x2)
    (x3 : RE) (e3 : r89 [u ((List.map u ol).getD (0 + (IntKind.i64.wrap (i + kk)).toNat * 1) J).toInt, u ((rV x2).items.getD 0 J).toInt, u 0] [] = x3) :
    exec (E171_2 r236 r89) (d + 60) 2 (.loop (rnd Tryz.f171 2)) ⟨(jn 3 (.ptr 0 0 :: .ptr 1 0 :: .ptr 2 0 :: .ptr 3 0 :: i64 i :: u x :: u c :: jn 6 (U a0 a1 a2 a3 :: i64 j :: jn 3 (U b0 b1 b2 b3 :: i64 kk :: jn 46 [])))), [], 171, 0, false⟩ [.cells [u b0, u b1, u b2, u b3], .cells [u 0, u 0, u 0, u 0], .cells [u 0, u 0, u 0, u 0], .ints .u64 ol] X (bK (E171_2 r236 r89) (m + 60) 2 k) =
    bif ilt kk 4 then bif decide (0 ≤ kk) && (decide (kk < (↑4 : Int)) && (decide (kk.toNat * 1 < [u b0, u b1, u b2, u b3].length) && (AV.isInt IntKind.u64 ([u b0, u b1, u b2, u b3].getD (kk.toNat * 1) J) && true))) then bif okAlt a236 x1 then bif okAlt { pan := false, s := .tup [sh6, sh6], os := [] } x2 then bif decide (0 ≤ IntKind.i64.wrap (i + kk)) && decide (IntKind.i64.wrap (i + kk) < (↑8 : Int)) then bif decide (0 + (IntKind.i64.wrap (i + kk)).toNat * 1 < (List.map u ol).length) && (AV.isInt IntKind.u64 ((List.map u ol).getD (0 + (IntKind.i64.wrap (i + kk)).toNat * 1) J) && true) then bif okAlt { pan := false, s := .tup [sh6, sh6], os := [] } x3 then bif decide (0 ≤ IntKind.i64.wrap (i + kk)) && decide (IntKind.i64.wrap (i + kk) < (↑8 : Int)) then bif decide (0 + (IntKind.i64.wrap (i + kk)).toNat * 1 + 1 ≤ ol.length) then exec (E171_2 r236 r89) (d + 59) 2 (.loop (rnd Tryz.f171 2)) { tmps := (jn 3 (AV.ptr 0 0 :: AV.ptr 1 0 :: AV.ptr 2 0 :: AV.ptr 3 0 :: i64 i :: u x :: u (IntKind.u64.wrap (IntKind.u64.wrap (((rV x1).items.getD 0 J).toInt + ((rV x2).items.getD 1 J).toInt) + ((rV x3).items.getD 1 J).toInt)) :: jn 6 (U a0 a1 a2 a3 :: i64 j :: jn 3 (U b0 b1 b2 b3 :: i64 (IntKind.i64.wrap (kk + 1)) :: jn 46 [])))), defers := [], fn := 171, foot := 0, round := false } [AObj.cells [u b0, u b1, u b2, u b3], AObj.cells [u 0, u 0, u 0, u 0], AObj.cells [u 0, u 0, u 0, u 0], AObj.ints IntKind.u64 (ol.set (0 + (IntKind.i64.wrap (i + kk)).toNat * 1) ((rV x3).items.getD 0 J).toInt)] X (bK (E171_2 r236 r89) (m + 60) 2 k) else none else none else none else none else none else none else none else none else k AExit.normal { tmps := (jn 3 (AV.ptr 0 0 :: AV.ptr 1 0 :: AV.ptr 2 0 :: AV.ptr 3 0 :: i64 i :: J :: u c :: jn 6 (U a0 a1 a2 a3 :: i64 j :: jn 51 []))), defers := [], fn := 171, foot := 0, round := false } [AObj.cells [u b0, u b1, u b2, u b3], AObj.cells [u 0, u 0, u 0, u 0], AObj.cells [u 0, u 0, u 0, u 0], AObj.ints IntKind.u64 ol] := (exec_loop _ _ _ _ _ _ _ _).trans (TL171_2r r236 r89 a0 a1 a2 a3 b0 b1 b2 b3 x i j kk c ol d m (fun a os X k => exec (E171_2 r236 r89) (d + 59) 2 (.loop (rnd Tryz.f171 2)) a os X k) X k _ e1 _ e2 _ e3)
noncomputable def E171_0 (h171_2 : RB) : Env := En 171 [(0, [3, 4, 5, 6, 16, 17], [4, 5, 6])] [] [] [(2, bShaped A171_2 [] (some [3, 4, 5, 6, 7, 8, 9, 16, 17, 21, 22]) h171_2)] [] [] [(0, [3])]
def a171_0 : BAlt := ⟨.normal, (sj 4 (.ptr 0 0 :: .ptr 1 0 :: .ptr 2 0 :: sj 62 [])), [.cells [sh6, sh6, sh6, sh6], .cells [sh6, sh6, sh6, sh6], .ints .u64], []⟩
def A171_0 : List BAlt := [a171_0]
noncomputable def h171_0 : RB := runB (blockRun (E171_0 h171_2) (fun _ _ => 200) 0)
theorem q171_0 (c : Code) (a : AAct) (os : List AObj) : h171_0 c a os = exec (E171_0 h171_2) ((fun _ _ => 200) a os) 0 (.block 0 c) a os _ finB := qB _ _ _ _ _ _
theorem k171_0 : blk Tryz.f171 0 = .loop (rnd Tryz.f171 0) := by kernel_rfl
theorem p171_0 (T : List AV) (os : List AObj) (F : Nat) (hF : (fun _ _ => 200) (⟨T, [], 171, 0, false⟩ : AAct) os = F + 1) : h171_0 (blk Tryz.f171 0) ⟨T, [], 171, 0, false⟩ os = exec (E171_0 h171_2) F 0 (.loop (rnd Tryz.f171 0)) ⟨T, [], 171, 0, false⟩ os _ (bK (E171_0 h171_2) F 0 finB) := by
  rw [q171_0, hF, exec_block (by kernel_rfl), k171_0]
theorem okb171_0 : BlockOK P 171 0 (bShaped A171_0 [] (some [3, 4, 5, 6, 16, 17]) h171_0) := by
  unfold h171_0 E171_0
  refine okBl _ ?_ ?_ ?_ _ _ _
  · exact tnil
  · exact trivial
  · exact (hcons okb171_2 hnil)
theorem TL171_0r (h171_2 : RB) (a0 a1 a2 a3 b0 b1 b2 b3 i : Int) (ol : List Int) (d m : Nat) (L : AAct → List AObj → ∀ X : Type, (AExit → AAct → List AObj → Option X) → Option X) (X : Type) (k : AExit → AAct → List AObj → Option X)
    (x1 : RBE) (e1 : h171_2 (blk Tryz.f171 2) { tmps := (jn 3 (AV.ptr 0 0 :: AV.ptr 1 0 :: AV.ptr 2 0 :: AV.ptr 3 0 :: i64 i :: u ([u a0, u a1, u a2, u a3].getD (i.toNat * 1) J).toInt :: u 0 :: jn 6 (U a0 a1 a2 a3 :: i64 i :: jn 3 (U b0 b1 b2 b3 :: i64 0 :: jn 46 [])))), defers := [], fn := 171, foot := 0, round := false } [AObj.cells [u b0, u b1, u b2, u b3], AObj.cells [u 0, u 0, u 0, u 0], AObj.cells [u 0, u 0, u 0, u 0], AObj.ints IntKind.u64 ol] = x1) :
    roundL (E171_0 h171_2) (d + 59) 0 (rnd Tryz.f171 0) L ⟨(jn 3 (.ptr 0 0 :: .ptr 1 0 :: .ptr 2 0 :: .ptr 3 0 :: jn 9 (U a0 a1 a2 a3 :: i64 i :: jn 51 []))), [], 171, 0, false⟩ [.cells [u b0, u b1, u b2, u b3], .cells [u 0, u 0, u 0, u 0], .cells [u 0, u 0, u 0, u 0], .ints .u64 ol] X (bK (E171_0 h171_2) (m + 60) 0 k) =
    bif ilt i 4 then bif decide (0 ≤ i) && (decide (i < (↑4 : Int)) && (decide (i.toNat * 1 < [u a0, u a1, u a2, u a3].length) && (AV.isInt IntKind.u64 ([u a0, u a1, u a2, u a3].getD (i.toNat * 1) J) && true))) then bif okB a171_2 171 0 false x1 then bif decide (0 ≤ IntKind.i64.wrap (((bT x1).getD 7 J).toInt + 4)) && decide (IntKind.i64.wrap (((bT x1).getD 7 J).toInt + 4) < (↑8 : Int)) then bif decide (0 + (IntKind.i64.wrap (((bT x1).getD 7 J).toInt + 4)).toNat * 1 + 1 ≤ ((bOs x1).getD 3 AObj.dead).intsOf.length) then L { tmps := (jn 3 (AV.ptr 0 0 :: AV.ptr 1 0 :: AV.ptr 2 0 :: AV.ptr 3 0 :: jn 9 (AV.agg (tu4 ((bT x1).getD 16 J).items) :: i64 (IntKind.i64.wrap (((bT x1).getD 17 J).toInt + 1)) :: jn 51 []))), defers := [], fn := 171, foot := 0, round := false } [AObj.cells (tu4 ((bOs x1).getD 0 AObj.dead).cellsOf), AObj.cells (tu4 ((bOs x1).getD 1 AObj.dead).cellsOf), AObj.cells (tu4 ((bOs x1).getD 2 AObj.dead).cellsOf), AObj.ints IntKind.u64 (((bOs x1).getD 3 AObj.dead).intsOf.set (0 + (IntKind.i64.wrap (((bT x1).getD 7 J).toInt + 4)).toNat * 1) ((bT x1).getD 9 J).toInt)] X (bK (E171_0 h171_2) (m + 60) 0 k) else none else none else none else none else k AExit.normal { tmps := (jn 4 (AV.ptr 0 0 :: AV.ptr 1 0 :: AV.ptr 2 0 :: jn 62 [])), defers := [], fn := 171, foot := 0, round := false } [AObj.cells [u 0, u 0, u 0, u 0], AObj.cells [u 0, u 0, u 0, u 0], AObj.ints IntKind.u64 ol] := by subst e1; kernel_rfl
theorem T171_0r (h171_2 : RB) (a0 a1 a2 a3 b0 b1 b2 b3 i : Int) (ol : List Int) (d m : Nat) (X : Type) (k : AExit → AAct → List AObj → Option X)
    (x1 : RBE) (e1 : h171_2 (blk Tryz.f171 2) { tmps := (jn 3 (AV.ptr 0 0 :: AV.ptr 1 0 :: AV.ptr 2 0 :: AV.ptr 3 0 :: i64 i :: u ([u a0, u a1, u a2, u a3].getD (i.toNat * 1) J).toInt :: u 0 :: jn 6 (U a0 a1 a2 a3 :: i64 i :: jn 3 (U b0 b1 b2 b3 :: i64 0 :: jn 46 [])))), defers := [], fn := 171, foot := 0, round := false } [AObj.cells [u b0, u b1, u b2, u b3], AObj.cells [u 0, u 0, u 0, u 0], AObj.cells [u 0, u 0, u 0, u 0], AObj.ints IntKind.u64 ol] = x1) :
    exec (E171_0 h171_2) (d + 60) 0 (.loop (rnd Tryz.f171 0)) ⟨(jn 3 (.ptr 0 0 :: .ptr 1 0 :: .ptr 2 0 :: .ptr 3 0 :: jn 9 (U a0 a1 a2 a3 :: i64 i :: jn 51 []))), [], 171, 0, false⟩ [.cells [u b0, u b1, u b2, u b3], .cells [u 0, u 0, u 0, u 0], .cells [u 0, u 0, u 0, u 0], .ints .u64 ol] X (bK (E171_0 h171_2) (m + 60) 0 k) =
    bif ilt i 4 then bif decide (0 ≤ i) && (decide (i < (↑4 : Int)) && (decide (i.toNat * 1 < [u a0, u a1, u a2, u a3].length) && (AV.isInt IntKind.u64 ([u a0, u a1, u a2, u a3].getD (i.toNat * 1) J) && true))) then bif okB a171_2 171 0 false x1 then bif decide (0 ≤ IntKind.i64.wrap (((bT x1).getD 7 J).toInt + 4)) && decide (IntKind.i64.wrap (((bT x1).getD 7 J).toInt + 4) < (↑8 : Int)) then bif decide (0 + (IntKind.i64.wrap (((bT x1).getD 7 J).toInt + 4)).toNat * 1 + 1 ≤ ((bOs x1).getD 3 AObj.dead).intsOf.length) then exec (E171_0 h171_2) (d + 59) 0 (.loop (rnd Tryz.f171 0)) { tmps := (jn 3 (AV.ptr 0 0 :: AV.ptr 1 0 :: AV.ptr 2 0 :: AV.ptr 3 0 :: jn 9 (AV.agg (tu4 ((bT x1).getD 16 J).items) :: i64 (IntKind.i64.wrap (((bT x1).getD 17 J).toInt + 1)) :: jn 51 []))), defers := [], fn := 171, foot := 0, round := false } [AObj.cells (tu4 ((bOs x1).getD 0 AObj.dead).cellsOf), AObj.cells (tu4 ((bOs x1).getD 1 AObj.dead).cellsOf), AObj.cells (tu4 ((bOs x1).getD 2 AObj.dead).cellsOf), AObj.ints IntKind.u64 (((bOs x1).getD 3 AObj.dead).intsOf.set (0 + (IntKind.i64.wrap (((bT x1).getD 7 J).toInt + 4)).toNat * 1) ((bT x1).getD 9 J).toInt)] X (bK (E171_0 h171_2) (m + 60) 0 k) else none else none else none else none else k AExit.normal { tmps := (jn 4 (AV.ptr 0 0 :: AV.ptr 1 0 :: AV.ptr 2 0 :: jn 62 [])), defers := [], fn := 171, foot := 0, round := false } [AObj.cells [u 0, u 0, u 0, u 0], AObj.cells [u 0, u 0, u 0, u 0], AObj.ints IntKind.u64 ol] := (exec_loop _ _ _ _ _ _ _ _).trans (TL171_0r h171_2 a0 a1 a2 a3 b0 b1 b2 b3 i ol d m (fun a os X k => exec (E171_0 h171_2) (d + 59) 0 (.loop (rnd Tryz.f171 0)) a os X k) X k _ e1)
noncomputable def E171 (h171_0 : RB) : Env := En 171 [(2, [3, 4, 5, 6, 7, 8, 9, 16, 17, 21, 22], [3, 4, 5, 6, 7, 9, 16, 17])] [] [] [(0, bShaped A171_0 [] (some [3, 4, 5, 6, 16, 17]) h171_0)] [] []
def a171 : Alt := ⟨false, .tup [shU, shU], []⟩
def A171 : List Alt := [a171]
theorem T171 (h171_0 : RB) (a0 a1 a2 a3 b0 b1 b2 b3 : Int) (X : Type) (k : AEnd → List AObj → Option X)
    (x1 : RBE) (e1 : h171_0 (blk Tryz.f171 0) { tmps := (jn 3 (AV.ptr 0 0 :: AV.ptr 1 0 :: AV.ptr 2 0 :: AV.ptr 3 0 :: jn 9 (U a0 a1 a2 a3 :: i64 0 :: jn 51 []))), defers := [], fn := 171, foot := 0, round := false } [AObj.cells [u b0, u b1, u b2, u b3], AObj.cells [u 0, u 0, u 0, u 0], AObj.cells [u 0, u 0, u 0, u 0], AObj.cells [u 0, u 0, u 0, u 0, u 0, u 0, u 0, u 0]] = x1) :
    body (E171 h171_0) 60 171 Tryz.f171 (cod Tryz.f171) [U a0 a1 a2 a3, U b0 b1 b2 b3] [] X k =
    bif okB a171_0 171 0 false x1 then bif decide (0 + Int.toNat 4 < (List.map u ((bOs x1).getD 2 AObj.dead).intsOf).length) && (AV.isInt IntKind.u64 ((List.map u ((bOs x1).getD 2 AObj.dead).intsOf).getD (0 + Int.toNat 4) J) && (decide (0 + Int.toNat 4 + 1 < (List.map u ((bOs x1).getD 2 AObj.dead).intsOf).length) && (AV.isInt IntKind.u64 ((List.map u ((bOs x1).getD 2 AObj.dead).intsOf).getD (0 + Int.toNat 4 + 1) J) && (decide (0 + Int.toNat 4 + 1 + 1 < (List.map u ((bOs x1).getD 2 AObj.dead).intsOf).length) && (AV.isInt IntKind.u64 ((List.map u ((bOs x1).getD 2 AObj.dead).intsOf).getD (0 + Int.toNat 4 + 1 + 1) J) && (decide (0 + Int.toNat 4 + 1 + 1 + 1 < (List.map u ((bOs x1).getD 2 AObj.dead).intsOf).length) && (AV.isInt IntKind.u64 ((List.map u ((bOs x1).getD 2 AObj.dead).intsOf).getD (0 + Int.toNat 4 + 1 + 1 + 1) J) && true))))))) then bif decide (0 + 0 < (List.map u ((bOs x1).getD 2 AObj.dead).intsOf).length) && (AV.isInt IntKind.u64 ((List.map u ((bOs x1).getD 2 AObj.dead).intsOf).getD (0 + 0) J) && (decide (0 + 0 + 1 < (List.map u ((bOs x1).getD 2 AObj.dead).intsOf).length) && (AV.isInt IntKind.u64 ((List.map u ((bOs x1).getD 2 AObj.dead).intsOf).getD (0 + 0 + 1) J) && (decide (0 + 0 + 1 + 1 < (List.map u ((bOs x1).getD 2 AObj.dead).intsOf).length) && (AV.isInt IntKind.u64 ((List.map u ((bOs x1).getD 2 AObj.dead).intsOf).getD (0 + 0 + 1 + 1) J) && (decide (0 + 0 + 1 + 1 + 1 < (List.map u ((bOs x1).getD 2 AObj.dead).intsOf).length) && (AV.isInt IntKind.u64 ((List.map u ((bOs x1).getD 2 AObj.dead).intsOf).getD (0 + 0 + 1 + 1 + 1) J) && true))))))) then k (.ret (.tuple [AV.agg [u ((List.map u ((bOs x1).getD 2 AObj.dead).intsOf).getD (0 + Int.toNat 4) J).toInt, u ((List.map u ((bOs x1).getD 2 AObj.dead).intsOf).getD (0 + Int.toNat 4 + 1) J).toInt, u ((List.map u ((bOs x1).getD 2 AObj.dead).intsOf).getD (0 + Int.toNat 4 + 1 + 1) J).toInt, u ((List.map u ((bOs x1).getD 2 AObj.dead).intsOf).getD (0 + Int.toNat 4 + 1 + 1 + 1) J).toInt], AV.agg [u ((List.map u ((bOs x1).getD 2 AObj.dead).intsOf).getD (0 + 0) J).toInt, u ((List.map u ((bOs x1).getD 2 AObj.dead).intsOf).getD (0 + 0 + 1) J).toInt, u ((List.map u ((bOs x1).getD 2 AObj.dead).intsOf).getD (0 + 0 + 1 + 1) J).toInt, u ((List.map u ((bOs x1).getD 2 AObj.dead).intsOf).getD (0 + 0 + 1 + 1 + 1) J).toInt]])) [] else none else none else none := by subst e1; kernel_rfl
noncomputable def r171 : RF := runR (body (E171 h171_0) 60 171 Tryz.f171 (cod Tryz.f171))
theorem q171 (args : List AV) (os : List AObj) : r171 args os = body (E171 h171_0) 60 171 Tryz.f171 (cod Tryz.f171) args os _ fin := qR _ _ _
theorem ok171 : SpecOK P 171 (shaped A171 r171) := by
  unfold r171 E171
  refine okF 60 ?_ ?_ ?_ Tryz.func171 ?_ ?_ _
  · exact tnil
  · exact trivial
  · exact (hcons okb171_0 hnil)
  · kernel_rfl
  · kernel_rfl
noncomputable def E118 (r171 : RF) : Env := En 118 [] [] [] [] [] [(171, shaped A171 r171)]
def a118 : Alt := ⟨false, shU, []⟩
def A118 : List Alt := [a118]
theorem T118 (r171 : RF) (a0 a1 a2 a3 b0 b1 b2 b3 : Int) (X : Type) (k : AEnd → List AObj → Option X)
    (x1 : RE) (e1 : r171 [U a0 a1 a2 a3, U b0 b1 b2 b3] [] = x1) :
    body (E118 r171) 60 118 Tryz.f118 (cod Tryz.f118) [U a0 a1 a2 a3, U b0 b1 b2 b3] [] X k =
    bif okAlt a171 x1 then k (.ret (AV.agg (tu4 ((rV x1).items.getD 1 J).items))) [] else none := by subst e1; kernel_rfl
noncomputable def r118 : RF := runR (body (E118 r171) 60 118 Tryz.f118 (cod Tryz.f118))
theorem q118 (args : List AV) (os : List AObj) : r118 args os = body (E118 r171) 60 118 Tryz.f118 (cod Tryz.f118) args os _ fin := qR _ _ _
theorem ok118 : SpecOK P 118 (shaped A118 r118) := by
  unfold r118 E118
  refine okF 60 ?_ ?_ ?_ Tryz.func118 ?_ ?_ _
  · exact (tcons ok171 tnil)
  · exact trivial
  · exact hnil
  · kernel_rfl
  · kernel_rfl
end Go.Proofs.Vm
end
section
open Go Go.Abs
namespace Go.Proofs.Vm
set_option maxRecDepth 100000
set_option maxHeartbeats 0
noncomputable def E173 : Env := En 173 [(0, [2, 3, 8, 9, 10], [2, 3]), (2, [2, 3, 4, 8, 9, 10, 15, 16], [2, 3, 8, 9, 10])] [] [] [] [] []
def a173 : Alt := ⟨false, sh17, []⟩
def A173 : List Alt := [a173]
theorem T173 (a0 a1 a2 a3 : Int) (X : Type) (k : AEnd → List AObj → Option X) :
    body (E173) 60 173 Tryz.f173 (cod Tryz.f173) [.sl 4 [[u a0, u a1, u a2, u a3]]] [] X k =
    k (.ret (AV.agg [u (IntKind.u64.wrap (↑(BitVec.ofInt IntKind.u64.bits a0 &&& BitVec.ofInt IntKind.u64.bits 4294967295).toNat : Int)), u (a0.fdiv (2 ^ min (Int.toNat 32) IntKind.u64.bits)), u (IntKind.u64.wrap (↑(BitVec.ofInt IntKind.u64.bits a1 &&& BitVec.ofInt IntKind.u64.bits 4294967295).toNat : Int)), u (a1.fdiv (2 ^ min (Int.toNat 32) IntKind.u64.bits)), u (IntKind.u64.wrap (↑(BitVec.ofInt IntKind.u64.bits a2 &&& BitVec.ofInt IntKind.u64.bits 4294967295).toNat : Int)), u (a2.fdiv (2 ^ min (Int.toNat 32) IntKind.u64.bits)), u (IntKind.u64.wrap (↑(BitVec.ofInt IntKind.u64.bits a3 &&& BitVec.ofInt IntKind.u64.bits 4294967295).toNat : Int)), u (a3.fdiv (2 ^ min (Int.toNat 32) IntKind.u64.bits)), u 0, u 0, u 0, u 0, u 0, u 0, u 0, u 0, u 0])) [] := by kernel_rfl
noncomputable def r173 : RF := runR (body (E173) 60 173 Tryz.f173 (cod Tryz.f173))
theorem q173 (args : List AV) (os : List AObj) : r173 args os = body (E173) 60 173 Tryz.f173 (cod Tryz.f173) args os _ fin := qR _ _ _
theorem ok173 : SpecOK P 173 (shaped A173 r173) := by
  unfold r173 E173
  refine okF 60 ?_ ?_ ?_ Tryz.func173 ?_ ?_ _
  · exact tnil
  · exact trivial
  · exact hnil
  · kernel_rfl
  · kernel_rfl
noncomputable def E173b : Env := En 173 [(0, [2, 3, 8, 9, 10], [2, 3]), (2, [2, 3, 4, 8, 9, 10, 15, 16], [2, 3, 8, 9, 10])] [] [] [] [] []
def a173b : Alt := ⟨false, sh17, []⟩
def A173b : List Alt := [a173b]
theorem T173b (a0 a1 a2 a3 b0 b1 b2 b3 : Int) (X : Type) (k : AEnd → List AObj → Option X) :
    body (E173b) 60 173 Tryz.f173 (cod Tryz.f173) [.sl 4 [[u a0, u a1, u a2, u a3], [u b0, u b1, u b2, u b3]]] [] X k =
    k (.ret (AV.agg [u (IntKind.u64.wrap (↑(BitVec.ofInt IntKind.u64.bits a0 &&& BitVec.ofInt IntKind.u64.bits 4294967295).toNat : Int)), u (a0.fdiv (2 ^ min (Int.toNat 32) IntKind.u64.bits)), u (IntKind.u64.wrap (↑(BitVec.ofInt IntKind.u64.bits a1 &&& BitVec.ofInt IntKind.u64.bits 4294967295).toNat : Int)), u (a1.fdiv (2 ^ min (Int.toNat 32) IntKind.u64.bits)), u (IntKind.u64.wrap (↑(BitVec.ofInt IntKind.u64.bits a2 &&& BitVec.ofInt IntKind.u64.bits 4294967295).toNat : Int)), u (a2.fdiv (2 ^ min (Int.toNat 32) IntKind.u64.bits)), u (IntKind.u64.wrap (↑(BitVec.ofInt IntKind.u64.bits a3 &&& BitVec.ofInt IntKind.u64.bits 4294967295).toNat : Int)), u (a3.fdiv (2 ^ min (Int.toNat 32) IntKind.u64.bits)), u (IntKind.u64.wrap (↑(BitVec.ofInt IntKind.u64.bits b0 &&& BitVec.ofInt IntKind.u64.bits 4294967295).toNat : Int)), u (b0.fdiv (2 ^ min (Int.toNat 32) IntKind.u64.bits)), u (IntKind.u64.wrap (↑(BitVec.ofInt IntKind.u64.bits b1 &&& BitVec.ofInt IntKind.u64.bits 4294967295).toNat : Int)), u (b1.fdiv (2 ^ min (Int.toNat 32) IntKind.u64.bits)), u (IntKind.u64.wrap (↑(BitVec.ofInt IntKind.u64.bits b2 &&& BitVec.ofInt IntKind.u64.bits 4294967295).toNat : Int)), u (b2.fdiv (2 ^ min (Int.toNat 32) IntKind.u64.bits)), u (IntKind.u64.wrap (↑(BitVec.ofInt IntKind.u64.bits b3 &&& BitVec.ofInt IntKind.u64.bits 4294967295).toNat : Int)), u (b3.fdiv (2 ^ min (Int.toNat 32) IntKind.u64.bits)), u 0])) [] := by kernel_rfl
noncomputable def r173b : RF := runR (body (E173b) 60 173 Tryz.f173 (cod Tryz.f173))
theorem q173b (args : List AV) (os : List AObj) : r173b args os = body (E173b) 60 173 Tryz.f173 (cod Tryz.f173) args os _ fin := qR _ _ _
theorem ok173b : SpecOK P 173 (shaped A173b r173b) := by
  unfold r173b E173b
  refine okF 60 ?_ ?_ ?_ Tryz.func173 ?_ ?_ _
  · exact tnil
  · exact trivial
  · exact hnil
  · kernel_rfl
  · kernel_rfl
noncomputable def E175 : Env := En 175 [(0, [1, 2, 4, 5, 7], [4, 5])] [] [] [] [] []
def a175 : Alt := ⟨false, shU, []⟩
def A175 : List Alt := [a175]
theorem T175 (d0 d1 d2 d3 d4 d5 d6 d7 d8 d9 d10 d11 d12 d13 d14 d15 d16 : Int) (X : Type) (k : AEnd → List AObj → Option X) :
    body (E175) 60 175 Tryz.f175 (cod Tryz.f175) [D17 d0 d1 d2 d3 d4 d5 d6 d7 d8 d9 d10 d11 d12 d13 d14 d15 d16, i64 0] [] X k =
    k (.ret (U (IntKind.u64.wrap (↑(BitVec.ofInt IntKind.u64.bits d0 ||| BitVec.ofInt IntKind.u64.bits (IntKind.u64.wrap (d1 * 2 ^ min (Int.toNat 32) IntKind.u64.bits))).toNat : Int)) (IntKind.u64.wrap (↑(BitVec.ofInt IntKind.u64.bits d2 ||| BitVec.ofInt IntKind.u64.bits (IntKind.u64.wrap (d3 * 2 ^ min (Int.toNat 32) IntKind.u64.bits))).toNat : Int)) (IntKind.u64.wrap (↑(BitVec.ofInt IntKind.u64.bits d4 ||| BitVec.ofInt IntKind.u64.bits (IntKind.u64.wrap (d5 * 2 ^ min (Int.toNat 32) IntKind.u64.bits))).toNat : Int)) (IntKind.u64.wrap (↑(BitVec.ofInt IntKind.u64.bits d6 ||| BitVec.ofInt IntKind.u64.bits (IntKind.u64.wrap (d7 * 2 ^ min (Int.toNat 32) IntKind.u64.bits))).toNat : Int)))) [] := by kernel_rfl
noncomputable def r175 : RF := runR (body (E175) 60 175 Tryz.f175 (cod Tryz.f175))
theorem q175 (args : List AV) (os : List AObj) : r175 args os = body (E175) 60 175 Tryz.f175 (cod Tryz.f175) args os _ fin := qR _ _ _
theorem ok175 : SpecOK P 175 (shaped A175 r175) := by
  unfold r175 E175
  refine okF 60 ?_ ?_ ?_ Tryz.func175 ?_ ?_ _
  · exact tnil
  · exact trivial
  · exact hnil
  · kernel_rfl
  · kernel_rfl
noncomputable def E237 : Env := En 237 [(0, [1, 3], [])] [] [] [] [] []
def a237 : Alt := ⟨false, shI, []⟩
def A237 : List Alt := [a237]
theorem T237 (d0 d1 d2 d3 d4 d5 d6 d7 d8 d9 d10 d11 d12 d13 d14 d15 d16 : Int) (X : Type) (k : AEnd → List AObj → Option X) :
    body (E237) 60 237 Tryz.f237 (cod Tryz.f237) [D17 d0 d1 d2 d3 d4 d5 d6 d7 d8 d9 d10 d11 d12 d13 d14 d15 d16] [] X k =
    bif d16 != 0 then k (.ret (i64 17)) [] else bif d15 != 0 then k (.ret (i64 (IntKind.i64.wrap (17 - 1)))) [] else bif d14 != 0 then k (.ret (i64 (IntKind.i64.wrap (IntKind.i64.wrap (17 - 1) - 1)))) [] else bif d13 != 0 then k (.ret (i64 (IntKind.i64.wrap (IntKind.i64.wrap (IntKind.i64.wrap (17 - 1) - 1) - 1)))) [] else bif d12 != 0 then k (.ret (i64 (IntKind.i64.wrap (IntKind.i64.wrap (IntKind.i64.wrap (IntKind.i64.wrap (17 - 1) - 1) - 1) - 1)))) [] else bif d11 != 0 then k (.ret (i64 (IntKind.i64.wrap (IntKind.i64.wrap (IntKind.i64.wrap (IntKind.i64.wrap (IntKind.i64.wrap (17 - 1) - 1) - 1) - 1) - 1)))) [] else bif d10 != 0 then k (.ret (i64 (IntKind.i64.wrap (IntKind.i64.wrap (IntKind.i64.wrap (IntKind.i64.wrap (IntKind.i64.wrap (IntKind.i64.wrap (17 - 1) - 1) - 1) - 1) - 1) - 1)))) [] else bif d9 != 0 then k (.ret (i64 (IntKind.i64.wrap (IntKind.i64.wrap (IntKind.i64.wrap (IntKind.i64.wrap (IntKind.i64.wrap (IntKind.i64.wrap (IntKind.i64.wrap (17 - 1) - 1) - 1) - 1) - 1) - 1) - 1)))) [] else bif d8 != 0 then k (.ret (i64 (IntKind.i64.wrap (IntKind.i64.wrap (IntKind.i64.wrap (IntKind.i64.wrap (IntKind.i64.wrap (IntKind.i64.wrap (IntKind.i64.wrap (IntKind.i64.wrap (17 - 1) - 1) - 1) - 1) - 1) - 1) - 1) - 1)))) [] else bif d7 != 0 then k (.ret (i64 (IntKind.i64.wrap (IntKind.i64.wrap (IntKind.i64.wrap (IntKind.i64.wrap (IntKind.i64.wrap (IntKind.i64.wrap (IntKind.i64.wrap (IntKind.i64.wrap (IntKind.i64.wrap (17 - 1) - 1) - 1) - 1) - 1) - 1) - 1) - 1) - 1)))) [] else bif d6 != 0 then k (.ret (i64 (IntKind.i64.wrap (IntKind.i64.wrap (IntKind.i64.wrap (IntKind.i64.wrap (IntKind.i64.wrap (IntKind.i64.wrap (IntKind.i64.wrap (IntKind.i64.wrap (IntKind.i64.wrap (IntKind.i64.wrap (17 - 1) - 1) - 1) - 1) - 1) - 1) - 1) - 1) - 1) - 1)))) [] else bif d5 != 0 then k (.ret (i64 (IntKind.i64.wrap (IntKind.i64.wrap (IntKind.i64.wrap (IntKind.i64.wrap (IntKind.i64.wrap (IntKind.i64.wrap (IntKind.i64.wrap (IntKind.i64.wrap (IntKind.i64.wrap (IntKind.i64.wrap (IntKind.i64.wrap (17 - 1) - 1) - 1) - 1) - 1) - 1) - 1) - 1) - 1) - 1) - 1)))) [] else bif d4 != 0 then k (.ret (i64 (IntKind.i64.wrap (IntKind.i64.wrap (IntKind.i64.wrap (IntKind.i64.wrap (IntKind.i64.wrap (IntKind.i64.wrap (IntKind.i64.wrap (IntKind.i64.wrap (IntKind.i64.wrap (IntKind.i64.wrap (IntKind.i64.wrap (IntKind.i64.wrap (17 - 1) - 1) - 1) - 1) - 1) - 1) - 1) - 1) - 1) - 1) - 1) - 1)))) [] else bif d3 != 0 then k (.ret (i64 (IntKind.i64.wrap (IntKind.i64.wrap (IntKind.i64.wrap (IntKind.i64.wrap (IntKind.i64.wrap (IntKind.i64.wrap (IntKind.i64.wrap (IntKind.i64.wrap (IntKind.i64.wrap (IntKind.i64.wrap (IntKind.i64.wrap (IntKind.i64.wrap (IntKind.i64.wrap (17 - 1) - 1) - 1) - 1) - 1) - 1) - 1) - 1) - 1) - 1) - 1) - 1) - 1)))) [] else bif d2 != 0 then k (.ret (i64 (IntKind.i64.wrap (IntKind.i64.wrap (IntKind.i64.wrap (IntKind.i64.wrap (IntKind.i64.wrap (IntKind.i64.wrap (IntKind.i64.wrap (IntKind.i64.wrap (IntKind.i64.wrap (IntKind.i64.wrap (IntKind.i64.wrap (IntKind.i64.wrap (IntKind.i64.wrap (IntKind.i64.wrap (17 - 1) - 1) - 1) - 1) - 1) - 1) - 1) - 1) - 1) - 1) - 1) - 1) - 1) - 1)))) [] else bif d1 != 0 then k (.ret (i64 (IntKind.i64.wrap (IntKind.i64.wrap (IntKind.i64.wrap (IntKind.i64.wrap (IntKind.i64.wrap (IntKind.i64.wrap (IntKind.i64.wrap (IntKind.i64.wrap (IntKind.i64.wrap (IntKind.i64.wrap (IntKind.i64.wrap (IntKind.i64.wrap (IntKind.i64.wrap (IntKind.i64.wrap (IntKind.i64.wrap (17 - 1) - 1) - 1) - 1) - 1) - 1) - 1) - 1) - 1) - 1) - 1) - 1) - 1) - 1) - 1)))) [] else bif d0 != 0 then k (.ret (i64 (IntKind.i64.wrap (IntKind.i64.wrap (IntKind.i64.wrap (IntKind.i64.wrap (IntKind.i64.wrap (IntKind.i64.wrap (IntKind.i64.wrap (IntKind.i64.wrap (IntKind.i64.wrap (IntKind.i64.wrap (IntKind.i64.wrap (IntKind.i64.wrap (IntKind.i64.wrap (IntKind.i64.wrap (IntKind.i64.wrap (IntKind.i64.wrap (17 - 1) - 1) - 1) - 1) - 1) - 1) - 1) - 1) - 1) - 1) - 1) - 1) - 1) - 1) - 1) - 1)))) [] else k (.ret (i64 0)) [] := by kernel_rfl
noncomputable def r237 : RF := runR (body (E237) 60 237 Tryz.f237 (cod Tryz.f237))
theorem q237 (args : List AV) (os : List AObj) : r237 args os = body (E237) 60 237 Tryz.f237 (cod Tryz.f237) args os _ fin := qR _ _ _
theorem ok237 : SpecOK P 237 (shaped A237 r237) := by
  unfold r237 E237
  refine okF 60 ?_ ?_ ?_ Tryz.func237 ?_ ?_ _
  · exact tnil
  · exact trivial
  · exact hnil
  · kernel_rfl
  · kernel_rfl
end Go.Proofs.Vm
end
section
open Go Go.Abs
namespace Go.Proofs.Vm
set_option maxRecDepth 100000
set_option maxHeartbeats 0
noncomputable def E238_0 : Env := En 238 [(0, [1, 2, 4, 6, 7], [2, 4, 6])] [] [] [] [] [] [(0, [0])]
def a238_0 : BAlt := ⟨.normal, (.junk :: .junk :: .ptr 0 0 :: .junk :: .ptr 1 0 :: .junk :: sh6 :: sj 21 []), [.ints .u64, .cells sh17c], []⟩
def A238_0 : List BAlt := [a238_0]
noncomputable def h238_0 : RB := runB (blockRun (E238_0) (fun _ _ => 200) 0)
theorem q238_0 (c : Code) (a : AAct) (os : List AObj) : h238_0 c a os = exec (E238_0) ((fun _ _ => 200) a os) 0 (.block 0 c) a os _ finB := qB _ _ _ _ _ _
theorem k238_0 : blk Tryz.f238 0 = .loop (rnd Tryz.f238 0) := by kernel_rfl
theorem p238_0 (T : List AV) (os : List AObj) (F : Nat) (hF : (fun _ _ => 200) (⟨T, [], 238, 0, false⟩ : AAct) os = F + 1) : h238_0 (blk Tryz.f238 0) ⟨T, [], 238, 0, false⟩ os = exec (E238_0) F 0 (.loop (rnd Tryz.f238 0)) ⟨T, [], 238, 0, false⟩ os _ (bK (E238_0) F 0 finB) := by
  rw [q238_0, hF, exec_block (by kernel_rfl), k238_0]
theorem okb238_0 : BlockOK P 238 0 (bShaped A238_0 [] (some [1, 2, 4, 6, 7]) h238_0) := by
  unfold h238_0 E238_0
  refine okBl _ ?_ ?_ ?_ _ _ _
  · exact tnil
  · exact trivial
  · exact hnil
theorem TL238_0r (n left i : Int) (cs : List Int) (d m : Nat) (L : AAct → List AObj → ∀ X : Type, (AExit → AAct → List AObj → Option X) → Option X) (X : Type) (k : AExit → AAct → List AObj → Option X) :
    roundL (E238_0) (d + 59) 0 (rnd Tryz.f238 0) L ⟨(J :: u n :: .ptr 0 0 :: J :: .ptr 1 0 :: J :: u left :: i64 i :: jn 20 []), [], 238, 0, false⟩ [.ints .u64 cs, .cells (D17c 0 0 0 0 0 0 0 0 0 0 0 0 0 0 0 0 0)] X (bK (E238_0) (m + 60) 0 k) =
    bif ile 0 i then bif decide (0 ≤ i) && decide (i < (↑17 : Int)) then bif decide (0 + i.toNat * 1 < (List.map u cs).length) && (AV.isInt IntKind.u64 ((List.map u cs).getD (0 + i.toNat * 1) J) && true) then bif decide (n ≠ 0) then bif decide (n ≠ 0) then bif decide (0 ≤ i) && decide (i < (↑17 : Int)) then bif decide (0 + i.toNat * 1 + 1 ≤ cs.length) then L { tmps := (J :: u n :: AV.ptr 0 0 :: J :: AV.ptr 1 0 :: J :: u ((IntKind.u64.wrap (↑(BitVec.ofInt IntKind.u64.bits (IntKind.u64.wrap (left * 2 ^ min (Int.toNat 32) IntKind.u64.bits)) ||| BitVec.ofInt IntKind.u64.bits ((List.map u cs).getD (0 + i.toNat * 1) J).toInt).toNat : Int)).tmod n) :: i64 (IntKind.i64.wrap (i - 1)) :: jn 20 []), defers := [], fn := 238, foot := 0, round := false } [AObj.ints IntKind.u64 (cs.set (0 + i.toNat * 1) (IntKind.u64.wrap ((IntKind.u64.wrap (↑(BitVec.ofInt IntKind.u64.bits (IntKind.u64.wrap (left * 2 ^ min (Int.toNat 32) IntKind.u64.bits)) ||| BitVec.ofInt IntKind.u64.bits ((List.map u cs).getD (0 + i.toNat * 1) J).toInt).toNat : Int)).tdiv n))), AObj.cells (D17c 0 0 0 0 0 0 0 0 0 0 0 0 0 0 0 0 0)] X (bK E238_0 (m + 60) 0 k) else none else none else none else none else none else none else k AExit.normal { tmps := (J :: J :: AV.ptr 0 0 :: J :: AV.ptr 1 0 :: J :: u left :: jn 21 []), defers := [], fn := 238, foot := 0, round := false } [AObj.ints IntKind.u64 cs, AObj.cells (D17c 0 0 0 0 0 0 0 0 0 0 0 0 0 0 0 0 0)] := by kernel_rfl
theorem T238_0r (n left i : Int) (cs : List Int) (d m : Nat) (X : Type) (k : AExit → AAct → List AObj → Option X) :
    exec (E238_0) (d + 60) 0 (.loop (rnd Tryz.f238 0)) ⟨(J :: u n :: .ptr 0 0 :: J :: .ptr 1 0 :: J :: u left :: i64 i :: jn 20 []), [], 238, 0, false⟩ [.ints .u64 cs, .cells (D17c 0 0 0 0 0 0 0 0 0 0 0 0 0 0 0 0 0)] X (bK (E238_0) (m + 60) 0 k) =
    bif ile 0 i then bif decide (0 ≤ i) && decide (i < (↑17 : Int)) then bif decide (0 + i.toNat * 1 < (List.map u cs).length) && (AV.isInt IntKind.u64 ((List.map u cs).getD (0 + i.toNat * 1) J) && true) then bif decide (n ≠ 0) then bif decide (n ≠ 0) then bif decide (0 ≤ i) && decide (i < (↑17 : Int)) then bif decide (0 + i.toNat * 1 + 1 ≤ cs.length) then exec (E238_0) (d + 59) 0 (.loop (rnd Tryz.f238 0)) { tmps := (J :: u n :: AV.ptr 0 0 :: J :: AV.ptr 1 0 :: J :: u ((IntKind.u64.wrap (↑(BitVec.ofInt IntKind.u64.bits (IntKind.u64.wrap (left * 2 ^ min (Int.toNat 32) IntKind.u64.bits)) ||| BitVec.ofInt IntKind.u64.bits ((List.map u cs).getD (0 + i.toNat * 1) J).toInt).toNat : Int)).tmod n) :: i64 (IntKind.i64.wrap (i - 1)) :: jn 20 []), defers := [], fn := 238, foot := 0, round := false } [AObj.ints IntKind.u64 (cs.set (0 + i.toNat * 1) (IntKind.u64.wrap ((IntKind.u64.wrap (↑(BitVec.ofInt IntKind.u64.bits (IntKind.u64.wrap (left * 2 ^ min (Int.toNat 32) IntKind.u64.bits)) ||| BitVec.ofInt IntKind.u64.bits ((List.map u cs).getD (0 + i.toNat * 1) J).toInt).toNat : Int)).tdiv n))), AObj.cells (D17c 0 0 0 0 0 0 0 0 0 0 0 0 0 0 0 0 0)] X (bK E238_0 (m + 60) 0 k) else none else none else none else none else none else none else k AExit.normal { tmps := (J :: J :: AV.ptr 0 0 :: J :: AV.ptr 1 0 :: J :: u left :: jn 21 []), defers := [], fn := 238, foot := 0, round := false } [AObj.ints IntKind.u64 cs, AObj.cells (D17c 0 0 0 0 0 0 0 0 0 0 0 0 0 0 0 0 0)] := (exec_loop _ _ _ _ _ _ _ _).trans (TL238_0r n left i cs d m (fun a os X k => exec (E238_0) (d + 59) 0 (.loop (rnd Tryz.f238 0)) a os X k) X k)
noncomputable def E238 (h238_0 : RB) : Env := En 238 [] [] [] [(0, bShaped A238_0 [] (some [1, 2, 4, 6, 7]) h238_0)] [] []
def a238 : Alt := ⟨false, .tup [sh17, sh6], []⟩
def A238 : List Alt := [a238]
theorem T238 (h238_0 : RB) (d0 d1 d2 d3 d4 d5 d6 d7 d8 d9 d10 d11 d12 d13 d14 d15 d16 n : Int) (X : Type) (k : AEnd → List AObj → Option X)
    (x1 : RBE) (e1 : h238_0 (blk Tryz.f238 0) { tmps := (J :: u n :: AV.ptr 0 0 :: J :: AV.ptr 1 0 :: J :: u 0 :: i64 16 :: jn 20 []), defers := [], fn := 238, foot := 0, round := false } [AObj.cells (D17c d0 d1 d2 d3 d4 d5 d6 d7 d8 d9 d10 d11 d12 d13 d14 d15 d16), AObj.cells (D17c 0 0 0 0 0 0 0 0 0 0 0 0 0 0 0 0 0)] = x1) :
    body (E238 h238_0) 60 238 Tryz.f238 (cod Tryz.f238) [D17 d0 d1 d2 d3 d4 d5 d6 d7 d8 d9 d10 d11 d12 d13 d14 d15 d16, u n] [] X k =
    bif okB a238_0 238 0 false x1 then bif dm17 ((bOs x1).getD 0 AObj.dead).intsOf then k (.ret (.tuple [AV.agg (ld17 ((bOs x1).getD 0 AObj.dead).intsOf), u ((bT x1).getD 6 J).toInt])) [] else none else none := by subst e1; kernel_rfl
noncomputable def r238 : RF := runR (body (E238 h238_0) 60 238 Tryz.f238 (cod Tryz.f238))
theorem q238 (args : List AV) (os : List AObj) : r238 args os = body (E238 h238_0) 60 238 Tryz.f238 (cod Tryz.f238) args os _ fin := qR _ _ _
theorem ok238 : SpecOK P 238 (shaped A238 r238) := by
  unfold r238 E238
  refine okF 60 ?_ ?_ ?_ Tryz.func238 ?_ ?_ _
  · exact tnil
  · exact trivial
  · exact (hcons okb238_0 hnil)
  · kernel_rfl
  · kernel_rfl
noncomputable def E239_0 : Env := En 239 [(0, [1, 2, 4, 5, 8, 9], [2, 4])] [] [] [] [] [] [(0, [0])]
def a239_0 : BAlt := ⟨.normal, (.junk :: .junk :: .ptr 0 0 :: .junk :: .ptr 1 0 :: sj 21 []), [.ints .u64, .cells sh17c], []⟩
def A239_0 : List BAlt := [a239_0]
noncomputable def h239_0 : RB := runB (blockRun (E239_0) (fun _ _ => 200) 0)
theorem q239_0 (c : Code) (a : AAct) (os : List AObj) : h239_0 c a os = exec (E239_0) ((fun _ _ => 200) a os) 0 (.block 0 c) a os _ finB := qB _ _ _ _ _ _
theorem k239_0 : blk Tryz.f239 0 = .loop (rnd Tryz.f239 0) := by kernel_rfl
theorem p239_0 (T : List AV) (os : List AObj) (F : Nat) (hF : (fun _ _ => 200) (⟨T, [], 239, 0, false⟩ : AAct) os = F + 1) : h239_0 (blk Tryz.f239 0) ⟨T, [], 239, 0, false⟩ os = exec (E239_0) F 0 (.loop (rnd Tryz.f239 0)) ⟨T, [], 239, 0, false⟩ os _ (bK (E239_0) F 0 finB) := by
  rw [q239_0, hF, exec_block (by kernel_rfl), k239_0]
theorem okb239_0 : BlockOK P 239 0 (bShaped A239_0 [] (some [1, 2, 4, 5, 8, 9]) h239_0) := by
  unfold h239_0 E239_0
  refine okBl _ ?_ ?_ ?_ _ _ _
  · exact tnil
  · exact trivial
  · exact hnil
theorem TL239_0r (d0 d1 d2 d3 d4 d5 d6 d7 d8 d9 d10 d11 d12 d13 d14 d15 d16 : Int) (s c i : Int) (cs : List Int) (d m : Nat) (L : AAct → List AObj → ∀ X : Type, (AExit → AAct → List AObj → Option X) → Option X) (X : Type) (k : AExit → AAct → List AObj → Option X) :
    roundL (E239_0) (d + 59) 0 (rnd Tryz.f239 0) L ⟨(J :: u s :: .ptr 0 0 :: J :: .ptr 1 0 :: u c :: J :: J :: D17 d0 d1 d2 d3 d4 d5 d6 d7 d8 d9 d10 d11 d12 d13 d14 d15 d16 :: i64 i :: jn 16 []), [], 239, 0, false⟩ [.ints .u64 cs, .cells (D17c 0 0 0 0 0 0 0 0 0 0 0 0 0 0 0 0 0)] X (bK (E239_0) (m + 60) 0 k) =
    bif ilt i 17 then bif decide (0 ≤ i) && (decide (i < (↑17 : Int)) && (decide (i.toNat * 1 < [u d0, u d1, u d2, u d3, u d4, u d5, u d6, u d7, u d8, u d9, u d10, u d11, u d12, u d13, u d14, u d15, u d16].length) && (AV.isInt IntKind.u64 ([u d0, u d1, u d2, u d3, u d4, u d5, u d6, u d7, u d8, u d9, u d10, u d11, u d12, u d13, u d14, u d15, u d16].getD (i.toNat * 1) J) && true))) then bif decide (0 ≤ s) then bif decide (0 ≤ i) && decide (i < (↑17 : Int)) then bif decide (0 + i.toNat * 1 + 1 ≤ cs.length) then L { tmps := (J :: u s :: AV.ptr 0 0 :: J :: AV.ptr 1 0 :: u ((IntKind.u64.wrap (↑(BitVec.ofInt IntKind.u64.bits c ||| BitVec.ofInt IntKind.u64.bits (IntKind.u64.wrap (([u d0, u d1, u d2, u d3, u d4, u d5, u d6, u d7, u d8, u d9, u d10, u d11, u d12, u d13, u d14, u d15, u d16].getD (i.toNat * 1) J).toInt * 2 ^ min s.toNat IntKind.u64.bits))).toNat : Int)).fdiv (2 ^ min (Int.toNat 32) IntKind.u64.bits)) :: J :: J :: AV.agg (D17c d0 d1 d2 d3 d4 d5 d6 d7 d8 d9 d10 d11 d12 d13 d14 d15 d16) :: i64 (IntKind.i64.wrap (i + 1)) :: jn 16 []), defers := [], fn := 239, foot := 0, round := false } [AObj.ints IntKind.u64 (cs.set (0 + i.toNat * 1) (IntKind.u64.wrap (↑(BitVec.ofInt IntKind.u64.bits (IntKind.u64.wrap (↑(BitVec.ofInt IntKind.u64.bits c ||| BitVec.ofInt IntKind.u64.bits (IntKind.u64.wrap (([u d0, u d1, u d2, u d3, u d4, u d5, u d6, u d7, u d8, u d9, u d10, u d11, u d12, u d13, u d14, u d15, u d16].getD (i.toNat * 1) J).toInt * 2 ^ min s.toNat IntKind.u64.bits))).toNat : Int)) &&& BitVec.ofInt IntKind.u64.bits 4294967295).toNat : Int))), AObj.cells (D17c 0 0 0 0 0 0 0 0 0 0 0 0 0 0 0 0 0)] X (bK E239_0 (m + 60) 0 k) else none else none else none else none else k AExit.normal { tmps := (J :: J :: AV.ptr 0 0 :: J :: AV.ptr 1 0 :: jn 21 []), defers := [], fn := 239, foot := 0, round := false } [AObj.ints IntKind.u64 cs, AObj.cells (D17c 0 0 0 0 0 0 0 0 0 0 0 0 0 0 0 0 0)] := by kernel_rfl
theorem T239_0r (d0 d1 d2 d3 d4 d5 d6 d7 d8 d9 d10 d11 d12 d13 d14 d15 d16 : Int) (s c i : Int) (cs : List Int) (d m : Nat) (X : Type) (k : AExit → AAct → List AObj → Option X) :
    exec (E239_0) (d + 60) 0 (.loop (rnd Tryz.f239 0)) ⟨(J :: u s :: .ptr 0 0 :: J :: .ptr 1 0 :: u c :: J :: J :: D17 d0 d1 d2 d3 d4 d5 d6 d7 d8 d9 d10 d11 d12 d13 d14 d15 d16 :: i64 i :: jn 16 []), [], 239, 0, false⟩ [.ints .u64 cs, .cells (D17c 0 0 0 0 0 0 0 0 0 0 0 0 0 0 0 0 0)] X (bK (E239_0) (m + 60) 0 k) =
    bif ilt i 17 then bif decide (0 ≤ i) && (decide (i < (↑17 : Int)) && (decide (i.toNat * 1 < [u d0, u d1, u d2, u d3, u d4, u d5, u d6, u d7, u d8, u d9, u d10, u d11, u d12, u d13, u d14, u d15, u d16].length) && (AV.isInt IntKind.u64 ([u d0, u d1, u d2, u d3, u d4, u d5, u d6, u d7, u d8, u d9, u d10, u d11, u d12, u d13, u d14, u d15, u d16].getD (i.toNat * 1) J) && true))) then bif decide (0 ≤ s) then bif decide (0 ≤ i) && decide (i < (↑17 : Int)) then bif decide (0 + i.toNat * 1 + 1 ≤ cs.length) then exec (E239_0) (d + 59) 0 (.loop (rnd Tryz.f239 0)) { tmps := (J :: u s :: AV.ptr 0 0 :: J :: AV.ptr 1 0 :: u ((IntKind.u64.wrap (↑(BitVec.ofInt IntKind.u64.bits c ||| BitVec.ofInt IntKind.u64.bits (IntKind.u64.wrap (([u d0, u d1, u d2, u d3, u d4, u d5, u d6, u d7, u d8, u d9, u d10, u d11, u d12, u d13, u d14, u d15, u d16].getD (i.toNat * 1) J).toInt * 2 ^ min s.toNat IntKind.u64.bits))).toNat : Int)).fdiv (2 ^ min (Int.toNat 32) IntKind.u64.bits)) :: J :: J :: AV.agg (D17c d0 d1 d2 d3 d4 d5 d6 d7 d8 d9 d10 d11 d12 d13 d14 d15 d16) :: i64 (IntKind.i64.wrap (i + 1)) :: jn 16 []), defers := [], fn := 239, foot := 0, round := false } [AObj.ints IntKind.u64 (cs.set (0 + i.toNat * 1) (IntKind.u64.wrap (↑(BitVec.ofInt IntKind.u64.bits (IntKind.u64.wrap (↑(BitVec.ofInt IntKind.u64.bits c ||| BitVec.ofInt IntKind.u64.bits (IntKind.u64.wrap (([u d0, u d1, u d2, u d3, u d4, u d5, u d6, u d7, u d8, u d9, u d10, u d11, u d12, u d13, u d14, u d15, u d16].getD (i.toNat * 1) J).toInt * 2 ^ min s.toNat IntKind.u64.bits))).toNat : Int)) &&& BitVec.ofInt IntKind.u64.bits 4294967295).toNat : Int))), AObj.cells (D17c 0 0 0 0 0 0 0 0 0 0 0 0 0 0 0 0 0)] X (bK E239_0 (m + 60) 0 k) else none else none else none else none else k AExit.normal { tmps := (J :: J :: AV.ptr 0 0 :: J :: AV.ptr 1 0 :: jn 21 []), defers := [], fn := 239, foot := 0, round := false } [AObj.ints IntKind.u64 cs, AObj.cells (D17c 0 0 0 0 0 0 0 0 0 0 0 0 0 0 0 0 0)] := (exec_loop _ _ _ _ _ _ _ _).trans (TL239_0r d0 d1 d2 d3 d4 d5 d6 d7 d8 d9 d10 d11 d12 d13 d14 d15 d16 s c i cs d m (fun a os X k => exec (E239_0) (d + 59) 0 (.loop (rnd Tryz.f239 0)) a os X k) X k)
noncomputable def E239 (h239_0 : RB) : Env := En 239 [] [] [] [(0, bShaped A239_0 [] (some [1, 2, 4, 5, 8, 9]) h239_0)] [] []
def a239 : Alt := ⟨false, sh17, []⟩
def A239 : List Alt := [a239]
theorem T239 (h239_0 : RB) (d0 d1 d2 d3 d4 d5 d6 d7 d8 d9 d10 d11 d12 d13 d14 d15 d16 n : Int) (X : Type) (k : AEnd → List AObj → Option X)
    (x1 : RBE) (e1 : h239_0 (blk Tryz.f239 0) { tmps := (J :: u n :: AV.ptr 0 0 :: J :: AV.ptr 1 0 :: u 0 :: J :: J :: AV.agg (D17c d0 d1 d2 d3 d4 d5 d6 d7 d8 d9 d10 d11 d12 d13 d14 d15 d16) :: i64 0 :: jn 16 []), defers := [], fn := 239, foot := 0, round := false } [AObj.cells (D17c d0 d1 d2 d3 d4 d5 d6 d7 d8 d9 d10 d11 d12 d13 d14 d15 d16), AObj.cells (D17c 0 0 0 0 0 0 0 0 0 0 0 0 0 0 0 0 0)] = x1) :
    body (E239 h239_0) 60 239 Tryz.f239 (cod Tryz.f239) [D17 d0 d1 d2 d3 d4 d5 d6 d7 d8 d9 d10 d11 d12 d13 d14 d15 d16, u n] [] X k =
    bif okB a239_0 239 0 false x1 then bif dm17 ((bOs x1).getD 0 AObj.dead).intsOf then k (.ret (AV.agg (ld17 ((bOs x1).getD 0 AObj.dead).intsOf))) [] else none else none := by subst e1; kernel_rfl
noncomputable def r239 : RF := runR (body (E239 h239_0) 60 239 Tryz.f239 (cod Tryz.f239))
theorem q239 (args : List AV) (os : List AObj) : r239 args os = body (E239 h239_0) 60 239 Tryz.f239 (cod Tryz.f239) args os _ fin := qR _ _ _
theorem ok239 : SpecOK P 239 (shaped A239 r239) := by
  unfold r239 E239
  refine okF 60 ?_ ?_ ?_ Tryz.func239 ?_ ?_ _
  · exact tnil
  · exact trivial
  · exact (hcons okb239_0 hnil)
  · kernel_rfl
  · kernel_rfl
noncomputable def E243_0 : Env := En 243 [(0, [1, 2, 3, 6, 7, 9, 10], [6, 7])] [] [] [] [] [] [(0, [0, 2])]
def a243_0 : BAlt := ⟨.normal, (sj 6 (.ptr 0 0 :: .ptr 1 0 :: sj 31 [])), [.cells sh17c, .ints .u64], []⟩
def A243_0 : List BAlt := [a243_0]
noncomputable def h243_0 : RB := runB (blockRun (E243_0) (fun _ _ => 200) 0)
theorem q243_0 (c : Code) (a : AAct) (os : List AObj) : h243_0 c a os = exec (E243_0) ((fun _ _ => 200) a os) 0 (.block 0 c) a os _ finB := qB _ _ _ _ _ _
theorem k243_0 : blk Tryz.f243 0 = .loop (rnd Tryz.f243 0) := by kernel_rfl
theorem p243_0 (T : List AV) (os : List AObj) (F : Nat) (hF : (fun _ _ => 200) (⟨T, [], 243, 0, false⟩ : AAct) os = F + 1) : h243_0 (blk Tryz.f243 0) ⟨T, [], 243, 0, false⟩ os = exec (E243_0) F 0 (.loop (rnd Tryz.f243 0)) ⟨T, [], 243, 0, false⟩ os _ (bK (E243_0) F 0 finB) := by
  rw [q243_0, hF, exec_block (by kernel_rfl), k243_0]
theorem okb243_0 : BlockOK P 243 0 (bShaped A243_0 [] (some [1, 2, 3, 6, 7, 9, 10]) h243_0) := by
  unfold h243_0 E243_0
  refine okBl _ ?_ ?_ ?_ _ _ _
  · exact tnil
  · exact trivial
  · exact hnil
theorem TL243_0r (s n nn i : Int) (cs ds : List Int) (d m : Nat) (L : AAct → List AObj → ∀ X : Type, (AExit → AAct → List AObj → Option X) → Option X) (X : Type) (k : AExit → AAct → List AObj → Option X) :
    roundL (E243_0) (d + 59) 0 (rnd Tryz.f243 0) L ⟨(J :: u s :: i64 n :: .ptr 0 0 :: J :: J :: .ptr 1 0 :: .ptr 2 0 :: J :: i64 nn :: i64 i :: jn 28 []), [], 243, 0, false⟩ [.ints .u64 ds, .cells (D17c 0 0 0 0 0 0 0 0 0 0 0 0 0 0 0 0 0), .ints .u64 cs] X (bK (E243_0) (m + 60) 0 k) =
    bif ilt i nn then bif decide (0 ≤ i) && decide (i < (↑17 : Int)) then bif decide (0 + i.toNat * 1 < (List.map u ds).length) && (AV.isInt IntKind.u64 ((List.map u ds).getD (0 + i.toNat * 1) J) && true) then bif decide (0 ≤ s) then bif decide (0 ≤ i) && decide (i < (↑17 : Int)) then bif decide (0 + i.toNat * 1 + 1 ≤ cs.length) then bif ilt (IntKind.i64.wrap (i + 1)) n then bif decide (0 ≤ i) && decide (i < (↑17 : Int)) then bif decide (0 + i.toNat * 1 < (List.map u (cs.set (0 + i.toNat * 1) (((List.map u ds).getD (0 + i.toNat * 1) J).toInt.fdiv (2 ^ min s.toNat IntKind.u64.bits)))).length) && (AV.isInt IntKind.u64 ((List.map u (cs.set (0 + i.toNat * 1) (((List.map u ds).getD (0 + i.toNat * 1) J).toInt.fdiv (2 ^ min s.toNat IntKind.u64.bits)))).getD (0 + i.toNat * 1) J) && true) then bif decide (0 ≤ IntKind.i64.wrap (i + 1)) && decide (IntKind.i64.wrap (i + 1) < (↑17 : Int)) then bif decide (0 + (IntKind.i64.wrap (i + 1)).toNat * 1 < (List.map u ds).length) && (AV.isInt IntKind.u64 ((List.map u ds).getD (0 + (IntKind.i64.wrap (i + 1)).toNat * 1) J) && true) then bif decide (0 ≤ IntKind.u64.wrap (32 - s)) then bif decide (0 ≤ i) && decide (i < (↑17 : Int)) then bif decide (0 + i.toNat * 1 + 1 ≤ (cs.set (0 + i.toNat * 1) (((List.map u ds).getD (0 + i.toNat * 1) J).toInt.fdiv (2 ^ min s.toNat IntKind.u64.bits))).length) then L { tmps := (J :: u s :: i64 n :: AV.ptr 0 0 :: J :: J :: AV.ptr 1 0 :: AV.ptr 2 0 :: J :: i64 nn :: i64 (IntKind.i64.wrap (i + 1)) :: jn 28 []), defers := [], fn := 243, foot := 0, round := false } [AObj.ints IntKind.u64 ds, AObj.cells (D17c 0 0 0 0 0 0 0 0 0 0 0 0 0 0 0 0 0), AObj.ints IntKind.u64 ((cs.set (0 + i.toNat * 1) (((List.map u ds).getD (0 + i.toNat * 1) J).toInt.fdiv (2 ^ min s.toNat IntKind.u64.bits))).set (0 + i.toNat * 1) (IntKind.u64.wrap (↑(BitVec.ofInt IntKind.u64.bits ((List.map u (cs.set (0 + i.toNat * 1) (((List.map u ds).getD (0 + i.toNat * 1) J).toInt.fdiv (2 ^ min s.toNat IntKind.u64.bits)))).getD (0 + i.toNat * 1) J).toInt ||| BitVec.ofInt IntKind.u64.bits (IntKind.u64.wrap (↑(BitVec.ofInt IntKind.u64.bits (IntKind.u64.wrap (((List.map u ds).getD (0 + (IntKind.i64.wrap (i + 1)).toNat * 1) J).toInt * 2 ^ min (IntKind.u64.wrap (32 - s)).toNat IntKind.u64.bits)) &&& BitVec.ofInt IntKind.u64.bits 4294967295).toNat : Int))).toNat : Int)))] X (bK E243_0 (m + 60) 0 k) else none else none else none else none else none else none else none else L { tmps := (J :: u s :: i64 n :: AV.ptr 0 0 :: J :: J :: AV.ptr 1 0 :: AV.ptr 2 0 :: J :: i64 nn :: i64 (IntKind.i64.wrap (i + 1)) :: jn 28 []), defers := [], fn := 243, foot := 0, round := false } [AObj.ints IntKind.u64 ds, AObj.cells (D17c 0 0 0 0 0 0 0 0 0 0 0 0 0 0 0 0 0), AObj.ints IntKind.u64 (cs.set (0 + i.toNat * 1) (((List.map u ds).getD (0 + i.toNat * 1) J).toInt.fdiv (2 ^ min s.toNat IntKind.u64.bits)))] X (bK E243_0 (m + 60) 0 k) else none else none else none else none else none else k AExit.normal { tmps := (jn 6 (AV.ptr 0 0 :: AV.ptr 1 0 :: jn 31 [])), defers := [], fn := 243, foot := 0, round := false } [AObj.cells (D17c 0 0 0 0 0 0 0 0 0 0 0 0 0 0 0 0 0), AObj.ints IntKind.u64 cs] := by kernel_rfl
theorem T243_0r (s n nn i : Int) (cs ds : List Int) (d m : Nat) (X : Type) (k : AExit → AAct → List AObj → Option X) :
    exec (E243_0) (d + 60) 0 (.loop (rnd Tryz.f243 0)) ⟨(J :: u s :: i64 n :: .ptr 0 0 :: J :: J :: .ptr 1 0 :: .ptr 2 0 :: J :: i64 nn :: i64 i :: jn 28 []), [], 243, 0, false⟩ [.ints .u64 ds, .cells (D17c 0 0 0 0 0 0 0 0 0 0 0 0 0 0 0 0 0), .ints .u64 cs] X (bK (E243_0) (m + 60) 0 k) =
    bif ilt i nn then bif decide (0 ≤ i) && decide (i < (↑17 : Int)) then bif decide (0 + i.toNat * 1 < (List.map u ds).length) && (AV.isInt IntKind.u64 ((List.map u ds).getD (0 + i.toNat * 1) J) && true) then bif decide (0 ≤ s) then bif decide (0 ≤ i) && decide (i < (↑17 : Int)) then bif decide (0 + i.toNat * 1 + 1 ≤ cs.length) then bif ilt (IntKind.i64.wrap (i + 1)) n then bif decide (0 ≤ i) && decide (i < (↑17 : Int)) then bif decide (0 + i.toNat * 1 < (List.map u (cs.set (0 + i.toNat * 1) (((List.map u ds).getD (0 + i.toNat * 1) J).toInt.fdiv (2 ^ min s.toNat IntKind.u64.bits)))).length) && (AV.isInt IntKind.u64 ((List.map u (cs.set (0 + i.toNat * 1) (((List.map u ds).getD (0 + i.toNat * 1) J).toInt.fdiv (2 ^ min s.toNat IntKind.u64.bits)))).getD (0 + i.toNat * 1) J) && true) then bif decide (0 ≤ IntKind.i64.wrap (i + 1)) && decide (IntKind.i64.wrap (i + 1) < (↑17 : Int)) then bif decide (0 + (IntKind.i64.wrap (i + 1)).toNat * 1 < (List.map u ds).length) && (AV.isInt IntKind.u64 ((List.map u ds).getD (0 + (IntKind.i64.wrap (i + 1)).toNat * 1) J) && true) then bif decide (0 ≤ IntKind.u64.wrap (32 - s)) then bif decide (0 ≤ i) && decide (i < (↑17 : Int)) then bif decide (0 + i.toNat * 1 + 1 ≤ (cs.set (0 + i.toNat * 1) (((List.map u ds).getD (0 + i.toNat * 1) J).toInt.fdiv (2 ^ min s.toNat IntKind.u64.bits))).length) then exec (E243_0) (d + 59) 0 (.loop (rnd Tryz.f243 0)) { tmps := (J :: u s :: i64 n :: AV.ptr 0 0 :: J :: J :: AV.ptr 1 0 :: AV.ptr 2 0 :: J :: i64 nn :: i64 (IntKind.i64.wrap (i + 1)) :: jn 28 []), defers := [], fn := 243, foot := 0, round := false } [AObj.ints IntKind.u64 ds, AObj.cells (D17c 0 0 0 0 0 0 0 0 0 0 0 0 0 0 0 0 0), AObj.ints IntKind.u64 ((cs.set (0 + i.toNat * 1) (((List.map u ds).getD (0 + i.toNat * 1) J).toInt.fdiv (2 ^ min s.toNat IntKind.u64.bits))).set (0 + i.toNat * 1) (IntKind.u64.wrap (↑(BitVec.ofInt IntKind.u64.bits ((List.map u (cs.set (0 + i.toNat * 1) (((List.map u ds).getD (0 + i.toNat * 1) J).toInt.fdiv (2 ^ min s.toNat IntKind.u64.bits)))).getD (0 + i.toNat * 1) J).toInt ||| BitVec.ofInt IntKind.u64.bits (IntKind.u64.wrap (↑(BitVec.ofInt IntKind.u64.bits (IntKind.u64.wrap (((List.map u ds).getD (0 + (IntKind.i64.wrap (i + 1)).toNat * 1) J).toInt * 2 ^ min (IntKind.u64.wrap (32 - s)).toNat IntKind.u64.bits)) &&& BitVec.ofInt IntKind.u64.bits 4294967295).toNat : Int))).toNat : Int)))] X (bK E243_0 (m + 60) 0 k) else none else none else none else none else none else none else none else exec (E243_0) (d + 59) 0 (.loop (rnd Tryz.f243 0)) { tmps := (J :: u s :: i64 n :: AV.ptr 0 0 :: J :: J :: AV.ptr 1 0 :: AV.ptr 2 0 :: J :: i64 nn :: i64 (IntKind.i64.wrap (i + 1)) :: jn 28 []), defers := [], fn := 243, foot := 0, round := false } [AObj.ints IntKind.u64 ds, AObj.cells (D17c 0 0 0 0 0 0 0 0 0 0 0 0 0 0 0 0 0), AObj.ints IntKind.u64 (cs.set (0 + i.toNat * 1) (((List.map u ds).getD (0 + i.toNat * 1) J).toInt.fdiv (2 ^ min s.toNat IntKind.u64.bits)))] X (bK E243_0 (m + 60) 0 k) else none else none else none else none else none else k AExit.normal { tmps := (jn 6 (AV.ptr 0 0 :: AV.ptr 1 0 :: jn 31 [])), defers := [], fn := 243, foot := 0, round := false } [AObj.cells (D17c 0 0 0 0 0 0 0 0 0 0 0 0 0 0 0 0 0), AObj.ints IntKind.u64 cs] := (exec_loop _ _ _ _ _ _ _ _).trans (TL243_0r s n nn i cs ds d m (fun a os X k => exec (E243_0) (d + 59) 0 (.loop (rnd Tryz.f243 0)) a os X k) X k)
noncomputable def E243 (h243_0 : RB) : Env := En 243 [] [] [] [(0, bShaped A243_0 [] (some [1, 2, 3, 6, 7, 9, 10]) h243_0)] [] []
def a243 : Alt := ⟨false, sh17, []⟩
def A243 : List Alt := [a243]
theorem T243 (h243_0 : RB) (d0 d1 d2 d3 d4 d5 d6 d7 d8 d9 d10 d11 d12 d13 d14 d15 d16 : Int) (s n : Int) (X : Type) (k : AEnd → List AObj → Option X)
    (x1 : RBE) (e1 : h243_0 (blk Tryz.f243 0) { tmps := (J :: u s :: i64 n :: AV.ptr 0 0 :: J :: J :: AV.ptr 1 0 :: AV.ptr 2 0 :: J :: i64 n :: i64 0 :: jn 28 []), defers := [], fn := 243, foot := 0, round := false } [AObj.cells (D17c d0 d1 d2 d3 d4 d5 d6 d7 d8 d9 d10 d11 d12 d13 d14 d15 d16), AObj.cells (D17c 0 0 0 0 0 0 0 0 0 0 0 0 0 0 0 0 0), AObj.cells (D17c 0 0 0 0 0 0 0 0 0 0 0 0 0 0 0 0 0)] = x1) :
    body (E243 h243_0) 60 243 Tryz.f243 (cod Tryz.f243) [D17 d0 d1 d2 d3 d4 d5 d6 d7 d8 d9 d10 d11 d12 d13 d14 d15 d16, u s, i64 n] [] X k =
    bif okB a243_0 243 0 false x1 then bif dm17 ((bOs x1).getD 1 AObj.dead).intsOf then k (.ret (AV.agg (ld17 ((bOs x1).getD 1 AObj.dead).intsOf))) [] else none else none := by subst e1; kernel_rfl
noncomputable def r243 : RF := runR (body (E243 h243_0) 60 243 Tryz.f243 (cod Tryz.f243))
theorem q243 (args : List AV) (os : List AObj) : r243 args os = body (E243 h243_0) 60 243 Tryz.f243 (cod Tryz.f243) args os _ fin := qR _ _ _
theorem ok243 : SpecOK P 243 (shaped A243 r243) := by
  unfold r243 E243
  refine okF 60 ?_ ?_ ?_ Tryz.func243 ?_ ?_ _
  · exact tnil
  · exact trivial
  · exact (hcons okb243_0 hnil)
  · kernel_rfl
  · kernel_rfl
end Go.Proofs.Vm
end
section
open Go Go.Abs
namespace Go.Proofs.Vm
set_option maxRecDepth 100000
set_option maxHeartbeats 0
noncomputable def E241_0 : Env := En 241 [(0, [0, 2, 3, 4, 6, 11, 15, 16], [0, 3, 4, 11])] [] [] [] [] [] [(0, [0, 1])]
def a241_0 : BAlt := ⟨.normal, (.ptr 0 0 :: .junk :: .junk :: shI :: shI :: sj 6 (sh6 :: sj 77 [])), [.ints .u64], []⟩
def A241_0 : List BAlt := [a241_0]
noncomputable def h241_0 : RB := runB (blockRun (E241_0) (fun _ _ => 200) 0)
theorem q241_0 (c : Code) (a : AAct) (os : List AObj) : h241_0 c a os = exec (E241_0) ((fun _ _ => 200) a os) 0 (.block 0 c) a os _ finB := qB _ _ _ _ _ _
theorem k241_0 : blk Tryz.f241 0 = .loop (rnd Tryz.f241 0) := by kernel_rfl
theorem p241_0 (T : List AV) (os : List AObj) (F : Nat) (hF : (fun _ _ => 200) (⟨T, [], 241, 1, false⟩ : AAct) os = F + 1) : h241_0 (blk Tryz.f241 0) ⟨T, [], 241, 1, false⟩ os = exec (E241_0) F 0 (.loop (rnd Tryz.f241 0)) ⟨T, [], 241, 1, false⟩ os _ (bK (E241_0) F 0 finB) := by
  rw [q241_0, hF, exec_block (by kernel_rfl), k241_0]
theorem okb241_0 : BlockOK P 241 0 (bShaped A241_0 [] (some [0, 2, 3, 4, 6, 11, 15, 16]) h241_0) := by
  unfold h241_0 E241_0
  refine okBl _ ?_ ?_ ?_ _ _ _
  · exact tnil
  · exact trivial
  · exact hnil
theorem TL241_0r (g at_ n nn i c : Int) (cs vs : List Int) (d m : Nat) (L : AAct → List AObj → ∀ X : Type, (AExit → AAct → List AObj → Option X) → Option X) (X : Type) (k : AExit → AAct → List AObj → Option X) :
    roundL (E241_0) (d + 59) 0 (rnd Tryz.f241 0) L ⟨(.ptr 0 0 :: J :: u g :: i64 at_ :: i64 nn :: J :: .ptr 1 0 :: jn 4 (u c :: jn 3 (i64 n :: i64 i :: jn 72 []))), [], 241, 1, false⟩ [.ints .u64 cs, .ints .u64 vs] X (bK (E241_0) (m + 60) 0 k) =
    bif ilt i n then bif decide (0 ≤ i) && decide (i < (↑17 : Int)) then bif decide (0 + i.toNat * 1 < (List.map u vs).length) && (AV.isInt IntKind.u64 ((List.map u vs).getD (0 + i.toNat * 1) J) && true) then bif decide (0 ≤ IntKind.i64.wrap (at_ + i)) && decide (IntKind.i64.wrap (at_ + i) < (↑17 : Int)) then bif decide (0 + (IntKind.i64.wrap (at_ + i)).toNat * 1 < (List.map u cs).length) && (AV.isInt IntKind.u64 ((List.map u cs).getD (0 + (IntKind.i64.wrap (at_ + i)).toNat * 1) J) && true) then bif ilt ((List.map u cs).getD (0 + (IntKind.i64.wrap (at_ + i)).toNat * 1) J).toInt (IntKind.u64.wrap (↑(BitVec.ofInt IntKind.u64.bits (IntKind.u64.wrap (c + IntKind.u64.wrap (g * ((List.map u vs).getD (0 + i.toNat * 1) J).toInt))) &&& BitVec.ofInt IntKind.u64.bits 4294967295).toNat : Int)) then bif decide (0 ≤ IntKind.i64.wrap (at_ + i)) && decide (IntKind.i64.wrap (at_ + i) < (↑17 : Int)) then bif decide (0 + (IntKind.i64.wrap (at_ + i)).toNat * 1 < (List.map u cs).length) && (AV.isInt IntKind.u64 ((List.map u cs).getD (0 + (IntKind.i64.wrap (at_ + i)).toNat * 1) J) && true) then bif decide (0 ≤ IntKind.i64.wrap (at_ + i)) && decide (IntKind.i64.wrap (at_ + i) < (↑17 : Int)) then bif decide (0 + (IntKind.i64.wrap (at_ + i)).toNat * 1 + 1 ≤ cs.length) then bif decide (0 ≤ IntKind.i64.wrap (at_ + i)) && decide (IntKind.i64.wrap (at_ + i) < (↑17 : Int)) then bif decide (0 + (IntKind.i64.wrap (at_ + i)).toNat * 1 < (List.map u (cs.set (0 + (IntKind.i64.wrap (at_ + i)).toNat * 1) (IntKind.u64.wrap (((List.map u cs).getD (0 + (IntKind.i64.wrap (at_ + i)).toNat * 1) J).toInt + 4294967296)))).length) && (AV.isInt IntKind.u64 ((List.map u (cs.set (0 + (IntKind.i64.wrap (at_ + i)).toNat * 1) (IntKind.u64.wrap (((List.map u cs).getD (0 + (IntKind.i64.wrap (at_ + i)).toNat * 1) J).toInt + 4294967296)))).getD (0 + (IntKind.i64.wrap (at_ + i)).toNat * 1) J) && true) then bif decide (0 ≤ IntKind.i64.wrap (at_ + i)) && decide (IntKind.i64.wrap (at_ + i) < (↑17 : Int)) then bif decide (0 + (IntKind.i64.wrap (at_ + i)).toNat * 1 + 1 ≤ (cs.set (0 + (IntKind.i64.wrap (at_ + i)).toNat * 1) (IntKind.u64.wrap (((List.map u cs).getD (0 + (IntKind.i64.wrap (at_ + i)).toNat * 1) J).toInt + 4294967296))).length) then L { tmps := (AV.ptr 0 0 :: J :: u g :: i64 at_ :: i64 nn :: J :: AV.ptr 1 0 :: jn 4 (u (IntKind.u64.wrap ((IntKind.u64.wrap (c + IntKind.u64.wrap (g * ((List.map u vs).getD (0 + i.toNat * 1) J).toInt))).fdiv (2 ^ min (Int.toNat 32) IntKind.u64.bits) + 1)) :: jn 3 (i64 n :: i64 (IntKind.i64.wrap (i + 1)) :: jn 72 []))), defers := [], fn := 241, foot := 1, round := false } [AObj.ints IntKind.u64 ((cs.set (0 + (IntKind.i64.wrap (at_ + i)).toNat * 1) (IntKind.u64.wrap (((List.map u cs).getD (0 + (IntKind.i64.wrap (at_ + i)).toNat * 1) J).toInt + 4294967296))).set (0 + (IntKind.i64.wrap (at_ + i)).toNat * 1) (IntKind.u64.wrap (((List.map u (cs.set (0 + (IntKind.i64.wrap (at_ + i)).toNat * 1) (IntKind.u64.wrap (((List.map u cs).getD (0 + (IntKind.i64.wrap (at_ + i)).toNat * 1) J).toInt + 4294967296)))).getD (0 + (IntKind.i64.wrap (at_ + i)).toNat * 1) J).toInt - IntKind.u64.wrap (↑(BitVec.ofInt IntKind.u64.bits (IntKind.u64.wrap (c + IntKind.u64.wrap (g * ((List.map u vs).getD (0 + i.toNat * 1) J).toInt))) &&& BitVec.ofInt IntKind.u64.bits 4294967295).toNat : Int)))), AObj.ints IntKind.u64 vs] X (bK E241_0 (m + 60) 0 k) else none else none else none else none else none else none else none else none else bif decide (0 ≤ IntKind.i64.wrap (at_ + i)) && decide (IntKind.i64.wrap (at_ + i) < (↑17 : Int)) then bif decide (0 + (IntKind.i64.wrap (at_ + i)).toNat * 1 < (List.map u cs).length) && (AV.isInt IntKind.u64 ((List.map u cs).getD (0 + (IntKind.i64.wrap (at_ + i)).toNat * 1) J) && true) then bif decide (0 ≤ IntKind.i64.wrap (at_ + i)) && decide (IntKind.i64.wrap (at_ + i) < (↑17 : Int)) then bif decide (0 + (IntKind.i64.wrap (at_ + i)).toNat * 1 + 1 ≤ cs.length) then L { tmps := (AV.ptr 0 0 :: J :: u g :: i64 at_ :: i64 nn :: J :: AV.ptr 1 0 :: jn 4 (u ((IntKind.u64.wrap (c + IntKind.u64.wrap (g * ((List.map u vs).getD (0 + i.toNat * 1) J).toInt))).fdiv (2 ^ min (Int.toNat 32) IntKind.u64.bits)) :: jn 3 (i64 n :: i64 (IntKind.i64.wrap (i + 1)) :: jn 72 []))), defers := [], fn := 241, foot := 1, round := false } [AObj.ints IntKind.u64 (cs.set (0 + (IntKind.i64.wrap (at_ + i)).toNat * 1) (IntKind.u64.wrap (((List.map u cs).getD (0 + (IntKind.i64.wrap (at_ + i)).toNat * 1) J).toInt - IntKind.u64.wrap (↑(BitVec.ofInt IntKind.u64.bits (IntKind.u64.wrap (c + IntKind.u64.wrap (g * ((List.map u vs).getD (0 + i.toNat * 1) J).toInt))) &&& BitVec.ofInt IntKind.u64.bits 4294967295).toNat : Int)))), AObj.ints IntKind.u64 vs] X (bK E241_0 (m + 60) 0 k) else none else none else none else none else none else none else none else none else k AExit.normal { tmps := (AV.ptr 0 0 :: J :: J :: i64 at_ :: i64 nn :: jn 6 (u c :: jn 77 [])), defers := [], fn := 241, foot := 1, round := false } [AObj.ints IntKind.u64 cs] := by kernel_rfl
theorem T241_0r (g at_ n nn i c : Int) (cs vs : List Int) (d m : Nat) (X : Type) (k : AExit → AAct → List AObj → Option X) :
    exec (E241_0) (d + 60) 0 (.loop (rnd Tryz.f241 0)) ⟨(.ptr 0 0 :: J :: u g :: i64 at_ :: i64 nn :: J :: .ptr 1 0 :: jn 4 (u c :: jn 3 (i64 n :: i64 i :: jn 72 []))), [], 241, 1, false⟩ [.ints .u64 cs, .ints .u64 vs] X (bK (E241_0) (m + 60) 0 k) =
    bif ilt i n then bif decide (0 ≤ i) && decide (i < (↑17 : Int)) then bif decide (0 + i.toNat * 1 < (List.map u vs).length) && (AV.isInt IntKind.u64 ((List.map u vs).getD (0 + i.toNat * 1) J) && true) then bif decide (0 ≤ IntKind.i64.wrap (at_ + i)) && decide (IntKind.i64.wrap (at_ + i) < (↑17 : Int)) then bif decide (0 + (IntKind.i64.wrap (at_ + i)).toNat * 1 < (List.map u cs).length) && (AV.isInt IntKind.u64 ((List.map u cs).getD (0 + (IntKind.i64.wrap (at_ + i)).toNat * 1) J) && true) then bif ilt ((List.map u cs).getD (0 + (IntKind.i64.wrap (at_ + i)).toNat * 1) J).toInt (IntKind.u64.wrap (↑(BitVec.ofInt IntKind.u64.bits (IntKind.u64.wrap (c + IntKind.u64.wrap (g * ((List.map u vs).getD (0 + i.toNat * 1) J).toInt))) &&& BitVec.ofInt IntKind.u64.bits 4294967295).toNat : Int)) then bif decide (0 ≤ IntKind.i64.wrap (at_ + i)) && decide (IntKind.i64.wrap (at_ + i) < (↑17 : Int)) then bif decide (0 + (IntKind.i64.wrap (at_ + i)).toNat * 1 < (List.map u cs).length) && (AV.isInt IntKind.u64 ((List.map u cs).getD (0 + (IntKind.i64.wrap (at_ + i)).toNat * 1) J) && true) then bif decide (0 ≤ IntKind.i64.wrap (at_ + i)) && decide (IntKind.i64.wrap (at_ + i) < (↑17 : Int)) then bif decide (0 + (IntKind.i64.wrap (at_ + i)).toNat * 1 + 1 ≤ cs.length) then bif decide (0 ≤ IntKind.i64.wrap (at_ + i)) && decide (IntKind.i64.wrap (at_ + i) < (↑17 : Int)) then bif decide (0 + (IntKind.i64.wrap (at_ + i)).toNat * 1 < (List.map u (cs.set (0 + (IntKind.i64.wrap (at_ + i)).toNat * 1) (IntKind.u64.wrap (((List.map u cs).getD (0 + (IntKind.i64.wrap (at_ + i)).toNat * 1) J).toInt + 4294967296)))).length) && (AV.isInt IntKind.u64 ((List.map u (cs.set (0 + (IntKind.i64.wrap (at_ + i)).toNat * 1) (IntKind.u64.wrap (((List.map u cs).getD (0 + (IntKind.i64.wrap (at_ + i)).toNat * 1) J).toInt + 4294967296)))).getD (0 + (IntKind.i64.wrap (at_ + i)).toNat * 1) J) && true) then bif decide (0 ≤ IntKind.i64.wrap (at_ + i)) && decide (IntKind.i64.wrap (at_ + i) < (↑17 : Int)) then bif decide (0 + (IntKind.i64.wrap (at_ + i)).toNat * 1 + 1 ≤ (cs.set (0 + (IntKind.i64.wrap (at_ + i)).toNat * 1) (IntKind.u64.wrap (((List.map u cs).getD (0 + (IntKind.i64.wrap (at_ + i)).toNat * 1) J).toInt + 4294967296))).length) then exec (E241_0) (d + 59) 0 (.loop (rnd Tryz.f241 0)) { tmps := (AV.ptr 0 0 :: J :: u g :: i64 at_ :: i64 nn :: J :: AV.ptr 1 0 :: jn 4 (u (IntKind.u64.wrap ((IntKind.u64.wrap (c + IntKind.u64.wrap (g * ((List.map u vs).getD (0 + i.toNat * 1) J).toInt))).fdiv (2 ^ min (Int.toNat 32) IntKind.u64.bits) + 1)) :: jn 3 (i64 n :: i64 (IntKind.i64.wrap (i + 1)) :: jn 72 []))), defers := [], fn := 241, foot := 1, round := false } [AObj.ints IntKind.u64 ((cs.set (0 + (IntKind.i64.wrap (at_ + i)).toNat * 1) (IntKind.u64.wrap (((List.map u cs).getD (0 + (IntKind.i64.wrap (at_ + i)).toNat * 1) J).toInt + 4294967296))).set (0 + (IntKind.i64.wrap (at_ + i)).toNat * 1) (IntKind.u64.wrap (((List.map u (cs.set (0 + (IntKind.i64.wrap (at_ + i)).toNat * 1) (IntKind.u64.wrap (((List.map u cs).getD (0 + (IntKind.i64.wrap (at_ + i)).toNat * 1) J).toInt + 4294967296)))).getD (0 + (IntKind.i64.wrap (at_ + i)).toNat * 1) J).toInt - IntKind.u64.wrap (↑(BitVec.ofInt IntKind.u64.bits (IntKind.u64.wrap (c + IntKind.u64.wrap (g * ((List.map u vs).getD (0 + i.toNat * 1) J).toInt))) &&& BitVec.ofInt IntKind.u64.bits 4294967295).toNat : Int)))), AObj.ints IntKind.u64 vs] X (bK E241_0 (m + 60) 0 k) else none else none else none else none else none else none else none else none else bif decide (0 ≤ IntKind.i64.wrap (at_ + i)) && decide (IntKind.i64.wrap (at_ + i) < (↑17 : Int)) then bif decide (0 + (IntKind.i64.wrap (at_ + i)).toNat * 1 < (List.map u cs).length) && (AV.isInt IntKind.u64 ((List.map u cs).getD (0 + (IntKind.i64.wrap (at_ + i)).toNat * 1) J) && true) then bif decide (0 ≤ IntKind.i64.wrap (at_ + i)) && decide (IntKind.i64.wrap (at_ + i) < (↑17 : Int)) then bif decide (0 + (IntKind.i64.wrap (at_ + i)).toNat * 1 + 1 ≤ cs.length) then exec (E241_0) (d + 59) 0 (.loop (rnd Tryz.f241 0)) { tmps := (AV.ptr 0 0 :: J :: u g :: i64 at_ :: i64 nn :: J :: AV.ptr 1 0 :: jn 4 (u ((IntKind.u64.wrap (c + IntKind.u64.wrap (g * ((List.map u vs).getD (0 + i.toNat * 1) J).toInt))).fdiv (2 ^ min (Int.toNat 32) IntKind.u64.bits)) :: jn 3 (i64 n :: i64 (IntKind.i64.wrap (i + 1)) :: jn 72 []))), defers := [], fn := 241, foot := 1, round := false } [AObj.ints IntKind.u64 (cs.set (0 + (IntKind.i64.wrap (at_ + i)).toNat * 1) (IntKind.u64.wrap (((List.map u cs).getD (0 + (IntKind.i64.wrap (at_ + i)).toNat * 1) J).toInt - IntKind.u64.wrap (↑(BitVec.ofInt IntKind.u64.bits (IntKind.u64.wrap (c + IntKind.u64.wrap (g * ((List.map u vs).getD (0 + i.toNat * 1) J).toInt))) &&& BitVec.ofInt IntKind.u64.bits 4294967295).toNat : Int)))), AObj.ints IntKind.u64 vs] X (bK E241_0 (m + 60) 0 k) else none else none else none else none else none else none else none else none else k AExit.normal { tmps := (AV.ptr 0 0 :: J :: J :: i64 at_ :: i64 nn :: jn 6 (u c :: jn 77 [])), defers := [], fn := 241, foot := 1, round := false } [AObj.ints IntKind.u64 cs] := (exec_loop _ _ _ _ _ _ _ _).trans (TL241_0r g at_ n nn i c cs vs d m (fun a os X k => exec (E241_0) (d + 59) 0 (.loop (rnd Tryz.f241 0)) a os X k) X k)
noncomputable def E241 (h241_0 : RB) : Env := En 241 [] [] [] [(0, bShaped A241_0 [] (some [0, 2, 3, 4, 6, 11, 15, 16]) h241_0)] [] []
def a241 : Alt := ⟨false, shB, [.ints .u64]⟩
def A241 : List Alt := [a241]
theorem T241 (h241_0 : RB) (v0 v1 v2 v3 v4 v5 v6 v7 v8 v9 v10 v11 v12 v13 v14 v15 v16 : Int) (g at_ n : Int) (ds : List Int) (X : Type) (k : AEnd → List AObj → Option X)
    (x1 : RBE) (e1 : h241_0 (blk Tryz.f241 0) { tmps := (AV.ptr 0 0 :: J :: u g :: i64 at_ :: i64 n :: J :: AV.ptr 1 0 :: jn 4 (u 0 :: jn 3 (i64 n :: i64 0 :: jn 72 []))), defers := [], fn := 241, foot := 1, round := false } [AObj.ints IntKind.u64 ds, AObj.cells (D17c v0 v1 v2 v3 v4 v5 v6 v7 v8 v9 v10 v11 v12 v13 v14 v15 v16)] = x1) :
    body (E241 h241_0) 60 241 Tryz.f241 (cod Tryz.f241) [.ptr 0 0, D17 v0 v1 v2 v3 v4 v5 v6 v7 v8 v9 v10 v11 v12 v13 v14 v15 v16, u g, i64 at_, i64 n] [.ints .u64 ds] X k =
    bif okB a241_0 241 1 false x1 then bif decide (0 ≤ IntKind.i64.wrap (((bT x1).getD 3 J).toInt + ((bT x1).getD 4 J).toInt)) && decide (IntKind.i64.wrap (((bT x1).getD 3 J).toInt + ((bT x1).getD 4 J).toInt) < (↑17 : Int)) then bif decide (0 + (IntKind.i64.wrap (((bT x1).getD 3 J).toInt + ((bT x1).getD 4 J).toInt)).toNat * 1 < (List.map u ((bOs x1).getD 0 AObj.dead).intsOf).length) && (AV.isInt IntKind.u64 ((List.map u ((bOs x1).getD 0 AObj.dead).intsOf).getD (0 + (IntKind.i64.wrap (((bT x1).getD 3 J).toInt + ((bT x1).getD 4 J).toInt)).toNat * 1) J) && true) then bif decide (0 ≤ IntKind.i64.wrap (((bT x1).getD 3 J).toInt + ((bT x1).getD 4 J).toInt)) && decide (IntKind.i64.wrap (((bT x1).getD 3 J).toInt + ((bT x1).getD 4 J).toInt) < (↑17 : Int)) then bif decide (0 + (IntKind.i64.wrap (((bT x1).getD 3 J).toInt + ((bT x1).getD 4 J).toInt)).toNat * 1 < (List.map u ((bOs x1).getD 0 AObj.dead).intsOf).length) && (AV.isInt IntKind.u64 ((List.map u ((bOs x1).getD 0 AObj.dead).intsOf).getD (0 + (IntKind.i64.wrap (((bT x1).getD 3 J).toInt + ((bT x1).getD 4 J).toInt)).toNat * 1) J) && true) then bif decide (0 ≤ IntKind.i64.wrap (((bT x1).getD 3 J).toInt + ((bT x1).getD 4 J).toInt)) && decide (IntKind.i64.wrap (((bT x1).getD 3 J).toInt + ((bT x1).getD 4 J).toInt) < (↑17 : Int)) then bif decide (0 + (IntKind.i64.wrap (((bT x1).getD 3 J).toInt + ((bT x1).getD 4 J).toInt)).toNat * 1 + 1 ≤ ((bOs x1).getD 0 AObj.dead).intsOf.length) then k (.ret (bo (ilt ((List.map u ((bOs x1).getD 0 AObj.dead).intsOf).getD (0 + (IntKind.i64.wrap (((bT x1).getD 3 J).toInt + ((bT x1).getD 4 J).toInt)).toNat * 1) J).toInt ((bT x1).getD 11 J).toInt))) [AObj.ints IntKind.u64 (((bOs x1).getD 0 AObj.dead).intsOf.set (0 + (IntKind.i64.wrap (((bT x1).getD 3 J).toInt + ((bT x1).getD 4 J).toInt)).toNat * 1) (IntKind.u64.wrap (↑(BitVec.ofInt IntKind.u64.bits (IntKind.u64.wrap (((List.map u ((bOs x1).getD 0 AObj.dead).intsOf).getD (0 + (IntKind.i64.wrap (((bT x1).getD 3 J).toInt + ((bT x1).getD 4 J).toInt)).toNat * 1) J).toInt - ((bT x1).getD 11 J).toInt)) &&& BitVec.ofInt IntKind.u64.bits 4294967295).toNat : Int)))] else none else none else none else none else none else none else none := by subst e1; kernel_rfl
noncomputable def r241 : RF := runR (body (E241 h241_0) 60 241 Tryz.f241 (cod Tryz.f241))
theorem q241 (args : List AV) (os : List AObj) : r241 args os = body (E241 h241_0) 60 241 Tryz.f241 (cod Tryz.f241) args os _ fin := qR _ _ _
theorem ok241 : SpecOK P 241 (shaped A241 r241) := by
  unfold r241 E241
  refine okF 60 ?_ ?_ ?_ Tryz.func241 ?_ ?_ _
  · exact tnil
  · exact trivial
  · exact (hcons okb241_0 hnil)
  · kernel_rfl
  · kernel_rfl
noncomputable def E242_0 : Env := En 242 [(0, [0, 2, 3, 5, 8, 10, 11], [0, 2, 3, 8])] [] [] [] [] [] [(0, [0, 1])]
def a242_0 : BAlt := ⟨.normal, (.ptr 0 0 :: .junk :: shI :: shI :: sj 4 (sh6 :: sj 45 [])), [.ints .u64], []⟩
def A242_0 : List BAlt := [a242_0]
noncomputable def h242_0 : RB := runB (blockRun (E242_0) (fun _ _ => 200) 0)
theorem q242_0 (c : Code) (a : AAct) (os : List AObj) : h242_0 c a os = exec (E242_0) ((fun _ _ => 200) a os) 0 (.block 0 c) a os _ finB := qB _ _ _ _ _ _
theorem k242_0 : blk Tryz.f242 0 = .loop (rnd Tryz.f242 0) := by kernel_rfl
theorem p242_0 (T : List AV) (os : List AObj) (F : Nat) (hF : (fun _ _ => 200) (⟨T, [], 242, 1, false⟩ : AAct) os = F + 1) : h242_0 (blk Tryz.f242 0) ⟨T, [], 242, 1, false⟩ os = exec (E242_0) F 0 (.loop (rnd Tryz.f242 0)) ⟨T, [], 242, 1, false⟩ os _ (bK (E242_0) F 0 finB) := by
  rw [q242_0, hF, exec_block (by kernel_rfl), k242_0]
theorem okb242_0 : BlockOK P 242 0 (bShaped A242_0 [] (some [0, 2, 3, 5, 8, 10, 11]) h242_0) := by
  unfold h242_0 E242_0
  refine okBl _ ?_ ?_ ?_ _ _ _
  · exact tnil
  · exact trivial
  · exact hnil
theorem TL242_0r (at_ n nn i c : Int) (cs vs : List Int) (d m : Nat) (L : AAct → List AObj → ∀ X : Type, (AExit → AAct → List AObj → Option X) → Option X) (X : Type) (k : AExit → AAct → List AObj → Option X) :
    roundL (E242_0) (d + 59) 0 (rnd Tryz.f242 0) L ⟨(.ptr 0 0 :: J :: i64 at_ :: i64 nn :: J :: .ptr 1 0 :: J :: J :: u c :: J :: i64 n :: i64 i :: jn 42 []), [], 242, 1, false⟩ [.ints .u64 cs, .ints .u64 vs] X (bK (E242_0) (m + 60) 0 k) =
    bif ilt i n then bif decide (0 ≤ IntKind.i64.wrap (at_ + i)) && decide (IntKind.i64.wrap (at_ + i) < (↑17 : Int)) then bif decide (0 + (IntKind.i64.wrap (at_ + i)).toNat * 1 < (List.map u cs).length) && (AV.isInt IntKind.u64 ((List.map u cs).getD (0 + (IntKind.i64.wrap (at_ + i)).toNat * 1) J) && true) then bif decide (0 ≤ i) && decide (i < (↑17 : Int)) then bif decide (0 + i.toNat * 1 < (List.map u vs).length) && (AV.isInt IntKind.u64 ((List.map u vs).getD (0 + i.toNat * 1) J) && true) then bif decide (0 ≤ IntKind.i64.wrap (at_ + i)) && decide (IntKind.i64.wrap (at_ + i) < (↑17 : Int)) then bif decide (0 + (IntKind.i64.wrap (at_ + i)).toNat * 1 + 1 ≤ cs.length) then L { tmps := (AV.ptr 0 0 :: J :: i64 at_ :: i64 nn :: J :: AV.ptr 1 0 :: J :: J :: u ((IntKind.u64.wrap (c + IntKind.u64.wrap (((List.map u cs).getD (0 + (IntKind.i64.wrap (at_ + i)).toNat * 1) J).toInt + ((List.map u vs).getD (0 + i.toNat * 1) J).toInt))).fdiv (2 ^ min (Int.toNat 32) IntKind.u64.bits)) :: J :: i64 n :: i64 (IntKind.i64.wrap (i + 1)) :: jn 42 []), defers := [], fn := 242, foot := 1, round := false } [AObj.ints IntKind.u64 (cs.set (0 + (IntKind.i64.wrap (at_ + i)).toNat * 1) (IntKind.u64.wrap (↑(BitVec.ofInt IntKind.u64.bits (IntKind.u64.wrap (c + IntKind.u64.wrap (((List.map u cs).getD (0 + (IntKind.i64.wrap (at_ + i)).toNat * 1) J).toInt + ((List.map u vs).getD (0 + i.toNat * 1) J).toInt))) &&& BitVec.ofInt IntKind.u64.bits 4294967295).toNat : Int))), AObj.ints IntKind.u64 vs] X (bK E242_0 (m + 60) 0 k) else none else none else none else none else none else none else k AExit.normal { tmps := (AV.ptr 0 0 :: J :: i64 at_ :: i64 nn :: jn 4 (u c :: jn 45 [])), defers := [], fn := 242, foot := 1, round := false } [AObj.ints IntKind.u64 cs] := by kernel_rfl
theorem T242_0r (at_ n nn i c : Int) (cs vs : List Int) (d m : Nat) (X : Type) (k : AExit → AAct → List AObj → Option X) :
    exec (E242_0) (d + 60) 0 (.loop (rnd Tryz.f242 0)) ⟨(.ptr 0 0 :: J :: i64 at_ :: i64 nn :: J :: .ptr 1 0 :: J :: J :: u c :: J :: i64 n :: i64 i :: jn 42 []), [], 242, 1, false⟩ [.ints .u64 cs, .ints .u64 vs] X (bK (E242_0) (m + 60) 0 k) =
    bif ilt i n then bif decide (0 ≤ IntKind.i64.wrap (at_ + i)) && decide (IntKind.i64.wrap (at_ + i) < (↑17 : Int)) then bif decide (0 + (IntKind.i64.wrap (at_ + i)).toNat * 1 < (List.map u cs).length) && (AV.isInt IntKind.u64 ((List.map u cs).getD (0 + (IntKind.i64.wrap (at_ + i)).toNat * 1) J) && true) then bif decide (0 ≤ i) && decide (i < (↑17 : Int)) then bif decide (0 + i.toNat * 1 < (List.map u vs).length) && (AV.isInt IntKind.u64 ((List.map u vs).getD (0 + i.toNat * 1) J) && true) then bif decide (0 ≤ IntKind.i64.wrap (at_ + i)) && decide (IntKind.i64.wrap (at_ + i) < (↑17 : Int)) then bif decide (0 + (IntKind.i64.wrap (at_ + i)).toNat * 1 + 1 ≤ cs.length) then exec (E242_0) (d + 59) 0 (.loop (rnd Tryz.f242 0)) { tmps := (AV.ptr 0 0 :: J :: i64 at_ :: i64 nn :: J :: AV.ptr 1 0 :: J :: J :: u ((IntKind.u64.wrap (c + IntKind.u64.wrap (((List.map u cs).getD (0 + (IntKind.i64.wrap (at_ + i)).toNat * 1) J).toInt + ((List.map u vs).getD (0 + i.toNat * 1) J).toInt))).fdiv (2 ^ min (Int.toNat 32) IntKind.u64.bits)) :: J :: i64 n :: i64 (IntKind.i64.wrap (i + 1)) :: jn 42 []), defers := [], fn := 242, foot := 1, round := false } [AObj.ints IntKind.u64 (cs.set (0 + (IntKind.i64.wrap (at_ + i)).toNat * 1) (IntKind.u64.wrap (↑(BitVec.ofInt IntKind.u64.bits (IntKind.u64.wrap (c + IntKind.u64.wrap (((List.map u cs).getD (0 + (IntKind.i64.wrap (at_ + i)).toNat * 1) J).toInt + ((List.map u vs).getD (0 + i.toNat * 1) J).toInt))) &&& BitVec.ofInt IntKind.u64.bits 4294967295).toNat : Int))), AObj.ints IntKind.u64 vs] X (bK E242_0 (m + 60) 0 k) else none else none else none else none else none else none else k AExit.normal { tmps := (AV.ptr 0 0 :: J :: i64 at_ :: i64 nn :: jn 4 (u c :: jn 45 [])), defers := [], fn := 242, foot := 1, round := false } [AObj.ints IntKind.u64 cs] := (exec_loop _ _ _ _ _ _ _ _).trans (TL242_0r at_ n nn i c cs vs d m (fun a os X k => exec (E242_0) (d + 59) 0 (.loop (rnd Tryz.f242 0)) a os X k) X k)
noncomputable def E242 (h242_0 : RB) : Env := En 242 [] [] [] [(0, bShaped A242_0 [] (some [0, 2, 3, 5, 8, 10, 11]) h242_0)] [] []
def a242 : Alt := ⟨false, .tup [], [.ints .u64]⟩
def A242 : List Alt := [a242]
theorem T242 (h242_0 : RB) (v0 v1 v2 v3 v4 v5 v6 v7 v8 v9 v10 v11 v12 v13 v14 v15 v16 : Int) (at_ n : Int) (ds : List Int) (X : Type) (k : AEnd → List AObj → Option X)
    (x1 : RBE) (e1 : h242_0 (blk Tryz.f242 0) { tmps := (AV.ptr 0 0 :: J :: i64 at_ :: i64 n :: J :: AV.ptr 1 0 :: J :: J :: u 0 :: J :: i64 n :: i64 0 :: jn 42 []), defers := [], fn := 242, foot := 1, round := false } [AObj.ints IntKind.u64 ds, AObj.cells (D17c v0 v1 v2 v3 v4 v5 v6 v7 v8 v9 v10 v11 v12 v13 v14 v15 v16)] = x1) :
    body (E242 h242_0) 60 242 Tryz.f242 (cod Tryz.f242) [.ptr 0 0, D17 v0 v1 v2 v3 v4 v5 v6 v7 v8 v9 v10 v11 v12 v13 v14 v15 v16, i64 at_, i64 n] [.ints .u64 ds] X k =
    bif okB a242_0 242 1 false x1 then bif decide (0 ≤ IntKind.i64.wrap (((bT x1).getD 2 J).toInt + ((bT x1).getD 3 J).toInt)) && decide (IntKind.i64.wrap (((bT x1).getD 2 J).toInt + ((bT x1).getD 3 J).toInt) < (↑17 : Int)) then bif decide (0 + (IntKind.i64.wrap (((bT x1).getD 2 J).toInt + ((bT x1).getD 3 J).toInt)).toNat * 1 < (List.map u ((bOs x1).getD 0 AObj.dead).intsOf).length) && (AV.isInt IntKind.u64 ((List.map u ((bOs x1).getD 0 AObj.dead).intsOf).getD (0 + (IntKind.i64.wrap (((bT x1).getD 2 J).toInt + ((bT x1).getD 3 J).toInt)).toNat * 1) J) && true) then bif decide (0 ≤ IntKind.i64.wrap (((bT x1).getD 2 J).toInt + ((bT x1).getD 3 J).toInt)) && decide (IntKind.i64.wrap (((bT x1).getD 2 J).toInt + ((bT x1).getD 3 J).toInt) < (↑17 : Int)) then bif decide (0 + (IntKind.i64.wrap (((bT x1).getD 2 J).toInt + ((bT x1).getD 3 J).toInt)).toNat * 1 + 1 ≤ ((bOs x1).getD 0 AObj.dead).intsOf.length) then k (.ret (.tuple [])) [AObj.ints IntKind.u64 (((bOs x1).getD 0 AObj.dead).intsOf.set (0 + (IntKind.i64.wrap (((bT x1).getD 2 J).toInt + ((bT x1).getD 3 J).toInt)).toNat * 1) (IntKind.u64.wrap (↑(BitVec.ofInt IntKind.u64.bits (IntKind.u64.wrap (((List.map u ((bOs x1).getD 0 AObj.dead).intsOf).getD (0 + (IntKind.i64.wrap (((bT x1).getD 2 J).toInt + ((bT x1).getD 3 J).toInt)).toNat * 1) J).toInt + ((bT x1).getD 8 J).toInt)) &&& BitVec.ofInt IntKind.u64.bits 4294967295).toNat : Int)))] else none else none else none else none else none := by subst e1; kernel_rfl
noncomputable def r242 : RF := runR (body (E242 h242_0) 60 242 Tryz.f242 (cod Tryz.f242))
theorem q242 (args : List AV) (os : List AObj) : r242 args os = body (E242 h242_0) 60 242 Tryz.f242 (cod Tryz.f242) args os _ fin := qR _ _ _
theorem ok242 : SpecOK P 242 (shaped A242 r242) := by
  unfold r242 E242
  refine okF 60 ?_ ?_ ?_ Tryz.func242 ?_ ?_ _
  · exact tnil
  · exact trivial
  · exact (hcons okb242_0 hnil)
  · kernel_rfl
  · kernel_rfl
end Go.Proofs.Vm
end
section
open Go Go.Abs
namespace Go.Proofs.Vm
set_option maxRecDepth 100000
set_option maxHeartbeats 0
noncomputable def E240_0 : Env := En 240 [(0, [2, 3, 4, 5, 10, 11], [10])] [] [] [] [] [] [(0, [0, 1])]
def a240_0 : BAlt := ⟨.normal, (sj 10 (sh6 :: sj 57 [])), [], []⟩
def A240_0 : List BAlt := [a240_0]
noncomputable def h240_0 : RB := runB (blockRun (E240_0) (fun _ _ => 200) 0)
theorem q240_0 (c : Code) (a : AAct) (os : List AObj) : h240_0 c a os = exec (E240_0) ((fun _ _ => 200) a os) 0 (.block 0 c) a os _ finB := qB _ _ _ _ _ _
theorem k240_0 : blk Tryz.f240 0 = .loop (rnd Tryz.f240 0) := by kernel_rfl
theorem p240_0 (T : List AV) (os : List AObj) (F : Nat) (hF : (fun _ _ => 200) (⟨T, [], 240, 0, false⟩ : AAct) os = F + 1) : h240_0 (blk Tryz.f240 0) ⟨T, [], 240, 0, false⟩ os = exec (E240_0) F 0 (.loop (rnd Tryz.f240 0)) ⟨T, [], 240, 0, false⟩ os _ (bK (E240_0) F 0 finB) := by
  rw [q240_0, hF, exec_block (by kernel_rfl), k240_0]
theorem okb240_0 : BlockOK P 240 0 (bShaped A240_0 [] (some [2, 3, 4, 5, 10, 11]) h240_0) := by
  unfold h240_0 E240_0
  refine okBl _ ?_ ?_ ?_ _ _ _
  · exact tnil
  · exact trivial
  · exact hnil
theorem TL240_0r (at_ n g left : Int) (ds vs : List Int) (d m : Nat) (L : AAct → List AObj → ∀ X : Type, (AExit → AAct → List AObj → Option X) → Option X) (X : Type) (k : AExit → AAct → List AObj → Option X) :
    roundL (E240_0) (d + 59) 0 (rnd Tryz.f240 0) L ⟨(J :: J :: i64 at_ :: i64 n :: .ptr 0 0 :: .ptr 1 0 :: jn 4 (u g :: u left :: jn 56 [])), [], 240, 0, false⟩ [.ints .u64 ds, .ints .u64 vs] X (bK (E240_0) (m + 60) 0 k) =
    bif ilt 4294967295 g then bif decide (0 ≤ IntKind.i64.wrap (n - 1)) && decide (IntKind.i64.wrap (n - 1) < (↑17 : Int)) then bif decide (0 + (IntKind.i64.wrap (n - 1)).toNat * 1 < (List.map u vs).length) && (AV.isInt IntKind.u64 ((List.map u vs).getD (0 + (IntKind.i64.wrap (n - 1)).toNat * 1) J) && true) then bif ilt 4294967295 (IntKind.u64.wrap (left + ((List.map u vs).getD (0 + (IntKind.i64.wrap (n - 1)).toNat * 1) J).toInt)) then k AExit.normal { tmps := (jn 10 (u (IntKind.u64.wrap (g - 1)) :: jn 57 [])), defers := [], fn := 240, foot := 0, round := false } [] else L { tmps := (J :: J :: i64 at_ :: i64 n :: AV.ptr 0 0 :: AV.ptr 1 0 :: jn 4 (u (IntKind.u64.wrap (g - 1)) :: u (IntKind.u64.wrap (left + ((List.map u vs).getD (0 + (IntKind.i64.wrap (n - 1)).toNat * 1) J).toInt)) :: jn 56 [])), defers := [], fn := 240, foot := 0, round := false } [AObj.ints IntKind.u64 ds, AObj.ints IntKind.u64 vs] X (bK E240_0 (m + 60) 0 k) else none else none else bif decide (0 ≤ IntKind.i64.wrap (n - 2)) && decide (IntKind.i64.wrap (n - 2) < (↑17 : Int)) then bif decide (0 + (IntKind.i64.wrap (n - 2)).toNat * 1 < (List.map u vs).length) && (AV.isInt IntKind.u64 ((List.map u vs).getD (0 + (IntKind.i64.wrap (n - 2)).toNat * 1) J) && true) then bif decide (0 ≤ IntKind.i64.wrap (IntKind.i64.wrap (at_ + n) - 2)) && decide (IntKind.i64.wrap (IntKind.i64.wrap (at_ + n) - 2) < (↑17 : Int)) then bif decide (0 + (IntKind.i64.wrap (IntKind.i64.wrap (at_ + n) - 2)).toNat * 1 < (List.map u ds).length) && (AV.isInt IntKind.u64 ((List.map u ds).getD (0 + (IntKind.i64.wrap (IntKind.i64.wrap (at_ + n) - 2)).toNat * 1) J) && true) then bif ilt (IntKind.u64.wrap (↑(BitVec.ofInt IntKind.u64.bits (IntKind.u64.wrap (left * 2 ^ min (Int.toNat 32) IntKind.u64.bits)) ||| BitVec.ofInt IntKind.u64.bits ((List.map u ds).getD (0 + (IntKind.i64.wrap (IntKind.i64.wrap (at_ + n) - 2)).toNat * 1) J).toInt).toNat : Int)) (IntKind.u64.wrap (g * ((List.map u vs).getD (0 + (IntKind.i64.wrap (n - 2)).toNat * 1) J).toInt)) then bif decide (0 ≤ IntKind.i64.wrap (n - 1)) && decide (IntKind.i64.wrap (n - 1) < (↑17 : Int)) then bif decide (0 + (IntKind.i64.wrap (n - 1)).toNat * 1 < (List.map u vs).length) && (AV.isInt IntKind.u64 ((List.map u vs).getD (0 + (IntKind.i64.wrap (n - 1)).toNat * 1) J) && true) then bif ilt 4294967295 (IntKind.u64.wrap (left + ((List.map u vs).getD (0 + (IntKind.i64.wrap (n - 1)).toNat * 1) J).toInt)) then k AExit.normal { tmps := (jn 10 (u (IntKind.u64.wrap (g - 1)) :: jn 57 [])), defers := [], fn := 240, foot := 0, round := false } [] else L { tmps := (J :: J :: i64 at_ :: i64 n :: AV.ptr 0 0 :: AV.ptr 1 0 :: jn 4 (u (IntKind.u64.wrap (g - 1)) :: u (IntKind.u64.wrap (left + ((List.map u vs).getD (0 + (IntKind.i64.wrap (n - 1)).toNat * 1) J).toInt)) :: jn 56 [])), defers := [], fn := 240, foot := 0, round := false } [AObj.ints IntKind.u64 ds, AObj.ints IntKind.u64 vs] X (bK E240_0 (m + 60) 0 k) else none else none else k AExit.normal { tmps := (jn 10 (u g :: jn 57 [])), defers := [], fn := 240, foot := 0, round := false } [] else none else none else none else none := by kernel_rfl
theorem T240_0r (at_ n g left : Int) (ds vs : List Int) (d m : Nat) (X : Type) (k : AExit → AAct → List AObj → Option X) :
    exec (E240_0) (d + 60) 0 (.loop (rnd Tryz.f240 0)) ⟨(J :: J :: i64 at_ :: i64 n :: .ptr 0 0 :: .ptr 1 0 :: jn 4 (u g :: u left :: jn 56 [])), [], 240, 0, false⟩ [.ints .u64 ds, .ints .u64 vs] X (bK (E240_0) (m + 60) 0 k) =
    bif ilt 4294967295 g then bif decide (0 ≤ IntKind.i64.wrap (n - 1)) && decide (IntKind.i64.wrap (n - 1) < (↑17 : Int)) then bif decide (0 + (IntKind.i64.wrap (n - 1)).toNat * 1 < (List.map u vs).length) && (AV.isInt IntKind.u64 ((List.map u vs).getD (0 + (IntKind.i64.wrap (n - 1)).toNat * 1) J) && true) then bif ilt 4294967295 (IntKind.u64.wrap (left + ((List.map u vs).getD (0 + (IntKind.i64.wrap (n - 1)).toNat * 1) J).toInt)) then k AExit.normal { tmps := (jn 10 (u (IntKind.u64.wrap (g - 1)) :: jn 57 [])), defers := [], fn := 240, foot := 0, round := false } [] else exec (E240_0) (d + 59) 0 (.loop (rnd Tryz.f240 0)) { tmps := (J :: J :: i64 at_ :: i64 n :: AV.ptr 0 0 :: AV.ptr 1 0 :: jn 4 (u (IntKind.u64.wrap (g - 1)) :: u (IntKind.u64.wrap (left + ((List.map u vs).getD (0 + (IntKind.i64.wrap (n - 1)).toNat * 1) J).toInt)) :: jn 56 [])), defers := [], fn := 240, foot := 0, round := false } [AObj.ints IntKind.u64 ds, AObj.ints IntKind.u64 vs] X (bK E240_0 (m + 60) 0 k) else none else none else bif decide (0 ≤ IntKind.i64.wrap (n - 2)) && decide (IntKind.i64.wrap (n - 2) < (↑17 : Int)) then bif decide (0 + (IntKind.i64.wrap (n - 2)).toNat * 1 < (List.map u vs).length) && (AV.isInt IntKind.u64 ((List.map u vs).getD (0 + (IntKind.i64.wrap (n - 2)).toNat * 1) J) && true) then bif decide (0 ≤ IntKind.i64.wrap (IntKind.i64.wrap (at_ + n) - 2)) && decide (IntKind.i64.wrap (IntKind.i64.wrap (at_ + n) - 2) < (↑17 : Int)) then bif decide (0 + (IntKind.i64.wrap (IntKind.i64.wrap (at_ + n) - 2)).toNat * 1 < (List.map u ds).length) && (AV.isInt IntKind.u64 ((List.map u ds).getD (0 + (IntKind.i64.wrap (IntKind.i64.wrap (at_ + n) - 2)).toNat * 1) J) && true) then bif ilt (IntKind.u64.wrap (↑(BitVec.ofInt IntKind.u64.bits (IntKind.u64.wrap (left * 2 ^ min (Int.toNat 32) IntKind.u64.bits)) ||| BitVec.ofInt IntKind.u64.bits ((List.map u ds).getD (0 + (IntKind.i64.wrap (IntKind.i64.wrap (at_ + n) - 2)).toNat * 1) J).toInt).toNat : Int)) (IntKind.u64.wrap (g * ((List.map u vs).getD (0 + (IntKind.i64.wrap (n - 2)).toNat * 1) J).toInt)) then bif decide (0 ≤ IntKind.i64.wrap (n - 1)) && decide (IntKind.i64.wrap (n - 1) < (↑17 : Int)) then bif decide (0 + (IntKind.i64.wrap (n - 1)).toNat * 1 < (List.map u vs).length) && (AV.isInt IntKind.u64 ((List.map u vs).getD (0 + (IntKind.i64.wrap (n - 1)).toNat * 1) J) && true) then bif ilt 4294967295 (IntKind.u64.wrap (left + ((List.map u vs).getD (0 + (IntKind.i64.wrap (n - 1)).toNat * 1) J).toInt)) then k AExit.normal { tmps := (jn 10 (u (IntKind.u64.wrap (g - 1)) :: jn 57 [])), defers := [], fn := 240, foot := 0, round := false } [] else exec (E240_0) (d + 59) 0 (.loop (rnd Tryz.f240 0)) { tmps := (J :: J :: i64 at_ :: i64 n :: AV.ptr 0 0 :: AV.ptr 1 0 :: jn 4 (u (IntKind.u64.wrap (g - 1)) :: u (IntKind.u64.wrap (left + ((List.map u vs).getD (0 + (IntKind.i64.wrap (n - 1)).toNat * 1) J).toInt)) :: jn 56 [])), defers := [], fn := 240, foot := 0, round := false } [AObj.ints IntKind.u64 ds, AObj.ints IntKind.u64 vs] X (bK E240_0 (m + 60) 0 k) else none else none else k AExit.normal { tmps := (jn 10 (u g :: jn 57 [])), defers := [], fn := 240, foot := 0, round := false } [] else none else none else none else none := (exec_loop _ _ _ _ _ _ _ _).trans (TL240_0r at_ n g left ds vs d m (fun a os X k => exec (E240_0) (d + 59) 0 (.loop (rnd Tryz.f240 0)) a os X k) X k)
noncomputable def E240 (h240_0 : RB) : Env := En 240 [] [] [] [(0, bShaped A240_0 [] (some [2, 3, 4, 5, 10, 11]) h240_0)] [] []
def a240 : Alt := ⟨false, sh6, []⟩
def A240 : List Alt := [a240]
theorem T240 (h240_0 : RB) (d0 d1 d2 d3 d4 d5 d6 d7 d8 d9 d10 d11 d12 d13 d14 d15 d16 : Int) (v0 v1 v2 v3 v4 v5 v6 v7 v8 v9 v10 v11 v12 v13 v14 v15 v16 : Int) (at_ n : Int) (X : Type) (k : AEnd → List AObj → Option X)
    (x1 : RBE) (e1 : h240_0 (blk Tryz.f240 0) { tmps := (J :: J :: i64 at_ :: i64 n :: AV.ptr 0 0 :: AV.ptr 1 0 :: jn 4 (u (IntKind.u64.wrap ((IntKind.u64.wrap (↑(BitVec.ofInt IntKind.u64.bits (IntKind.u64.wrap (([u d0, u d1, u d2, u d3, u d4, u d5, u d6, u d7, u d8, u d9, u d10, u d11, u d12, u d13, u d14, u d15, u d16].getD (0 + (IntKind.i64.wrap (at_ + n)).toNat * 1) J).toInt * 2 ^ min (Int.toNat 32) IntKind.u64.bits)) ||| BitVec.ofInt IntKind.u64.bits ([u d0, u d1, u d2, u d3, u d4, u d5, u d6, u d7, u d8, u d9, u d10, u d11, u d12, u d13, u d14, u d15, u d16].getD (0 + (IntKind.i64.wrap (IntKind.i64.wrap (at_ + n) - 1)).toNat * 1) J).toInt).toNat : Int)).tdiv ([u v0, u v1, u v2, u v3, u v4, u v5, u v6, u v7, u v8, u v9, u v10, u v11, u v12, u v13, u v14, u v15, u v16].getD (0 + (IntKind.i64.wrap (n - 1)).toNat * 1) J).toInt)) :: u ((IntKind.u64.wrap (↑(BitVec.ofInt IntKind.u64.bits (IntKind.u64.wrap (([u d0, u d1, u d2, u d3, u d4, u d5, u d6, u d7, u d8, u d9, u d10, u d11, u d12, u d13, u d14, u d15, u d16].getD (0 + (IntKind.i64.wrap (at_ + n)).toNat * 1) J).toInt * 2 ^ min (Int.toNat 32) IntKind.u64.bits)) ||| BitVec.ofInt IntKind.u64.bits ([u d0, u d1, u d2, u d3, u d4, u d5, u d6, u d7, u d8, u d9, u d10, u d11, u d12, u d13, u d14, u d15, u d16].getD (0 + (IntKind.i64.wrap (IntKind.i64.wrap (at_ + n) - 1)).toNat * 1) J).toInt).toNat : Int)).tmod ([u v0, u v1, u v2, u v3, u v4, u v5, u v6, u v7, u v8, u v9, u v10, u v11, u v12, u v13, u v14, u v15, u v16].getD (0 + (IntKind.i64.wrap (n - 1)).toNat * 1) J).toInt) :: jn 56 [])), defers := [], fn := 240, foot := 0, round := false } [AObj.cells (D17c d0 d1 d2 d3 d4 d5 d6 d7 d8 d9 d10 d11 d12 d13 d14 d15 d16), AObj.cells (D17c v0 v1 v2 v3 v4 v5 v6 v7 v8 v9 v10 v11 v12 v13 v14 v15 v16)] = x1) :
    body (E240 h240_0) 60 240 Tryz.f240 (cod Tryz.f240) [D17 d0 d1 d2 d3 d4 d5 d6 d7 d8 d9 d10 d11 d12 d13 d14 d15 d16, D17 v0 v1 v2 v3 v4 v5 v6 v7 v8 v9 v10 v11 v12 v13 v14 v15 v16, i64 at_, i64 n] [] X k =
    bif decide (0 ≤ IntKind.i64.wrap (at_ + n)) && decide (IntKind.i64.wrap (at_ + n) < (↑17 : Int)) then bif decide (0 + (IntKind.i64.wrap (at_ + n)).toNat * 1 < [u d0, u d1, u d2, u d3, u d4, u d5, u d6, u d7, u d8, u d9, u d10, u d11, u d12, u d13, u d14, u d15, u d16].length) && (AV.isInt IntKind.u64 ([u d0, u d1, u d2, u d3, u d4, u d5, u d6, u d7, u d8, u d9, u d10, u d11, u d12, u d13, u d14, u d15, u d16].getD (0 + (IntKind.i64.wrap (at_ + n)).toNat * 1) J) && true) then bif decide (0 ≤ IntKind.i64.wrap (IntKind.i64.wrap (at_ + n) - 1)) && decide (IntKind.i64.wrap (IntKind.i64.wrap (at_ + n) - 1) < (↑17 : Int)) then bif decide (0 + (IntKind.i64.wrap (IntKind.i64.wrap (at_ + n) - 1)).toNat * 1 < [u d0, u d1, u d2, u d3, u d4, u d5, u d6, u d7, u d8, u d9, u d10, u d11, u d12, u d13, u d14, u d15, u d16].length) && (AV.isInt IntKind.u64 ([u d0, u d1, u d2, u d3, u d4, u d5, u d6, u d7, u d8, u d9, u d10, u d11, u d12, u d13, u d14, u d15, u d16].getD (0 + (IntKind.i64.wrap (IntKind.i64.wrap (at_ + n) - 1)).toNat * 1) J) && true) then bif decide (0 ≤ IntKind.i64.wrap (n - 1)) && decide (IntKind.i64.wrap (n - 1) < (↑17 : Int)) then bif decide (0 + (IntKind.i64.wrap (n - 1)).toNat * 1 < [u v0, u v1, u v2, u v3, u v4, u v5, u v6, u v7, u v8, u v9, u v10, u v11, u v12, u v13, u v14, u v15, u v16].length) && (AV.isInt IntKind.u64 ([u v0, u v1, u v2, u v3, u v4, u v5, u v6, u v7, u v8, u v9, u v10, u v11, u v12, u v13, u v14, u v15, u v16].getD (0 + (IntKind.i64.wrap (n - 1)).toNat * 1) J) && true) then bif decide (([u v0, u v1, u v2, u v3, u v4, u v5, u v6, u v7, u v8, u v9, u v10, u v11, u v12, u v13, u v14, u v15, u v16].getD (0 + (IntKind.i64.wrap (n - 1)).toNat * 1) J).toInt ≠ 0) then bif decide (0 ≤ IntKind.i64.wrap (n - 1)) && decide (IntKind.i64.wrap (n - 1) < (↑17 : Int)) then bif decide (0 + (IntKind.i64.wrap (n - 1)).toNat * 1 < [u v0, u v1, u v2, u v3, u v4, u v5, u v6, u v7, u v8, u v9, u v10, u v11, u v12, u v13, u v14, u v15, u v16].length) && (AV.isInt IntKind.u64 ([u v0, u v1, u v2, u v3, u v4, u v5, u v6, u v7, u v8, u v9, u v10, u v11, u v12, u v13, u v14, u v15, u v16].getD (0 + (IntKind.i64.wrap (n - 1)).toNat * 1) J) && true) then bif decide (([u v0, u v1, u v2, u v3, u v4, u v5, u v6, u v7, u v8, u v9, u v10, u v11, u v12, u v13, u v14, u v15, u v16].getD (0 + (IntKind.i64.wrap (n - 1)).toNat * 1) J).toInt ≠ 0) then bif okB a240_0 240 0 false x1 then k (.ret (u ((bT x1).getD 10 J).toInt)) [] else none else none else none else none else none else none else none else none else none else none else none := by subst e1; kernel_rfl
noncomputable def r240 : RF := runR (body (E240 h240_0) 60 240 Tryz.f240 (cod Tryz.f240))
theorem q240 (args : List AV) (os : List AObj) : r240 args os = body (E240 h240_0) 60 240 Tryz.f240 (cod Tryz.f240) args os _ fin := qR _ _ _
theorem ok240 : SpecOK P 240 (shaped A240 r240) := by
  unfold r240 E240
  refine okF 60 ?_ ?_ ?_ Tryz.func240 ?_ ?_ _
  · exact tnil
  · exact trivial
  · exact (hcons okb240_0 hnil)
  · kernel_rfl
  · kernel_rfl
end Go.Proofs.Vm
end
section
open Go Go.Abs
namespace Go.Proofs.Vm
set_option maxRecDepth 100000
set_option maxHeartbeats 0
noncomputable def E174_1 : Env := En 174 [(1, [2, 3, 4, 5, 6, 7, 10], [2, 3, 4, 5, 6, 7, 10]), (3, [4, 5, 6, 7, 10, 11, 12, 13], [4, 5, 6, 7, 10, 11])] [] [] [] [] []
def a174_1 : BAlt := ⟨.normal, (.junk :: .junk :: .ptr 0 0 :: .ptr 1 0 :: .ptr 2 0 :: .ptr 3 0 :: .ptr 4 0 :: shI :: .junk :: .junk :: sh6 :: sj 69 []), [.cells sh17c, .cells sh17c, .cells sh17c, .cells sh17c, .cells sh17c], []⟩
def A174_1 : List BAlt := [a174_1]
noncomputable def h174_1 : RB := runB (blockRun (E174_1) (fun _ _ => 200) 1)
theorem q174_1 (c : Code) (a : AAct) (os : List AObj) : h174_1 c a os = exec (E174_1) ((fun _ _ => 200) a os) 1 (.block 1 c) a os _ finB := qB _ _ _ _ _ _
theorem k174_1 : blk Tryz.f174 1 = .loop (rnd Tryz.f174 1) := by kernel_rfl
theorem p174_1 (T : List AV) (os : List AObj) (F : Nat) (hF : (fun _ _ => 200) (⟨T, [], 174, 0, false⟩ : AAct) os = F + 1) : h174_1 (blk Tryz.f174 1) ⟨T, [], 174, 0, false⟩ os = exec (E174_1) F 1 (.loop (rnd Tryz.f174 1)) ⟨T, [], 174, 0, false⟩ os _ (bK (E174_1) F 1 finB) := by
  rw [q174_1, hF, exec_block (by kernel_rfl), k174_1]
theorem okb174_1 : BlockOK P 174 1 (bShaped A174_1 [] (some [2, 3, 4, 5, 6, 7, 10]) h174_1) := by
  unfold h174_1 E174_1
  refine okBl _ ?_ ?_ ?_ _ _ _
  · exact tnil
  · exact trivial
  · exact hnil
theorem TL174_1r (d0 d1 d2 d3 d4 d5 d6 d7 d8 d9 d10 d11 d12 d13 d14 d15 d16 : Int) (v0 v1 v2 v3 v4 v5 v6 v7 v8 v9 v10 v11 v12 v13 v14 v15 v16 : Int) (n s : Int) (d m : Nat) (L : AAct → List AObj → ∀ X : Type, (AExit → AAct → List AObj → Option X) → Option X) (X : Type) (k : AExit → AAct → List AObj → Option X) :
    roundL (E174_1) (d + 59) 1 (rnd Tryz.f174 1) L ⟨(J :: J :: .ptr 0 0 :: .ptr 1 0 :: .ptr 2 0 :: .ptr 3 0 :: .ptr 4 0 :: i64 n :: J :: J :: u s :: jn 69 []), [], 174, 0, false⟩ [.cells (D17c d0 d1 d2 d3 d4 d5 d6 d7 d8 d9 d10 d11 d12 d13 d14 d15 d16), .cells (D17c v0 v1 v2 v3 v4 v5 v6 v7 v8 v9 v10 v11 v12 v13 v14 v15 v16), .cells (D17c 0 0 0 0 0 0 0 0 0 0 0 0 0 0 0 0 0), .cells (D17c 0 0 0 0 0 0 0 0 0 0 0 0 0 0 0 0 0), .cells (D17c 0 0 0 0 0 0 0 0 0 0 0 0 0 0 0 0 0)] X (bK (E174_1) (m + 60) 1 k) =
    bif decide (0 ≤ IntKind.i64.wrap (n - 1)) && decide (IntKind.i64.wrap (n - 1) < (↑17 : Int)) then bif decide (0 + (IntKind.i64.wrap (n - 1)).toNat * 1 < [u v0, u v1, u v2, u v3, u v4, u v5, u v6, u v7, u v8, u v9, u v10, u v11, u v12, u v13, u v14, u v15, u v16].length) && (AV.isInt IntKind.u64 ([u v0, u v1, u v2, u v3, u v4, u v5, u v6, u v7, u v8, u v9, u v10, u v11, u v12, u v13, u v14, u v15, u v16].getD (0 + (IntKind.i64.wrap (n - 1)).toNat * 1) J) && true) then bif decide (0 ≤ s) then bif (IntKind.u64.wrap (([u v0, u v1, u v2, u v3, u v4, u v5, u v6, u v7, u v8, u v9, u v10, u v11, u v12, u v13, u v14, u v15, u v16].getD (0 + (IntKind.i64.wrap (n - 1)).toNat * 1) J).toInt * 2 ^ min s.toNat IntKind.u64.bits)).fdiv (2 ^ min (Int.toNat 31) IntKind.u64.bits) == 0 then L { tmps := (J :: J :: AV.ptr 0 0 :: AV.ptr 1 0 :: AV.ptr 2 0 :: AV.ptr 3 0 :: AV.ptr 4 0 :: i64 n :: J :: J :: u (IntKind.u64.wrap (s + 1)) :: jn 69 []), defers := [], fn := 174, foot := 0, round := false } [AObj.cells (D17c d0 d1 d2 d3 d4 d5 d6 d7 d8 d9 d10 d11 d12 d13 d14 d15 d16), AObj.cells (D17c v0 v1 v2 v3 v4 v5 v6 v7 v8 v9 v10 v11 v12 v13 v14 v15 v16), AObj.cells (D17c 0 0 0 0 0 0 0 0 0 0 0 0 0 0 0 0 0), AObj.cells (D17c 0 0 0 0 0 0 0 0 0 0 0 0 0 0 0 0 0), AObj.cells (D17c 0 0 0 0 0 0 0 0 0 0 0 0 0 0 0 0 0)] X (bK E174_1 (m + 60) 1 k) else k AExit.normal { tmps := (J :: J :: AV.ptr 0 0 :: AV.ptr 1 0 :: AV.ptr 2 0 :: AV.ptr 3 0 :: AV.ptr 4 0 :: i64 n :: J :: J :: u s :: jn 69 []), defers := [], fn := 174, foot := 0, round := false } [AObj.cells (D17c d0 d1 d2 d3 d4 d5 d6 d7 d8 d9 d10 d11 d12 d13 d14 d15 d16), AObj.cells (D17c v0 v1 v2 v3 v4 v5 v6 v7 v8 v9 v10 v11 v12 v13 v14 v15 v16), AObj.cells (D17c 0 0 0 0 0 0 0 0 0 0 0 0 0 0 0 0 0), AObj.cells (D17c 0 0 0 0 0 0 0 0 0 0 0 0 0 0 0 0 0), AObj.cells (D17c 0 0 0 0 0 0 0 0 0 0 0 0 0 0 0 0 0)] else none else none else none := by kernel_rfl
theorem T174_1r (d0 d1 d2 d3 d4 d5 d6 d7 d8 d9 d10 d11 d12 d13 d14 d15 d16 : Int) (v0 v1 v2 v3 v4 v5 v6 v7 v8 v9 v10 v11 v12 v13 v14 v15 v16 : Int) (n s : Int) (d m : Nat) (X : Type) (k : AExit → AAct → List AObj → Option X) :
    exec (E174_1) (d + 60) 1 (.loop (rnd Tryz.f174 1)) ⟨(J :: J :: .ptr 0 0 :: .ptr 1 0 :: .ptr 2 0 :: .ptr 3 0 :: .ptr 4 0 :: i64 n :: J :: J :: u s :: jn 69 []), [], 174, 0, false⟩ [.cells (D17c d0 d1 d2 d3 d4 d5 d6 d7 d8 d9 d10 d11 d12 d13 d14 d15 d16), .cells (D17c v0 v1 v2 v3 v4 v5 v6 v7 v8 v9 v10 v11 v12 v13 v14 v15 v16), .cells (D17c 0 0 0 0 0 0 0 0 0 0 0 0 0 0 0 0 0), .cells (D17c 0 0 0 0 0 0 0 0 0 0 0 0 0 0 0 0 0), .cells (D17c 0 0 0 0 0 0 0 0 0 0 0 0 0 0 0 0 0)] X (bK (E174_1) (m + 60) 1 k) =
    bif decide (0 ≤ IntKind.i64.wrap (n - 1)) && decide (IntKind.i64.wrap (n - 1) < (↑17 : Int)) then bif decide (0 + (IntKind.i64.wrap (n - 1)).toNat * 1 < [u v0, u v1, u v2, u v3, u v4, u v5, u v6, u v7, u v8, u v9, u v10, u v11, u v12, u v13, u v14, u v15, u v16].length) && (AV.isInt IntKind.u64 ([u v0, u v1, u v2, u v3, u v4, u v5, u v6, u v7, u v8, u v9, u v10, u v11, u v12, u v13, u v14, u v15, u v16].getD (0 + (IntKind.i64.wrap (n - 1)).toNat * 1) J) && true) then bif decide (0 ≤ s) then bif (IntKind.u64.wrap (([u v0, u v1, u v2, u v3, u v4, u v5, u v6, u v7, u v8, u v9, u v10, u v11, u v12, u v13, u v14, u v15, u v16].getD (0 + (IntKind.i64.wrap (n - 1)).toNat * 1) J).toInt * 2 ^ min s.toNat IntKind.u64.bits)).fdiv (2 ^ min (Int.toNat 31) IntKind.u64.bits) == 0 then exec (E174_1) (d + 59) 1 (.loop (rnd Tryz.f174 1)) { tmps := (J :: J :: AV.ptr 0 0 :: AV.ptr 1 0 :: AV.ptr 2 0 :: AV.ptr 3 0 :: AV.ptr 4 0 :: i64 n :: J :: J :: u (IntKind.u64.wrap (s + 1)) :: jn 69 []), defers := [], fn := 174, foot := 0, round := false } [AObj.cells (D17c d0 d1 d2 d3 d4 d5 d6 d7 d8 d9 d10 d11 d12 d13 d14 d15 d16), AObj.cells (D17c v0 v1 v2 v3 v4 v5 v6 v7 v8 v9 v10 v11 v12 v13 v14 v15 v16), AObj.cells (D17c 0 0 0 0 0 0 0 0 0 0 0 0 0 0 0 0 0), AObj.cells (D17c 0 0 0 0 0 0 0 0 0 0 0 0 0 0 0 0 0), AObj.cells (D17c 0 0 0 0 0 0 0 0 0 0 0 0 0 0 0 0 0)] X (bK E174_1 (m + 60) 1 k) else k AExit.normal { tmps := (J :: J :: AV.ptr 0 0 :: AV.ptr 1 0 :: AV.ptr 2 0 :: AV.ptr 3 0 :: AV.ptr 4 0 :: i64 n :: J :: J :: u s :: jn 69 []), defers := [], fn := 174, foot := 0, round := false } [AObj.cells (D17c d0 d1 d2 d3 d4 d5 d6 d7 d8 d9 d10 d11 d12 d13 d14 d15 d16), AObj.cells (D17c v0 v1 v2 v3 v4 v5 v6 v7 v8 v9 v10 v11 v12 v13 v14 v15 v16), AObj.cells (D17c 0 0 0 0 0 0 0 0 0 0 0 0 0 0 0 0 0), AObj.cells (D17c 0 0 0 0 0 0 0 0 0 0 0 0 0 0 0 0 0), AObj.cells (D17c 0 0 0 0 0 0 0 0 0 0 0 0 0 0 0 0 0)] else none else none else none := (exec_loop _ _ _ _ _ _ _ _).trans (TL174_1r d0 d1 d2 d3 d4 d5 d6 d7 d8 d9 d10 d11 d12 d13 d14 d15 d16 v0 v1 v2 v3 v4 v5 v6 v7 v8 v9 v10 v11 v12 v13 v14 v15 v16 n s d m (fun a os X k => exec (E174_1) (d + 59) 1 (.loop (rnd Tryz.f174 1)) a os X k) X k)
noncomputable def E174_3 (r240 : RF) (r241 : RF) (r242 : RF) : Env := En 174 [(1, [2, 3, 4, 5, 6, 7, 10], [2, 3, 4, 5, 6, 7, 10]), (3, [4, 5, 6, 7, 10, 11, 12, 13], [4, 5, 6, 7, 10, 11])] [] [] [] [] [(240, shaped A240 r240), (241, shaped A241 r241), (242, shaped A242 r242)] [(3, [2, 3, 4])]
def a174_3 : BAlt := ⟨.normal, (sj 4 (.ptr 0 0 :: .ptr 1 0 :: .ptr 2 0 :: shI :: .junk :: .junk :: sh6 :: .ptr 3 0 :: sj 68 [])), [.cells sh17c, .cells sh17c, .ints .u64, .ints .u64], []⟩
def A174_3 : List BAlt := [a174_3]
noncomputable def h174_3 : RB := runB (blockRun (E174_3 r240 r241 r242) (fun _ _ => 200) 3)
theorem q174_3 (c : Code) (a : AAct) (os : List AObj) : h174_3 c a os = exec (E174_3 r240 r241 r242) ((fun _ _ => 200) a os) 3 (.block 3 c) a os _ finB := qB _ _ _ _ _ _
theorem k174_3 : blk Tryz.f174 3 = .loop (rnd Tryz.f174 3) := by kernel_rfl
theorem p174_3 (T : List AV) (os : List AObj) (F : Nat) (hF : (fun _ _ => 200) (⟨T, [], 174, 0, false⟩ : AAct) os = F + 1) : h174_3 (blk Tryz.f174 3) ⟨T, [], 174, 0, false⟩ os = exec (E174_3 r240 r241 r242) F 3 (.loop (rnd Tryz.f174 3)) ⟨T, [], 174, 0, false⟩ os _ (bK (E174_3 r240 r241 r242) F 3 finB) := by
  rw [q174_3, hF, exec_block (by kernel_rfl), k174_3]
theorem okb174_3 : BlockOK P 174 3 (bShaped A174_3 [] (some [4, 5, 6, 7, 10, 11, 12, 13]) h174_3) := by
  unfold h174_3 E174_3
  refine okBl _ ?_ ?_ ?_ _ _ _
  · exact (tcons ok240 (tcons ok241 (tcons ok242 tnil)))
  · exact trivial
  · exact hnil
theorem TL174_3r (r240 : RF) (r241 : RF) (r242 : RF) (n s at_ : Int) (us vs qs : List Int) (d m : Nat) (L : AAct → List AObj → ∀ X : Type, (AExit → AAct → List AObj → Option X) → Option X) (X : Type) (k : AExit → AAct → List AObj → Option X)
    (x1 : RE) (e1 : r240 [AV.agg (ld17 us), AV.agg (ld17 vs), i64 at_, i64 n] [] = x1)
    (x2 : RE) (e2 : r241 [AV.ptr 0 0, AV.agg (ld17 vs), u (rV x1).toInt, i64 at_, i64 n] [AObj.ints IntKind.u64 us] = x2)
    (x3 : RE) (e3 : r242 [AV.ptr 0 0, AV.agg (ld17 vs), i64 at_, i64 n] [AObj.ints IntKind.u64 ((rOs x2).getD 0 AObj.dead).intsOf] = x3) :
    roundL (E174_3 r240 r241 r242) (d + 59) 3 (rnd Tryz.f174 3) L ⟨(jn 4 (.ptr 0 0 :: .ptr 1 0 :: .ptr 2 0 :: i64 n :: J :: J :: u s :: .ptr 3 0 :: .ptr 4 0 :: i64 at_ :: jn 66 [])), [], 174, 0, false⟩ [.cells (D17c 0 0 0 0 0 0 0 0 0 0 0 0 0 0 0 0 0), .cells (D17c 0 0 0 0 0 0 0 0 0 0 0 0 0 0 0 0 0), .ints .u64 qs, .ints .u64 us, .ints .u64 vs] X (bK (E174_3 r240 r241 r242) (m + 60) 3 k) =
    bif ile 0 at_ then bif dm17 us then bif dm17 vs then bif okAlt a240 x1 then bif dm17 vs then bif okAlt a241 x2 then bif (rV x2).toBool then bif dm17 vs then bif okAlt a242 x3 then bif decide (0 ≤ at_) && decide (at_ < (↑17 : Int)) then bif decide (0 + at_.toNat * 1 + 1 ≤ qs.length) then L { tmps := (jn 4 (AV.ptr 0 0 :: AV.ptr 1 0 :: AV.ptr 2 0 :: i64 n :: J :: J :: u s :: AV.ptr 3 0 :: AV.ptr 4 0 :: i64 (IntKind.i64.wrap (at_ - 1)) :: jn 66 [])), defers := [], fn := 174, foot := 0, round := false } [AObj.cells (D17c 0 0 0 0 0 0 0 0 0 0 0 0 0 0 0 0 0), AObj.cells (D17c 0 0 0 0 0 0 0 0 0 0 0 0 0 0 0 0 0), AObj.ints IntKind.u64 (qs.set (0 + at_.toNat * 1) (IntKind.u64.wrap ((rV x1).toInt - 1))), AObj.ints IntKind.u64 ((rOs x3).getD 0 AObj.dead).intsOf, AObj.ints IntKind.u64 vs] X (bK (E174_3 r240 r241 r242) (m + 60) 3 k) else none else none else none else none else bif decide (0 ≤ at_) && decide (at_ < (↑17 : Int)) then bif decide (0 + at_.toNat * 1 + 1 ≤ qs.length) then L { tmps := (jn 4 (AV.ptr 0 0 :: AV.ptr 1 0 :: AV.ptr 2 0 :: i64 n :: J :: J :: u s :: AV.ptr 3 0 :: AV.ptr 4 0 :: i64 (IntKind.i64.wrap (at_ - 1)) :: jn 66 [])), defers := [], fn := 174, foot := 0, round := false } [AObj.cells (D17c 0 0 0 0 0 0 0 0 0 0 0 0 0 0 0 0 0), AObj.cells (D17c 0 0 0 0 0 0 0 0 0 0 0 0 0 0 0 0 0), AObj.ints IntKind.u64 (qs.set (0 + at_.toNat * 1) (rV x1).toInt), AObj.ints IntKind.u64 ((rOs x2).getD 0 AObj.dead).intsOf, AObj.ints IntKind.u64 vs] X (bK (E174_3 r240 r241 r242) (m + 60) 3 k) else none else none else none else none else none else none else none else k AExit.normal { tmps := (jn 4 (AV.ptr 0 0 :: AV.ptr 1 0 :: AV.ptr 2 0 :: i64 n :: J :: J :: u s :: AV.ptr 3 0 :: jn 68 [])), defers := [], fn := 174, foot := 0, round := false } [AObj.cells (D17c 0 0 0 0 0 0 0 0 0 0 0 0 0 0 0 0 0), AObj.cells (D17c 0 0 0 0 0 0 0 0 0 0 0 0 0 0 0 0 0), AObj.ints IntKind.u64 qs, AObj.ints IntKind.u64 us] := by subst e1 e2 e3; kernel_rfl
theorem T174_3r (r240 : RF) (r241 : RF) (r242 : RF) (n s at_ : Int) (us vs qs : List Int) (d m : Nat) (X : Type) (k : AExit → AAct → List AObj → Option X)
    (x1 : RE) (e1 : r240 [AV.agg (ld17 us), AV.agg (ld17 vs), i64 at_, i64 n] [] = x1)
    (x2 : RE) (e2 : r241 [AV.ptr 0 0, AV.agg (ld17 vs), u (rV x1).toInt, i64 at_, i64 n] [AObj.ints IntKind.u64 us] = x2)
    (x3 : RE) (e3 : r242 [AV.ptr 0 0, AV.agg (ld17 vs), i64 at_, i64 n] [AObj.ints IntKind.u64 ((rOs x2).getD 0 AObj.dead).intsOf] = x3) :
    exec (E174_3 r240 r241 r242) (d + 60) 3 (.loop (rnd Tryz.f174 3)) ⟨(jn 4 (.ptr 0 0 :: .ptr 1 0 :: .ptr 2 0 :: i64 n :: J :: J :: u s :: .ptr 3 0 :: .ptr 4 0 :: i64 at_ :: jn 66 [])), [], 174, 0, false⟩ [.cells (D17c 0 0 0 0 0 0 0 0 0 0 0 0 0 0 0 0 0), .cells (D17c 0 0 0 0 0 0 0 0 0 0 0 0 0 0 0 0 0), .ints .u64 qs, .ints .u64 us, .ints .u64 vs] X (bK (E174_3 r240 r241 r242) (m + 60) 3 k) =
    bif ile 0 at_ then bif dm17 us then bif dm17 vs then bif okAlt a240 x1 then bif dm17 vs then bif okAlt a241 x2 then bif (rV x2).toBool then bif dm17 vs then bif okAlt a242 x3 then bif decide (0 ≤ at_) && decide (at_ < (↑17 : Int)) then bif decide (0 + at_.toNat * 1 + 1 ≤ qs.length) then exec (E174_3 r240 r241 r242) (d + 59) 3 (.loop (rnd Tryz.f174 3)) { tmps := (jn 4 (AV.ptr 0 0 :: AV.ptr 1 0 :: AV.ptr 2 0 :: i64 n :: J :: J :: u s :: AV.ptr 3 0 :: AV.ptr 4 0 :: i64 (IntKind.i64.wrap (at_ - 1)) :: jn 66 [])), defers := [], fn := 174, foot := 0, round := false } [AObj.cells (D17c 0 0 0 0 0 0 0 0 0 0 0 0 0 0 0 0 0), AObj.cells (D17c 0 0 0 0 0 0 0 0 0 0 0 0 0 0 0 0 0), AObj.ints IntKind.u64 (qs.set (0 + at_.toNat * 1) (IntKind.u64.wrap ((rV x1).toInt - 1))), AObj.ints IntKind.u64 ((rOs x3).getD 0 AObj.dead).intsOf, AObj.ints IntKind.u64 vs] X (bK (E174_3 r240 r241 r242) (m + 60) 3 k) else none else none else none else none else bif decide (0 ≤ at_) && decide (at_ < (↑17 : Int)) then bif decide (0 + at_.toNat * 1 + 1 ≤ qs.length) then exec (E174_3 r240 r241 r242) (d + 59) 3 (.loop (rnd Tryz.f174 3)) { tmps := (jn 4 (AV.ptr 0 0 :: AV.ptr 1 0 :: AV.ptr 2 0 :: i64 n :: J :: J :: u s :: AV.ptr 3 0 :: AV.ptr 4 0 :: i64 (IntKind.i64.wrap (at_ - 1)) :: jn 66 [])), defers := [], fn := 174, foot := 0, round := false } [AObj.cells (D17c 0 0 0 0 0 0 0 0 0 0 0 0 0 0 0 0 0), AObj.cells (D17c 0 0 0 0 0 0 0 0 0 0 0 0 0 0 0 0 0), AObj.ints IntKind.u64 (qs.set (0 + at_.toNat * 1) (rV x1).toInt), AObj.ints IntKind.u64 ((rOs x2).getD 0 AObj.dead).intsOf, AObj.ints IntKind.u64 vs] X (bK (E174_3 r240 r241 r242) (m + 60) 3 k) else none else none else none else none else none else none else none else k AExit.normal { tmps := (jn 4 (AV.ptr 0 0 :: AV.ptr 1 0 :: AV.ptr 2 0 :: i64 n :: J :: J :: u s :: AV.ptr 3 0 :: jn 68 [])), defers := [], fn := 174, foot := 0, round := false } [AObj.cells (D17c 0 0 0 0 0 0 0 0 0 0 0 0 0 0 0 0 0), AObj.cells (D17c 0 0 0 0 0 0 0 0 0 0 0 0 0 0 0 0 0), AObj.ints IntKind.u64 qs, AObj.ints IntKind.u64 us] := (exec_loop _ _ _ _ _ _ _ _).trans (TL174_3r r240 r241 r242 n s at_ us vs qs d m (fun a os X k => exec (E174_3 r240 r241 r242) (d + 59) 3 (.loop (rnd Tryz.f174 3)) a os X k) X k _ e1 _ e2 _ e3)
noncomputable def E174 (r237 : RF) (r238 : RF) (r239 : RF) (r243 : RF) (h174_1 : RB) (h174_3 : RB) : Env := En 174 [] [] [] [(1, bShaped A174_1 [] (some [2, 3, 4, 5, 6, 7, 10]) h174_1), (3, bShaped A174_3 [] (some [4, 5, 6, 7, 10, 11, 12, 13]) h174_3)] [] [(237, shaped A237 r237), (238, shaped A238 r238), (239, shaped A239 r239), (243, shaped A243 r243)]
def a174 : Alt := ⟨false, .tup [sh17, sh17], []⟩
def A174 : List Alt := [a174]
theorem T174 (r237 : RF) (r238 : RF) (r239 : RF) (r243 : RF) (h174_1 : RB) (h174_3 : RB) (d0 d1 d2 d3 d4 d5 d6 d7 d8 d9 d10 d11 d12 d13 d14 d15 d16 : Int) (v0 v1 v2 v3 v4 v5 v6 v7 v8 v9 v10 v11 v12 v13 v14 v15 v16 : Int) (X : Type) (k : AEnd → List AObj → Option X)
    (x1 : RE) (e1 : r237 [AV.agg (D17c v0 v1 v2 v3 v4 v5 v6 v7 v8 v9 v10 v11 v12 v13 v14 v15 v16)] [] = x1)
    (x2 : RBE) (e2 : h174_1 (blk Tryz.f174 1) { tmps := (J :: J :: AV.ptr 0 0 :: AV.ptr 1 0 :: AV.ptr 2 0 :: AV.ptr 3 0 :: AV.ptr 4 0 :: i64 (rV x1).toInt :: J :: J :: u 0 :: jn 69 []), defers := [], fn := 174, foot := 0, round := false } [AObj.cells (D17c d0 d1 d2 d3 d4 d5 d6 d7 d8 d9 d10 d11 d12 d13 d14 d15 d16), AObj.cells (D17c v0 v1 v2 v3 v4 v5 v6 v7 v8 v9 v10 v11 v12 v13 v14 v15 v16), AObj.cells (D17c 0 0 0 0 0 0 0 0 0 0 0 0 0 0 0 0 0), AObj.cells (D17c 0 0 0 0 0 0 0 0 0 0 0 0 0 0 0 0 0), AObj.cells (D17c 0 0 0 0 0 0 0 0 0 0 0 0 0 0 0 0 0)] = x2)
    (x3 : RE) (e3 : r239 [AV.agg (tu17 ((bOs x2).getD 0 AObj.dead).cellsOf), u ((bT x2).getD 10 J).toInt] [] = x3)
    (x4 : RE) (e4 : r239 [AV.agg (tu17 ((bOs x2).getD 1 AObj.dead).cellsOf), u ((bT x2).getD 10 J).toInt] [] = x4)
    (x5 : RBE) (e5 : h174_3 (blk Tryz.f174 3) { tmps := (jn 4 (AV.ptr 0 0 :: AV.ptr 1 0 :: AV.ptr 2 0 :: i64 ((bT x2).getD 7 J).toInt :: J :: J :: u ((bT x2).getD 10 J).toInt :: AV.ptr 3 0 :: AV.ptr 4 0 :: i64 (IntKind.i64.wrap (16 - ((bT x2).getD 7 J).toInt)) :: jn 66 [])), defers := [], fn := 174, foot := 0, round := false } [AObj.cells (tu17 ((bOs x2).getD 2 AObj.dead).cellsOf), AObj.cells (tu17 ((bOs x2).getD 3 AObj.dead).cellsOf), AObj.cells (tu17 ((bOs x2).getD 4 AObj.dead).cellsOf), AObj.cells (tu17 (rV x3).items), AObj.cells (tu17 (rV x4).items)] = x5)
    (x6 : RE) (e6 : r243 [AV.agg (ld17 ((bOs x5).getD 3 AObj.dead).intsOf), u ((bT x5).getD 10 J).toInt, i64 ((bT x5).getD 7 J).toInt] [] = x6)
    (x7 : RE) (e7 : r238 [AV.agg (D17c d0 d1 d2 d3 d4 d5 d6 d7 d8 d9 d10 d11 d12 d13 d14 d15 d16), u v0] [] = x7) :
    body (E174 r237 r238 r239 r243 h174_1 h174_3) 60 174 Tryz.f174 (cod Tryz.f174) [D17 d0 d1 d2 d3 d4 d5 d6 d7 d8 d9 d10 d11 d12 d13 d14 d15 d16, D17 v0 v1 v2 v3 v4 v5 v6 v7 v8 v9 v10 v11 v12 v13 v14 v15 v16] [] X k =
    bif okAlt a237 x1 then bif (rV x1).toInt == 0 then k (.ret (.tuple [AV.agg (D17c 0 0 0 0 0 0 0 0 0 0 0 0 0 0 0 0 0), AV.agg (D17c 0 0 0 0 0 0 0 0 0 0 0 0 0 0 0 0 0)])) [] else bif (rV x1).toInt == 1 then bif okAlt a238 x7 then k (.ret (.tuple [AV.agg (tu17 ((rV x7).items.getD 0 J).items), AV.agg [u ((rV x7).items.getD 1 J).toInt, u 0, u 0, u 0, u 0, u 0, u 0, u 0, u 0, u 0, u 0, u 0, u 0, u 0, u 0, u 0, u 0]])) [] else none else bif okB a174_1 174 0 false x2 then bif okAlt a239 x3 then bif okAlt a239 x4 then bif okB a174_3 174 0 false x5 then bif dm17 ((bOs x5).getD 2 AObj.dead).intsOf then bif dm17 ((bOs x5).getD 3 AObj.dead).intsOf then bif okAlt a243 x6 then k (.ret (.tuple [AV.agg (ld17 ((bOs x5).getD 2 AObj.dead).intsOf), AV.agg (tu17 (rV x6).items)])) [] else none else none else none else none else none else none else none else none := by subst e1 e2 e3 e4 e5 e6 e7; kernel_rfl
noncomputable def r174 : RF := runR (body (E174 r237 r238 r239 r243 h174_1 h174_3) 60 174 Tryz.f174 (cod Tryz.f174))
theorem q174 (args : List AV) (os : List AObj) : r174 args os = body (E174 r237 r238 r239 r243 h174_1 h174_3) 60 174 Tryz.f174 (cod Tryz.f174) args os _ fin := qR _ _ _
theorem ok174 : SpecOK P 174 (shaped A174 r174) := by
  unfold r174 E174
  refine okF 60 ?_ ?_ ?_ Tryz.func174 ?_ ?_ _
  · exact (tcons ok237 (tcons ok238 (tcons ok239 (tcons ok243 tnil))))
  · exact trivial
  · exact (hcons okb174_1 (hcons okb174_3 hnil))
  · kernel_rfl
  · kernel_rfl
noncomputable def E121 (r110 : RF) (r173 : RF) (r174 : RF) (r175 : RF) : Env := En 121 [] [] [] [] [] [(110, shaped A110 r110), (173, shaped A173 r173), (174, shaped A174 r174), (175, shaped A175 r175)]
def a121 : Alt := ⟨false, .tup [shU, shU], []⟩
def A121 : List Alt := [a121]
theorem T121 (r110 : RF) (r173 : RF) (r174 : RF) (r175 : RF) (a0 a1 a2 a3 b0 b1 b2 b3 : Int) (X : Type) (k : AEnd → List AObj → Option X)
    (x1 : RE) (e1 : r110 [U a0 a1 a2 a3, U b0 b1 b2 b3] [] = x1)
    (x2 : RE) (e2 : r173 [AV.sl 4 [[u a0, u a1, u a2, u a3]]] [] = x2)
    (x3 : RE) (e3 : r173 [AV.sl 4 [[u b0, u b1, u b2, u b3]]] [] = x3)
    (x4 : RE) (e4 : r174 [AV.agg (tu17 (rV x2).items), AV.agg (tu17 (rV x3).items)] [] = x4)
    (x5 : RE) (e5 : r175 [AV.agg (tu17 ((rV x4).items.getD 0 J).items), i64 0] [] = x5)
    (x6 : RE) (e6 : r175 [AV.agg (tu17 ((rV x4).items.getD 1 J).items), i64 0] [] = x6) :
    body (E121 r110 r173 r174 r175) 60 121 Tryz.f121 (cod Tryz.f121) [U a0 a1 a2 a3, U b0 b1 b2 b3] [] X k =
    bif okAlt a110 x1 then bif ilt (rV x1).toInt 0 then k (.ret (.tuple [U 0 0 0 0, U a0 a1 a2 a3])) [] else bif okAlt a173 x2 then bif okAlt a173 x3 then bif okAlt a174 x4 then bif okAlt a175 x5 then bif okAlt a175 x6 then k (.ret (.tuple [AV.agg (tu4 (rV x5).items), AV.agg (tu4 (rV x6).items)])) [] else none else none else none else none else none else none := by subst e1 e2 e3 e4 e5 e6; kernel_rfl
noncomputable def r121 : RF := runR (body (E121 r110 r173 r174 r175) 60 121 Tryz.f121 (cod Tryz.f121))
theorem q121 (args : List AV) (os : List AObj) : r121 args os = body (E121 r110 r173 r174 r175) 60 121 Tryz.f121 (cod Tryz.f121) args os _ fin := qR _ _ _
theorem ok121 : SpecOK P 121 (shaped A121 r121) := by
  unfold r121 E121
  refine okF 60 ?_ ?_ ?_ Tryz.func121 ?_ ?_ _
  · exact (tcons ok110 (tcons ok173 (tcons ok174 (tcons ok175 tnil))))
  · exact trivial
  · exact hnil
  · kernel_rfl
  · kernel_rfl
noncomputable def E180 (r173 : RF) (r174 : RF) (r175 : RF) : Env := En 180 [] [] [] [] [] [(173, shaped A173 r173), (174, shaped A174 r174), (175, shaped A175 r175)]
def a180 : Alt := ⟨false, shU, []⟩
def A180 : List Alt := [a180]
theorem T180 (r173 : RF) (r174 : RF) (r175 : RF) (a0 a1 a2 a3 b0 b1 b2 b3 : Int) (c0 c1 c2 c3 : Int) (X : Type) (k : AEnd → List AObj → Option X)
    (x1 : RE) (e1 : r173 [AV.sl 4 [[u b0, u b1, u b2, u b3], [u a0, u a1, u a2, u a3]]] [] = x1)
    (x2 : RE) (e2 : r173 [AV.sl 4 [[u c0, u c1, u c2, u c3]]] [] = x2)
    (x3 : RE) (e3 : r174 [AV.agg (tu17 (rV x1).items), AV.agg (tu17 (rV x2).items)] [] = x3)
    (x4 : RE) (e4 : r175 [AV.agg (tu17 ((rV x3).items.getD 1 J).items), i64 0] [] = x4) :
    body (E180 r173 r174 r175) 60 180 Tryz.f180 (cod Tryz.f180) [U a0 a1 a2 a3, U b0 b1 b2 b3, U c0 c1 c2 c3] [] X k =
    bif okAlt a173 x1 then bif okAlt a173 x2 then bif okAlt a174 x3 then bif okAlt a175 x4 then k (.ret (AV.agg (tu4 (rV x4).items))) [] else none else none else none else none := by subst e1 e2 e3 e4; kernel_rfl
noncomputable def r180 : RF := runR (body (E180 r173 r174 r175) 60 180 Tryz.f180 (cod Tryz.f180))
theorem q180 (args : List AV) (os : List AObj) : r180 args os = body (E180 r173 r174 r175) 60 180 Tryz.f180 (cod Tryz.f180) args os _ fin := qR _ _ _
theorem ok180 : SpecOK P 180 (shaped A180 r180) := by
  unfold r180 E180
  refine okF 60 ?_ ?_ ?_ Tryz.func180 ?_ ?_ _
  · exact (tcons ok173 (tcons ok174 (tcons ok175 tnil)))
  · exact trivial
  · exact hnil
  · kernel_rfl
  · kernel_rfl
end Go.Proofs.Vm
end
section
namespace Go.Proofs.Vm
open Go Go.Abs
set_option maxRecDepth 100000
set_option maxHeartbeats 400000
theorem go {α : Type} {b : Bool} {x y r : α} (h : r = (bif b then x else y)) (hb : b = true) : r = x := by subst hb; exact h
theorem gn {α : Type} {b : Bool} {x y r : α} (h : r = (bif b then x else y)) (hb : b = false) : r = y := by subst hb; exact h
abbrev mp (l : List Int) : List AV := List.map (fun n => u n) l
theorem mp_get {l : List Int} {i : Nat} (h : i < l.length) : (mp l).getD i J = u (l.getD i 0) := by
  simp [mp, List.getD_eq_getElem?_getD, h]
theorem demG {l : List Int} {i : Nat} (h : i < l.length) : (decide (i < (mp l).length) && (AV.isInt IntKind.u64 ((mp l).getD i J) && true)) = true := by
  rw [mp_get h]; simp [h, AV.isInt, u]
theorem intG {l : List Int} {i : Nat} (h : i < l.length) : ((mp l).getD i J).toInt = l.getD i 0 := by
  rw [mp_get h]; rfl
theorem dec2 {p q : Prop} [Decidable p] [Decidable q] (hp : p) (hq : q) : (decide p && decide q) = true := by simp [hp, hq]
theorem dec1 {p : Prop} [Decidable p] (hp : p) : decide p = true := decide_eq_true hp
theorem ilt_t' {a b : Int} (h : a < b) : ilt a b = true := by rw [ilt_eq]; exact decide_eq_true h
theorem ilt_f' {a b : Int} (h : b ≤ a) : ilt a b = false := by rw [ilt_eq]; exact decide_eq_false (by omega)
theorem ile_t' {a b : Int} (h : a ≤ b) : ile a b = true := by rw [ile_eq]; exact decide_eq_true h
theorem ile_f' {a b : Int} (h : b < a) : ile a b = false := by rw [ile_eq]; exact decide_eq_false (by omega)
theorem w8in {n : Int} (h1 : -9223372036854775808 ≤ n) (h2 : n ≤ 9223372036854775807) : IntKind.i64.wrap n = n := IntWalk.i64_in _ ⟨h1, h2⟩
theorem r64in {n : Int} (h : R64 n) : IntKind.u64.wrap n = n := IntWalk.u64_in _ h
theorem w236 {x y : Int} (hx : R64 x) (hy : R64 y) : r236 [u x, u y] [] = some (.ret (.tuple [u (x * y / 18446744073709551616), u (x * y % 18446744073709551616)]), []) := by
  simp [r236, u, ile_eq, hx.1, hx.2, hy.1, hy.2]
def AllR (l : List Int) : Prop := ∀ n ∈ l, R64 n
theorem AllR.get {l : List Int} (h : AllR l) (i : Nat) : R64 (l.getD i 0) := by
  rw [List.getD_eq_getElem?_getD]
  cases hi : l[i]? with
  | none => exact r64_0
  | some x => exact h x (List.mem_of_getElem? hi)
theorem AllR.set {l : List Int} (h : AllR l) (i : Nat) {x : Int} (hx : R64 x) : AllR (l.set i x) := fun n hn => by
  rcases List.mem_or_eq_of_mem_set hn with h' | h'
  · exact h n h'
  · exact h' ▸ hx
theorem l171_2 {a0 a1 a2 a3 b0 b1 b2 b3 x : Int} (hb : R4 b0 b1 b2 b3) (hx : R64 x) (i j : Int) (hi0 : 0 ≤ i) (hi : i ≤ 3) (m : Nat) : ∀ (f : Nat) (kk c : Int) (ol : List Int), 0 ≤ kk → kk ≤ 4 → 4 - kk ≤ f → R64 c → AllR ol → ol.length = 8 → ∀ r,
    r = exec (E171_2 r236 r89) (f + 60) 2 (.loop (rnd Tryz.f171 2)) ⟨(jn 3 (.ptr 0 0 :: .ptr 1 0 :: .ptr 2 0 :: .ptr 3 0 :: i64 i :: u x :: u c :: jn 6 (U a0 a1 a2 a3 :: i64 j :: jn 3 (U b0 b1 b2 b3 :: i64 kk :: jn 46 [])))), [], 171, 0, false⟩
      [.cells [u b0, u b1, u b2, u b3], .cells [u 0, u 0, u 0, u 0], .cells [u 0, u 0, u 0, u 0], .ints .u64 ol] _ (bK (E171_2 r236 r89) (m + 60) 2 finB) →
    ∃ c' ol', r = finB .normal ⟨(jn 3 (.ptr 0 0 :: .ptr 1 0 :: .ptr 2 0 :: .ptr 3 0 :: i64 i :: J :: u c' :: jn 6 (U a0 a1 a2 a3 :: i64 j :: jn 51 []))), [], 171, 0, false⟩
        [.cells [u b0, u b1, u b2, u b3], .cells [u 0, u 0, u 0, u 0], .cells [u 0, u 0, u 0, u 0], .ints .u64 ol'] ∧ R64 c' ∧ AllR ol' ∧ ol'.length = 8 := by
  intro f
  induction f with
  | zero =>
    intro kk c ol h0 h4 hf hc ho hl r h
    replace h := h.trans (T171_2r r236 r89 a0 a1 a2 a3 b0 b1 b2 b3 x i j kk c ol 0 m _ finB _ rfl _ rfl _ rfl)
    exact ⟨c, ol, gn h (ilt_f' (by omega)), hc, ho, hl⟩
  | succ f ih =>
    intro kk c ol h0 h4 hf hc ho hl r h
    by_cases hk : kk < 4
    · have hb' : ∃ bk, [u b0, u b1, u b2, u b3].getD (kk.toNat * 1) J = u bk ∧ R64 bk := by
        have : kk = 0 ∨ kk = 1 ∨ kk = 2 ∨ kk = 3 := by omega
        rcases this with rfl | rfl | rfl | rfl
        · exact ⟨b0, rfl, hb.h0⟩
        · exact ⟨b1, rfl, hb.h1⟩
        · exact ⟨b2, rfl, hb.h2⟩
        · exact ⟨b3, rfl, hb.h3⟩
      obtain ⟨bk, hbk, hbr⟩ := hb'
      have e0 : IntKind.i64.wrap (i + kk) = i + kk := w8in (by omega) (by omega)
      have e0' : IntKind.i64.wrap (kk + 1) = kk + 1 := w8in (by omega) (by omega)
      have hlt : 0 + (i + kk).toNat * 1 < ol.length := by omega
      have e1 := w236 hx hbr
      have e2 := w89 (x := x * bk % 18446744073709551616) (r64m _) hc (c := 0) (by omega) (by omega)
      have e3 := w89 (x := ol.getD (0 + (i + kk).toNat * 1) 0) (ho.get _) (r64m (x * bk % 18446744073709551616 + c + 0)) (c := 0) (by omega) (by omega)
      have e1' := (show r236 [u x, u ([u b0, u b1, u b2, u b3].getD (kk.toNat * 1) J).toInt] [] = r236 [u x, u bk] [] by rw [hbk]; rfl).trans e1
      have e3' := (show r89 [u ((mp ol).getD (0 + (IntKind.i64.wrap (i + kk)).toNat * 1) J).toInt, u ((x * bk % 18446744073709551616 + c + 0) % 18446744073709551616), u 0] [] = r89 [u (ol.getD (0 + (i + kk).toNat * 1) 0), u ((x * bk % 18446744073709551616 + c + 0) % 18446744073709551616), u 0] [] by rw [e0, intG hlt]).trans e3
      replace h := h.trans (T171_2r r236 r89 a0 a1 a2 a3 b0 b1 b2 b3 x i j kk c ol (f + 1) m _ finB _ e1' _ e2 _ e3')
      rw [ilt_t' hk, e0, e0', hbk] at h
      replace h := go h rfl
      replace h := go h (by simp [AV.isInt, u]; omega)
      replace h := go (go h rfl) rfl
      replace h := go h (dec2 (by omega) (by omega))
      replace h := go h (demG hlt)
      replace h := go h rfl
      replace h := go h (dec2 (by omega) (by omega))
      replace h := go h (dec1 (by omega))
      exact ih (kk + 1) _ _ (by omega) (by omega) (by omega) (by exact r64w _) (by exact ho.set _ (r64m _)) (by rw [List.length_set]; exact hl) r h
    · replace h := h.trans (T171_2r r236 r89 a0 a1 a2 a3 b0 b1 b2 b3 x i j kk c ol (f + 1) m _ finB _ rfl _ rfl _ rfl)
      exact ⟨c, ol, gn h (ilt_f' (by omega)), hc, ho, hl⟩
theorem l171_0 {a0 a1 a2 a3 b0 b1 b2 b3 : Int} (ha : R4 a0 a1 a2 a3) (hb : R4 b0 b1 b2 b3) (m : Nat) : ∀ (f : Nat) (i : Int) (ol : List Int), 0 ≤ i → i ≤ 4 → 4 - i ≤ f → AllR ol → ol.length = 8 → ∀ r,
    r = exec (E171_0 h171_2) (f + 60) 0 (.loop (rnd Tryz.f171 0)) ⟨(jn 3 (.ptr 0 0 :: .ptr 1 0 :: .ptr 2 0 :: .ptr 3 0 :: jn 9 (U a0 a1 a2 a3 :: i64 i :: jn 51 []))), [], 171, 0, false⟩
      [.cells [u b0, u b1, u b2, u b3], .cells [u 0, u 0, u 0, u 0], .cells [u 0, u 0, u 0, u 0], .ints .u64 ol] _ (bK (E171_0 h171_2) (m + 60) 0 finB) →
    ∃ ol', r = finB .normal ⟨(jn 4 (.ptr 0 0 :: .ptr 1 0 :: .ptr 2 0 :: jn 62 [])), [], 171, 0, false⟩ [.cells [u 0, u 0, u 0, u 0], .cells [u 0, u 0, u 0, u 0], .ints .u64 ol'] ∧ AllR ol' ∧ ol'.length = 8 := by
  intro f
  induction f with
  | zero =>
    intro i ol h0 h4 hf ho hl r h
    replace h := h.trans (T171_0r h171_2 a0 a1 a2 a3 b0 b1 b2 b3 i ol 0 m _ finB _ rfl)
    exact ⟨ol, gn h (ilt_f' (by omega)), ho, hl⟩
  | succ f ih =>
    intro i ol h0 h4 hf ho hl r h
    by_cases hk : i < 4
    · have ha' : ∃ ai, [u a0, u a1, u a2, u a3].getD (i.toNat * 1) J = u ai ∧ R64 ai := by
        have : i = 0 ∨ i = 1 ∨ i = 2 ∨ i = 3 := by omega
        rcases this with rfl | rfl | rfl | rfl
        · exact ⟨a0, rfl, ha.h0⟩
        · exact ⟨a1, rfl, ha.h1⟩
        · exact ⟨a2, rfl, ha.h2⟩
        · exact ⟨a3, rfl, ha.h3⟩
      obtain ⟨ai, hai, har⟩ := ha'
      obtain ⟨c', ol', e, hc', ho', hl'⟩ := l171_2 (a0 := a0) (a1 := a1) (a2 := a2) (a3 := a3) hb har i i h0 (by omega) 139 139 0 0 ol (by omega) (by omega) (by omega) r64_0 ho hl _ rfl
      have e1 := (p171_2 _ _ 199 rfl).trans e
      rw [← (show ([u a0, u a1, u a2, u a3].getD (i.toNat * 1) J).toInt = ai by rw [hai]; rfl)] at e1
      have e0 : IntKind.i64.wrap (i + 4) = i + 4 := w8in (by omega) (by omega)
      have e0' : IntKind.i64.wrap (i + 1) = i + 1 := w8in (by omega) (by omega)
      replace h := h.trans (T171_0r h171_2 a0 a1 a2 a3 b0 b1 b2 b3 i ol (f + 1) m _ finB _ e1)
      replace h := go h (ilt_t' hk)
      replace h := go h (by rw [hai]; simp [AV.isInt, u]; omega)
      replace h := go h rfl
      replace h := go h (by show (decide (0 ≤ IntKind.i64.wrap (i + 4)) && decide (IntKind.i64.wrap (i + 4) < 8)) = true; rw [e0]; exact dec2 (by omega) (by omega))
      replace h := go h (by show decide (0 + (IntKind.i64.wrap (i + 4)).toNat * 1 + 1 ≤ ol'.length) = true; rw [e0]; exact dec1 (by omega))
      refine ih (i + 1) (ol'.set (0 + (IntKind.i64.wrap (i + 4)).toNat * 1) c') (by omega) (by omega) (by omega) (by exact ho'.set _ hc') (by rw [List.length_set]; exact hl') r (h.trans ?_)
      rw [← e0']; rfl
    · replace h := h.trans (T171_0r h171_2 a0 a1 a2 a3 b0 b1 b2 b3 i ol (f + 1) m _ finB _ rfl)
      exact ⟨ol, gn h (ilt_f' (by omega)), ho, hl⟩
theorem ln8 {l : List Int} (h : l.length = 8) : ∃ o0 o1 o2 o3 o4 o5 o6 o7, l = [o0, o1, o2, o3, o4, o5, o6, o7] := by
  match l, h with
  | [o0, o1, o2, o3, o4, o5, o6, o7], _ => exact ⟨_, _, _, _, _, _, _, _, rfl⟩
theorem z171_0 (a0 a1 a2 a3 b0 b1 b2 b3 i o0 o1 o2 o3 o4 o5 o6 o7 : Int) (f : Nat) (X : Type) (k : AExit → AAct → List AObj → Option X) :
    exec (E171_0 h171_2) (f + 60) 0 (.loop (rnd Tryz.f171 0)) ⟨(jn 3 (.ptr 0 0 :: .ptr 1 0 :: .ptr 2 0 :: .ptr 3 0 :: jn 9 (U a0 a1 a2 a3 :: i64 i :: jn 51 []))), [], 171, 0, false⟩
      [.cells [u b0, u b1, u b2, u b3], .cells [u 0, u 0, u 0, u 0], .cells [u 0, u 0, u 0, u 0], .cells [u o0, u o1, u o2, u o3, u o4, u o5, u o6, u o7]] X k =
    exec (E171_0 h171_2) (f + 60) 0 (.loop (rnd Tryz.f171 0)) ⟨(jn 3 (.ptr 0 0 :: .ptr 1 0 :: .ptr 2 0 :: .ptr 3 0 :: jn 9 (U a0 a1 a2 a3 :: i64 i :: jn 51 []))), [], 171, 0, false⟩
      [.cells [u b0, u b1, u b2, u b3], .cells [u 0, u 0, u 0, u 0], .cells [u 0, u 0, u 0, u 0], .ints .u64 [o0, o1, o2, o3, o4, o5, o6, o7]] X k := by kernel_rfl
theorem w171 {a0 a1 a2 a3 b0 b1 b2 b3 : Int} (ha : R4 a0 a1 a2 a3) (hb : R4 b0 b1 b2 b3) : ∃ s0 s1 s2 s3 t0 t1 t2 t3, r171 [U a0 a1 a2 a3, U b0 b1 b2 b3] [] = some (.ret (.tuple [U s0 s1 s2 s3, U t0 t1 t2 t3]), []) ∧ R4 s0 s1 s2 s3 ∧ R4 t0 t1 t2 t3 := by
  obtain ⟨ol, e, ho, hl⟩ := l171_0 ha hb 139 139 0 [0, 0, 0, 0, 0, 0, 0, 0] (by omega) (by omega) (by omega) (fun n hn => by simp at hn; rw [hn]; exact r64_0) rfl _ rfl
  have h := (q171 _ _).trans (T171 h171_0 a0 a1 a2 a3 b0 b1 b2 b3 _ fin _ ((p171_0 _ _ 199 rfl).trans ((z171_0 a0 a1 a2 a3 b0 b1 b2 b3 0 0 0 0 0 0 0 0 0 139 _ _).trans e)))
  obtain ⟨o0, o1, o2, o3, o4, o5, o6, o7, rfl⟩ := ln8 hl
  refine ⟨o4, o5, o6, o7, o0, o1, o2, o3, h, ⟨?_, ?_, ?_, ?_⟩, ⟨?_, ?_, ?_, ?_⟩⟩ <;> exact ho _ (by simp)
theorem w118 {a0 a1 a2 a3 b0 b1 b2 b3 : Int} (ha : R4 a0 a1 a2 a3) (hb : R4 b0 b1 b2 b3) : ∃ t0 t1 t2 t3, r118 [U a0 a1 a2 a3, U b0 b1 b2 b3] [] = some (.ret (U t0 t1 t2 t3), []) ∧ R4 t0 t1 t2 t3 := by
  obtain ⟨_, _, _, _, _, _, _, _, e, _, h⟩ := w171 ha hb
  exact ⟨_, _, _, _, (q118 _ _).trans (T118 r171 a0 a1 a2 a3 b0 b1 b2 b3 _ fin _ e), h⟩
end Go.Proofs.Vm
end
section
namespace Go.Proofs.Vm
open Go Go.Abs
set_option maxRecDepth 100000
def R32 (x : Int) : Prop := 0 ≤ x ∧ x ≤ 4294967295
def All32 (l : List Int) : Prop := ∀ n ∈ l, R32 n
theorem All32.get {l : List Int} (h : All32 l) (i : Nat) : R32 (l.getD i 0) := by
  rw [List.getD_eq_getElem?_getD]
  cases hi : l[i]? with
  | none => constructor <;> simp
  | some x => exact h x (List.mem_of_getElem? hi)
theorem all32 {l : List Int} (h : ∀ i, i < l.length → R32 (l.getD i 0)) : All32 l := fun n hn => by
  obtain ⟨i, hi⟩ := List.getElem?_of_mem hn
  have hl : i < l.length := (List.getElem?_eq_some_iff.1 hi).1
  have := h i hl
  rw [List.getD_eq_getElem?_getD, hi] at this
  exact this
theorem band32 (a : Int) : R32 (IntKind.u64.wrap (↑(BitVec.ofInt IntKind.u64.bits a &&& BitVec.ofInt IntKind.u64.bits 4294967295).toNat : Int)) := by
  have h : (BitVec.ofInt IntKind.u64.bits a &&& BitVec.ofInt IntKind.u64.bits 4294967295).toNat ≤ 4294967295 := by
    rw [BitVec.toNat_and]
    exact Nat.le_trans Nat.and_le_right (by decide)
  rw [IntWalk.u64_in _ (by omega)]
  constructor <;> omega
theorem hi32 {a : Int} (h : R64 a) : R32 (a.fdiv (2 ^ min (Int.toNat 32) IntKind.u64.bits)) := by
  show R32 (a.fdiv 4294967296)
  obtain ⟨h1, h2⟩ := h
  rw [Int.fdiv_eq_ediv_of_nonneg _ (by omega)]
  constructor <;> omega
def L17 (l : List Int) : Prop := l.length = 17
theorem l17 {l : List Int} (h : l.length = 17) : ∃ d0 d1 d2 d3 d4 d5 d6 d7 d8 d9 d10 d11 d12 d13 d14 d15 d16, l = [d0, d1, d2, d3, d4, d5, d6, d7, d8, d9, d10, d11, d12, d13, d14, d15, d16] := by
  match l, h with
  | [d0, d1, d2, d3, d4, d5, d6, d7, d8, d9, d10, d11, d12, d13, d14, d15, d16], _ => exact ⟨_, _, _, _, _, _, _, _, _, _, _, _, _, _, _, _, _, rfl⟩
def agg (l : List Int) : AV := .agg (l.map u)
theorem w173 {a0 a1 a2 a3 : Int} (ha : R4 a0 a1 a2 a3) : ∃ l, r173 [.sl 4 [[u a0, u a1, u a2, u a3]]] [] = some (.ret (agg l), []) ∧ l.length = 17 ∧ All32 l ∧ l.getD 16 0 = 0 := by
  refine ⟨[_, _, _, _, _, _, _, _, _, _, _, _, _, _, _, _, _], (q173 _ _).trans (T173 a0 a1 a2 a3 _ fin), rfl, ?_, rfl⟩
  intro n hn
  simp only [List.mem_cons, List.mem_nil_iff, or_false] at hn
  have z : R32 0 := by constructor <;> omega
  rcases hn with rfl | rfl | rfl | rfl | rfl | rfl | rfl | rfl | rfl | rfl | rfl | rfl | rfl | rfl | rfl | rfl | rfl <;>
    first | exact band32 _ | exact hi32 ha.h0 | exact hi32 ha.h1 | exact hi32 ha.h2 | exact hi32 ha.h3 | exact z
theorem w173b {a0 a1 a2 a3 b0 b1 b2 b3 : Int} (ha : R4 a0 a1 a2 a3) (hb : R4 b0 b1 b2 b3) : ∃ l, r173b [.sl 4 [[u a0, u a1, u a2, u a3], [u b0, u b1, u b2, u b3]]] [] = some (.ret (agg l), []) ∧ l.length = 17 ∧ All32 l ∧ l.getD 16 0 = 0 := by
  refine ⟨[_, _, _, _, _, _, _, _, _, _, _, _, _, _, _, _, _], (q173b _ _).trans (T173b a0 a1 a2 a3 b0 b1 b2 b3 _ fin), rfl, ?_, rfl⟩
  intro n hn
  simp only [List.mem_cons, List.mem_nil_iff, or_false] at hn
  have z : R32 0 := by constructor <;> omega
  rcases hn with rfl | rfl | rfl | rfl | rfl | rfl | rfl | rfl | rfl | rfl | rfl | rfl | rfl | rfl | rfl | rfl | rfl <;>
    first | exact band32 _ | exact hi32 ha.h0 | exact hi32 ha.h1 | exact hi32 ha.h2 | exact hi32 ha.h3 | exact hi32 hb.h0 | exact hi32 hb.h1 | exact hi32 hb.h2 | exact hi32 hb.h3 | exact z
theorem w175 {l : List Int} (hl : l.length = 17) : ∃ s0 s1 s2 s3, r175 [agg l, i64 0] [] = some (.ret (U s0 s1 s2 s3), []) ∧ R4 s0 s1 s2 s3 := by
  obtain ⟨d0, d1, d2, d3, d4, d5, d6, d7, d8, d9, d10, d11, d12, d13, d14, d15, d16, rfl⟩ := l17 hl
  exact ⟨_, _, _, _, (q175 _ _).trans (T175 d0 d1 d2 d3 d4 d5 d6 d7 d8 d9 d10 d11 d12 d13 d14 d15 d16 _ fin), r4w _ _ _ _⟩
theorem w237 {l : List Int} (hl : l.length = 17) (hz : l.getD 16 0 = 0) : ∃ n : Nat, r237 [agg l] [] = some (.ret (i64 n), []) ∧ n ≤ 16 ∧ (n = 0 ∨ l.getD (n - 1) 0 ≠ 0) := by
  obtain ⟨d0, d1, d2, d3, d4, d5, d6, d7, d8, d9, d10, d11, d12, d13, d14, d15, d16, rfl⟩ := l17 hl
  have h := (q237 _ _).trans (T237 d0 d1 d2 d3 d4 d5 d6 d7 d8 d9 d10 d11 d12 d13 d14 d15 d16 _ fin)
  obtain rfl : d16 = 0 := hz
  replace h := gn h (by rfl)
  have ne : ∀ x : Int, (x != 0) = true → x ≠ 0 := fun x h => by simpa using h
  by_cases h15 : (d15 != 0) = true
  · exact ⟨16, go h h15, by omega, .inr (ne _ h15)⟩
  replace h := gn h (by simpa using h15)
  by_cases h14 : (d14 != 0) = true
  · exact ⟨15, go h h14, by omega, .inr (ne _ h14)⟩
  replace h := gn h (by simpa using h14)
  by_cases h13 : (d13 != 0) = true
  · exact ⟨14, go h h13, by omega, .inr (ne _ h13)⟩
  replace h := gn h (by simpa using h13)
  by_cases h12 : (d12 != 0) = true
  · exact ⟨13, go h h12, by omega, .inr (ne _ h12)⟩
  replace h := gn h (by simpa using h12)
  by_cases h11 : (d11 != 0) = true
  · exact ⟨12, go h h11, by omega, .inr (ne _ h11)⟩
  replace h := gn h (by simpa using h11)
  by_cases h10 : (d10 != 0) = true
  · exact ⟨11, go h h10, by omega, .inr (ne _ h10)⟩
  replace h := gn h (by simpa using h10)
  by_cases h9 : (d9 != 0) = true
  · exact ⟨10, go h h9, by omega, .inr (ne _ h9)⟩
  replace h := gn h (by simpa using h9)
  by_cases h8 : (d8 != 0) = true
  · exact ⟨9, go h h8, by omega, .inr (ne _ h8)⟩
  replace h := gn h (by simpa using h8)
  by_cases h7 : (d7 != 0) = true
  · exact ⟨8, go h h7, by omega, .inr (ne _ h7)⟩
  replace h := gn h (by simpa using h7)
  by_cases h6 : (d6 != 0) = true
  · exact ⟨7, go h h6, by omega, .inr (ne _ h6)⟩
  replace h := gn h (by simpa using h6)
  by_cases h5 : (d5 != 0) = true
  · exact ⟨6, go h h5, by omega, .inr (ne _ h5)⟩
  replace h := gn h (by simpa using h5)
  by_cases h4 : (d4 != 0) = true
  · exact ⟨5, go h h4, by omega, .inr (ne _ h4)⟩
  replace h := gn h (by simpa using h4)
  by_cases h3 : (d3 != 0) = true
  · exact ⟨4, go h h3, by omega, .inr (ne _ h3)⟩
  replace h := gn h (by simpa using h3)
  by_cases h2 : (d2 != 0) = true
  · exact ⟨3, go h h2, by omega, .inr (ne _ h2)⟩
  replace h := gn h (by simpa using h2)
  by_cases h1 : (d1 != 0) = true
  · exact ⟨2, go h h1, by omega, .inr (ne _ h1)⟩
  replace h := gn h (by simpa using h1)
  by_cases h0 : (d0 != 0) = true
  · exact ⟨1, go h h0, by omega, .inr (ne _ h0)⟩
  replace h := gn h (by simpa using h0)
  exact ⟨0, h, by omega, .inl rfl⟩
end Go.Proofs.Vm
end
section
namespace Go.Proofs.Vm
open Go Go.Abs
set_option maxRecDepth 100000
set_option maxHeartbeats 1000000
theorem getD_set (l : List Int) (i j : Nat) (x : Int) : (l.set i x).getD j 0 = if i = j ∧ i < l.length then x else l.getD j 0 := by
  simp only [List.getD_eq_getElem?_getD, List.getElem?_set]
  by_cases h : i = j
  · subst h
    by_cases h2 : i < l.length
    · simp [h2]
    · simp [h2]
  · simp [h]
theorem bvN {c : Int} (h0 : 0 ≤ c) (h1 : c ≤ 18446744073709551615) : (BitVec.ofInt IntKind.u64.bits c).toNat = c.toNat := by
  show (BitVec.ofInt 64 c).toNat = _
  rw [BitVec.toNat_ofInt]
  omega
theorem or32 {c y : Int} (hc : R32 c) (hy : R32 y) : y ≤ IntKind.u64.wrap (↑(BitVec.ofInt IntKind.u64.bits (IntKind.u64.wrap (↑(BitVec.ofInt IntKind.u64.bits c ||| BitVec.ofInt IntKind.u64.bits y).toNat : Int)) &&& BitVec.ofInt IntKind.u64.bits 4294967295).toNat : Int) := by
  obtain ⟨c0, c1⟩ := hc
  obtain ⟨y0, y1⟩ := hy
  have h1 : (BitVec.ofInt IntKind.u64.bits c ||| BitVec.ofInt IntKind.u64.bits y).toNat = c.toNat ||| y.toNat := by
    rw [BitVec.toNat_or, bvN c0 (by omega), bvN y0 (by omega)]
  have h2 : c.toNat ||| y.toNat < 2 ^ 32 := Nat.or_lt_two_pow (by omega) (by omega)
  have h3 : y.toNat ≤ c.toNat ||| y.toNat := Nat.right_le_or
  rw [h1, IntWalk.u64_in ((c.toNat ||| y.toNat : Nat) : Int) (by omega), BitVec.toNat_and, bvN (by omega) (by omega), Int.toNat_natCast]
  have h4 : (BitVec.ofInt IntKind.u64.bits 4294967295).toNat = 2 ^ 32 - 1 := rfl
  rw [h4, Nat.and_two_pow_sub_one_of_lt_two_pow h2, IntWalk.u64_in _ (by omega)]
  omega
theorem l239_0 (d0 d1 d2 d3 d4 d5 d6 d7 d8 d9 d10 d11 d12 d13 d14 d15 d16 s : Int) (hd : All32 [d0, d1, d2, d3, d4, d5, d6, d7, d8, d9, d10, d11, d12, d13, d14, d15, d16]) (hs0 : 0 ≤ s) (hs : s ≤ 31) (m : Nat) : ∀ (f : Nat) (i c : Int) (cs : List Int), 0 ≤ i → i ≤ 17 → 17 - i ≤ f → R32 c → cs.length = 17 →
    (∀ j : Nat, (j : Int) < i → R32 (cs.getD j 0) ∧ ([d0, d1, d2, d3, d4, d5, d6, d7, d8, d9, d10, d11, d12, d13, d14, d15, d16].getD j 0 * 2 ^ s.toNat ≤ 4294967295 → [d0, d1, d2, d3, d4, d5, d6, d7, d8, d9, d10, d11, d12, d13, d14, d15, d16].getD j 0 * 2 ^ s.toNat ≤ cs.getD j 0)) → ∀ r,
    r = exec (E239_0) (f + 60) 0 (.loop (rnd Tryz.f239 0)) ⟨(J :: u s :: .ptr 0 0 :: J :: .ptr 1 0 :: u c :: J :: J :: D17 d0 d1 d2 d3 d4 d5 d6 d7 d8 d9 d10 d11 d12 d13 d14 d15 d16 :: i64 i :: jn 16 []), [], 239, 0, false⟩ [.ints .u64 cs, .cells (D17c 0 0 0 0 0 0 0 0 0 0 0 0 0 0 0 0 0)] _ (bK (E239_0) (m + 60) 0 finB) →
    ∃ cs', r = finB .normal ⟨(J :: J :: .ptr 0 0 :: J :: .ptr 1 0 :: jn 21 []), [], 239, 0, false⟩ [.ints .u64 cs', .cells (D17c 0 0 0 0 0 0 0 0 0 0 0 0 0 0 0 0 0)] ∧ cs'.length = 17 ∧
      ∀ j : Nat, j < 17 → R32 (cs'.getD j 0) ∧ ([d0, d1, d2, d3, d4, d5, d6, d7, d8, d9, d10, d11, d12, d13, d14, d15, d16].getD j 0 * 2 ^ s.toNat ≤ 4294967295 → [d0, d1, d2, d3, d4, d5, d6, d7, d8, d9, d10, d11, d12, d13, d14, d15, d16].getD j 0 * 2 ^ s.toNat ≤ cs'.getD j 0) := by
  intro f
  induction f with
  | zero =>
    intro i c cs h0 h4 hf hc hl hj r h
    replace h := h.trans (T239_0r d0 d1 d2 d3 d4 d5 d6 d7 d8 d9 d10 d11 d12 d13 d14 d15 d16 s c i cs 0 m _ finB)
    exact ⟨cs, gn h (ilt_f' (by omega)), hl, fun j hj2 => hj j (by omega)⟩
  | succ f ih =>
    intro i c cs h0 h4 hf hc hl hj r h
    replace h := h.trans (T239_0r d0 d1 d2 d3 d4 d5 d6 d7 d8 d9 d10 d11 d12 d13 d14 d15 d16 s c i cs (f + 1) m _ finB)
    by_cases hk : i < 17
    · have e0' : IntKind.i64.wrap (i + 1) = i + 1 := w8in (by omega) (by omega)
      have hlt : 0 + i.toNat * 1 < cs.length := by omega
      have hx : ([u d0, u d1, u d2, u d3, u d4, u d5, u d6, u d7, u d8, u d9, u d10, u d11, u d12, u d13, u d14, u d15, u d16].getD (i.toNat * 1) J).toInt = [d0, d1, d2, d3, d4, d5, d6, d7, d8, d9, d10, d11, d12, d13, d14, d15, d16].getD i.toNat 0 := by
        have := intG (l := [d0, d1, d2, d3, d4, d5, d6, d7, d8, d9, d10, d11, d12, d13, d14, d15, d16]) (i := i.toNat * 1) (by simp; omega)
        rw [Nat.mul_one] at this ⊢
        exact this
      have hdm := demG (l := [d0, d1, d2, d3, d4, d5, d6, d7, d8, d9, d10, d11, d12, d13, d14, d15, d16]) (i := i.toNat * 1) (by simp; omega)
      have hxr := hd.get i.toNat
      rw [hx] at h
      generalize hxe : [d0, d1, d2, d3, d4, d5, d6, d7, d8, d9, d10, d11, d12, d13, d14, d15, d16].getD i.toNat 0 = x at h hxr
      replace h := go h (ilt_t' hk)
      rw [Bool.and_eq_true] at hdm
      replace h := go h (by
        rw [Bool.and_eq_true, Bool.and_eq_true, Bool.and_eq_true]
        exact ⟨dec1 (by omega), dec1 (by omega), hdm.1, hdm.2⟩)
      replace h := go h (dec1 (by omega))
      replace h := go h (dec2 (by omega) (by omega))
      replace h := go h (dec1 (by omega))
      rw [e0'] at h
      refine ih (i + 1) _ _ (by omega) (by omega) (by omega) (by exact hi32 (r64w _)) (by rw [List.length_set]; exact hl) ?_ r h
      intro j hj2
      rw [getD_set]
      by_cases hji : 0 + i.toNat * 1 = j ∧ 0 + i.toNat * 1 < cs.length
      · rw [if_pos hji]
        refine ⟨band32 _, fun hle => ?_⟩
        have hjx : j = i.toNat := by omega
        rw [hjx, hxe] at hle ⊢
        have hmin : min s.toNat IntKind.u64.bits = s.toNat := by show min s.toNat 64 = _; omega
        rw [hmin]
        have hp : (0 : Int) < 2 ^ s.toNat := Int.pow_pos (by omega)
        have hx0 : 0 ≤ x * 2 ^ s.toNat := Int.mul_nonneg hxr.1 (by omega)
        rw [IntWalk.u64_in (x * 2 ^ s.toNat) (by omega)]
        exact or32 hc ⟨hx0, hle⟩
      · rw [if_neg hji]
        exact hj j (by omega)
    · exact ⟨cs, gn h (ilt_f' (by omega)), hl, fun j hj2 => hj j (by omega)⟩
theorem z239_0 (d0 d1 d2 d3 d4 d5 d6 d7 d8 d9 d10 d11 d12 d13 d14 d15 d16 s c i : Int) (f : Nat) (X : Type) (k : AExit → AAct → List AObj → Option X) :
    exec (E239_0) (f + 60) 0 (.loop (rnd Tryz.f239 0)) ⟨(J :: u s :: .ptr 0 0 :: J :: .ptr 1 0 :: u c :: J :: J :: D17 d0 d1 d2 d3 d4 d5 d6 d7 d8 d9 d10 d11 d12 d13 d14 d15 d16 :: i64 i :: jn 16 []), [], 239, 0, false⟩ [.cells (D17c d0 d1 d2 d3 d4 d5 d6 d7 d8 d9 d10 d11 d12 d13 d14 d15 d16), .cells (D17c 0 0 0 0 0 0 0 0 0 0 0 0 0 0 0 0 0)] X k =
    exec (E239_0) (f + 60) 0 (.loop (rnd Tryz.f239 0)) ⟨(J :: u s :: .ptr 0 0 :: J :: .ptr 1 0 :: u c :: J :: J :: D17 d0 d1 d2 d3 d4 d5 d6 d7 d8 d9 d10 d11 d12 d13 d14 d15 d16 :: i64 i :: jn 16 []), [], 239, 0, false⟩ [.ints .u64 [d0, d1, d2, d3, d4, d5, d6, d7, d8, d9, d10, d11, d12, d13, d14, d15, d16], .cells (D17c 0 0 0 0 0 0 0 0 0 0 0 0 0 0 0 0 0)] X k := by kernel_rfl
theorem w239 {l : List Int} {s : Int} (hl : l.length = 17) (hd : All32 l) (hs0 : 0 ≤ s) (hs : s ≤ 31) : ∃ l', r239 [agg l, u s] [] = some (.ret (agg l'), []) ∧ l'.length = 17 ∧ All32 l' ∧ ∀ j, j < 17 → l.getD j 0 * 2 ^ s.toNat ≤ 4294967295 → l.getD j 0 * 2 ^ s.toNat ≤ l'.getD j 0 := by
  obtain ⟨d0, d1, d2, d3, d4, d5, d6, d7, d8, d9, d10, d11, d12, d13, d14, d15, d16, rfl⟩ := l17 hl
  obtain ⟨cs, e, hcl, hc⟩ := l239_0 d0 d1 d2 d3 d4 d5 d6 d7 d8 d9 d10 d11 d12 d13 d14 d15 d16 s hd hs0 hs 139 139 0 0 [d0, d1, d2, d3, d4, d5, d6, d7, d8, d9, d10, d11, d12, d13, d14, d15, d16] (by omega) (by omega) (by omega) (by constructor <;> omega) rfl (fun j hj => by omega) _ rfl
  have h := (q239 _ _).trans (T239 h239_0 d0 d1 d2 d3 d4 d5 d6 d7 d8 d9 d10 d11 d12 d13 d14 d15 d16 s _ fin _ ((p239_0 _ _ 199 rfl).trans ((z239_0 d0 d1 d2 d3 d4 d5 d6 d7 d8 d9 d10 d11 d12 d13 d14 d15 d16 s 0 0 139 _ _).trans e)))
  have h17 : ∀ j : Nat, j < 17 → R32 (cs.getD j 0) := fun j hj => (hc j hj).1
  have hall : All32 cs := all32 fun i hi => h17 i (by omega)
  obtain ⟨c0, c1, c2, c3, c4, c5, c6, c7, c8, c9, c10, c11, c12, c13, c14, c15, c16, rfl⟩ := l17 hcl
  exact ⟨[c0, c1, c2, c3, c4, c5, c6, c7, c8, c9, c10, c11, c12, c13, c14, c15, c16], h, rfl, hall, fun j hj => (hc j hj).2⟩
theorem l238_0 {n : Int} (hn : n ≠ 0) (m : Nat) : ∀ (f : Nat) (i left : Int) (cs : List Int), -1 ≤ i → i ≤ 16 → i + 1 ≤ f → cs.length = 17 → ∀ r,
    r = exec (E238_0) (f + 60) 0 (.loop (rnd Tryz.f238 0)) ⟨(J :: u n :: .ptr 0 0 :: J :: .ptr 1 0 :: J :: u left :: i64 i :: jn 20 []), [], 238, 0, false⟩ [.ints .u64 cs, .cells (D17c 0 0 0 0 0 0 0 0 0 0 0 0 0 0 0 0 0)] _ (bK (E238_0) (m + 60) 0 finB) →
    ∃ cs' left', r = finB .normal ⟨(J :: J :: .ptr 0 0 :: J :: .ptr 1 0 :: J :: u left' :: jn 21 []), [], 238, 0, false⟩ [.ints .u64 cs', .cells (D17c 0 0 0 0 0 0 0 0 0 0 0 0 0 0 0 0 0)] ∧ cs'.length = 17 := by
  intro f
  induction f with
  | zero =>
    intro i left cs h0 h4 hf hl r h
    replace h := h.trans (T238_0r n left i cs 0 m _ finB)
    exact ⟨cs, left, gn h (ile_f' (by omega)), hl⟩
  | succ f ih =>
    intro i left cs h0 h4 hf hl r h
    replace h := h.trans (T238_0r n left i cs (f + 1) m _ finB)
    by_cases hk : 0 ≤ i
    · have e0' : IntKind.i64.wrap (i - 1) = i - 1 := w8in (by omega) (by omega)
      have hlt : 0 + i.toNat * 1 < cs.length := by omega
      replace h := go h (ile_t' hk)
      replace h := go h (dec2 (by omega) (by omega))
      replace h := go h (demG hlt)
      replace h := go h (dec1 hn)
      replace h := go h (dec1 hn)
      replace h := go h (dec2 (by omega) (by omega))
      replace h := go h (dec1 (by omega))
      rw [e0'] at h
      exact ih (i - 1) _ _ (by omega) (by omega) (by omega) (by rw [List.length_set]; exact hl) r h
    · exact ⟨cs, left, gn h (ile_f' (by omega)), hl⟩
theorem z238_0 (d0 d1 d2 d3 d4 d5 d6 d7 d8 d9 d10 d11 d12 d13 d14 d15 d16 n left i : Int) (f : Nat) (X : Type) (k : AExit → AAct → List AObj → Option X) :
    exec (E238_0) (f + 60) 0 (.loop (rnd Tryz.f238 0)) ⟨(J :: u n :: .ptr 0 0 :: J :: .ptr 1 0 :: J :: u left :: i64 i :: jn 20 []), [], 238, 0, false⟩ [.cells (D17c d0 d1 d2 d3 d4 d5 d6 d7 d8 d9 d10 d11 d12 d13 d14 d15 d16), .cells (D17c 0 0 0 0 0 0 0 0 0 0 0 0 0 0 0 0 0)] X k =
    exec (E238_0) (f + 60) 0 (.loop (rnd Tryz.f238 0)) ⟨(J :: u n :: .ptr 0 0 :: J :: .ptr 1 0 :: J :: u left :: i64 i :: jn 20 []), [], 238, 0, false⟩ [.ints .u64 [d0, d1, d2, d3, d4, d5, d6, d7, d8, d9, d10, d11, d12, d13, d14, d15, d16], .cells (D17c 0 0 0 0 0 0 0 0 0 0 0 0 0 0 0 0 0)] X k := by kernel_rfl
theorem w238 {l : List Int} {n : Int} (hl : l.length = 17) (hn : n ≠ 0) : ∃ l' left, r238 [agg l, u n] [] = some (.ret (.tuple [agg l', u left]), []) ∧ l'.length = 17 := by
  obtain ⟨d0, d1, d2, d3, d4, d5, d6, d7, d8, d9, d10, d11, d12, d13, d14, d15, d16, rfl⟩ := l17 hl
  obtain ⟨cs, left, e, hcl⟩ := l238_0 hn 139 139 16 0 [d0, d1, d2, d3, d4, d5, d6, d7, d8, d9, d10, d11, d12, d13, d14, d15, d16] (by omega) (by omega) (by omega) rfl _ rfl
  have h := (q238 _ _).trans (T238 h238_0 d0 d1 d2 d3 d4 d5 d6 d7 d8 d9 d10 d11 d12 d13 d14 d15 d16 n _ fin _ ((p238_0 _ _ 199 rfl).trans ((z238_0 d0 d1 d2 d3 d4 d5 d6 d7 d8 d9 d10 d11 d12 d13 d14 d15 d16 n 0 16 139 _ _).trans e)))
  obtain ⟨c0, c1, c2, c3, c4, c5, c6, c7, c8, c9, c10, c11, c12, c13, c14, c15, c16, rfl⟩ := l17 hcl
  exact ⟨[c0, c1, c2, c3, c4, c5, c6, c7, c8, c9, c10, c11, c12, c13, c14, c15, c16], left, h, rfl⟩
theorem l243_0 {s : Int} (hs0 : 0 ≤ s) {ds : List Int} (hd : ds.length = 17) (n : Int) (m : Nat) : ∀ (f : Nat) (i : Int) (cs : List Int), 0 ≤ i → i ≤ n → n ≤ 16 → n - i ≤ f → cs.length = 17 → ∀ r,
    r = exec (E243_0) (f + 60) 0 (.loop (rnd Tryz.f243 0)) ⟨(J :: u s :: i64 n :: .ptr 0 0 :: J :: J :: .ptr 1 0 :: .ptr 2 0 :: J :: i64 n :: i64 i :: jn 28 []), [], 243, 0, false⟩ [.ints .u64 ds, .cells (D17c 0 0 0 0 0 0 0 0 0 0 0 0 0 0 0 0 0), .ints .u64 cs] _ (bK (E243_0) (m + 60) 0 finB) →
    ∃ cs', r = finB .normal ⟨(jn 6 (.ptr 0 0 :: .ptr 1 0 :: jn 31 [])), [], 243, 0, false⟩ [.cells (D17c 0 0 0 0 0 0 0 0 0 0 0 0 0 0 0 0 0), .ints .u64 cs'] ∧ cs'.length = 17 := by
  intro f
  induction f with
  | zero =>
    intro i cs h0 h4 h16 hf hl r h
    replace h := h.trans (T243_0r s n n i cs ds 0 m _ finB)
    exact ⟨cs, gn h (ilt_f' (by omega)), hl⟩
  | succ f ih =>
    intro i cs h0 h4 h16 hf hl r h
    replace h := h.trans (T243_0r s n n i cs ds (f + 1) m _ finB)
    by_cases hk : i < n
    · have e0' : IntKind.i64.wrap (i + 1) = i + 1 := w8in (by omega) (by omega)
      have hlt : 0 + i.toNat * 1 < cs.length := by omega
      have hlt2 : 0 + i.toNat * 1 < ds.length := by omega
      rw [e0'] at h
      replace h := go h (ilt_t' hk)
      replace h := go h (dec2 (by omega) (by omega))
      replace h := go h (demG hlt2)
      replace h := go h (dec1 hs0)
      replace h := go h (dec2 (by omega) (by omega))
      replace h := go h (dec1 (by omega))
      by_cases hk2 : i + 1 < n
      · replace h := go h (ilt_t' hk2)
        replace h := go h (dec2 (by omega) (by omega))
        replace h := go h (demG (by rw [List.length_set]; exact hlt))
        replace h := go h (dec2 (by omega) (by omega))
        replace h := go h (demG (by omega))
        replace h := go h (dec1 (r64w _).1)
        replace h := go h (dec2 (by omega) (by omega))
        replace h := go h (dec1 (by rw [List.length_set]; omega))
        exact ih (i + 1) _ (by omega) (by omega) h16 (by omega) (by rw [List.length_set, List.length_set]; exact hl) r h
      · replace h := gn h (ilt_f' (by omega))
        exact ih (i + 1) _ (by omega) (by omega) h16 (by omega) (by rw [List.length_set]; exact hl) r h
    · exact ⟨cs, gn h (ilt_f' (by omega)), hl⟩
theorem z243_0 (d0 d1 d2 d3 d4 d5 d6 d7 d8 d9 d10 d11 d12 d13 d14 d15 d16 s n nn i : Int) (f : Nat) (X : Type) (k : AExit → AAct → List AObj → Option X) :
    exec (E243_0) (f + 60) 0 (.loop (rnd Tryz.f243 0)) ⟨(J :: u s :: i64 n :: .ptr 0 0 :: J :: J :: .ptr 1 0 :: .ptr 2 0 :: J :: i64 nn :: i64 i :: jn 28 []), [], 243, 0, false⟩ [.cells (D17c d0 d1 d2 d3 d4 d5 d6 d7 d8 d9 d10 d11 d12 d13 d14 d15 d16), .cells (D17c 0 0 0 0 0 0 0 0 0 0 0 0 0 0 0 0 0), .cells (D17c 0 0 0 0 0 0 0 0 0 0 0 0 0 0 0 0 0)] X k =
    exec (E243_0) (f + 60) 0 (.loop (rnd Tryz.f243 0)) ⟨(J :: u s :: i64 n :: .ptr 0 0 :: J :: J :: .ptr 1 0 :: .ptr 2 0 :: J :: i64 nn :: i64 i :: jn 28 []), [], 243, 0, false⟩ [.ints .u64 [d0, d1, d2, d3, d4, d5, d6, d7, d8, d9, d10, d11, d12, d13, d14, d15, d16], .cells (D17c 0 0 0 0 0 0 0 0 0 0 0 0 0 0 0 0 0), .ints .u64 [0, 0, 0, 0, 0, 0, 0, 0, 0, 0, 0, 0, 0, 0, 0, 0, 0]] X k := by kernel_rfl
theorem w243 {l : List Int} {s n : Int} (hl : l.length = 17) (hs : 0 ≤ s) (h0 : 0 ≤ n) (h16 : n ≤ 16) : ∃ l', r243 [agg l, u s, i64 n] [] = some (.ret (agg l'), []) ∧ l'.length = 17 := by
  obtain ⟨d0, d1, d2, d3, d4, d5, d6, d7, d8, d9, d10, d11, d12, d13, d14, d15, d16, rfl⟩ := l17 hl
  obtain ⟨cs, e, hcl⟩ := l243_0 hs (ds := [d0, d1, d2, d3, d4, d5, d6, d7, d8, d9, d10, d11, d12, d13, d14, d15, d16]) rfl n 139 139 0 [0, 0, 0, 0, 0, 0, 0, 0, 0, 0, 0, 0, 0, 0, 0, 0, 0] (by omega) h0 h16 (by omega) rfl _ rfl
  have h := (q243 _ _).trans (T243 h243_0 d0 d1 d2 d3 d4 d5 d6 d7 d8 d9 d10 d11 d12 d13 d14 d15 d16 s n _ fin _ ((p243_0 _ _ 199 rfl).trans ((z243_0 d0 d1 d2 d3 d4 d5 d6 d7 d8 d9 d10 d11 d12 d13 d14 d15 d16 s n n 0 139 _ _).trans e)))
  obtain ⟨c0, c1, c2, c3, c4, c5, c6, c7, c8, c9, c10, c11, c12, c13, c14, c15, c16, rfl⟩ := l17 hcl
  exact ⟨[c0, c1, c2, c3, c4, c5, c6, c7, c8, c9, c10, c11, c12, c13, c14, c15, c16], h, rfl⟩
end Go.Proofs.Vm
end
section
namespace Go.Proofs.Vm
open Go Go.Abs
set_option maxRecDepth 100000
set_option maxHeartbeats 1000000
theorem l241_0 {g at_ n : Int} (ha : 0 ≤ at_) (han : at_ + n ≤ 16) {vs : List Int} (hvl : vs.length = 17) (m : Nat) : ∀ (f : Nat) (i c : Int) (cs : List Int), 0 ≤ i → i ≤ n → n - i ≤ f → cs.length = 17 → ∀ r,
    r = exec (E241_0) (f + 60) 0 (.loop (rnd Tryz.f241 0)) ⟨(.ptr 0 0 :: J :: u g :: i64 at_ :: i64 n :: J :: .ptr 1 0 :: jn 4 (u c :: jn 3 (i64 n :: i64 i :: jn 72 []))), [], 241, 1, false⟩ [.ints .u64 cs, .ints .u64 vs] _ (bK (E241_0) (m + 60) 0 finB) →
    ∃ cs' c', r = finB .normal ⟨(.ptr 0 0 :: J :: J :: i64 at_ :: i64 n :: jn 6 (u c' :: jn 77 [])), [], 241, 1, false⟩ [.ints .u64 cs'] ∧ cs'.length = 17 := by
  intro f
  induction f with
  | zero =>
    intro i c cs h0 h4 hf hl r h
    replace h := h.trans (T241_0r g at_ n n i c cs vs 0 m _ finB)
    exact ⟨cs, c, gn h (ilt_f' (by omega)), hl⟩
  | succ f ih =>
    intro i c cs h0 h4 hf hl r h
    replace h := h.trans (T241_0r g at_ n n i c cs vs (f + 1) m _ finB)
    by_cases hk : i < n
    · have e0' : IntKind.i64.wrap (i + 1) = i + 1 := w8in (by omega) (by omega)
      have e1 : IntKind.i64.wrap (at_ + i) = at_ + i := w8in (by omega) (by omega)
      have hlt : 0 + (at_ + i).toNat * 1 < cs.length := by omega
      have hlv : 0 + i.toNat * 1 < vs.length := by omega
      rw [e0', e1] at h
      replace h := go h (ilt_t' hk)
      replace h := go h (dec2 (by omega) (by omega))
      replace h := go h (demG hlv)
      replace h := go h (dec2 (by omega) (by omega))
      replace h := go h (demG hlt)
      rcases Bool.eq_false_or_eq_true (ilt ((mp cs).getD (0 + (at_ + i).toNat * 1) J).toInt (IntKind.u64.wrap (↑(BitVec.ofInt IntKind.u64.bits (IntKind.u64.wrap (c + IntKind.u64.wrap (g * ((mp vs).getD (0 + i.toNat * 1) J).toInt))) &&& BitVec.ofInt IntKind.u64.bits 4294967295).toNat : Int))) with hb | hb
      · replace h := go h hb
        replace h := go h (dec2 (by omega) (by omega))
        replace h := go h (demG hlt)
        replace h := go h (dec2 (by omega) (by omega))
        replace h := go h (dec1 (by omega))
        replace h := go h (dec2 (by omega) (by omega))
        replace h := go h (demG (by rw [List.length_set]; exact hlt))
        replace h := go h (dec2 (by omega) (by omega))
        replace h := go h (dec1 (by rw [List.length_set]; omega))
        exact ih (i + 1) _ _ (by omega) (by omega) (by omega) (by rw [List.length_set, List.length_set]; exact hl) r h
      · replace h := gn h hb
        replace h := go h (dec2 (by omega) (by omega))
        replace h := go h (demG hlt)
        replace h := go h (dec2 (by omega) (by omega))
        replace h := go h (dec1 (by omega))
        exact ih (i + 1) _ _ (by omega) (by omega) (by omega) (by rw [List.length_set]; exact hl) r h
    · exact ⟨cs, c, gn h (ilt_f' (by omega)), hl⟩
theorem z241_0 (ds : List Int) (v0 v1 v2 v3 v4 v5 v6 v7 v8 v9 v10 v11 v12 v13 v14 v15 v16 g at_ nn n c i : Int) (f : Nat) (X : Type) (k : AExit → AAct → List AObj → Option X) :
    exec (E241_0) (f + 60) 0 (.loop (rnd Tryz.f241 0)) ⟨(.ptr 0 0 :: J :: u g :: i64 at_ :: i64 nn :: J :: .ptr 1 0 :: jn 4 (u c :: jn 3 (i64 n :: i64 i :: jn 72 []))), [], 241, 1, false⟩ [.ints .u64 ds, .cells (D17c v0 v1 v2 v3 v4 v5 v6 v7 v8 v9 v10 v11 v12 v13 v14 v15 v16)] X k =
    exec (E241_0) (f + 60) 0 (.loop (rnd Tryz.f241 0)) ⟨(.ptr 0 0 :: J :: u g :: i64 at_ :: i64 nn :: J :: .ptr 1 0 :: jn 4 (u c :: jn 3 (i64 n :: i64 i :: jn 72 []))), [], 241, 1, false⟩ [.ints .u64 ds, .ints .u64 [v0, v1, v2, v3, v4, v5, v6, v7, v8, v9, v10, v11, v12, v13, v14, v15, v16]] X k := by kernel_rfl
theorem w241 {ds vs : List Int} {g at_ n : Int} (hl : ds.length = 17) (hv : vs.length = 17) (ha : 0 ≤ at_) (hn : 0 ≤ n) (h16 : at_ + n ≤ 16) : ∃ b ds', r241 [.ptr 0 0, agg vs, u g, i64 at_, i64 n] [.ints .u64 ds] = some (.ret (bo b), [.ints .u64 ds']) ∧ ds'.length = 17 := by
  obtain ⟨v0, v1, v2, v3, v4, v5, v6, v7, v8, v9, v10, v11, v12, v13, v14, v15, v16, rfl⟩ := l17 hv
  obtain ⟨cs, c, e, hcl⟩ := l241_0 (g := g) ha h16 (vs := [v0, v1, v2, v3, v4, v5, v6, v7, v8, v9, v10, v11, v12, v13, v14, v15, v16]) rfl 139 139 0 0 ds (by omega) hn (by omega) hl _ rfl
  have h := (q241 _ _).trans (T241 h241_0 v0 v1 v2 v3 v4 v5 v6 v7 v8 v9 v10 v11 v12 v13 v14 v15 v16 g at_ n ds _ fin _ ((p241_0 _ _ 199 rfl).trans ((z241_0 ds v0 v1 v2 v3 v4 v5 v6 v7 v8 v9 v10 v11 v12 v13 v14 v15 v16 g at_ n n 0 0 139 _ _).trans e)))
  have e1 : IntKind.i64.wrap (at_ + n) = at_ + n := w8in (by omega) (by omega)
  have e2 : ∀ (p : Int → RE) {r : RE}, r = p (IntKind.i64.wrap (at_ + n)) → r = p (at_ + n) := fun p r h => by rw [e1] at h; exact h
  have hlt : 0 + (at_ + n).toNat * 1 < cs.length := by omega
  replace h := go h rfl
  replace h := go h (by show (decide (0 ≤ IntKind.i64.wrap (at_ + n)) && decide (IntKind.i64.wrap (at_ + n) < 17)) = true; rw [e1]; exact dec2 (by omega) (by omega))
  replace h := go h (by show (decide (0 + (IntKind.i64.wrap (at_ + n)).toNat * 1 < (mp cs).length) && (AV.isInt IntKind.u64 ((mp cs).getD (0 + (IntKind.i64.wrap (at_ + n)).toNat * 1) J) && true)) = true; rw [e1]; exact demG hlt)
  replace h := go h (by show (decide (0 ≤ IntKind.i64.wrap (at_ + n)) && decide (IntKind.i64.wrap (at_ + n) < 17)) = true; rw [e1]; exact dec2 (by omega) (by omega))
  replace h := go h (by show (decide (0 + (IntKind.i64.wrap (at_ + n)).toNat * 1 < (mp cs).length) && (AV.isInt IntKind.u64 ((mp cs).getD (0 + (IntKind.i64.wrap (at_ + n)).toNat * 1) J) && true)) = true; rw [e1]; exact demG hlt)
  replace h := go h (by show (decide (0 ≤ IntKind.i64.wrap (at_ + n)) && decide (IntKind.i64.wrap (at_ + n) < 17)) = true; rw [e1]; exact dec2 (by omega) (by omega))
  replace h := go h (by show decide (0 + (IntKind.i64.wrap (at_ + n)).toNat * 1 + 1 ≤ cs.length) = true; rw [e1]; exact dec1 (by omega))
  exact ⟨_, _, h, by rw [List.length_set]; exact hcl⟩
theorem l242_0 {at_ n : Int} (ha : 0 ≤ at_) (han : at_ + n ≤ 16) {vs : List Int} (hvl : vs.length = 17) (m : Nat) : ∀ (f : Nat) (i c : Int) (cs : List Int), 0 ≤ i → i ≤ n → n - i ≤ f → cs.length = 17 → ∀ r,
    r = exec (E242_0) (f + 60) 0 (.loop (rnd Tryz.f242 0)) ⟨(.ptr 0 0 :: J :: i64 at_ :: i64 n :: J :: .ptr 1 0 :: J :: J :: u c :: J :: i64 n :: i64 i :: jn 42 []), [], 242, 1, false⟩ [.ints .u64 cs, .ints .u64 vs] _ (bK (E242_0) (m + 60) 0 finB) →
    ∃ cs' c', r = finB .normal ⟨(.ptr 0 0 :: J :: i64 at_ :: i64 n :: jn 4 (u c' :: jn 45 [])), [], 242, 1, false⟩ [.ints .u64 cs'] ∧ cs'.length = 17 := by
  intro f
  induction f with
  | zero =>
    intro i c cs h0 h4 hf hl r h
    replace h := h.trans (T242_0r at_ n n i c cs vs 0 m _ finB)
    exact ⟨cs, c, gn h (ilt_f' (by omega)), hl⟩
  | succ f ih =>
    intro i c cs h0 h4 hf hl r h
    replace h := h.trans (T242_0r at_ n n i c cs vs (f + 1) m _ finB)
    by_cases hk : i < n
    · have e0' : IntKind.i64.wrap (i + 1) = i + 1 := w8in (by omega) (by omega)
      have e1 : IntKind.i64.wrap (at_ + i) = at_ + i := w8in (by omega) (by omega)
      have hlt : 0 + (at_ + i).toNat * 1 < cs.length := by omega
      have hlv : 0 + i.toNat * 1 < vs.length := by omega
      rw [e0', e1] at h
      replace h := go h (ilt_t' hk)
      replace h := go h (dec2 (by omega) (by omega))
      replace h := go h (demG hlt)
      replace h := go h (dec2 (by omega) (by omega))
      replace h := go h (demG hlv)
      replace h := go h (dec2 (by omega) (by omega))
      replace h := go h (dec1 (by omega))
      exact ih (i + 1) _ _ (by omega) (by omega) (by omega) (by rw [List.length_set]; exact hl) r h
    · exact ⟨cs, c, gn h (ilt_f' (by omega)), hl⟩
theorem z242_0 (ds : List Int) (v0 v1 v2 v3 v4 v5 v6 v7 v8 v9 v10 v11 v12 v13 v14 v15 v16 at_ nn n c i : Int) (f : Nat) (X : Type) (k : AExit → AAct → List AObj → Option X) :
    exec (E242_0) (f + 60) 0 (.loop (rnd Tryz.f242 0)) ⟨(.ptr 0 0 :: J :: i64 at_ :: i64 nn :: J :: .ptr 1 0 :: J :: J :: u c :: J :: i64 n :: i64 i :: jn 42 []), [], 242, 1, false⟩ [.ints .u64 ds, .cells (D17c v0 v1 v2 v3 v4 v5 v6 v7 v8 v9 v10 v11 v12 v13 v14 v15 v16)] X k =
    exec (E242_0) (f + 60) 0 (.loop (rnd Tryz.f242 0)) ⟨(.ptr 0 0 :: J :: i64 at_ :: i64 nn :: J :: .ptr 1 0 :: J :: J :: u c :: J :: i64 n :: i64 i :: jn 42 []), [], 242, 1, false⟩ [.ints .u64 ds, .ints .u64 [v0, v1, v2, v3, v4, v5, v6, v7, v8, v9, v10, v11, v12, v13, v14, v15, v16]] X k := by kernel_rfl
theorem w242 {ds vs : List Int} {at_ n : Int} (hl : ds.length = 17) (hv : vs.length = 17) (ha : 0 ≤ at_) (hn : 0 ≤ n) (h16 : at_ + n ≤ 16) : ∃ ds', r242 [.ptr 0 0, agg vs, i64 at_, i64 n] [.ints .u64 ds] = some (.ret (.tuple []), [.ints .u64 ds']) ∧ ds'.length = 17 := by
  obtain ⟨v0, v1, v2, v3, v4, v5, v6, v7, v8, v9, v10, v11, v12, v13, v14, v15, v16, rfl⟩ := l17 hv
  obtain ⟨cs, c, e, hcl⟩ := l242_0 ha h16 (vs := [v0, v1, v2, v3, v4, v5, v6, v7, v8, v9, v10, v11, v12, v13, v14, v15, v16]) rfl 139 139 0 0 ds (by omega) hn (by omega) hl _ rfl
  have h := (q242 _ _).trans (T242 h242_0 v0 v1 v2 v3 v4 v5 v6 v7 v8 v9 v10 v11 v12 v13 v14 v15 v16 at_ n ds _ fin _ ((p242_0 _ _ 199 rfl).trans ((z242_0 ds v0 v1 v2 v3 v4 v5 v6 v7 v8 v9 v10 v11 v12 v13 v14 v15 v16 at_ n n 0 0 139 _ _).trans e)))
  have e1 : IntKind.i64.wrap (at_ + n) = at_ + n := w8in (by omega) (by omega)
  have hlt : 0 + (at_ + n).toNat * 1 < cs.length := by omega
  replace h := go h rfl
  replace h := go h (by show (decide (0 ≤ IntKind.i64.wrap (at_ + n)) && decide (IntKind.i64.wrap (at_ + n) < 17)) = true; rw [e1]; exact dec2 (by omega) (by omega))
  replace h := go h (by show (decide (0 + (IntKind.i64.wrap (at_ + n)).toNat * 1 < (mp cs).length) && (AV.isInt IntKind.u64 ((mp cs).getD (0 + (IntKind.i64.wrap (at_ + n)).toNat * 1) J) && true)) = true; rw [e1]; exact demG hlt)
  replace h := go h (by show (decide (0 ≤ IntKind.i64.wrap (at_ + n)) && decide (IntKind.i64.wrap (at_ + n) < 17)) = true; rw [e1]; exact dec2 (by omega) (by omega))
  replace h := go h (by show decide (0 + (IntKind.i64.wrap (at_ + n)).toNat * 1 + 1 ≤ cs.length) = true; rw [e1]; exact dec1 (by omega))
  exact ⟨_, h, by rw [List.length_set]; exact hcl⟩
end Go.Proofs.Vm
end
section
namespace Go.Proofs.Vm
open Go Go.Abs
set_option maxRecDepth 100000
set_option maxHeartbeats 1000000
theorem l240_0 {at_ n : Int} (ha : 0 ≤ at_) (hn : 2 ≤ n) (han : at_ + n ≤ 16) {ds vs : List Int} (hdl : ds.length = 17) (hvl : vs.length = 17) (hv : R32 (vs.getD (0 + (n - 1).toNat * 1) 0)) (hv2 : 2147483648 ≤ vs.getD (0 + (n - 1).toNat * 1) 0) (m : Nat) :
    ∀ (f : Nat) (g left : Int), 0 ≤ left → left ≤ 4294967295 → 4294967296 - left ≤ f * 2147483648 → ∀ r,
    r = exec (E240_0) (f + 60) 0 (.loop (rnd Tryz.f240 0)) ⟨(J :: J :: i64 at_ :: i64 n :: .ptr 0 0 :: .ptr 1 0 :: jn 4 (u g :: u left :: jn 56 [])), [], 240, 0, false⟩ [.ints .u64 ds, .ints .u64 vs] _ (bK (E240_0) (m + 60) 0 finB) →
    ∃ g', r = finB .normal ⟨(jn 10 (u g' :: jn 57 [])), [], 240, 0, false⟩ [] := by
  intro f
  induction f with
  | zero => intro g left h0 h1 h2; omega
  | succ f ih =>
    intro g left h0 h1 hf r h
    replace h := h.trans (T240_0r at_ n g left ds vs (f + 1) m _ finB)
    have e1 : IntKind.i64.wrap (n - 1) = n - 1 := w8in (by omega) (by omega)
    have e2 : IntKind.i64.wrap (n - 2) = n - 2 := w8in (by omega) (by omega)
    have e3 : IntKind.i64.wrap (at_ + n) = at_ + n := w8in (by omega) (by omega)
    have e4 : IntKind.i64.wrap (at_ + n - 2) = at_ + n - 2 := w8in (by omega) (by omega)
    have hv1 : 0 + (n - 1).toNat * 1 < vs.length := by omega
    rw [e1, e2, e3, e4, intG hv1] at h
    generalize vs.getD (0 + (n - 1).toNat * 1) 0 = v at *
    have ew : IntKind.u64.wrap (left + v) = left + v := IntWalk.u64_in _ (by unfold R32 at hv; omega)
    rw [ew] at h
    have hend : ∀ X Y : RBE, r = (bif ilt 4294967295 (left + v) then X else Y) → (X = X → ∃ g', X = finB .normal ⟨(jn 10 (u g' :: jn 57 [])), [], 240, 0, false⟩ []) → (left + v ≤ 4294967295 → r = Y → ∃ g', r = finB .normal ⟨(jn 10 (u g' :: jn 57 [])), [], 240, 0, false⟩ []) → ∃ g', r = finB .normal ⟨(jn 10 (u g' :: jn 57 [])), [], 240, 0, false⟩ [] := by
      intro X Y h hX hY
      by_cases hk : 4294967295 < left + v
      · obtain ⟨g', e⟩ := hX rfl
        exact ⟨g', (go h (ilt_t' hk)).trans e⟩
      · exact hY (by omega) (gn h (ilt_f' (by omega)))
    rcases Bool.eq_false_or_eq_true (ilt 4294967295 g) with hb | hb
    · replace h := go h hb
      replace h := go h (dec2 (by omega) (by omega))
      replace h := go h (demG hv1)
      refine hend _ _ h (fun _ => ⟨_, rfl⟩) fun hle h => ?_
      exact ih _ _ (by unfold R32 at hv; omega) (by omega) (by omega) r h
    · replace h := gn h hb
      replace h := go h (dec2 (by omega) (by omega))
      replace h := go h (demG (by omega))
      replace h := go h (dec2 (by omega) (by omega))
      replace h := go h (demG (by omega))
      generalize hc : ilt _ (IntKind.u64.wrap (g * _)) = c2 at h
      cases c2 with
      | true =>
        replace h := go h rfl
        replace h := go h (dec2 (by omega) (by omega))
        replace h := go h (demG hv1)
        refine hend _ _ h (fun _ => ⟨_, rfl⟩) fun hle h => ?_
        exact ih _ _ (by unfold R32 at hv; omega) (by omega) (by omega) r h
      | false => exact ⟨g, gn h rfl⟩
end Go.Proofs.Vm
end
section
namespace Go.Proofs.Vm
open Go Go.Abs
set_option maxRecDepth 100000
set_option maxHeartbeats 1000000
theorem exec_view {E : Env} {n blk : Nat} {c : Code} {a a' : AAct} {os1 os2 os1' os2' : List AObj} {X : Type} {k : AExit → AAct → List AObj → Option X}
    (h1 : ∀ K : AAct → List AObj → Option X, tidyC (E.conc a.fn blk).1 ((E.keep a.fn blk).map (·.1)) n a os1 K = K a' os1') (h2 : ∀ K : AAct → List AObj → Option X, tidyC (E.conc a.fn blk).1 ((E.keep a.fn blk).map (·.1)) n a os2 K = K a' os2')
    (h3 : viewInts (E.ints a'.fn blk) os1' = viewInts (E.ints a'.fn blk) os2') : exec E (n + 1) blk (.loop c) a os1 X k = exec E (n + 1) blk (.loop c) a os2 X k := by
  rw [exec_loop, exec_loop]; unfold roundL; rw [h1, h2, h3]
theorem z240_0 (d0 d1 d2 d3 d4 d5 d6 d7 d8 d9 d10 d11 d12 d13 d14 d15 d16 v0 v1 v2 v3 v4 v5 v6 v7 v8 v9 v10 v11 v12 v13 v14 v15 v16 at_ n g left : Int) (f : Nat) (X : Type) (k : AExit → AAct → List AObj → Option X) :
    exec (E240_0) (f + 60) 0 (.loop (rnd Tryz.f240 0)) ⟨(J :: J :: i64 at_ :: i64 n :: .ptr 0 0 :: .ptr 1 0 :: jn 4 (u g :: u left :: jn 56 [])), [], 240, 0, false⟩ [.cells (D17c d0 d1 d2 d3 d4 d5 d6 d7 d8 d9 d10 d11 d12 d13 d14 d15 d16), .cells (D17c v0 v1 v2 v3 v4 v5 v6 v7 v8 v9 v10 v11 v12 v13 v14 v15 v16)] X k =
    exec (E240_0) (f + 60) 0 (.loop (rnd Tryz.f240 0)) ⟨(J :: J :: i64 at_ :: i64 n :: .ptr 0 0 :: .ptr 1 0 :: jn 4 (u g :: u left :: jn 56 [])), [], 240, 0, false⟩ [.ints .u64 [d0, d1, d2, d3, d4, d5, d6, d7, d8, d9, d10, d11, d12, d13, d14, d15, d16], .ints .u64 [v0, v1, v2, v3, v4, v5, v6, v7, v8, v9, v10, v11, v12, v13, v14, v15, v16]] X k :=
  exec_view (n := f + 59) (a' := ⟨(J :: J :: i64 at_ :: i64 n :: .ptr 0 0 :: .ptr 1 0 :: jn 4 (u g :: u left :: jn 56 [])), [], 240, 0, false⟩) (os1' := [.cells (D17c d0 d1 d2 d3 d4 d5 d6 d7 d8 d9 d10 d11 d12 d13 d14 d15 d16), .cells (D17c v0 v1 v2 v3 v4 v5 v6 v7 v8 v9 v10 v11 v12 v13 v14 v15 v16)]) (os2' := [.ints .u64 [d0, d1, d2, d3, d4, d5, d6, d7, d8, d9, d10, d11, d12, d13, d14, d15, d16], .ints .u64 [v0, v1, v2, v3, v4, v5, v6, v7, v8, v9, v10, v11, v12, v13, v14, v15, v16]]) (fun K => by kernel_rfl) (fun K => by kernel_rfl) (by kernel_rfl)
theorem w240 {ds vs : List Int} {at_ n : Int} (hdl : ds.length = 17) (hvl : vs.length = 17) (ha : 0 ≤ at_) (hn : 2 ≤ n) (han : at_ + n ≤ 16) (hv : R32 (vs.getD (n - 1).toNat 0)) (hv2 : 2147483648 ≤ vs.getD (n - 1).toNat 0) :
    ∃ g, r240 [agg ds, agg vs, i64 at_, i64 n] [] = some (.ret (u g), []) := by
  obtain ⟨d0, d1, d2, d3, d4, d5, d6, d7, d8, d9, d10, d11, d12, d13, d14, d15, d16, rfl⟩ := l17 hdl
  obtain ⟨v0, v1, v2, v3, v4, v5, v6, v7, v8, v9, v10, v11, v12, v13, v14, v15, v16, rfl⟩ := l17 hvl
  have e1 : IntKind.i64.wrap (n - 1) = n - 1 := w8in (by omega) (by omega)
  have e3 : IntKind.i64.wrap (at_ + n) = at_ + n := w8in (by omega) (by omega)
  have e4 : IntKind.i64.wrap (at_ + n - 1) = at_ + n - 1 := w8in (by omega) (by omega)
  have hx0 : 0 + (n - 1).toNat * 1 = (n - 1).toNat := by omega
  have hlv : 0 + (n - 1).toNat * 1 < [v0, v1, v2, v3, v4, v5, v6, v7, v8, v9, v10, v11, v12, v13, v14, v15, v16].length := by simp; omega
  have hld : 0 + (at_ + n).toNat * 1 < [d0, d1, d2, d3, d4, d5, d6, d7, d8, d9, d10, d11, d12, d13, d14, d15, d16].length := by simp; omega
  have hld2 : 0 + (at_ + n - 1).toNat * 1 < [d0, d1, d2, d3, d4, d5, d6, d7, d8, d9, d10, d11, d12, d13, d14, d15, d16].length := by simp; omega
  have hiv := intG hlv
  rw [hx0] at hiv
  have hg := fun g left (h0 : 0 ≤ left) (h1 : left ≤ 4294967295) => l240_0 ha hn han hdl hvl (by rw [hx0]; exact hv) (by rw [hx0]; exact hv2) 139 139 g left h0 h1 (by omega) _ rfl
  have h := (q240 _ _).trans (T240 h240_0 d0 d1 d2 d3 d4 d5 d6 d7 d8 d9 d10 d11 d12 d13 d14 d15 d16 v0 v1 v2 v3 v4 v5 v6 v7 v8 v9 v10 v11 v12 v13 v14 v15 v16 at_ n _ fin _ rfl)
  rw [e1, e3, e4] at h
  replace h := go h (dec2 (by omega) (by omega))
  replace h := go h (demG hld)
  replace h := go h (dec2 (by omega) (by omega))
  replace h := go h (demG hld2)
  replace h := go h (dec2 (by omega) (by omega))
  replace h := go h (demG hlv)
  have hV : ([u v0, u v1, u v2, u v3, u v4, u v5, u v6, u v7, u v8, u v9, u v10, u v11, u v12, u v13, u v14, u v15, u v16].getD (0 + (n - 1).toNat * 1) J).toInt = [v0, v1, v2, v3, v4, v5, v6, v7, v8, v9, v10, v11, v12, v13, v14, v15, v16].getD (n - 1).toNat 0 := by rw [hx0]; exact hiv
  rw [hV] at h
  have hne : [v0, v1, v2, v3, v4, v5, v6, v7, v8, v9, v10, v11, v12, v13, v14, v15, v16].getD (n - 1).toNat 0 ≠ 0 := by omega
  replace h := go h (dec1 hne)
  replace h := go h (dec2 (by omega) (by omega))
  replace h := go h (demG hlv)
  replace h := go h (dec1 hne)
  generalize (BitVec.ofInt IntKind.u64.bits _ ||| BitVec.ofInt IntKind.u64.bits _).toNat = N at h
  have hT0 : 0 ≤ IntKind.u64.wrap (N : Int) := (r64w _).1
  generalize IntKind.u64.wrap (N : Int) = T at h hT0
  have hm0 : 0 ≤ T.tmod ([v0, v1, v2, v3, v4, v5, v6, v7, v8, v9, v10, v11, v12, v13, v14, v15, v16].getD (n - 1).toNat 0) := Int.tmod_nonneg _ hT0
  have hm1 : T.tmod ([v0, v1, v2, v3, v4, v5, v6, v7, v8, v9, v10, v11, v12, v13, v14, v15, v16].getD (n - 1).toNat 0) ≤ 4294967295 := by
    have := Int.tmod_lt_of_pos T (show 0 < [v0, v1, v2, v3, v4, v5, v6, v7, v8, v9, v10, v11, v12, v13, v14, v15, v16].getD (n - 1).toNat 0 by omega)
    unfold R32 at hv; omega
  obtain ⟨g', e⟩ := hg (IntKind.u64.wrap (T.tdiv ([v0, v1, v2, v3, v4, v5, v6, v7, v8, v9, v10, v11, v12, v13, v14, v15, v16].getD (n - 1).toNat 0))) _ hm0 hm1
  generalize hx : h240_0 _ _ _ = x1 at h
  have e5 := (z240_0 d0 d1 d2 d3 d4 d5 d6 d7 d8 d9 d10 d11 d12 d13 d14 d15 d16 v0 v1 v2 v3 v4 v5 v6 v7 v8 v9 v10 v11 v12 v13 v14 v15 v16 at_ n _ _ 139 _ _).trans e
  have e6 := (p240_0 _ _ 199 rfl).trans e5
  have hx2 : x1 = finB .normal ⟨(jn 10 (u g' :: jn 57 [])), [], 240, 0, false⟩ [] := hx.symm.trans e6
  clear e hx e5 e6
  subst hx2
  exact ⟨g', go h rfl⟩
end Go.Proofs.Vm
end
section
namespace Go.Proofs.Vm
open Go Go.Abs
set_option maxRecDepth 100000
set_option maxHeartbeats 1000000
theorem l174_1 (d0 d1 d2 d3 d4 d5 d6 d7 d8 d9 d10 d11 d12 d13 d14 d15 d16 v0 v1 v2 v3 v4 v5 v6 v7 v8 v9 v10 v11 v12 v13 v14 v15 v16 n : Int) (h1 : 1 ≤ n) (h16 : n ≤ 16) (hv : R32 ([v0, v1, v2, v3, v4, v5, v6, v7, v8, v9, v10, v11, v12, v13, v14, v15, v16].getD (n - 1).toNat 0)) (hv0 : [v0, v1, v2, v3, v4, v5, v6, v7, v8, v9, v10, v11, v12, v13, v14, v15, v16].getD (n - 1).toNat 0 ≠ 0) (m : Nat) : ∀ (f : Nat) (s : Int), 0 ≤ s → s ≤ 31 → 31 - s ≤ f → [v0, v1, v2, v3, v4, v5, v6, v7, v8, v9, v10, v11, v12, v13, v14, v15, v16].getD (n - 1).toNat 0 * 2 ^ s.toNat ≤ 4294967295 → ∀ r,
    r = exec (E174_1) (f + 61) 1 (.loop (rnd Tryz.f174 1)) ⟨(J :: J :: .ptr 0 0 :: .ptr 1 0 :: .ptr 2 0 :: .ptr 3 0 :: .ptr 4 0 :: i64 n :: J :: J :: u s :: jn 69 []), [], 174, 0, false⟩ [.cells (D17c d0 d1 d2 d3 d4 d5 d6 d7 d8 d9 d10 d11 d12 d13 d14 d15 d16), .cells (D17c v0 v1 v2 v3 v4 v5 v6 v7 v8 v9 v10 v11 v12 v13 v14 v15 v16), .cells (D17c 0 0 0 0 0 0 0 0 0 0 0 0 0 0 0 0 0), .cells (D17c 0 0 0 0 0 0 0 0 0 0 0 0 0 0 0 0 0), .cells (D17c 0 0 0 0 0 0 0 0 0 0 0 0 0 0 0 0 0)] _ (bK (E174_1) (m + 60) 1 finB) →
    ∃ s', r = finB .normal ⟨(J :: J :: .ptr 0 0 :: .ptr 1 0 :: .ptr 2 0 :: .ptr 3 0 :: .ptr 4 0 :: i64 n :: J :: J :: u s' :: jn 69 []), [], 174, 0, false⟩ [.cells (D17c d0 d1 d2 d3 d4 d5 d6 d7 d8 d9 d10 d11 d12 d13 d14 d15 d16), .cells (D17c v0 v1 v2 v3 v4 v5 v6 v7 v8 v9 v10 v11 v12 v13 v14 v15 v16), .cells (D17c 0 0 0 0 0 0 0 0 0 0 0 0 0 0 0 0 0), .cells (D17c 0 0 0 0 0 0 0 0 0 0 0 0 0 0 0 0 0), .cells (D17c 0 0 0 0 0 0 0 0 0 0 0 0 0 0 0 0 0)] ∧
      0 ≤ s' ∧ s' ≤ 31 ∧ [v0, v1, v2, v3, v4, v5, v6, v7, v8, v9, v10, v11, v12, v13, v14, v15, v16].getD (n - 1).toNat 0 * 2 ^ s'.toNat ≤ 4294967295 ∧ 2147483648 ≤ [v0, v1, v2, v3, v4, v5, v6, v7, v8, v9, v10, v11, v12, v13, v14, v15, v16].getD (n - 1).toNat 0 * 2 ^ s'.toNat := by
  intro f
  have e1 : IntKind.i64.wrap (n - 1) = n - 1 := w8in (by omega) (by omega)
  have hx0 : 0 + (n - 1).toNat * 1 = (n - 1).toNat := by omega
  have hlv : 0 + (n - 1).toNat * 1 < [v0, v1, v2, v3, v4, v5, v6, v7, v8, v9, v10, v11, v12, v13, v14, v15, v16].length := by simp; omega
  have hiv := intG hlv
  rw [hx0] at hiv
  have hV : ([u v0, u v1, u v2, u v3, u v4, u v5, u v6, u v7, u v8, u v9, u v10, u v11, u v12, u v13, u v14, u v15, u v16].getD (0 + (n - 1).toNat * 1) J).toInt = [v0, v1, v2, v3, v4, v5, v6, v7, v8, v9, v10, v11, v12, v13, v14, v15, v16].getD (n - 1).toNat 0 := by rw [hx0]; exact hiv
  have hdem := demG hlv
  generalize [v0, v1, v2, v3, v4, v5, v6, v7, v8, v9, v10, v11, v12, v13, v14, v15, v16].getD (n - 1).toNat 0 = V at *
  obtain ⟨hva, hvb⟩ := hv
  have step : ∀ (s : Int) (d : Nat), 0 ≤ s → s ≤ 31 → V * 2 ^ s.toNat ≤ 4294967295 → ∀ r,
      r = exec (E174_1) (d + 60) 1 (.loop (rnd Tryz.f174 1)) ⟨(J :: J :: .ptr 0 0 :: .ptr 1 0 :: .ptr 2 0 :: .ptr 3 0 :: .ptr 4 0 :: i64 n :: J :: J :: u s :: jn 69 []), [], 174, 0, false⟩ [.cells (D17c d0 d1 d2 d3 d4 d5 d6 d7 d8 d9 d10 d11 d12 d13 d14 d15 d16), .cells (D17c v0 v1 v2 v3 v4 v5 v6 v7 v8 v9 v10 v11 v12 v13 v14 v15 v16), .cells (D17c 0 0 0 0 0 0 0 0 0 0 0 0 0 0 0 0 0), .cells (D17c 0 0 0 0 0 0 0 0 0 0 0 0 0 0 0 0 0), .cells (D17c 0 0 0 0 0 0 0 0 0 0 0 0 0 0 0 0 0)] _ (bK (E174_1) (m + 60) 1 finB) →
      (V * 2 ^ s.toNat < 2147483648 ∧ r = exec (E174_1) (d + 59) 1 (.loop (rnd Tryz.f174 1)) ⟨(J :: J :: .ptr 0 0 :: .ptr 1 0 :: .ptr 2 0 :: .ptr 3 0 :: .ptr 4 0 :: i64 n :: J :: J :: u (s + 1) :: jn 69 []), [], 174, 0, false⟩ [.cells (D17c d0 d1 d2 d3 d4 d5 d6 d7 d8 d9 d10 d11 d12 d13 d14 d15 d16), .cells (D17c v0 v1 v2 v3 v4 v5 v6 v7 v8 v9 v10 v11 v12 v13 v14 v15 v16), .cells (D17c 0 0 0 0 0 0 0 0 0 0 0 0 0 0 0 0 0), .cells (D17c 0 0 0 0 0 0 0 0 0 0 0 0 0 0 0 0 0), .cells (D17c 0 0 0 0 0 0 0 0 0 0 0 0 0 0 0 0 0)] _ (bK (E174_1) (m + 60) 1 finB)) ∨
      (2147483648 ≤ V * 2 ^ s.toNat ∧ r = finB .normal ⟨(J :: J :: .ptr 0 0 :: .ptr 1 0 :: .ptr 2 0 :: .ptr 3 0 :: .ptr 4 0 :: i64 n :: J :: J :: u s :: jn 69 []), [], 174, 0, false⟩ [.cells (D17c d0 d1 d2 d3 d4 d5 d6 d7 d8 d9 d10 d11 d12 d13 d14 d15 d16), .cells (D17c v0 v1 v2 v3 v4 v5 v6 v7 v8 v9 v10 v11 v12 v13 v14 v15 v16), .cells (D17c 0 0 0 0 0 0 0 0 0 0 0 0 0 0 0 0 0), .cells (D17c 0 0 0 0 0 0 0 0 0 0 0 0 0 0 0 0 0), .cells (D17c 0 0 0 0 0 0 0 0 0 0 0 0 0 0 0 0 0)]) := by
    intro s d h0 h31 hle r h
    replace h := h.trans (T174_1r d0 d1 d2 d3 d4 d5 d6 d7 d8 d9 d10 d11 d12 d13 d14 d15 d16 v0 v1 v2 v3 v4 v5 v6 v7 v8 v9 v10 v11 v12 v13 v14 v15 v16 n s d m _ finB)
    rw [e1, hV] at h
    replace h := go h (dec2 (by omega) (by omega))
    replace h := go h hdem
    replace h := go h (dec1 h0)
    have em : min s.toNat IntKind.u64.bits = s.toNat := Nat.min_eq_left (by show s.toNat ≤ 64; omega)
    have hp : (0 : Int) ≤ V * 2 ^ s.toNat := Int.mul_nonneg hva (Int.le_of_lt (Int.pow_pos (by omega)))
    have ew : IntKind.u64.wrap (s + 1) = s + 1 := r64in ⟨by omega, by omega⟩
    rw [em, r64in ⟨hp, by omega⟩, ew] at h
    have ef : ((V * 2 ^ s.toNat).fdiv (2 ^ min (Int.toNat 31) IntKind.u64.bits) == 0) = decide (V * 2 ^ s.toNat < 2147483648) := by
      have : (2 : Int) ^ min (Int.toNat 31) IntKind.u64.bits = 2147483648 := by decide
      rw [this, Int.fdiv_eq_ediv_of_nonneg _ (by omega), Bool.eq_iff_iff]
      simp only [beq_iff_eq, decide_eq_true_eq]; omega
    rw [ef] at h
    by_cases hc : V * 2 ^ s.toNat < 2147483648
    · exact .inl ⟨hc, go h (dec1 hc)⟩
    · exact .inr ⟨by omega, gn h (decide_eq_false hc)⟩
  induction f with
  | zero =>
    intro s h0 h31 hf hle r h
    have hs : s = 31 := by omega
    rcases step s 1 h0 h31 hle r h with ⟨h1, _⟩ | ⟨h1, h2⟩
    · exfalso
      subst hs
      have : (2 : Int) ^ Int.toNat 31 = 2147483648 := by decide
      rw [this] at h1; omega
    · exact ⟨s, h2, h0, h31, hle, h1⟩
  | succ f ih =>
    intro s h0 h31 hf hle r h
    rcases step s (f + 1 + 1) h0 h31 hle r h with ⟨h1, h2⟩ | ⟨h1, h2⟩
    · by_cases hs : s = 31
      · exfalso
        subst hs
        have : (2 : Int) ^ Int.toNat 31 = 2147483648 := by decide
        rw [this] at h1; omega
      · have e : (s + 1).toNat = s.toNat + 1 := by omega
        exact ih (s + 1) (by omega) (by omega) (by omega) (by rw [e, Int.pow_succ, ← Int.mul_assoc]; omega) r h2
    · exact ⟨s, h2, h0, h31, hle, h1⟩
end Go.Proofs.Vm
end
