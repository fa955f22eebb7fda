/-
  Part 6 of what the row needs: the executor and what is said of the program's functions, each shown; no condition.
-/
import Derived.Test.YtiejicekncnofaaGreatE5
section
namespace Go.Proofs.Vm
open Go Go.Abs
set_option maxRecDepth 100000
set_option maxHeartbeats 1000000
theorem ld17_eq {l : List Int} (h : l.length = 17) : ld17 l = l.map u := by
  obtain ⟨d0, d1, d2, d3, d4, d5, d6, d7, d8, d9, d10, d11, d12, d13, d14, d15, d16, rfl⟩ := l17 h
  rfl
theorem dm17_t {l : List Int} (h : l.length = 17) : dm17 l = true := by
  obtain ⟨d0, d1, d2, d3, d4, d5, d6, d7, d8, d9, d10, d11, d12, d13, d14, d15, d16, rfl⟩ := l17 h
  rfl
theorem l174_3 {n s : Int} (hn : 2 ≤ n) (h16 : n ≤ 16) {vs : List Int} (hvl : vs.length = 17) (hv : R32 (vs.getD (n - 1).toNat 0)) (hv2 : 2147483648 ≤ vs.getD (n - 1).toNat 0) (m : Nat) :
    ∀ (f : Nat) (at_ : Int) (us qs : List Int), -1 ≤ at_ → at_ + n ≤ 16 → at_ + 1 ≤ f → us.length = 17 → qs.length = 17 → ∀ r,
    r = exec (E174_3 r240 r241 r242) (f + 60) 3 (.loop (rnd Tryz.f174 3)) ⟨(jn 4 (.ptr 0 0 :: .ptr 1 0 :: .ptr 2 0 :: i64 n :: J :: J :: u s :: .ptr 3 0 :: .ptr 4 0 :: i64 at_ :: jn 66 [])), [], 174, 0, false⟩ [.cells (D17c 0 0 0 0 0 0 0 0 0 0 0 0 0 0 0 0 0), .cells (D17c 0 0 0 0 0 0 0 0 0 0 0 0 0 0 0 0 0), .ints .u64 qs, .ints .u64 us, .ints .u64 vs] _ (bK (E174_3 r240 r241 r242) (m + 60) 3 finB) →
    ∃ us' qs' : List Int, us'.length = 17 ∧ qs'.length = 17 ∧ r = finB .normal ⟨(jn 4 (.ptr 0 0 :: .ptr 1 0 :: .ptr 2 0 :: i64 n :: J :: J :: u s :: .ptr 3 0 :: jn 68 [])), [], 174, 0, false⟩ [.cells (D17c 0 0 0 0 0 0 0 0 0 0 0 0 0 0 0 0 0), .cells (D17c 0 0 0 0 0 0 0 0 0 0 0 0 0 0 0 0 0), .ints .u64 qs', .ints .u64 us'] := by
  intro f
  induction f with
  | zero =>
    intro at_ us qs h0 h1 hf hu hq r h
    replace h := h.trans (T174_3r r240 r241 r242 n s at_ us vs qs 0 m _ finB _ rfl _ rfl _ rfl)
    exact ⟨us, qs, hu, hq, gn h (ile_f' (by omega))⟩
  | succ f ih =>
    intro at_ us qs h0 h1 hf hu hq r h
    by_cases ha : 0 ≤ at_
    · obtain ⟨g, e1⟩ := w240 hu hvl ha hn h1 hv hv2
      obtain ⟨b, us', e2, hu'⟩ := w241 (g := g) hu hvl ha (by omega : 0 ≤ n) h1
      obtain ⟨us2, e3, hu2⟩ := w242 hu' hvl ha (by omega : 0 ≤ n) h1
      unfold agg at e1 e2 e3
      rw [← ld17_eq hvl] at e1 e2 e3
      rw [← ld17_eq hu] at e1
      replace h := h.trans (T174_3r r240 r241 r242 n s at_ us vs qs (f + 1) m _ finB _ e1 _ e2 _ e3)
      replace h := go h (ile_t' ha)
      replace h := go h (dm17_t hu)
      replace h := go h (dm17_t hvl)
      replace h := go h rfl
      replace h := go h (dm17_t hvl)
      replace h := go h rfl
      have e4 : IntKind.i64.wrap (at_ - 1) = at_ - 1 := w8in (by omega) (by omega)
      rw [e4] at h
      cases b with
      | true =>
        replace h := go h rfl
        replace h := go h (dm17_t hvl)
        replace h := go h rfl
        replace h := go h (dec2 (by omega) (by omega))
        replace h := go h (dec1 (by omega))
        exact ih (at_ - 1) _ _ (by omega) (by omega) (by omega) hu2 (by rw [List.length_set]; exact hq) r h
      | false =>
        replace h := gn h rfl
        replace h := go h (dec2 (by omega) (by omega))
        replace h := go h (dec1 (by omega))
        exact ih (at_ - 1) _ _ (by omega) (by omega) (by omega) hu' (by rw [List.length_set]; exact hq) r h
    · replace h := h.trans (T174_3r r240 r241 r242 n s at_ us vs qs (f + 1) m _ finB _ rfl _ rfl _ rfl)
      exact ⟨us, qs, hu, hq, gn h (ile_f' (by omega))⟩
theorem z174_3 (d0 d1 d2 d3 d4 d5 d6 d7 d8 d9 d10 d11 d12 d13 d14 d15 d16 v0 v1 v2 v3 v4 v5 v6 v7 v8 v9 v10 v11 v12 v13 v14 v15 v16 n s at_ : Int) (f : Nat) (X : Type) (k : AExit → AAct → List AObj → Option X) :
    exec (E174_3 r240 r241 r242) (f + 60) 3 (.loop (rnd Tryz.f174 3)) ⟨(jn 4 (.ptr 0 0 :: .ptr 1 0 :: .ptr 2 0 :: i64 n :: J :: J :: u s :: .ptr 3 0 :: .ptr 4 0 :: i64 at_ :: jn 66 [])), [], 174, 0, false⟩ [.cells (D17c 0 0 0 0 0 0 0 0 0 0 0 0 0 0 0 0 0), .cells (D17c 0 0 0 0 0 0 0 0 0 0 0 0 0 0 0 0 0), .cells (D17c 0 0 0 0 0 0 0 0 0 0 0 0 0 0 0 0 0), .cells (D17c d0 d1 d2 d3 d4 d5 d6 d7 d8 d9 d10 d11 d12 d13 d14 d15 d16), .cells (D17c v0 v1 v2 v3 v4 v5 v6 v7 v8 v9 v10 v11 v12 v13 v14 v15 v16)] X k =
    exec (E174_3 r240 r241 r242) (f + 60) 3 (.loop (rnd Tryz.f174 3)) ⟨(jn 4 (.ptr 0 0 :: .ptr 1 0 :: .ptr 2 0 :: i64 n :: J :: J :: u s :: .ptr 3 0 :: .ptr 4 0 :: i64 at_ :: jn 66 [])), [], 174, 0, false⟩ [.cells (D17c 0 0 0 0 0 0 0 0 0 0 0 0 0 0 0 0 0), .cells (D17c 0 0 0 0 0 0 0 0 0 0 0 0 0 0 0 0 0), .ints .u64 [0, 0, 0, 0, 0, 0, 0, 0, 0, 0, 0, 0, 0, 0, 0, 0, 0], .ints .u64 [d0, d1, d2, d3, d4, d5, d6, d7, d8, d9, d10, d11, d12, d13, d14, d15, d16], .ints .u64 [v0, v1, v2, v3, v4, v5, v6, v7, v8, v9, v10, v11, v12, v13, v14, v15, v16]] X k :=
  exec_view (n := f + 59) (a' := ⟨(jn 4 (.ptr 0 0 :: .ptr 1 0 :: .ptr 2 0 :: i64 n :: J :: J :: u s :: .ptr 3 0 :: .ptr 4 0 :: i64 at_ :: jn 66 [])), [], 174, 0, false⟩) (os1' := [.cells (D17c 0 0 0 0 0 0 0 0 0 0 0 0 0 0 0 0 0), .cells (D17c 0 0 0 0 0 0 0 0 0 0 0 0 0 0 0 0 0), .cells (D17c 0 0 0 0 0 0 0 0 0 0 0 0 0 0 0 0 0), .cells (D17c d0 d1 d2 d3 d4 d5 d6 d7 d8 d9 d10 d11 d12 d13 d14 d15 d16), .cells (D17c v0 v1 v2 v3 v4 v5 v6 v7 v8 v9 v10 v11 v12 v13 v14 v15 v16)])
    (os2' := [.cells (D17c 0 0 0 0 0 0 0 0 0 0 0 0 0 0 0 0 0), .cells (D17c 0 0 0 0 0 0 0 0 0 0 0 0 0 0 0 0 0), .ints .u64 [0, 0, 0, 0, 0, 0, 0, 0, 0, 0, 0, 0, 0, 0, 0, 0, 0], .ints .u64 [d0, d1, d2, d3, d4, d5, d6, d7, d8, d9, d10, d11, d12, d13, d14, d15, d16], .ints .u64 [v0, v1, v2, v3, v4, v5, v6, v7, v8, v9, v10, v11, v12, v13, v14, v15, v16]]) (fun K => by kernel_rfl) (fun K => by kernel_rfl) (by kernel_rfl)
theorem w174 {ds vs : List Int} (hdl : ds.length = 17) (hda : All32 ds) (hvl : vs.length = 17) (hva : All32 vs) (hvz : vs.getD 16 0 = 0) :
    ∃ q r : List Int, r174 [agg ds, agg vs] [] = some (.ret (.tuple [agg q, agg r]), []) ∧ q.length = 17 ∧ r.length = 17 := by
  obtain ⟨n, e1, hn16, hn⟩ := w237 hvl hvz
  have hup := fun s (h0 : 0 ≤ s) (h1 : s ≤ 31) => w239 (s := s) hvl hva h0 h1
  have hud := fun s (h0 : 0 ≤ s) (h1 : s ≤ 31) => w239 (s := s) hdl hda h0 h1
  have hsh := fun k (h : k ≠ 0) => w238 (n := k) hdl h
  obtain ⟨d0, d1, d2, d3, d4, d5, d6, d7, d8, d9, d10, d11, d12, d13, d14, d15, d16, rfl⟩ := l17 hdl
  obtain ⟨v0, v1, v2, v3, v4, v5, v6, v7, v8, v9, v10, v11, v12, v13, v14, v15, v16, rfl⟩ := l17 hvl
  by_cases h0 : n = 0
  · subst h0
    have h := (q174 _ _).trans (T174 r237 r238 r239 r243 h174_1 h174_3 d0 d1 d2 d3 d4 d5 d6 d7 d8 d9 d10 d11 d12 d13 d14 d15 d16 v0 v1 v2 v3 v4 v5 v6 v7 v8 v9 v10 v11 v12 v13 v14 v15 v16 _ fin _ e1 _ rfl _ rfl _ rfl _ rfl _ rfl _ rfl)
    replace h := go h rfl
    replace h := go h rfl
    exact ⟨[0, 0, 0, 0, 0, 0, 0, 0, 0, 0, 0, 0, 0, 0, 0, 0, 0], [0, 0, 0, 0, 0, 0, 0, 0, 0, 0, 0, 0, 0, 0, 0, 0, 0], h, rfl, rfl⟩
  have hnz : [v0, v1, v2, v3, v4, v5, v6, v7, v8, v9, v10, v11, v12, v13, v14, v15, v16].getD (n - 1) 0 ≠ 0 := hn.resolve_left h0
  by_cases h1 : n = 1
  · subst h1
    obtain ⟨q, left, e7, hq⟩ := hsh v0 hnz
    have h := (q174 _ _).trans (T174 r237 r238 r239 r243 h174_1 h174_3 d0 d1 d2 d3 d4 d5 d6 d7 d8 d9 d10 d11 d12 d13 d14 d15 d16 v0 v1 v2 v3 v4 v5 v6 v7 v8 v9 v10 v11 v12 v13 v14 v15 v16 _ fin _ e1 _ rfl _ rfl _ rfl _ rfl _ rfl _ e7)
    obtain ⟨q0, q1, q2, q3, q4, q5, q6, q7, q8, q9, q10, q11, q12, q13, q14, q15, q16, rfl⟩ := l17 hq
    replace h := go h rfl
    replace h := gn h rfl
    replace h := go h rfl
    replace h := go h rfl
    exact ⟨[q0, q1, q2, q3, q4, q5, q6, q7, q8, q9, q10, q11, q12, q13, q14, q15, q16], [left, 0, 0, 0, 0, 0, 0, 0, 0, 0, 0, 0, 0, 0, 0, 0, 0], h, hq, rfl⟩
  have hN : ((n : Int) - 1).toNat = n - 1 := by omega
  have hr : R32 ([v0, v1, v2, v3, v4, v5, v6, v7, v8, v9, v10, v11, v12, v13, v14, v15, v16].getD ((n : Int) - 1).toNat 0) := hva.get _
  obtain ⟨s, e2, hs0, hs1, hs2, hs3⟩ := l174_1 d0 d1 d2 d3 d4 d5 d6 d7 d8 d9 d10 d11 d12 d13 d14 d15 d16 v0 v1 v2 v3 v4 v5 v6 v7 v8 v9 v10 v11 v12 v13 v14 v15 v16 (n : Int) (by omega) (by omega) hr (by rw [hN]; exact hnz) 139 138 0 (by omega) (by omega) (by omega)
    (by unfold R32 at hr; simp only [Int.toNat_zero, Int.pow_zero, Int.mul_one]; omega) _ rfl
  replace e2 := (p174_1 _ _ 199 rfl).trans e2
  obtain ⟨us, e3, hul, hua, _⟩ := hud s hs0 hs1
  obtain ⟨vs, e4, hvl2, hva2, hge⟩ := hup s hs0 hs1
  have hv2 : R32 (vs.getD ((n : Int) - 1).toNat 0) := hva2.get _
  have hv3 : 2147483648 ≤ vs.getD ((n : Int) - 1).toNat 0 := by
    have := hge ((n : Int) - 1).toNat (by omega) hs2
    omega
  have hQ : [(0 : Int), 0, 0, 0, 0, 0, 0, 0, 0, 0, 0, 0, 0, 0, 0, 0, 0].length = 17 := rfl
  obtain ⟨us', qs', hu', hq', e5⟩ := l174_3 (n := n) (s := s) (by omega) (by omega) hvl2 hv2 hv3 139 139 (16 - n) us [0, 0, 0, 0, 0, 0, 0, 0, 0, 0, 0, 0, 0, 0, 0, 0, 0] (by omega) (by omega) (by omega) hul hQ _ rfl
  obtain ⟨u0, u1, u2, u3, u4, u5, u6, u7, u8, u9, u10, u11, u12, u13, u14, u15, u16, rfl⟩ := l17 hul
  obtain ⟨y0, y1, y2, y3, y4, y5, y6, y7, y8, y9, y10, y11, y12, y13, y14, y15, y16, rfl⟩ := l17 hvl2
  replace e5 := (p174_3 _ _ 199 rfl).trans ((z174_3 u0 u1 u2 u3 u4 u5 u6 u7 u8 u9 u10 u11 u12 u13 u14 u15 u16 y0 y1 y2 y3 y4 y5 y6 y7 y8 y9 y10 y11 y12 y13 y14 y15 y16 n s (16 - n) 139 _ _).trans e5)
  obtain ⟨rs, e6, hrl⟩ := w243 (s := s) (n := n) hu' hs0 (by omega) (by omega)
  have e9 : IntKind.i64.wrap (16 - (n : Int)) = 16 - n := w8in (by omega) (by omega)
  unfold agg at e6
  rw [← ld17_eq hu'] at e6
  rw [← e9] at e5
  have h := (q174 _ _).trans (T174 r237 r238 r239 r243 h174_1 h174_3 d0 d1 d2 d3 d4 d5 d6 d7 d8 d9 d10 d11 d12 d13 d14 d15 d16 v0 v1 v2 v3 v4 v5 v6 v7 v8 v9 v10 v11 v12 v13 v14 v15 v16 _ fin _ e1 _ e2 _ e3 _ e4 _ e5 _ e6 _ rfl)
  replace h := go h rfl
  replace h := gn h (by show ((n : Int) == 0) = false; rw [beq_eq_false_iff_ne]; omega)
  replace h := gn h (by show ((n : Int) == 1) = false; rw [beq_eq_false_iff_ne]; omega)
  replace h := go h rfl
  replace h := go h rfl
  replace h := go h rfl
  replace h := go h rfl
  replace h := go h (dm17_t hq')
  replace h := go h (dm17_t hu')
  obtain ⟨r0, r1, r2, r3, r4, r5, r6, r7, r8, r9, r10, r11, r12, r13, r14, r15, r16, rfl⟩ := l17 hrl
  replace h := go h rfl
  refine ⟨qs', _, h.trans ?_, hq', hrl⟩
  show some (AEnd.ret (AV.tuple [AV.agg (ld17 qs'), _]), _) = _
  rw [ld17_eq hq']
  rfl
theorem w121 {a0 a1 a2 a3 b0 b1 b2 b3 : Int} (ha : R4 a0 a1 a2 a3) (hb : R4 b0 b1 b2 b3) :
    ∃ s0 s1 s2 s3 t0 t1 t2 t3, r121 [U a0 a1 a2 a3, U b0 b1 b2 b3] [] = some (.ret (.tuple [U s0 s1 s2 s3, U t0 t1 t2 t3]), []) ∧ R4 s0 s1 s2 s3 ∧ R4 t0 t1 t2 t3 := by
  have e1 := w110 ha hb
  obtain ⟨ds, e2, hdl, hda, _⟩ := w173 ha
  obtain ⟨vs, e3, hvl, hva, hvz⟩ := w173 hb
  obtain ⟨q, r, e4, hq, hr⟩ := w174 hdl hda hvl hva hvz
  obtain ⟨s0, s1, s2, s3, e5, h5⟩ := w175 hq
  obtain ⟨t0, t1, t2, t3, e6, h6⟩ := w175 hr
  obtain ⟨d0, d1, d2, d3, d4, d5, d6, d7, d8, d9, d10, d11, d12, d13, d14, d15, d16, rfl⟩ := l17 hdl
  obtain ⟨v0, v1, v2, v3, v4, v5, v6, v7, v8, v9, v10, v11, v12, v13, v14, v15, v16, rfl⟩ := l17 hvl
  obtain ⟨q0, q1, q2, q3, q4, q5, q6, q7, q8, q9, q10, q11, q12, q13, q14, q15, q16, rfl⟩ := l17 hq
  obtain ⟨r0, r1, r2, r3, r4, r5, r6, r7, r8, r9, r10, r11, r12, r13, r14, r15, r16, rfl⟩ := l17 hr
  have h := (q121 _ _).trans (T121 r110 r173 r174 r175 a0 a1 a2 a3 b0 b1 b2 b3 _ fin _ e1 _ e2 _ e3 _ e4 _ e5 _ e6)
  replace h := go h rfl
  rcases spB h with ⟨_, h⟩ | ⟨_, h⟩
  · exact ⟨_, _, _, _, _, _, _, _, h, r4_0, ha⟩
  · replace h := go h rfl
    replace h := go h rfl
    replace h := go h rfl
    replace h := go h rfl
    replace h := go h rfl
    exact ⟨_, _, _, _, _, _, _, _, h, h5, h6⟩
theorem w180 {a0 a1 a2 a3 b0 b1 b2 b3 c0 c1 c2 c3 : Int} (ha : R4 a0 a1 a2 a3) (hb : R4 b0 b1 b2 b3) (hc : R4 c0 c1 c2 c3) :
    ∃ t0 t1 t2 t3, r180 [U a0 a1 a2 a3, U b0 b1 b2 b3, U c0 c1 c2 c3] [] = some (.ret (U t0 t1 t2 t3), []) ∧ R4 t0 t1 t2 t3 := by
  obtain ⟨ds, e2, hdl, hda, _⟩ := w173b hb ha
  obtain ⟨vs, e3, hvl, hva, hvz⟩ := w173 hc
  obtain ⟨q, r, e4, hq, hr⟩ := w174 hdl hda hvl hva hvz
  obtain ⟨t0, t1, t2, t3, e6, h6⟩ := w175 hr
  obtain ⟨d0, d1, d2, d3, d4, d5, d6, d7, d8, d9, d10, d11, d12, d13, d14, d15, d16, rfl⟩ := l17 hdl
  obtain ⟨v0, v1, v2, v3, v4, v5, v6, v7, v8, v9, v10, v11, v12, v13, v14, v15, v16, rfl⟩ := l17 hvl
  obtain ⟨r0, r1, r2, r3, r4, r5, r6, r7, r8, r9, r10, r11, r12, r13, r14, r15, r16, rfl⟩ := l17 hr
  have h := (q180 _ _).trans (T180 r173 r174 r175 a0 a1 a2 a3 b0 b1 b2 b3 c0 c1 c2 c3 _ fin _ e2 _ e3 _ e4 _ e6)
  obtain ⟨q0, q1, q2, q3, q4, q5, q6, q7, q8, q9, q10, q11, q12, q13, q14, q15, q16, rfl⟩ := l17 hq
  replace h := go h rfl
  replace h := go h rfl
  replace h := go h rfl
  replace h := go h rfl
  exact ⟨_, _, _, _, h, h6⟩
end Go.Proofs.Vm
end
section
open Go Go.Abs
namespace Go.Proofs.Vm
set_option maxRecDepth 100000
set_option maxHeartbeats 0
noncomputable def E122 (r178 : RF) (r177 : RF) (r121 : RF) : Env := En 122 [] [] [(176, Tryz.f176, cod Tryz.f176), (179, Tryz.f179, cod Tryz.f179)] [] [] [(178, shaped A178 r178), (177, shaped A177 r177), (121, shaped A121 r121)]
def a122 : Alt := ⟨false, .tup [shU, shU], []⟩
def A122 : List Alt := [a122]
theorem T122 (r178 : RF) (r177 : RF) (r121 : RF) (a0 a1 a2 a3 b0 b1 b2 b3 : Int) (X : Type) (k : AEnd → List AObj → Option X)
    (x1 : RE) (e1 : r178 [U a0 a1 a2 a3] [] = x1)
    (x2 : RE) (e2 : r178 [U b0 b1 b2 b3] [] = x2)
    (x3 : RE) (e3 : r121 [U a0 a1 a2 a3, U b0 b1 b2 b3] [] = x3)
    (x4 : RE) (e4 : r177 [AV.agg (tu4 ((rV x3).items.getD 1 J).items)] [] = x4)
    (x5 : RE) (e5 : r177 [AV.agg (tu4 ((rV x3).items.getD 0 J).items)] [] = x5)
    (x6 : RE) (e6 : r177 [U b0 b1 b2 b3] [] = x6)
    (x7 : RE) (e7 : r121 [U a0 a1 a2 a3, AV.agg (tu4 (rV x6).items)] [] = x7)
    (x8 : RE) (e8 : r177 [AV.agg (tu4 ((rV x7).items.getD 1 J).items)] [] = x8)
    (x9 : RE) (e9 : r177 [AV.agg (tu4 ((rV x7).items.getD 0 J).items)] [] = x9)
    (x10 : RE) (e10 : r177 [U a0 a1 a2 a3] [] = x10)
    (x11 : RE) (e11 : r121 [AV.agg (tu4 (rV x10).items), U b0 b1 b2 b3] [] = x11)
    (x12 : RE) (e12 : r177 [AV.agg (tu4 ((rV x11).items.getD 1 J).items)] [] = x12)
    (x13 : RE) (e13 : r177 [AV.agg (tu4 ((rV x11).items.getD 0 J).items)] [] = x13)
    (x14 : RE) (e14 : r121 [AV.agg (tu4 (rV x10).items), AV.agg (tu4 (rV x6).items)] [] = x14)
    (x15 : RE) (e15 : r177 [AV.agg (tu4 ((rV x14).items.getD 1 J).items)] [] = x15)
    (x16 : RE) (e16 : r177 [AV.agg (tu4 ((rV x14).items.getD 0 J).items)] [] = x16) :
    body (E122 r178 r177 r121) 60 122 Tryz.f122 (cod Tryz.f122) [U a0 a1 a2 a3, U b0 b1 b2 b3] [] X k =
    bif okAlt a178 x1 then bif okAlt a178 x2 then bif (rV x1).toBool then bif okAlt a177 x10 then bif (rV x2).toBool then bif okAlt a177 x6 then bif okAlt a121 x14 then bif !(rV x1).toBool == (rV x2).toBool then bif okAlt a177 x16 then bif (rV x1).toBool then bif okAlt a177 x15 then k (.ret (.tuple [AV.agg (tu4 (rV x16).items), AV.agg (tu4 (rV x15).items)])) [] else none else k (.ret (.tuple [AV.agg (tu4 (rV x16).items), AV.agg (tu4 ((rV x14).items.getD 1 J).items)])) [] else none else bif (rV x1).toBool then bif okAlt a177 x15 then k (.ret (.tuple [AV.agg (tu4 ((rV x14).items.getD 0 J).items), AV.agg (tu4 (rV x15).items)])) [] else none else k (.ret (.tuple [AV.agg (tu4 ((rV x14).items.getD 0 J).items), AV.agg (tu4 ((rV x14).items.getD 1 J).items)])) [] else none else none else bif okAlt a121 x11 then bif !(rV x1).toBool == (rV x2).toBool then bif okAlt a177 x13 then bif (rV x1).toBool then bif okAlt a177 x12 then k (.ret (.tuple [AV.agg (tu4 (rV x13).items), AV.agg (tu4 (rV x12).items)])) [] else none else k (.ret (.tuple [AV.agg (tu4 (rV x13).items), AV.agg (tu4 ((rV x11).items.getD 1 J).items)])) [] else none else bif (rV x1).toBool then bif okAlt a177 x12 then k (.ret (.tuple [AV.agg (tu4 ((rV x11).items.getD 0 J).items), AV.agg (tu4 (rV x12).items)])) [] else none else k (.ret (.tuple [AV.agg (tu4 ((rV x11).items.getD 0 J).items), AV.agg (tu4 ((rV x11).items.getD 1 J).items)])) [] else none else none else bif (rV x2).toBool then bif okAlt a177 x6 then bif okAlt a121 x7 then bif !(rV x1).toBool == (rV x2).toBool then bif okAlt a177 x9 then bif (rV x1).toBool then bif okAlt a177 x8 then k (.ret (.tuple [AV.agg (tu4 (rV x9).items), AV.agg (tu4 (rV x8).items)])) [] else none else k (.ret (.tuple [AV.agg (tu4 (rV x9).items), AV.agg (tu4 ((rV x7).items.getD 1 J).items)])) [] else none else bif (rV x1).toBool then bif okAlt a177 x8 then k (.ret (.tuple [AV.agg (tu4 ((rV x7).items.getD 0 J).items), AV.agg (tu4 (rV x8).items)])) [] else none else k (.ret (.tuple [AV.agg (tu4 ((rV x7).items.getD 0 J).items), AV.agg (tu4 ((rV x7).items.getD 1 J).items)])) [] else none else none else bif okAlt a121 x3 then bif !(rV x1).toBool == (rV x2).toBool then bif okAlt a177 x5 then bif (rV x1).toBool then bif okAlt a177 x4 then k (.ret (.tuple [AV.agg (tu4 (rV x5).items), AV.agg (tu4 (rV x4).items)])) [] else none else k (.ret (.tuple [AV.agg (tu4 (rV x5).items), AV.agg (tu4 ((rV x3).items.getD 1 J).items)])) [] else none else bif (rV x1).toBool then bif okAlt a177 x4 then k (.ret (.tuple [AV.agg (tu4 ((rV x3).items.getD 0 J).items), AV.agg (tu4 (rV x4).items)])) [] else none else k (.ret (.tuple [AV.agg (tu4 ((rV x3).items.getD 0 J).items), AV.agg (tu4 ((rV x3).items.getD 1 J).items)])) [] else none else none else none := by subst e1 e2 e3 e4 e5 e6 e7 e8 e9 e10 e11 e12 e13 e14 e15 e16; kernel_rfl
noncomputable def r122 : RF := runR (body (E122 r178 r177 r121) 60 122 Tryz.f122 (cod Tryz.f122))
theorem q122 (args : List AV) (os : List AObj) : r122 args os = body (E122 r178 r177 r121) 60 122 Tryz.f122 (cod Tryz.f122) args os _ fin := qR _ _ _
theorem ok122 : SpecOK P 122 (shaped A122 r122) := by
  unfold r122 E122
  refine okF 60 ?_ ?_ ?_ Tryz.func122 ?_ ?_ _
  · exact (tcons ok178 (tcons ok177 (tcons ok121 tnil)))
  · exact (And.intro (And.intro Tryz.func176 (And.intro (by kernel_rfl) (by kernel_rfl))) (And.intro (And.intro Tryz.func179 (And.intro (by kernel_rfl) (by kernel_rfl))) trivial))
  · exact hnil
  · kernel_rfl
  · kernel_rfl
noncomputable def E181 (r83 : RF) : Env := En 181 [] [] [] [] [] [(83, shaped A83 r83)]
def a181 : Alt := ⟨false, shU, []⟩
def A181 : List Alt := [a181]
theorem T181 (r83 : RF) (X : Type) (k : AEnd → List AObj → Option X)
    (x1 : RE) (e1 : r83 [u 1] [] = x1) :
    body (E181 r83) 60 181 Tryz.f181 (cod Tryz.f181) [] [] X k =
    bif okAlt a83 x1 then k (.ret (AV.agg (tu4 (rV x1).items))) [] else none := by subst e1; kernel_rfl
noncomputable def r181 : RF := runR (body (E181 r83) 60 181 Tryz.f181 (cod Tryz.f181))
theorem q181 (args : List AV) (os : List AObj) : r181 args os = body (E181 r83) 60 181 Tryz.f181 (cod Tryz.f181) args os _ fin := qR _ _ _
theorem ok181 : SpecOK P 181 (shaped A181 r181) := by
  unfold r181 E181
  refine okF 60 ?_ ?_ ?_ Tryz.func181 ?_ ?_ _
  · exact (tcons ok83 tnil)
  · exact trivial
  · exact hnil
  · kernel_rfl
  · kernel_rfl
noncomputable def E124 (r109 : RF) (r121 : RF) (r181 : RF) (r180 : RF) : Env := En 124 [] [] [] [] [] [(109, shaped A109 r109), (121, shaped A121 r121), (181, shaped A181 r181), (180, shaped A180 r180)]
def a124 : Alt := ⟨false, shU, []⟩
def A124 : List Alt := [a124]
theorem T124 (r109 : RF) (r121 : RF) (r181 : RF) (r180 : RF) (a0 a1 a2 a3 b0 b1 b2 b3 c0 c1 c2 c3 : Int) (X : Type) (k : AEnd → List AObj → Option X)
    (x1 : RE) (e1 : r109 [U a0 a1 a2 a3, U b0 b1 b2 b3] [] = x1)
    (x2 : RE) (e2 : r181 [] [] = x2)
    (x3 : RE) (e3 : r180 [AV.agg (tu4 (rV x2).items), AV.agg (tu4 ((rV x1).items.getD 0 J).items), U c0 c1 c2 c3] [] = x3)
    (x4 : RE) (e4 : r121 [AV.agg (tu4 ((rV x1).items.getD 0 J).items), U c0 c1 c2 c3] [] = x4) :
    body (E124 r109 r121 r181 r180) 60 124 Tryz.f124 (cod Tryz.f124) [U a0 a1 a2 a3, U b0 b1 b2 b3, U c0 c1 c2 c3] [] X k =
    bif okAlt a109 x1 then bif !((rV x1).items.getD 1 J).toBool then bif okAlt a121 x4 then k (.ret (AV.agg (tu4 ((rV x4).items.getD 1 J).items))) [] else none else bif okAlt a181 x2 then bif okAlt a180 x3 then k (.ret (AV.agg (tu4 (rV x3).items))) [] else none else none else none := by subst e1 e2 e3 e4; kernel_rfl
noncomputable def r124 : RF := runR (body (E124 r109 r121 r181 r180) 60 124 Tryz.f124 (cod Tryz.f124))
theorem q124 (args : List AV) (os : List AObj) : r124 args os = body (E124 r109 r121 r181 r180) 60 124 Tryz.f124 (cod Tryz.f124) args os _ fin := qR _ _ _
theorem ok124 : SpecOK P 124 (shaped A124 r124) := by
  unfold r124 E124
  refine okF 60 ?_ ?_ ?_ Tryz.func124 ?_ ?_ _
  · exact (tcons ok109 (tcons ok121 (tcons ok181 (tcons ok180 tnil))))
  · exact trivial
  · exact hnil
  · kernel_rfl
  · kernel_rfl
noncomputable def E125 (r171 : RF) (r180 : RF) : Env := En 125 [] [] [] [] [] [(171, shaped A171 r171), (180, shaped A180 r180)]
def a125 : Alt := ⟨false, shU, []⟩
def A125 : List Alt := [a125]
theorem T125 (r171 : RF) (r180 : RF) (a0 a1 a2 a3 b0 b1 b2 b3 c0 c1 c2 c3 : Int) (X : Type) (k : AEnd → List AObj → Option X)
    (x1 : RE) (e1 : r171 [U a0 a1 a2 a3, U b0 b1 b2 b3] [] = x1)
    (x2 : RE) (e2 : r180 [AV.agg (tu4 ((rV x1).items.getD 0 J).items), AV.agg (tu4 ((rV x1).items.getD 1 J).items), U c0 c1 c2 c3] [] = x2) :
    body (E125 r171 r180) 60 125 Tryz.f125 (cod Tryz.f125) [U a0 a1 a2 a3, U b0 b1 b2 b3, U c0 c1 c2 c3] [] X k =
    bif okAlt a171 x1 then bif okAlt a180 x2 then k (.ret (AV.agg (tu4 (rV x2).items))) [] else none else none := by subst e1 e2; kernel_rfl
noncomputable def r125 : RF := runR (body (E125 r171 r180) 60 125 Tryz.f125 (cod Tryz.f125))
theorem q125 (args : List AV) (os : List AObj) : r125 args os = body (E125 r171 r180) 60 125 Tryz.f125 (cod Tryz.f125) args os _ fin := qR _ _ _
theorem ok125 : SpecOK P 125 (shaped A125 r125) := by
  unfold r125 E125
  refine okF 60 ?_ ?_ ?_ Tryz.func125 ?_ ?_ _
  · exact (tcons ok171 (tcons ok180 tnil))
  · exact trivial
  · exact hnil
  · kernel_rfl
  · kernel_rfl
noncomputable def E182_0 (r118 : RF) (r183 : RF) : Env := En 182 [(0, [3, 4, 5, 6, 8, 9], [6, 8])] [] [] [] [] [(118, shaped A118 r118), (183, shaped A183 r183)]
def a182_0 : BAlt := ⟨.normal, (sj 6 (.ptr 0 0 :: .junk :: .ptr 1 0 :: sj 22 [])), [.cells [sh6, sh6, sh6, sh6], .cells [sh6, sh6, sh6, sh6]], []⟩
def A182_0 : List BAlt := [a182_0]
noncomputable def h182_0 : RB := runB (blockRun (E182_0 r118 r183) (fun _ _ => 400) 0)
theorem q182_0 (c : Code) (a : AAct) (os : List AObj) : h182_0 c a os = exec (E182_0 r118 r183) ((fun _ _ => 400) a os) 0 (.block 0 c) a os _ finB := qB _ _ _ _ _ _
theorem k182_0 : blk Tryz.f182 0 = .loop (rnd Tryz.f182 0) := by kernel_rfl
theorem p182_0 (T : List AV) (os : List AObj) (F : Nat) (hF : (fun _ _ => 400) (⟨T, [], 182, 0, false⟩ : AAct) os = F + 1) : h182_0 (blk Tryz.f182 0) ⟨T, [], 182, 0, false⟩ os = exec (E182_0 r118 r183) F 0 (.loop (rnd Tryz.f182 0)) ⟨T, [], 182, 0, false⟩ os _ (bK (E182_0 r118 r183) F 0 finB) := by
  rw [q182_0, hF, exec_block (by kernel_rfl), k182_0]
theorem okb182_0 : BlockOK P 182 0 (bShaped A182_0 [] (some [3, 4, 5, 6, 8, 9]) h182_0) := by
  unfold h182_0 E182_0
  refine okBl _ ?_ ?_ ?_ _ _ _
  · exact (tcons ok118 (tcons ok183 tnil))
  · exact trivial
  · exact hnil
theorem TL182_0r (r118 : RF) (r183 : RF) (a0 a1 a2 a3 b0 b1 b2 b3 c0 c1 c2 c3 i : Int) (d m : Nat) (L : AAct → List AObj → ∀ X : Type, (AExit → AAct → List AObj → Option X) → Option X) (X : Type) (k : AExit → AAct → List AObj → Option X)
    (x1 : RE) (e1 : r118 [U a0 a1 a2 a3, U a0 a1 a2 a3] [] = x1)
    (x2 : RE) (e2 : r183 [U b0 b1 b2 b3, u 1] [] = x2)
    (x3 : RE) (e3 : r118 [U c0 c1 c2 c3, U a0 a1 a2 a3] [] = x3) :
    roundL (E182_0 r118 r183) (d + 59) 0 (rnd Tryz.f182 0) L ⟨(jn 3 (.func (.func 118) [] [] :: .ptr 0 0 :: .ptr 1 0 :: .ptr 2 0 :: J :: .ptr 3 0 :: i64 i :: jn 21 [])), [], 182, 0, false⟩ [.cells [u a0, u a1, u a2, u a3], .cells [u b0, u b1, u b2, u b3], .cells [u c0, u c1, u c2, u c3], .cells [u 0, u 0, u 0, u 0]] X (bK (E182_0 r118 r183) (m + 60) 0 k) =
    bif ilt 0 i then bif IntKind.u64.wrap (↑(BitVec.ofInt IntKind.u64.bits b0 &&& BitVec.ofInt IntKind.u64.bits 1).toNat : Int) == 1 then bif okAlt a118 x3 then bif okAlt a118 x1 then bif okAlt a183 x2 then L { tmps := (jn 3 (AV.func (Fn.func 118) [] [] :: AV.ptr 0 0 :: AV.ptr 1 0 :: AV.ptr 2 0 :: J :: AV.ptr 3 0 :: i64 (IntKind.i64.wrap (i - 1)) :: jn 21 [])), defers := [], fn := 182, foot := 0, round := false } [AObj.cells (tu4 (rV x1).items), AObj.cells (tu4 (rV x2).items), AObj.cells (tu4 (rV x3).items), AObj.cells [u 0, u 0, u 0, u 0]] X (bK (E182_0 r118 r183) (m + 60) 0 k) else none else none else none else bif okAlt a118 x1 then bif okAlt a183 x2 then L { tmps := (jn 3 (AV.func (Fn.func 118) [] [] :: AV.ptr 0 0 :: AV.ptr 1 0 :: AV.ptr 2 0 :: J :: AV.ptr 3 0 :: i64 (IntKind.i64.wrap (i - 1)) :: jn 21 [])), defers := [], fn := 182, foot := 0, round := false } [AObj.cells (tu4 (rV x1).items), AObj.cells (tu4 (rV x2).items), AObj.cells [u c0, u c1, u c2, u c3], AObj.cells [u 0, u 0, u 0, u 0]] X (bK (E182_0 r118 r183) (m + 60) 0 k) else none else none else k AExit.normal { tmps := (jn 6 (AV.ptr 0 0 :: J :: AV.ptr 1 0 :: jn 22 [])), defers := [], fn := 182, foot := 0, round := false } [AObj.cells [u c0, u c1, u c2, u c3], AObj.cells [u 0, u 0, u 0, u 0]] := by subst e1 e2 e3; kernel_rfl
theorem T182_0r (r118 : RF) (r183 : RF) (a0 a1 a2 a3 b0 b1 b2 b3 c0 c1 c2 c3 i : Int) (d m : Nat) (X : Type) (k : AExit → AAct → List AObj → Option X)
    (x1 : RE) (e1 : r118 [U a0 a1 a2 a3, U a0 a1 a2 a3] [] = x1)
    (x2 : RE) (e2 : r183 [U b0 b1 b2 b3, u 1] [] = x2)
    (x3 : RE) (e3 : r118 [U c0 c1 c2 c3, U a0 a1 a2 a3] [] = x3) :
    exec (E182_0 r118 r183) (d + 60) 0 (.loop (rnd Tryz.f182 0)) ⟨(jn 3 (.func (.func 118) [] [] :: .ptr 0 0 :: .ptr 1 0 :: .ptr 2 0 :: J :: .ptr 3 0 :: i64 i :: jn 21 [])), [], 182, 0, false⟩ [.cells [u a0, u a1, u a2, u a3], .cells [u b0, u b1, u b2, u b3], .cells [u c0, u c1, u c2, u c3], .cells [u 0, u 0, u 0, u 0]] X (bK (E182_0 r118 r183) (m + 60) 0 k) =
    bif ilt 0 i then bif IntKind.u64.wrap (↑(BitVec.ofInt IntKind.u64.bits b0 &&& BitVec.ofInt IntKind.u64.bits 1).toNat : Int) == 1 then bif okAlt a118 x3 then bif okAlt a118 x1 then bif okAlt a183 x2 then exec (E182_0 r118 r183) (d + 59) 0 (.loop (rnd Tryz.f182 0)) { tmps := (jn 3 (AV.func (Fn.func 118) [] [] :: AV.ptr 0 0 :: AV.ptr 1 0 :: AV.ptr 2 0 :: J :: AV.ptr 3 0 :: i64 (IntKind.i64.wrap (i - 1)) :: jn 21 [])), defers := [], fn := 182, foot := 0, round := false } [AObj.cells (tu4 (rV x1).items), AObj.cells (tu4 (rV x2).items), AObj.cells (tu4 (rV x3).items), AObj.cells [u 0, u 0, u 0, u 0]] X (bK (E182_0 r118 r183) (m + 60) 0 k) else none else none else none else bif okAlt a118 x1 then bif okAlt a183 x2 then exec (E182_0 r118 r183) (d + 59) 0 (.loop (rnd Tryz.f182 0)) { tmps := (jn 3 (AV.func (Fn.func 118) [] [] :: AV.ptr 0 0 :: AV.ptr 1 0 :: AV.ptr 2 0 :: J :: AV.ptr 3 0 :: i64 (IntKind.i64.wrap (i - 1)) :: jn 21 [])), defers := [], fn := 182, foot := 0, round := false } [AObj.cells (tu4 (rV x1).items), AObj.cells (tu4 (rV x2).items), AObj.cells [u c0, u c1, u c2, u c3], AObj.cells [u 0, u 0, u 0, u 0]] X (bK (E182_0 r118 r183) (m + 60) 0 k) else none else none else k AExit.normal { tmps := (jn 6 (AV.ptr 0 0 :: J :: AV.ptr 1 0 :: jn 22 [])), defers := [], fn := 182, foot := 0, round := false } [AObj.cells [u c0, u c1, u c2, u c3], AObj.cells [u 0, u 0, u 0, u 0]] := (exec_loop _ _ _ _ _ _ _ _).trans (TL182_0r r118 r183 a0 a1 a2 a3 b0 b1 b2 b3 c0 c1 c2 c3 i d m (fun a os X k => exec (E182_0 r118 r183) (d + 59) 0 (.loop (rnd Tryz.f182 0)) a os X k) X k _ e1 _ e2 _ e3)
noncomputable def E182 (r114 : RF) (h182_0 : RB) : Env := En 182 [] [] [] [(0, bShaped A182_0 [] (some [3, 4, 5, 6, 8, 9]) h182_0)] [] [(114, shaped A114 r114)]
def a182 : Alt := ⟨false, shU, []⟩
def A182 : List Alt := [a182]
theorem T182 (r114 : RF) (h182_0 : RB) (a0 a1 a2 a3 b0 b1 b2 b3 c0 c1 c2 c3 : Int) (X : Type) (k : AEnd → List AObj → Option X)
    (x1 : RE) (e1 : r114 [U b0 b1 b2 b3] [] = x1)
    (x2 : RBE) (e2 : h182_0 (blk Tryz.f182 0) { tmps := (jn 3 (AV.func (Fn.func 118) [] [] :: AV.ptr 0 0 :: AV.ptr 1 0 :: AV.ptr 2 0 :: J :: AV.ptr 3 0 :: i64 (rV x1).toInt :: jn 21 [])), defers := [], fn := 182, foot := 0, round := false } [AObj.cells [u a0, u a1, u a2, u a3], AObj.cells [u b0, u b1, u b2, u b3], AObj.cells [u c0, u c1, u c2, u c3], AObj.cells [u 0, u 0, u 0, u 0]] = x2) :
    body (E182 r114 h182_0) 60 182 Tryz.f182 (cod Tryz.f182) [U a0 a1 a2 a3, U b0 b1 b2 b3, U c0 c1 c2 c3, .func (.func 118) [] []] [] X k =
    bif okAlt a114 x1 then bif okB a182_0 182 0 false x2 then k (.ret (AV.agg (tu4 ((bOs x2).getD 0 AObj.dead).cellsOf))) [] else none else none := by subst e1 e2; kernel_rfl
noncomputable def r182 : RF := runR (body (E182 r114 h182_0) 60 182 Tryz.f182 (cod Tryz.f182))
theorem q182 (args : List AV) (os : List AObj) : r182 args os = body (E182 r114 h182_0) 60 182 Tryz.f182 (cod Tryz.f182) args os _ fin := qR _ _ _
theorem ok182 : SpecOK P 182 (shaped A182 r182) := by
  unfold r182 E182
  refine okF 60 ?_ ?_ ?_ Tryz.func182 ?_ ?_ _
  · exact (tcons ok114 tnil)
  · exact trivial
  · exact (hcons okb182_0 hnil)
  · kernel_rfl
  · kernel_rfl
noncomputable def E126 (r181 : RF) (r182 : RF) : Env := En 126 [] [] [] [] [] [(181, shaped A181 r181), (182, shaped A182 r182)]
def a126 : Alt := ⟨false, shU, []⟩
def A126 : List Alt := [a126]
theorem T126 (r181 : RF) (r182 : RF) (a0 a1 a2 a3 b0 b1 b2 b3 : Int) (X : Type) (k : AEnd → List AObj → Option X)
    (x1 : RE) (e1 : r181 [] [] = x1)
    (x2 : RE) (e2 : r182 [U a0 a1 a2 a3, U b0 b1 b2 b3, AV.agg (tu4 (rV x1).items), AV.func (Fn.func 118) [] []] [] = x2) :
    body (E126 r181 r182) 60 126 Tryz.f126 (cod Tryz.f126) [U a0 a1 a2 a3, U b0 b1 b2 b3] [] X k =
    bif okAlt a181 x1 then bif okAlt a182 x2 then k (.ret (AV.agg (tu4 (rV x2).items))) [] else none else none := by subst e1 e2; kernel_rfl
noncomputable def r126 : RF := runR (body (E126 r181 r182) 60 126 Tryz.f126 (cod Tryz.f126))
theorem q126 (args : List AV) (os : List AObj) : r126 args os = body (E126 r181 r182) 60 126 Tryz.f126 (cod Tryz.f126) args os _ fin := qR _ _ _
theorem ok126 : SpecOK P 126 (shaped A126 r126) := by
  unfold r126 E126
  refine okF 60 ?_ ?_ ?_ Tryz.func126 ?_ ?_ _
  · exact (tcons ok181 (tcons ok182 tnil))
  · exact trivial
  · exact hnil
  · kernel_rfl
  · kernel_rfl
noncomputable def E120 : Env := En 120 [] [] [] [] [] []
def a120 : Alt := ⟨false, shU, []⟩
def A120 : List Alt := [a120]
theorem T120 (a0 a1 a2 a3 b0 b1 b2 b3 : Int) (X : Type) (k : AEnd → List AObj → Option X) :
    body (E120) 60 120 Tryz.f120 (cod Tryz.f120) [U a0 a1 a2 a3, U b0 b1 b2 b3] [] X k =
    k (.ret (U a0 a1 a2 a3)) [] := by kernel_rfl
noncomputable def r120 : RF := runR (body (E120) 60 120 Tryz.f120 (cod Tryz.f120))
theorem q120 (args : List AV) (os : List AObj) : r120 args os = body (E120) 60 120 Tryz.f120 (cod Tryz.f120) args os _ fin := qR _ _ _
theorem ok120 : SpecOK P 120 (shaped A120 r120) := by
  unfold r120 E120
  refine okF 60 ?_ ?_ ?_ Tryz.func120 ?_ ?_ _
  · exact tnil
  · exact trivial
  · exact hnil
  · kernel_rfl
  · kernel_rfl
noncomputable def E123 : Env := En 123 [] [] [] [] [] []
def a123 : Alt := ⟨false, shU, []⟩
def A123 : List Alt := [a123]
theorem T123 (a0 a1 a2 a3 b0 b1 b2 b3 : Int) (X : Type) (k : AEnd → List AObj → Option X) :
    body (E123) 60 123 Tryz.f123 (cod Tryz.f123) [U a0 a1 a2 a3, U b0 b1 b2 b3] [] X k =
    k (.ret (U b0 b1 b2 b3)) [] := by kernel_rfl
noncomputable def r123 : RF := runR (body (E123) 60 123 Tryz.f123 (cod Tryz.f123))
theorem q123 (args : List AV) (os : List AObj) : r123 args os = body (E123) 60 123 Tryz.f123 (cod Tryz.f123) args os _ fin := qR _ _ _
theorem ok123 : SpecOK P 123 (shaped A123 r123) := by
  unfold r123 E123
  refine okF 60 ?_ ?_ ?_ Tryz.func123 ?_ ?_ _
  · exact tnil
  · exact trivial
  · exact hnil
  · kernel_rfl
  · kernel_rfl
end Go.Proofs.Vm
end
section
namespace Go.Proofs.Vm
open Go Go.Abs
set_option maxRecDepth 100000
set_option maxHeartbeats 1000000
theorem w120 (a0 a1 a2 a3 b0 b1 b2 b3 : Int) : r120 [U a0 a1 a2 a3, U b0 b1 b2 b3] [] = some (.ret (U a0 a1 a2 a3), []) := (q120 _ _).trans (T120 a0 a1 a2 a3 b0 b1 b2 b3 _ fin)
theorem w123 (a0 a1 a2 a3 b0 b1 b2 b3 : Int) : r123 [U a0 a1 a2 a3, U b0 b1 b2 b3] [] = some (.ret (U b0 b1 b2 b3), []) := (q123 _ _).trans (T123 a0 a1 a2 a3 b0 b1 b2 b3 _ fin)
theorem w122 {a0 a1 a2 a3 b0 b1 b2 b3 : Int} (ha : R4 a0 a1 a2 a3) (hb : R4 b0 b1 b2 b3) :
    ∃ s0 s1 s2 s3 t0 t1 t2 t3, r122 [U a0 a1 a2 a3, U b0 b1 b2 b3] [] = some (.ret (.tuple [U s0 s1 s2 s3, U t0 t1 t2 t3]), []) ∧ R4 s0 s1 s2 s3 ∧ R4 t0 t1 t2 t3 := by
  obtain ⟨oa, e1⟩ := w178 (a0 := a0) (a1 := a1) (a2 := a2) (a3 := a3)
  obtain ⟨ob, e2⟩ := w178 (a0 := b0) (a1 := b1) (a2 := b2) (a3 := b3)
  obtain ⟨m0, m1, m2, m3, e6, hn⟩ := w177 (a0 := b0) (a1 := b1) (a2 := b2) (a3 := b3)
  obtain ⟨n0, n1, n2, n3, e10, hm⟩ := w177 (a0 := a0) (a1 := a1) (a2 := a2) (a3 := a3)
  obtain ⟨q0, q1, q2, q3, r0, r1, r2, r3, e3, g3, h3⟩ := w121 ha hb
  obtain ⟨_, _, _, _, e4, h4⟩ := w177 (a0 := r0) (a1 := r1) (a2 := r2) (a3 := r3)
  obtain ⟨_, _, _, _, e5, h5⟩ := w177 (a0 := q0) (a1 := q1) (a2 := q2) (a3 := q3)
  obtain ⟨q0, q1, q2, q3, r0, r1, r2, r3, e7, g7, h7⟩ := w121 ha hn
  obtain ⟨_, _, _, _, e8, h8⟩ := w177 (a0 := r0) (a1 := r1) (a2 := r2) (a3 := r3)
  obtain ⟨_, _, _, _, e9, h9⟩ := w177 (a0 := q0) (a1 := q1) (a2 := q2) (a3 := q3)
  obtain ⟨q0, q1, q2, q3, r0, r1, r2, r3, e11, g11, h11⟩ := w121 hm hb
  obtain ⟨_, _, _, _, e12, h12⟩ := w177 (a0 := r0) (a1 := r1) (a2 := r2) (a3 := r3)
  obtain ⟨_, _, _, _, e13, h13⟩ := w177 (a0 := q0) (a1 := q1) (a2 := q2) (a3 := q3)
  obtain ⟨q0, q1, q2, q3, r0, r1, r2, r3, e14, g14, h14⟩ := w121 hm hn
  obtain ⟨_, _, _, _, e15, h15⟩ := w177 (a0 := r0) (a1 := r1) (a2 := r2) (a3 := r3)
  obtain ⟨_, _, _, _, e16, h16⟩ := w177 (a0 := q0) (a1 := q1) (a2 := q2) (a3 := q3)
  have h := (q122 _ _).trans (T122 r178 r177 r121 a0 a1 a2 a3 b0 b1 b2 b3 _ fin _ e1 _ e2 _ e3 _ e4 _ e5 _ e6 _ e7 _ e8 _ e9 _ e10 _ e11 _ e12 _ e13 _ e14 _ e15 _ e16)
  clear e1 e2 e3 e4 e5 e6 e7 e8 e9 e10 e11 e12 e13 e14 e15 e16
  cases oa <;> cases ob
  all_goals
    repeat first
      | replace h := go h rfl
      | replace h := gn h rfl
  all_goals exact ⟨_, _, _, _, _, _, _, _, h, by assumption, by assumption⟩
theorem w181 : r181 [] [] = some (.ret (U 1 0 0 0), []) := by
  have h := (q181 _ _).trans (T181 r83 _ fin _ (w83 1))
  exact go h rfl
theorem r4_1 : R4 1 0 0 0 := ⟨r64_1, r64_0, r64_0, r64_0⟩
theorem w124 {a0 a1 a2 a3 b0 b1 b2 b3 c0 c1 c2 c3 : Int} (ha : R4 a0 a1 a2 a3) (hb : R4 b0 b1 b2 b3) (hc : R4 c0 c1 c2 c3) :
    ∃ t0 t1 t2 t3, r124 [U a0 a1 a2 a3, U b0 b1 b2 b3, U c0 c1 c2 c3] [] = some (.ret (U t0 t1 t2 t3), []) ∧ R4 t0 t1 t2 t3 := by
  obtain ⟨s0, s1, s2, s3, o, e1, hs, _⟩ := w109 ha hb
  obtain ⟨_, _, _, _, e3, h3⟩ := w180 r4_1 hs hc
  obtain ⟨_, _, _, _, _, _, _, _, e4, _, h4⟩ := w121 hs hc
  have h := (q124 _ _).trans (T124 r109 r121 r181 r180 a0 a1 a2 a3 b0 b1 b2 b3 c0 c1 c2 c3 _ fin _ e1 _ w181 _ e3 _ e4)
  clear e1 e3 e4
  cases o
  all_goals
    repeat first
      | replace h := go h rfl
      | replace h := gn h rfl
  all_goals exact ⟨_, _, _, _, h, by assumption⟩
theorem w125 {a0 a1 a2 a3 b0 b1 b2 b3 c0 c1 c2 c3 : Int} (ha : R4 a0 a1 a2 a3) (hb : R4 b0 b1 b2 b3) (hc : R4 c0 c1 c2 c3) :
    ∃ t0 t1 t2 t3, r125 [U a0 a1 a2 a3, U b0 b1 b2 b3, U c0 c1 c2 c3] [] = some (.ret (U t0 t1 t2 t3), []) ∧ R4 t0 t1 t2 t3 := by
  obtain ⟨_, _, _, _, _, _, _, _, e1, h1, h2⟩ := w171 ha hb
  obtain ⟨_, _, _, _, e2, h3⟩ := w180 h1 h2 hc
  have h := (q125 _ _).trans (T125 r171 r180 a0 a1 a2 a3 b0 b1 b2 b3 c0 c1 c2 c3 _ fin _ e1 _ e2)
  replace h := go h rfl
  replace h := go h rfl
  exact ⟨_, _, _, _, h, h3⟩
theorem l182_0 (m : Nat) : ∀ (f : Nat) (a0 a1 a2 a3 b0 b1 b2 b3 c0 c1 c2 c3 i : Int), 0 ≤ i → i ≤ f → f ≤ 1000 → R4 a0 a1 a2 a3 → R4 b0 b1 b2 b3 → R4 c0 c1 c2 c3 → ∀ r,
    r = exec (E182_0 r118 r183) (f + 60) 0 (.loop (rnd Tryz.f182 0)) ⟨(jn 3 (.func (.func 118) [] [] :: .ptr 0 0 :: .ptr 1 0 :: .ptr 2 0 :: J :: .ptr 3 0 :: i64 i :: jn 21 [])), [], 182, 0, false⟩ [.cells [u a0, u a1, u a2, u a3], .cells [u b0, u b1, u b2, u b3], .cells [u c0, u c1, u c2, u c3], .cells [u 0, u 0, u 0, u 0]] _ (bK (E182_0 r118 r183) (m + 60) 0 finB) →
    ∃ t0 t1 t2 t3, R4 t0 t1 t2 t3 ∧ r = finB .normal ⟨(jn 6 (.ptr 0 0 :: J :: .ptr 1 0 :: jn 22 [])), [], 182, 0, false⟩ [.cells [u t0, u t1, u t2, u t3], .cells [u 0, u 0, u 0, u 0]] := by
  intro f
  induction f with
  | zero =>
    intro a0 a1 a2 a3 b0 b1 b2 b3 c0 c1 c2 c3 i h0 hf _ ha hb hc r h
    replace h := h.trans (T182_0r r118 r183 a0 a1 a2 a3 b0 b1 b2 b3 c0 c1 c2 c3 i 0 m _ finB _ rfl _ rfl _ rfl)
    exact ⟨_, _, _, _, hc, gn h (ilt_f' (by omega))⟩
  | succ f ih =>
    intro a0 a1 a2 a3 b0 b1 b2 b3 c0 c1 c2 c3 i h0 hf hf2 ha hb hc r h
    obtain ⟨_, _, _, _, e1, h1⟩ := w118 ha ha
    obtain ⟨_, _, _, _, e2, h2⟩ := w183 (n := 1) hb (by omega)
    obtain ⟨_, _, _, _, e3, h3⟩ := w118 hc ha
    replace h := h.trans (T182_0r r118 r183 a0 a1 a2 a3 b0 b1 b2 b3 c0 c1 c2 c3 i (f + 1) m _ finB _ e1 _ e2 _ e3)
    by_cases hi : 0 < i
    · replace h := go h (ilt_t' hi)
      have e4 : IntKind.i64.wrap (i - 1) = i - 1 := w8in (by omega) (by omega)
      rw [e4] at h
      generalize (IntKind.u64.wrap _ == 1) = c at h
      cases c
      · replace h := gn h rfl
        replace h := go h rfl
        replace h := go h rfl
        exact ih _ _ _ _ _ _ _ _ _ _ _ _ (i - 1) (by omega) (by omega) (by omega) h1 h2 hc r h
      · replace h := go h rfl
        replace h := go h rfl
        replace h := go h rfl
        replace h := go h rfl
        exact ih _ _ _ _ _ _ _ _ _ _ _ _ (i - 1) (by omega) (by omega) (by omega) h1 h2 h3 r h
    · exact ⟨_, _, _, _, hc, gn h (ilt_f' (by omega))⟩
theorem w182 {a0 a1 a2 a3 b0 b1 b2 b3 c0 c1 c2 c3 : Int} (ha : R4 a0 a1 a2 a3) (hb : R4 b0 b1 b2 b3) (hc : R4 c0 c1 c2 c3) :
    ∃ t0 t1 t2 t3, r182 [U a0 a1 a2 a3, U b0 b1 b2 b3, U c0 c1 c2 c3, .func (.func 118) [] []] [] = some (.ret (U t0 t1 t2 t3), []) ∧ R4 t0 t1 t2 t3 := by
  obtain ⟨n, e1, hn0, hn⟩ := w114 (a0 := b0) (a1 := b1) (a2 := b2) (a3 := b3)
  obtain ⟨t0, t1, t2, t3, ht, e2⟩ := l182_0 339 339 a0 a1 a2 a3 b0 b1 b2 b3 c0 c1 c2 c3 n hn0 (by omega) (by omega) ha hb hc _ rfl
  replace e2 := (p182_0 _ _ 399 rfl).trans e2
  have h := (q182 _ _).trans (T182 r114 h182_0 a0 a1 a2 a3 b0 b1 b2 b3 c0 c1 c2 c3 _ fin _ e1 _ e2)
  replace h := go h rfl
  replace h := go h rfl
  exact ⟨_, _, _, _, h, ht⟩
theorem w126 {a0 a1 a2 a3 b0 b1 b2 b3 : Int} (ha : R4 a0 a1 a2 a3) (hb : R4 b0 b1 b2 b3) :
    ∃ t0 t1 t2 t3, r126 [U a0 a1 a2 a3, U b0 b1 b2 b3] [] = some (.ret (U t0 t1 t2 t3), []) ∧ R4 t0 t1 t2 t3 := by
  obtain ⟨t0, t1, t2, t3, e2, ht⟩ := w182 ha hb r4_1
  have h := (q126 _ _).trans (T126 r181 r182 a0 a1 a2 a3 b0 b1 b2 b3 _ fin _ w181 _ e2)
  replace h := go h rfl
  replace h := go h rfl
  exact ⟨_, _, _, _, h, ht⟩
end Go.Proofs.Vm
end
section
open Go Go.Abs
namespace Go.Proofs.Vm
def D25c (d0 d1 d2 d3 d4 d5 d6 d7 d8 d9 d10 d11 d12 d13 d14 d15 d16 d17 d18 d19 d20 d21 d22 d23 d24 : Int) : List AV := [u d0, u d1, u d2, u d3, u d4, u d5, u d6, u d7, u d8, u d9, u d10, u d11, u d12, u d13, u d14, u d15, u d16, u d17, u d18, u d19, u d20, u d21, u d22, u d23, u d24]
def Z25 : List AV := [u 0, u 0, u 0, u 0, u 0, u 0, u 0, u 0, u 0, u 0, u 0, u 0, u 0, u 0, u 0, u 0, u 0, u 0, u 0, u 0, u 0, u 0, u 0, u 0, u 0]
def sh25c : List Sh := [sh6, sh6, sh6, sh6, sh6, sh6, sh6, sh6, sh6, sh6, sh6, sh6, sh6, sh6, sh6, sh6, sh6, sh6, sh6, sh6, sh6, sh6, sh6, sh6, sh6]
def sh25 : Sh := .agg sh25c
def un : Nat → List AV → List AV
  | 0, l => l
  | n + 1, l => .v undef :: un n l
def sun : Nat → List Sh → List Sh
  | 0, l => l
  | n + 1, l => .und :: sun n l
def asgOf : Code → Code
  | .rangeFunc _ _ a _ => a
  | c => c
def bdOf : Code → Code
  | .rangeFunc _ _ _ b => b
  | c => c
set_option maxRecDepth 100000
set_option maxHeartbeats 0
noncomputable def E262 : Env := En 262 [] [] [] [] [] []
def a262 : Alt := ⟨false, sh6, []⟩
def A262 : List Alt := [a262]
theorem T262 (x n : Int) (X : Type) (k : AEnd → List AObj → Option X) :
    body (E262) 60 262 Tryz.f262 (cod Tryz.f262) [u x, u n] [] X k =
    bif decide (0 ≤ n) then bif decide (0 ≤ IntKind.u64.wrap (63 - n)) then k (.ret (u (IntKind.u64.wrap (↑(BitVec.ofInt IntKind.u64.bits (IntKind.u64.wrap (x * 2 ^ min n.toNat IntKind.u64.bits)) ||| BitVec.ofInt IntKind.u64.bits ((x.fdiv (2 ^ min (Int.toNat 1) IntKind.u64.bits)).fdiv (2 ^ min (IntKind.u64.wrap (63 - n)).toNat IntKind.u64.bits))).toNat : Int)))) [] else none else none := by kernel_rfl
noncomputable def r262 : RF := runR (body (E262) 60 262 Tryz.f262 (cod Tryz.f262))
theorem q262 (args : List AV) (os : List AObj) : r262 args os = body (E262) 60 262 Tryz.f262 (cod Tryz.f262) args os _ fin := qR _ _ _
theorem ok262 : SpecOK P 262 (shaped A262 r262) := by
  unfold r262 E262
  refine okF 60 ?_ ?_ ?_ Tryz.func262 ?_ ?_ _
  · exact tnil
  · exact trivial
  · exact hnil
  · kernel_rfl
  · kernel_rfl
noncomputable def E250_0 : Env := En 250 [(0, [1, 2, 3, 7, 8], [1, 2, 3]), (2, [1, 2, 3, 20], [1, 2])] [] [] [] [] [] [(0, [2])]
def a250_0 : BAlt := ⟨.normal, (.junk :: .ptr 0 0 :: .ptr 1 0 :: .ptr 2 0 :: sj 38 []), [.cells sh25c, .cells sh25c, .ints .u64], []⟩
def A250_0 : List BAlt := [a250_0]
noncomputable def h250_0 : RB := runB (blockRun (E250_0) (fun _ _ => 200) 0)
theorem q250_0 (c : Code) (a : AAct) (os : List AObj) : h250_0 c a os = exec (E250_0) ((fun _ _ => 200) a os) 0 (.block 0 c) a os _ finB := qB _ _ _ _ _ _
theorem k250_0 : blk Tryz.f250 0 = .loop (rnd Tryz.f250 0) := by kernel_rfl
theorem p250_0 (T : List AV) (os : List AObj) (F : Nat) (hF : (fun _ _ => 200) (⟨T, [], 250, 0, false⟩ : AAct) os = F + 1) : h250_0 (blk Tryz.f250 0) ⟨T, [], 250, 0, false⟩ os = exec (E250_0) F 0 (.loop (rnd Tryz.f250 0)) ⟨T, [], 250, 0, false⟩ os _ (bK (E250_0) F 0 finB) := by
  rw [q250_0, hF, exec_block (by kernel_rfl), k250_0]
theorem okb250_0 : BlockOK P 250 0 (bShaped A250_0 [] (some [1, 2, 3, 7, 8]) h250_0) := by
  unfold h250_0 E250_0
  refine okBl _ ?_ ?_ ?_ _ _ _
  · exact tnil
  · exact trivial
  · exact hnil
theorem TL250_0r (a0 a1 a2 a3 a4 a5 a6 a7 a8 a9 a10 a11 a12 a13 a14 a15 a16 a17 a18 a19 a20 a21 a22 a23 a24 : Int) (i : Int) (cs : List Int) (d m : Nat) (L : AAct → List AObj → ∀ X : Type, (AExit → AAct → List AObj → Option X) → Option X) (X : Type) (k : AExit → AAct → List AObj → Option X) :
    roundL (E250_0) (d + 59) 0 (rnd Tryz.f250 0) L ⟨(J :: .ptr 0 0 :: .ptr 1 0 :: .ptr 2 0 :: jn 3 (.agg (D25c a0 a1 a2 a3 a4 a5 a6 a7 a8 a9 a10 a11 a12 a13 a14 a15 a16 a17 a18 a19 a20 a21 a22 a23 a24) :: i64 i :: jn 33 [])), [], 250, 0, false⟩ [.cells (D25c a0 a1 a2 a3 a4 a5 a6 a7 a8 a9 a10 a11 a12 a13 a14 a15 a16 a17 a18 a19 a20 a21 a22 a23 a24), .cells Z25, .ints .u64 cs] X (bK (E250_0) (m + 60) 0 k) =
    bif ilt i 25 then bif decide (0 ≤ i) && (decide (i < (↑25 : Int)) && (decide (i.toNat * 1 < [u a0, u a1, u a2, u a3, u a4, u a5, u a6, u a7, u a8, u a9, u a10, u a11, u a12, u a13, u a14, u a15, u a16, u a17, u a18, u a19, u a20, u a21, u a22, u a23, u a24].length) && (AV.isInt IntKind.u64 ([u a0, u a1, u a2, u a3, u a4, u a5, u a6, u a7, u a8, u a9, u a10, u a11, u a12, u a13, u a14, u a15, u a16, u a17, u a18, u a19, u a20, u a21, u a22, u a23, u a24].getD (i.toNat * 1) J) && true))) then bif decide (0 ≤ i.tmod 5) && decide (i.tmod 5 < (↑5 : Int)) then bif decide (0 + (i.tmod 5).toNat * 1 < (List.map u cs).length) && (AV.isInt IntKind.u64 ((List.map u cs).getD (0 + (i.tmod 5).toNat * 1) J) && true) then bif decide (0 ≤ i.tmod 5) && decide (i.tmod 5 < (↑5 : Int)) then bif decide (0 + (i.tmod 5).toNat * 1 + 1 ≤ cs.length) then L { tmps := (J :: AV.ptr 0 0 :: AV.ptr 1 0 :: AV.ptr 2 0 :: jn 3 (AV.agg (D25c a0 a1 a2 a3 a4 a5 a6 a7 a8 a9 a10 a11 a12 a13 a14 a15 a16 a17 a18 a19 a20 a21 a22 a23 a24) :: i64 (IntKind.i64.wrap (i + 1)) :: jn 33 [])), defers := [], fn := 250, foot := 0, round := false } [AObj.cells (D25c a0 a1 a2 a3 a4 a5 a6 a7 a8 a9 a10 a11 a12 a13 a14 a15 a16 a17 a18 a19 a20 a21 a22 a23 a24), AObj.cells Z25, AObj.ints IntKind.u64 (cs.set (0 + (i.tmod 5).toNat * 1) (IntKind.u64.wrap (↑(BitVec.ofInt IntKind.u64.bits ((List.map u cs).getD (0 + (i.tmod 5).toNat * 1) J).toInt ^^^ BitVec.ofInt IntKind.u64.bits ([u a0, u a1, u a2, u a3, u a4, u a5, u a6, u a7, u a8, u a9, u a10, u a11, u a12, u a13, u a14, u a15, u a16, u a17, u a18, u a19, u a20, u a21, u a22, u a23, u a24].getD (i.toNat * 1) J).toInt).toNat : Int)))] X (bK E250_0 (m + 60) 0 k) else none else none else none else none else none else k AExit.normal { tmps := (J :: AV.ptr 0 0 :: AV.ptr 1 0 :: AV.ptr 2 0 :: jn 38 []), defers := [], fn := 250, foot := 0, round := false } [AObj.cells (D25c a0 a1 a2 a3 a4 a5 a6 a7 a8 a9 a10 a11 a12 a13 a14 a15 a16 a17 a18 a19 a20 a21 a22 a23 a24), AObj.cells Z25, AObj.ints IntKind.u64 cs] := by kernel_rfl
theorem T250_0r (a0 a1 a2 a3 a4 a5 a6 a7 a8 a9 a10 a11 a12 a13 a14 a15 a16 a17 a18 a19 a20 a21 a22 a23 a24 : Int) (i : Int) (cs : List Int) (d m : Nat) (X : Type) (k : AExit → AAct → List AObj → Option X) :
    exec (E250_0) (d + 60) 0 (.loop (rnd Tryz.f250 0)) ⟨(J :: .ptr 0 0 :: .ptr 1 0 :: .ptr 2 0 :: jn 3 (.agg (D25c a0 a1 a2 a3 a4 a5 a6 a7 a8 a9 a10 a11 a12 a13 a14 a15 a16 a17 a18 a19 a20 a21 a22 a23 a24) :: i64 i :: jn 33 [])), [], 250, 0, false⟩ [.cells (D25c a0 a1 a2 a3 a4 a5 a6 a7 a8 a9 a10 a11 a12 a13 a14 a15 a16 a17 a18 a19 a20 a21 a22 a23 a24), .cells Z25, .ints .u64 cs] X (bK (E250_0) (m + 60) 0 k) =
    bif ilt i 25 then bif decide (0 ≤ i) && (decide (i < (↑25 : Int)) && (decide (i.toNat * 1 < [u a0, u a1, u a2, u a3, u a4, u a5, u a6, u a7, u a8, u a9, u a10, u a11, u a12, u a13, u a14, u a15, u a16, u a17, u a18, u a19, u a20, u a21, u a22, u a23, u a24].length) && (AV.isInt IntKind.u64 ([u a0, u a1, u a2, u a3, u a4, u a5, u a6, u a7, u a8, u a9, u a10, u a11, u a12, u a13, u a14, u a15, u a16, u a17, u a18, u a19, u a20, u a21, u a22, u a23, u a24].getD (i.toNat * 1) J) && true))) then bif decide (0 ≤ i.tmod 5) && decide (i.tmod 5 < (↑5 : Int)) then bif decide (0 + (i.tmod 5).toNat * 1 < (List.map u cs).length) && (AV.isInt IntKind.u64 ((List.map u cs).getD (0 + (i.tmod 5).toNat * 1) J) && true) then bif decide (0 ≤ i.tmod 5) && decide (i.tmod 5 < (↑5 : Int)) then bif decide (0 + (i.tmod 5).toNat * 1 + 1 ≤ cs.length) then exec (E250_0) (d + 59) 0 (.loop (rnd Tryz.f250 0)) { tmps := (J :: AV.ptr 0 0 :: AV.ptr 1 0 :: AV.ptr 2 0 :: jn 3 (AV.agg (D25c a0 a1 a2 a3 a4 a5 a6 a7 a8 a9 a10 a11 a12 a13 a14 a15 a16 a17 a18 a19 a20 a21 a22 a23 a24) :: i64 (IntKind.i64.wrap (i + 1)) :: jn 33 [])), defers := [], fn := 250, foot := 0, round := false } [AObj.cells (D25c a0 a1 a2 a3 a4 a5 a6 a7 a8 a9 a10 a11 a12 a13 a14 a15 a16 a17 a18 a19 a20 a21 a22 a23 a24), AObj.cells Z25, AObj.ints IntKind.u64 (cs.set (0 + (i.tmod 5).toNat * 1) (IntKind.u64.wrap (↑(BitVec.ofInt IntKind.u64.bits ((List.map u cs).getD (0 + (i.tmod 5).toNat * 1) J).toInt ^^^ BitVec.ofInt IntKind.u64.bits ([u a0, u a1, u a2, u a3, u a4, u a5, u a6, u a7, u a8, u a9, u a10, u a11, u a12, u a13, u a14, u a15, u a16, u a17, u a18, u a19, u a20, u a21, u a22, u a23, u a24].getD (i.toNat * 1) J).toInt).toNat : Int)))] X (bK E250_0 (m + 60) 0 k) else none else none else none else none else none else k AExit.normal { tmps := (J :: AV.ptr 0 0 :: AV.ptr 1 0 :: AV.ptr 2 0 :: jn 38 []), defers := [], fn := 250, foot := 0, round := false } [AObj.cells (D25c a0 a1 a2 a3 a4 a5 a6 a7 a8 a9 a10 a11 a12 a13 a14 a15 a16 a17 a18 a19 a20 a21 a22 a23 a24), AObj.cells Z25, AObj.ints IntKind.u64 cs] := (exec_loop _ _ _ _ _ _ _ _).trans (TL250_0r a0 a1 a2 a3 a4 a5 a6 a7 a8 a9 a10 a11 a12 a13 a14 a15 a16 a17 a18 a19 a20 a21 a22 a23 a24 i cs d m (fun a os X k => exec (E250_0) (d + 59) 0 (.loop (rnd Tryz.f250 0)) a os X k) X k)
noncomputable def E250_2 (r262 : RF) : Env := En 250 [(0, [1, 2, 3, 7, 8], [1, 2, 3]), (2, [1, 2, 3, 20], [1, 2])] [] [] [] [] [(262, shaped A262 r262)] [(2, [0, 2])]
def a250_2 : BAlt := ⟨.normal, (.junk :: .ptr 0 0 :: .ptr 1 0 :: sj 39 []), [.ints .u64, .cells sh25c], []⟩
def A250_2 : List BAlt := [a250_2]
noncomputable def h250_2 : RB := runB (blockRun (E250_2 r262) (fun _ _ => 200) 2)
theorem q250_2 (c : Code) (a : AAct) (os : List AObj) : h250_2 c a os = exec (E250_2 r262) ((fun _ _ => 200) a os) 2 (.block 2 c) a os _ finB := qB _ _ _ _ _ _
theorem k250_2 : blk Tryz.f250 2 = .loop (rnd Tryz.f250 2) := by kernel_rfl
theorem p250_2 (T : List AV) (os : List AObj) (F : Nat) (hF : (fun _ _ => 200) (⟨T, [], 250, 0, false⟩ : AAct) os = F + 1) : h250_2 (blk Tryz.f250 2) ⟨T, [], 250, 0, false⟩ os = exec (E250_2 r262) F 2 (.loop (rnd Tryz.f250 2)) ⟨T, [], 250, 0, false⟩ os _ (bK (E250_2 r262) F 2 finB) := by
  rw [q250_2, hF, exec_block (by kernel_rfl), k250_2]
theorem okb250_2 : BlockOK P 250 2 (bShaped A250_2 [] (some [1, 2, 3, 20]) h250_2) := by
  unfold h250_2 E250_2
  refine okBl _ ?_ ?_ ?_ _ _ _
  · exact (tcons ok262 tnil)
  · exact trivial
  · exact hnil
theorem TL250_2r (r262 : RF) (i : Int) (ds cs : List Int) (d m : Nat) (L : AAct → List AObj → ∀ X : Type, (AExit → AAct → List AObj → Option X) → Option X) (X : Type) (k : AExit → AAct → List AObj → Option X)
    (x1 : RE) (e1 : r262 [u ((List.map u cs).getD (0 + ((IntKind.i64.wrap (i + 1)).tmod 5).toNat * 1) J).toInt, u 1] [] = x1) :
    roundL (E250_2 r262) (d + 59) 2 (rnd Tryz.f250 2) L ⟨(J :: .ptr 0 0 :: .ptr 1 0 :: .ptr 2 0 :: jn 16 (i64 i :: jn 21 [])), [], 250, 0, false⟩ [.ints .u64 ds, .cells Z25, .ints .u64 cs] X (bK (E250_2 r262) (m + 60) 2 k) =
    bif ilt i 25 then bif decide (0 ≤ i) && decide (i < (↑25 : Int)) then bif decide (0 + i.toNat * 1 < (List.map u ds).length) && (AV.isInt IntKind.u64 ((List.map u ds).getD (0 + i.toNat * 1) J) && true) then bif decide (0 ≤ (IntKind.i64.wrap (i + 4)).tmod 5) && decide ((IntKind.i64.wrap (i + 4)).tmod 5 < (↑5 : Int)) then bif decide (0 + ((IntKind.i64.wrap (i + 4)).tmod 5).toNat * 1 < (List.map u cs).length) && (AV.isInt IntKind.u64 ((List.map u cs).getD (0 + ((IntKind.i64.wrap (i + 4)).tmod 5).toNat * 1) J) && true) then bif decide (0 ≤ (IntKind.i64.wrap (i + 1)).tmod 5) && decide ((IntKind.i64.wrap (i + 1)).tmod 5 < (↑5 : Int)) then bif decide (0 + ((IntKind.i64.wrap (i + 1)).tmod 5).toNat * 1 < (List.map u cs).length) && (AV.isInt IntKind.u64 ((List.map u cs).getD (0 + ((IntKind.i64.wrap (i + 1)).tmod 5).toNat * 1) J) && true) then bif okAlt a262 x1 then bif decide (0 ≤ i) && decide (i < (↑25 : Int)) then bif decide (0 + i.toNat * 1 + 1 ≤ ds.length) then L { tmps := (J :: AV.ptr 0 0 :: AV.ptr 1 0 :: AV.ptr 2 0 :: jn 16 (i64 (IntKind.i64.wrap (i + 1)) :: jn 21 [])), defers := [], fn := 250, foot := 0, round := false } [AObj.ints IntKind.u64 (ds.set (0 + i.toNat * 1) (IntKind.u64.wrap (↑(BitVec.ofInt IntKind.u64.bits ((List.map u ds).getD (0 + i.toNat * 1) J).toInt ^^^ BitVec.ofInt IntKind.u64.bits (IntKind.u64.wrap (↑(BitVec.ofInt IntKind.u64.bits ((List.map u cs).getD (0 + ((IntKind.i64.wrap (i + 4)).tmod 5).toNat * 1) J).toInt ^^^ BitVec.ofInt IntKind.u64.bits (rV x1).toInt).toNat : Int))).toNat : Int))), AObj.cells Z25, AObj.ints IntKind.u64 cs] X (bK (E250_2 r262) (m + 60) 2 k) else none else none else none else none else none else none else none else none else none else k AExit.normal { tmps := (J :: AV.ptr 0 0 :: AV.ptr 1 0 :: jn 39 []), defers := [], fn := 250, foot := 0, round := false } [AObj.ints IntKind.u64 ds, AObj.cells Z25] := by subst e1; kernel_rfl
theorem T250_2r (r262 : RF) (i : Int) (ds cs : List Int) (d m : Nat) (X : Type) (k : AExit → AAct → List AObj → Option X)
    (x1 : RE) (e1 : r262 [u ((List.map u cs).getD (0 + ((IntKind.i64.wrap (i + 1)).tmod 5).toNat * 1) J).toInt, u 1] [] = x1) :
    exec (E250_2 r262) (d + 60) 2 (.loop (rnd Tryz.f250 2)) ⟨(J :: .ptr 0 0 :: .ptr 1 0 :: .ptr 2 0 :: jn 16 (i64 i :: jn 21 [])), [], 250, 0, false⟩ [.ints .u64 ds, .cells Z25, .ints .u64 cs] X (bK (E250_2 r262) (m + 60) 2 k) =
    bif ilt i 25 then bif decide (0 ≤ i) && decide (i < (↑25 : Int)) then bif decide (0 + i.toNat * 1 < (List.map u ds).length) && (AV.isInt IntKind.u64 ((List.map u ds).getD (0 + i.toNat * 1) J) && true) then bif decide (0 ≤ (IntKind.i64.wrap (i + 4)).tmod 5) && decide ((IntKind.i64.wrap (i + 4)).tmod 5 < (↑5 : Int)) then bif decide (0 + ((IntKind.i64.wrap (i + 4)).tmod 5).toNat * 1 < (List.map u cs).length) && (AV.isInt IntKind.u64 ((List.map u cs).getD (0 + ((IntKind.i64.wrap (i + 4)).tmod 5).toNat * 1) J) && true) then bif decide (0 ≤ (IntKind.i64.wrap (i + 1)).tmod 5) && decide ((IntKind.i64.wrap (i + 1)).tmod 5 < (↑5 : Int)) then bif decide (0 + ((IntKind.i64.wrap (i + 1)).tmod 5).toNat * 1 < (List.map u cs).length) && (AV.isInt IntKind.u64 ((List.map u cs).getD (0 + ((IntKind.i64.wrap (i + 1)).tmod 5).toNat * 1) J) && true) then bif okAlt a262 x1 then bif decide (0 ≤ i) && decide (i < (↑25 : Int)) then bif decide (0 + i.toNat * 1 + 1 ≤ ds.length) then exec (E250_2 r262) (d + 59) 2 (.loop (rnd Tryz.f250 2)) { tmps := (J :: AV.ptr 0 0 :: AV.ptr 1 0 :: AV.ptr 2 0 :: jn 16 (i64 (IntKind.i64.wrap (i + 1)) :: jn 21 [])), defers := [], fn := 250, foot := 0, round := false } [AObj.ints IntKind.u64 (ds.set (0 + i.toNat * 1) (IntKind.u64.wrap (↑(BitVec.ofInt IntKind.u64.bits ((List.map u ds).getD (0 + i.toNat * 1) J).toInt ^^^ BitVec.ofInt IntKind.u64.bits (IntKind.u64.wrap (↑(BitVec.ofInt IntKind.u64.bits ((List.map u cs).getD (0 + ((IntKind.i64.wrap (i + 4)).tmod 5).toNat * 1) J).toInt ^^^ BitVec.ofInt IntKind.u64.bits (rV x1).toInt).toNat : Int))).toNat : Int))), AObj.cells Z25, AObj.ints IntKind.u64 cs] X (bK (E250_2 r262) (m + 60) 2 k) else none else none else none else none else none else none else none else none else none else k AExit.normal { tmps := (J :: AV.ptr 0 0 :: AV.ptr 1 0 :: jn 39 []), defers := [], fn := 250, foot := 0, round := false } [AObj.ints IntKind.u64 ds, AObj.cells Z25] := (exec_loop _ _ _ _ _ _ _ _).trans (TL250_2r r262 i ds cs d m (fun a os X k => exec (E250_2 r262) (d + 59) 2 (.loop (rnd Tryz.f250 2)) a os X k) X k _ e1)
noncomputable def E250 (h250_0 : RB) (h250_2 : RB) : Env := En 250 [] [] [] [(0, bShaped A250_0 [] (some [1, 2, 3, 7, 8]) h250_0), (2, bShaped A250_2 [] (some [1, 2, 3, 20]) h250_2)] [] []
def a250 : Alt := ⟨false, sh25, []⟩
def A250 : List Alt := [a250]
theorem T250 (h250_0 : RB) (h250_2 : RB) (a0 a1 a2 a3 a4 a5 a6 a7 a8 a9 a10 a11 a12 a13 a14 a15 a16 a17 a18 a19 a20 a21 a22 a23 a24 : Int) (X : Type) (k : AEnd → List AObj → Option X)
    (x1 : RBE) (e1 : h250_0 (blk Tryz.f250 0) { tmps := (J :: AV.ptr 0 0 :: AV.ptr 1 0 :: AV.ptr 2 0 :: jn 3 (AV.agg (D25c a0 a1 a2 a3 a4 a5 a6 a7 a8 a9 a10 a11 a12 a13 a14 a15 a16 a17 a18 a19 a20 a21 a22 a23 a24) :: i64 0 :: jn 33 [])), defers := [], fn := 250, foot := 0, round := false } [AObj.cells (D25c a0 a1 a2 a3 a4 a5 a6 a7 a8 a9 a10 a11 a12 a13 a14 a15 a16 a17 a18 a19 a20 a21 a22 a23 a24), AObj.cells Z25, AObj.cells [u 0, u 0, u 0, u 0, u 0]] = x1)
    (x2 : RBE) (e2 : h250_2 (blk Tryz.f250 2) { tmps := (J :: AV.ptr 0 0 :: AV.ptr 1 0 :: AV.ptr 2 0 :: jn 16 (i64 0 :: jn 21 [])), defers := [], fn := 250, foot := 0, round := false } [AObj.cells (tu25 ((bOs x1).getD 0 AObj.dead).cellsOf), AObj.cells (tu25 ((bOs x1).getD 1 AObj.dead).cellsOf), AObj.ints IntKind.u64 ((bOs x1).getD 2 AObj.dead).intsOf] = x2) :
    body (E250 h250_0 h250_2) 60 250 Tryz.f250 (cod Tryz.f250) [.agg (D25c a0 a1 a2 a3 a4 a5 a6 a7 a8 a9 a10 a11 a12 a13 a14 a15 a16 a17 a18 a19 a20 a21 a22 a23 a24)] [] X k =
    bif okB a250_0 250 0 false x1 then bif okB a250_2 250 0 false x2 then bif dm25 ((bOs x2).getD 0 AObj.dead).intsOf then k (.ret (AV.agg (ld25 ((bOs x2).getD 0 AObj.dead).intsOf))) [] else none else none else none := by subst e1 e2; kernel_rfl
noncomputable def r250 : RF := runR (body (E250 h250_0 h250_2) 60 250 Tryz.f250 (cod Tryz.f250))
theorem q250 (args : List AV) (os : List AObj) : r250 args os = body (E250 h250_0 h250_2) 60 250 Tryz.f250 (cod Tryz.f250) args os _ fin := qR _ _ _
theorem ok250 : SpecOK P 250 (shaped A250 r250) := by
  unfold r250 E250
  refine okF 60 ?_ ?_ ?_ Tryz.func250 ?_ ?_ _
  · exact tnil
  · exact trivial
  · exact (hcons okb250_0 (hcons okb250_2 hnil))
  · kernel_rfl
  · kernel_rfl
noncomputable def E251_0 (r262 : RF) : Env := En 251 [(0, [1, 2, 3, 4, 5, 11], [1, 2])] [] [] [] [] [(262, shaped A262 r262)] [(0, [0])]
def a251_0 : BAlt := ⟨.normal, (.junk :: .ptr 0 0 :: .ptr 1 0 :: sj 40 []), [.ints .u64, .cells sh25c], []⟩
def A251_0 : List BAlt := [a251_0]
noncomputable def h251_0 : RB := runB (blockRun (E251_0 r262) (fun _ _ => 200) 0)
theorem q251_0 (c : Code) (a : AAct) (os : List AObj) : h251_0 c a os = exec (E251_0 r262) ((fun _ _ => 200) a os) 0 (.block 0 c) a os _ finB := qB _ _ _ _ _ _
theorem k251_0 : blk Tryz.f251 0 = .loop (rnd Tryz.f251 0) := by kernel_rfl
theorem p251_0 (T : List AV) (os : List AObj) (F : Nat) (hF : (fun _ _ => 200) (⟨T, [], 251, 0, false⟩ : AAct) os = F + 1) : h251_0 (blk Tryz.f251 0) ⟨T, [], 251, 0, false⟩ os = exec (E251_0 r262) F 0 (.loop (rnd Tryz.f251 0)) ⟨T, [], 251, 0, false⟩ os _ (bK (E251_0 r262) F 0 finB) := by
  rw [q251_0, hF, exec_block (by kernel_rfl), k251_0]
theorem okb251_0 : BlockOK P 251 0 (bShaped A251_0 [] (some [1, 2, 3, 4, 5, 11]) h251_0) := by
  unfold h251_0 E251_0
  refine okBl _ ?_ ?_ ?_ _ _ _
  · exact (tcons ok262 tnil)
  · exact trivial
  · exact hnil
theorem TL251_0r (r262 : RF) (at_ n last t : Int) (ds : List Int) (d m : Nat) (L : AAct → List AObj → ∀ X : Type, (AExit → AAct → List AObj → Option X) → Option X) (X : Type) (k : AExit → AAct → List AObj → Option X)
    (x1 : RE) (e1 : r262 [u last, u ((IntKind.u64.wrap (n + IntKind.u64.wrap (IntKind.u64.wrap t + 1))).tmod 64)] [] = x1) :
    roundL (E251_0 r262) (d + 59) 0 (rnd Tryz.f251 0) L ⟨(J :: .ptr 0 0 :: .ptr 1 0 :: i64 at_ :: u n :: u last :: jn 5 (i64 t :: jn 31 [])), [], 251, 0, false⟩ [.ints .u64 ds, .cells Z25] X (bK (E251_0 r262) (m + 60) 0 k) =
    bif ilt t 24 then bif okAlt a262 x1 then bif decide (0 ≤ IntKind.i64.wrap (IntKind.i64.wrap (at_.tdiv 5) + IntKind.i64.wrap (5 * (IntKind.i64.wrap (IntKind.i64.wrap (2 * at_.tmod 5) + IntKind.i64.wrap (3 * IntKind.i64.wrap (at_.tdiv 5)))).tmod 5))) && decide (IntKind.i64.wrap (IntKind.i64.wrap (at_.tdiv 5) + IntKind.i64.wrap (5 * (IntKind.i64.wrap (IntKind.i64.wrap (2 * at_.tmod 5) + IntKind.i64.wrap (3 * IntKind.i64.wrap (at_.tdiv 5)))).tmod 5)) < (↑25 : Int)) then bif decide (0 + (IntKind.i64.wrap (IntKind.i64.wrap (at_.tdiv 5) + IntKind.i64.wrap (5 * (IntKind.i64.wrap (IntKind.i64.wrap (2 * at_.tmod 5) + IntKind.i64.wrap (3 * IntKind.i64.wrap (at_.tdiv 5)))).tmod 5))).toNat * 1 < (List.map u ds).length) && (AV.isInt IntKind.u64 ((List.map u ds).getD (0 + (IntKind.i64.wrap (IntKind.i64.wrap (at_.tdiv 5) + IntKind.i64.wrap (5 * (IntKind.i64.wrap (IntKind.i64.wrap (2 * at_.tmod 5) + IntKind.i64.wrap (3 * IntKind.i64.wrap (at_.tdiv 5)))).tmod 5))).toNat * 1) J) && true) then bif decide (0 ≤ IntKind.i64.wrap (IntKind.i64.wrap (at_.tdiv 5) + IntKind.i64.wrap (5 * (IntKind.i64.wrap (IntKind.i64.wrap (2 * at_.tmod 5) + IntKind.i64.wrap (3 * IntKind.i64.wrap (at_.tdiv 5)))).tmod 5))) && decide (IntKind.i64.wrap (IntKind.i64.wrap (at_.tdiv 5) + IntKind.i64.wrap (5 * (IntKind.i64.wrap (IntKind.i64.wrap (2 * at_.tmod 5) + IntKind.i64.wrap (3 * IntKind.i64.wrap (at_.tdiv 5)))).tmod 5)) < (↑25 : Int)) then bif decide (0 + (IntKind.i64.wrap (IntKind.i64.wrap (at_.tdiv 5) + IntKind.i64.wrap (5 * (IntKind.i64.wrap (IntKind.i64.wrap (2 * at_.tmod 5) + IntKind.i64.wrap (3 * IntKind.i64.wrap (at_.tdiv 5)))).tmod 5))).toNat * 1 + 1 ≤ ds.length) then L { tmps := (J :: AV.ptr 0 0 :: AV.ptr 1 0 :: i64 (IntKind.i64.wrap (IntKind.i64.wrap (at_.tdiv 5) + IntKind.i64.wrap (5 * (IntKind.i64.wrap (IntKind.i64.wrap (2 * at_.tmod 5) + IntKind.i64.wrap (3 * IntKind.i64.wrap (at_.tdiv 5)))).tmod 5))) :: u (IntKind.u64.wrap (n + IntKind.u64.wrap (IntKind.u64.wrap t + 1))) :: u ((List.map u ds).getD (0 + (IntKind.i64.wrap (IntKind.i64.wrap (at_.tdiv 5) + IntKind.i64.wrap (5 * (IntKind.i64.wrap (IntKind.i64.wrap (2 * at_.tmod 5) + IntKind.i64.wrap (3 * IntKind.i64.wrap (at_.tdiv 5)))).tmod 5))).toNat * 1) J).toInt :: jn 5 (i64 (IntKind.i64.wrap (t + 1)) :: jn 31 [])), defers := [], fn := 251, foot := 0, round := false } [AObj.ints IntKind.u64 (ds.set (0 + (IntKind.i64.wrap (IntKind.i64.wrap (at_.tdiv 5) + IntKind.i64.wrap (5 * (IntKind.i64.wrap (IntKind.i64.wrap (2 * at_.tmod 5) + IntKind.i64.wrap (3 * IntKind.i64.wrap (at_.tdiv 5)))).tmod 5))).toNat * 1) (rV x1).toInt), AObj.cells Z25] X (bK (E251_0 r262) (m + 60) 0 k) else none else none else none else none else none else k AExit.normal { tmps := (J :: AV.ptr 0 0 :: AV.ptr 1 0 :: jn 40 []), defers := [], fn := 251, foot := 0, round := false } [AObj.ints IntKind.u64 ds, AObj.cells Z25] := by subst e1; kernel_rfl
theorem T251_0r (r262 : RF) (at_ n last t : Int) (ds : List Int) (d m : Nat) (X : Type) (k : AExit → AAct → List AObj → Option X)
    (x1 : RE) (e1 : r262 [u last, u ((IntKind.u64.wrap (n + IntKind.u64.wrap (IntKind.u64.wrap t + 1))).tmod 64)] [] = x1) :
    exec (E251_0 r262) (d + 60) 0 (.loop (rnd Tryz.f251 0)) ⟨(J :: .ptr 0 0 :: .ptr 1 0 :: i64 at_ :: u n :: u last :: jn 5 (i64 t :: jn 31 [])), [], 251, 0, false⟩ [.ints .u64 ds, .cells Z25] X (bK (E251_0 r262) (m + 60) 0 k) =
    bif ilt t 24 then bif okAlt a262 x1 then bif decide (0 ≤ IntKind.i64.wrap (IntKind.i64.wrap (at_.tdiv 5) + IntKind.i64.wrap (5 * (IntKind.i64.wrap (IntKind.i64.wrap (2 * at_.tmod 5) + IntKind.i64.wrap (3 * IntKind.i64.wrap (at_.tdiv 5)))).tmod 5))) && decide (IntKind.i64.wrap (IntKind.i64.wrap (at_.tdiv 5) + IntKind.i64.wrap (5 * (IntKind.i64.wrap (IntKind.i64.wrap (2 * at_.tmod 5) + IntKind.i64.wrap (3 * IntKind.i64.wrap (at_.tdiv 5)))).tmod 5)) < (↑25 : Int)) then bif decide (0 + (IntKind.i64.wrap (IntKind.i64.wrap (at_.tdiv 5) + IntKind.i64.wrap (5 * (IntKind.i64.wrap (IntKind.i64.wrap (2 * at_.tmod 5) + IntKind.i64.wrap (3 * IntKind.i64.wrap (at_.tdiv 5)))).tmod 5))).toNat * 1 < (List.map u ds).length) && (AV.isInt IntKind.u64 ((List.map u ds).getD (0 + (IntKind.i64.wrap (IntKind.i64.wrap (at_.tdiv 5) + IntKind.i64.wrap (5 * (IntKind.i64.wrap (IntKind.i64.wrap (2 * at_.tmod 5) + IntKind.i64.wrap (3 * IntKind.i64.wrap (at_.tdiv 5)))).tmod 5))).toNat * 1) J) && true) then bif decide (0 ≤ IntKind.i64.wrap (IntKind.i64.wrap (at_.tdiv 5) + IntKind.i64.wrap (5 * (IntKind.i64.wrap (IntKind.i64.wrap (2 * at_.tmod 5) + IntKind.i64.wrap (3 * IntKind.i64.wrap (at_.tdiv 5)))).tmod 5))) && decide (IntKind.i64.wrap (IntKind.i64.wrap (at_.tdiv 5) + IntKind.i64.wrap (5 * (IntKind.i64.wrap (IntKind.i64.wrap (2 * at_.tmod 5) + IntKind.i64.wrap (3 * IntKind.i64.wrap (at_.tdiv 5)))).tmod 5)) < (↑25 : Int)) then bif decide (0 + (IntKind.i64.wrap (IntKind.i64.wrap (at_.tdiv 5) + IntKind.i64.wrap (5 * (IntKind.i64.wrap (IntKind.i64.wrap (2 * at_.tmod 5) + IntKind.i64.wrap (3 * IntKind.i64.wrap (at_.tdiv 5)))).tmod 5))).toNat * 1 + 1 ≤ ds.length) then exec (E251_0 r262) (d + 59) 0 (.loop (rnd Tryz.f251 0)) { tmps := (J :: AV.ptr 0 0 :: AV.ptr 1 0 :: i64 (IntKind.i64.wrap (IntKind.i64.wrap (at_.tdiv 5) + IntKind.i64.wrap (5 * (IntKind.i64.wrap (IntKind.i64.wrap (2 * at_.tmod 5) + IntKind.i64.wrap (3 * IntKind.i64.wrap (at_.tdiv 5)))).tmod 5))) :: u (IntKind.u64.wrap (n + IntKind.u64.wrap (IntKind.u64.wrap t + 1))) :: u ((List.map u ds).getD (0 + (IntKind.i64.wrap (IntKind.i64.wrap (at_.tdiv 5) + IntKind.i64.wrap (5 * (IntKind.i64.wrap (IntKind.i64.wrap (2 * at_.tmod 5) + IntKind.i64.wrap (3 * IntKind.i64.wrap (at_.tdiv 5)))).tmod 5))).toNat * 1) J).toInt :: jn 5 (i64 (IntKind.i64.wrap (t + 1)) :: jn 31 [])), defers := [], fn := 251, foot := 0, round := false } [AObj.ints IntKind.u64 (ds.set (0 + (IntKind.i64.wrap (IntKind.i64.wrap (at_.tdiv 5) + IntKind.i64.wrap (5 * (IntKind.i64.wrap (IntKind.i64.wrap (2 * at_.tmod 5) + IntKind.i64.wrap (3 * IntKind.i64.wrap (at_.tdiv 5)))).tmod 5))).toNat * 1) (rV x1).toInt), AObj.cells Z25] X (bK (E251_0 r262) (m + 60) 0 k) else none else none else none else none else none else k AExit.normal { tmps := (J :: AV.ptr 0 0 :: AV.ptr 1 0 :: jn 40 []), defers := [], fn := 251, foot := 0, round := false } [AObj.ints IntKind.u64 ds, AObj.cells Z25] := (exec_loop _ _ _ _ _ _ _ _).trans (TL251_0r r262 at_ n last t ds d m (fun a os X k => exec (E251_0 r262) (d + 59) 0 (.loop (rnd Tryz.f251 0)) a os X k) X k _ e1)
noncomputable def E251 (h251_0 : RB) : Env := En 251 [] [] [] [(0, bShaped A251_0 [] (some [1, 2, 3, 4, 5, 11]) h251_0)] [] []
def a251 : Alt := ⟨false, sh25, []⟩
def A251 : List Alt := [a251]
theorem T251 (h251_0 : RB) (a0 a1 a2 a3 a4 a5 a6 a7 a8 a9 a10 a11 a12 a13 a14 a15 a16 a17 a18 a19 a20 a21 a22 a23 a24 : Int) (X : Type) (k : AEnd → List AObj → Option X)
    (x1 : RBE) (e1 : h251_0 (blk Tryz.f251 0) { tmps := (J :: AV.ptr 0 0 :: AV.ptr 1 0 :: i64 1 :: u 0 :: u a1 :: jn 5 (i64 0 :: jn 31 [])), defers := [], fn := 251, foot := 0, round := false } [AObj.cells (D25c a0 a1 a2 a3 a4 a5 a6 a7 a8 a9 a10 a11 a12 a13 a14 a15 a16 a17 a18 a19 a20 a21 a22 a23 a24), AObj.cells Z25] = x1) :
    body (E251 h251_0) 60 251 Tryz.f251 (cod Tryz.f251) [.agg (D25c a0 a1 a2 a3 a4 a5 a6 a7 a8 a9 a10 a11 a12 a13 a14 a15 a16 a17 a18 a19 a20 a21 a22 a23 a24)] [] X k =
    bif okB a251_0 251 0 false x1 then bif dm25 ((bOs x1).getD 0 AObj.dead).intsOf then k (.ret (AV.agg (ld25 ((bOs x1).getD 0 AObj.dead).intsOf))) [] else none else none := by subst e1; kernel_rfl
noncomputable def r251 : RF := runR (body (E251 h251_0) 60 251 Tryz.f251 (cod Tryz.f251))
theorem q251 (args : List AV) (os : List AObj) : r251 args os = body (E251 h251_0) 60 251 Tryz.f251 (cod Tryz.f251) args os _ fin := qR _ _ _
theorem ok251 : SpecOK P 251 (shaped A251 r251) := by
  unfold r251 E251
  refine okF 60 ?_ ?_ ?_ Tryz.func251 ?_ ?_ _
  · exact tnil
  · exact trivial
  · exact (hcons okb251_0 hnil)
  · kernel_rfl
  · kernel_rfl
noncomputable def E252_0 : Env := En 252 [(0, [1, 2, 3, 7], [2, 3])] [] [] [] [] [] [(0, [0, 2])]
def a252_0 : BAlt := ⟨.normal, (.junk :: .junk :: .ptr 0 0 :: .ptr 1 0 :: sj 33 []), [.cells sh25c, .ints .u64], []⟩
def A252_0 : List BAlt := [a252_0]
noncomputable def h252_0 : RB := runB (blockRun (E252_0) (fun _ _ => 200) 0)
theorem q252_0 (c : Code) (a : AAct) (os : List AObj) : h252_0 c a os = exec (E252_0) ((fun _ _ => 200) a os) 0 (.block 0 c) a os _ finB := qB _ _ _ _ _ _
theorem k252_0 : blk Tryz.f252 0 = .loop (rnd Tryz.f252 0) := by kernel_rfl
theorem p252_0 (T : List AV) (os : List AObj) (F : Nat) (hF : (fun _ _ => 200) (⟨T, [], 252, 0, false⟩ : AAct) os = F + 1) : h252_0 (blk Tryz.f252 0) ⟨T, [], 252, 0, false⟩ os = exec (E252_0) F 0 (.loop (rnd Tryz.f252 0)) ⟨T, [], 252, 0, false⟩ os _ (bK (E252_0) F 0 finB) := by
  rw [q252_0, hF, exec_block (by kernel_rfl), k252_0]
theorem okb252_0 : BlockOK P 252 0 (bShaped A252_0 [] (some [1, 2, 3, 7]) h252_0) := by
  unfold h252_0 E252_0
  refine okBl _ ?_ ?_ ?_ _ _ _
  · exact tnil
  · exact trivial
  · exact hnil
theorem TL252_0r (i : Int) (ds es : List Int) (d m : Nat) (L : AAct → List AObj → ∀ X : Type, (AExit → AAct → List AObj → Option X) → Option X) (X : Type) (k : AExit → AAct → List AObj → Option X) :
    roundL (E252_0) (d + 59) 0 (rnd Tryz.f252 0) L ⟨(J :: .ptr 0 0 :: .ptr 1 0 :: .ptr 2 0 :: jn 3 (i64 i :: jn 29 [])), [], 252, 0, false⟩ [.ints .u64 ds, .cells Z25, .ints .u64 es] X (bK (E252_0) (m + 60) 0 k) =
    bif ilt i 25 then bif decide (0 ≤ i) && decide (i < (↑25 : Int)) then bif decide (0 + i.toNat * 1 < (List.map u es).length) && (AV.isInt IntKind.u64 ((List.map u es).getD (0 + i.toNat * 1) J) && true) then bif decide (0 ≤ IntKind.i64.wrap (IntKind.i64.wrap (i - i.tmod 5) + (IntKind.i64.wrap (i + 1)).tmod 5)) && decide (IntKind.i64.wrap (IntKind.i64.wrap (i - i.tmod 5) + (IntKind.i64.wrap (i + 1)).tmod 5) < (↑25 : Int)) then bif decide (0 + (IntKind.i64.wrap (IntKind.i64.wrap (i - i.tmod 5) + (IntKind.i64.wrap (i + 1)).tmod 5)).toNat * 1 < (List.map u ds).length) && (AV.isInt IntKind.u64 ((List.map u ds).getD (0 + (IntKind.i64.wrap (IntKind.i64.wrap (i - i.tmod 5) + (IntKind.i64.wrap (i + 1)).tmod 5)).toNat * 1) J) && true) then bif decide (0 ≤ IntKind.i64.wrap (IntKind.i64.wrap (i - i.tmod 5) + (IntKind.i64.wrap (i + 2)).tmod 5)) && decide (IntKind.i64.wrap (IntKind.i64.wrap (i - i.tmod 5) + (IntKind.i64.wrap (i + 2)).tmod 5) < (↑25 : Int)) then bif decide (0 + (IntKind.i64.wrap (IntKind.i64.wrap (i - i.tmod 5) + (IntKind.i64.wrap (i + 2)).tmod 5)).toNat * 1 < (List.map u ds).length) && (AV.isInt IntKind.u64 ((List.map u ds).getD (0 + (IntKind.i64.wrap (IntKind.i64.wrap (i - i.tmod 5) + (IntKind.i64.wrap (i + 2)).tmod 5)).toNat * 1) J) && true) then bif decide (0 ≤ i) && decide (i < (↑25 : Int)) then bif decide (0 + i.toNat * 1 + 1 ≤ es.length) then L { tmps := (J :: AV.ptr 0 0 :: AV.ptr 1 0 :: AV.ptr 2 0 :: jn 3 (i64 (IntKind.i64.wrap (i + 1)) :: jn 29 [])), defers := [], fn := 252, foot := 0, round := false } [AObj.ints IntKind.u64 ds, AObj.cells Z25, AObj.ints IntKind.u64 (es.set (0 + i.toNat * 1) (IntKind.u64.wrap (↑(BitVec.ofInt IntKind.u64.bits ((List.map u es).getD (0 + i.toNat * 1) J).toInt ^^^ BitVec.ofInt IntKind.u64.bits (IntKind.u64.wrap (↑(BitVec.ofInt IntKind.u64.bits (IntKind.u64.wrap (↑(BitVec.ofInt IntKind.u64.bits (2 ^ IntKind.u64.bits - 1) ^^^ BitVec.ofInt IntKind.u64.bits ((List.map u ds).getD (0 + (IntKind.i64.wrap (IntKind.i64.wrap (i - i.tmod 5) + (IntKind.i64.wrap (i + 1)).tmod 5)).toNat * 1) J).toInt).toNat : Int)) &&& BitVec.ofInt IntKind.u64.bits ((List.map u ds).getD (0 + (IntKind.i64.wrap (IntKind.i64.wrap (i - i.tmod 5) + (IntKind.i64.wrap (i + 2)).tmod 5)).toNat * 1) J).toInt).toNat : Int))).toNat : Int)))] X (bK E252_0 (m + 60) 0 k) else none else none else none else none else none else none else none else none else k AExit.normal { tmps := (J :: J :: AV.ptr 0 0 :: AV.ptr 1 0 :: jn 33 []), defers := [], fn := 252, foot := 0, round := false } [AObj.cells Z25, AObj.ints IntKind.u64 es] := by kernel_rfl
theorem T252_0r (i : Int) (ds es : List Int) (d m : Nat) (X : Type) (k : AExit → AAct → List AObj → Option X) :
    exec (E252_0) (d + 60) 0 (.loop (rnd Tryz.f252 0)) ⟨(J :: .ptr 0 0 :: .ptr 1 0 :: .ptr 2 0 :: jn 3 (i64 i :: jn 29 [])), [], 252, 0, false⟩ [.ints .u64 ds, .cells Z25, .ints .u64 es] X (bK (E252_0) (m + 60) 0 k) =
    bif ilt i 25 then bif decide (0 ≤ i) && decide (i < (↑25 : Int)) then bif decide (0 + i.toNat * 1 < (List.map u es).length) && (AV.isInt IntKind.u64 ((List.map u es).getD (0 + i.toNat * 1) J) && true) then bif decide (0 ≤ IntKind.i64.wrap (IntKind.i64.wrap (i - i.tmod 5) + (IntKind.i64.wrap (i + 1)).tmod 5)) && decide (IntKind.i64.wrap (IntKind.i64.wrap (i - i.tmod 5) + (IntKind.i64.wrap (i + 1)).tmod 5) < (↑25 : Int)) then bif decide (0 + (IntKind.i64.wrap (IntKind.i64.wrap (i - i.tmod 5) + (IntKind.i64.wrap (i + 1)).tmod 5)).toNat * 1 < (List.map u ds).length) && (AV.isInt IntKind.u64 ((List.map u ds).getD (0 + (IntKind.i64.wrap (IntKind.i64.wrap (i - i.tmod 5) + (IntKind.i64.wrap (i + 1)).tmod 5)).toNat * 1) J) && true) then bif decide (0 ≤ IntKind.i64.wrap (IntKind.i64.wrap (i - i.tmod 5) + (IntKind.i64.wrap (i + 2)).tmod 5)) && decide (IntKind.i64.wrap (IntKind.i64.wrap (i - i.tmod 5) + (IntKind.i64.wrap (i + 2)).tmod 5) < (↑25 : Int)) then bif decide (0 + (IntKind.i64.wrap (IntKind.i64.wrap (i - i.tmod 5) + (IntKind.i64.wrap (i + 2)).tmod 5)).toNat * 1 < (List.map u ds).length) && (AV.isInt IntKind.u64 ((List.map u ds).getD (0 + (IntKind.i64.wrap (IntKind.i64.wrap (i - i.tmod 5) + (IntKind.i64.wrap (i + 2)).tmod 5)).toNat * 1) J) && true) then bif decide (0 ≤ i) && decide (i < (↑25 : Int)) then bif decide (0 + i.toNat * 1 + 1 ≤ es.length) then exec (E252_0) (d + 59) 0 (.loop (rnd Tryz.f252 0)) { tmps := (J :: AV.ptr 0 0 :: AV.ptr 1 0 :: AV.ptr 2 0 :: jn 3 (i64 (IntKind.i64.wrap (i + 1)) :: jn 29 [])), defers := [], fn := 252, foot := 0, round := false } [AObj.ints IntKind.u64 ds, AObj.cells Z25, AObj.ints IntKind.u64 (es.set (0 + i.toNat * 1) (IntKind.u64.wrap (↑(BitVec.ofInt IntKind.u64.bits ((List.map u es).getD (0 + i.toNat * 1) J).toInt ^^^ BitVec.ofInt IntKind.u64.bits (IntKind.u64.wrap (↑(BitVec.ofInt IntKind.u64.bits (IntKind.u64.wrap (↑(BitVec.ofInt IntKind.u64.bits (2 ^ IntKind.u64.bits - 1) ^^^ BitVec.ofInt IntKind.u64.bits ((List.map u ds).getD (0 + (IntKind.i64.wrap (IntKind.i64.wrap (i - i.tmod 5) + (IntKind.i64.wrap (i + 1)).tmod 5)).toNat * 1) J).toInt).toNat : Int)) &&& BitVec.ofInt IntKind.u64.bits ((List.map u ds).getD (0 + (IntKind.i64.wrap (IntKind.i64.wrap (i - i.tmod 5) + (IntKind.i64.wrap (i + 2)).tmod 5)).toNat * 1) J).toInt).toNat : Int))).toNat : Int)))] X (bK E252_0 (m + 60) 0 k) else none else none else none else none else none else none else none else none else k AExit.normal { tmps := (J :: J :: AV.ptr 0 0 :: AV.ptr 1 0 :: jn 33 []), defers := [], fn := 252, foot := 0, round := false } [AObj.cells Z25, AObj.ints IntKind.u64 es] := (exec_loop _ _ _ _ _ _ _ _).trans (TL252_0r i ds es d m (fun a os X k => exec (E252_0) (d + 59) 0 (.loop (rnd Tryz.f252 0)) a os X k) X k)
noncomputable def E252 (h252_0 : RB) : Env := En 252 [] [] [] [(0, bShaped A252_0 [] (some [1, 2, 3, 7]) h252_0)] [] []
def a252 : Alt := ⟨false, sh25, []⟩
def A252 : List Alt := [a252]
theorem T252 (h252_0 : RB) (a0 a1 a2 a3 a4 a5 a6 a7 a8 a9 a10 a11 a12 a13 a14 a15 a16 a17 a18 a19 a20 a21 a22 a23 a24 : Int) (X : Type) (k : AEnd → List AObj → Option X)
    (x1 : RBE) (e1 : h252_0 (blk Tryz.f252 0) { tmps := (J :: AV.ptr 0 0 :: AV.ptr 1 0 :: AV.ptr 2 0 :: jn 3 (i64 0 :: jn 29 [])), defers := [], fn := 252, foot := 0, round := false } [AObj.cells (D25c a0 a1 a2 a3 a4 a5 a6 a7 a8 a9 a10 a11 a12 a13 a14 a15 a16 a17 a18 a19 a20 a21 a22 a23 a24), AObj.cells Z25, AObj.cells (D25c a0 a1 a2 a3 a4 a5 a6 a7 a8 a9 a10 a11 a12 a13 a14 a15 a16 a17 a18 a19 a20 a21 a22 a23 a24)] = x1) :
    body (E252 h252_0) 60 252 Tryz.f252 (cod Tryz.f252) [.agg (D25c a0 a1 a2 a3 a4 a5 a6 a7 a8 a9 a10 a11 a12 a13 a14 a15 a16 a17 a18 a19 a20 a21 a22 a23 a24)] [] X k =
    bif okB a252_0 252 0 false x1 then bif dm25 ((bOs x1).getD 1 AObj.dead).intsOf then k (.ret (AV.agg (ld25 ((bOs x1).getD 1 AObj.dead).intsOf))) [] else none else none := by subst e1; kernel_rfl
noncomputable def r252 : RF := runR (body (E252 h252_0) 60 252 Tryz.f252 (cod Tryz.f252))
theorem q252 (args : List AV) (os : List AObj) : r252 args os = body (E252 h252_0) 60 252 Tryz.f252 (cod Tryz.f252) args os _ fin := qR _ _ _
theorem ok252 : SpecOK P 252 (shaped A252 r252) := by
  unfold r252 E252
  refine okF 60 ?_ ?_ ?_ Tryz.func252 ?_ ?_ _
  · exact tnil
  · exact trivial
  · exact (hcons okb252_0 hnil)
  · kernel_rfl
  · kernel_rfl
noncomputable def E195_2 : Env := En 195 [(0, [2, 3, 4, 7], [2, 3]), (2, [2, 3, 4, 7, 13], [2, 3, 4, 7])] [] [] [] [] [] [(2, [1])]
def a195_2 : BAlt := ⟨.normal, (.junk :: .junk :: .ptr 0 0 :: .ptr 1 0 :: sh6 :: .junk :: .junk :: shI :: sj 27 []), [.cells sh25c, .ints .u64], []⟩
def A195_2 : List BAlt := [a195_2]
noncomputable def h195_2 : RB := runB (blockRun (E195_2) (fun _ _ => 200) 2)
theorem q195_2 (c : Code) (a : AAct) (os : List AObj) : h195_2 c a os = exec (E195_2) ((fun _ _ => 200) a os) 2 (.block 2 c) a os _ finB := qB _ _ _ _ _ _
theorem k195_2 : blk Tryz.f195 2 = .loop (rnd Tryz.f195 2) := by kernel_rfl
theorem p195_2 (T : List AV) (os : List AObj) (F : Nat) (hF : (fun _ _ => 200) (⟨T, [], 195, 0, false⟩ : AAct) os = F + 1) : h195_2 (blk Tryz.f195 2) ⟨T, [], 195, 0, false⟩ os = exec (E195_2) F 2 (.loop (rnd Tryz.f195 2)) ⟨T, [], 195, 0, false⟩ os _ (bK (E195_2) F 2 finB) := by
  rw [q195_2, hF, exec_block (by kernel_rfl), k195_2]
theorem okb195_2 : BlockOK P 195 2 (bShaped A195_2 [] (some [2, 3, 4, 7, 13]) h195_2) := by
  unfold h195_2 E195_2
  refine okBl _ ?_ ?_ ?_ _ _ _
  · exact tnil
  · exact trivial
  · exact hnil
theorem TL195_2r (l t i : Int) (ds : List Int) (d m : Nat) (L : AAct → List AObj → ∀ X : Type, (AExit → AAct → List AObj → Option X) → Option X) (X : Type) (k : AExit → AAct → List AObj → Option X) :
    roundL (E195_2) (d + 59) 2 (rnd Tryz.f195 2) L ⟨(J :: J :: .ptr 0 0 :: .ptr 1 0 :: u l :: J :: J :: i64 t :: jn 5 (i64 i :: jn 21 [])), [], 195, 0, false⟩ [.cells Z25, .ints .u64 ds] X (bK (E195_2) (m + 60) 2 k) =
    bif ilt i 7 then bif decide (0 + Int.toNat 0 * 1 < (List.map u ds).length) && (AV.isInt IntKind.u64 ((List.map u ds).getD (0 + Int.toNat 0 * 1) J) && true) then bif decide (0 ≤ i) then bif decide (0 ≤ IntKind.u64.wrap (IntKind.u64.wrap (1 * 2 ^ min i.toNat IntKind.u64.bits) - 1)) then bif decide (0 + Int.toNat 0 * 1 + 1 ≤ ds.length) then bif ilt 255 (IntKind.u64.wrap (l * 2 ^ min (Int.toNat 1) IntKind.u64.bits)) then L { tmps := (J :: J :: AV.ptr 0 0 :: AV.ptr 1 0 :: u (IntKind.u64.wrap (↑(BitVec.ofInt IntKind.u64.bits (IntKind.u64.wrap (l * 2 ^ min (Int.toNat 1) IntKind.u64.bits)) ^^^ BitVec.ofInt IntKind.u64.bits 369).toNat : Int)) :: J :: J :: i64 t :: jn 5 (i64 (IntKind.i64.wrap (i + 1)) :: jn 21 [])), defers := [], fn := 195, foot := 0, round := false } [AObj.cells Z25, AObj.ints IntKind.u64 (ds.set (0 + Int.toNat 0 * 1) (IntKind.u64.wrap (↑(BitVec.ofInt IntKind.u64.bits ((List.map u ds).getD (0 + Int.toNat 0 * 1) J).toInt ^^^ BitVec.ofInt IntKind.u64.bits (IntKind.u64.wrap (IntKind.u64.wrap (↑(BitVec.ofInt IntKind.u64.bits l &&& BitVec.ofInt IntKind.u64.bits 1).toNat : Int) * 2 ^ min (IntKind.u64.wrap (IntKind.u64.wrap (1 * 2 ^ min i.toNat IntKind.u64.bits) - 1)).toNat IntKind.u64.bits))).toNat : Int)))] X (bK E195_2 (m + 60) 2 k) else L { tmps := (J :: J :: AV.ptr 0 0 :: AV.ptr 1 0 :: u (IntKind.u64.wrap (l * 2 ^ min (Int.toNat 1) IntKind.u64.bits)) :: J :: J :: i64 t :: jn 5 (i64 (IntKind.i64.wrap (i + 1)) :: jn 21 [])), defers := [], fn := 195, foot := 0, round := false } [AObj.cells Z25, AObj.ints IntKind.u64 (ds.set (0 + Int.toNat 0 * 1) (IntKind.u64.wrap (↑(BitVec.ofInt IntKind.u64.bits ((List.map u ds).getD (0 + Int.toNat 0 * 1) J).toInt ^^^ BitVec.ofInt IntKind.u64.bits (IntKind.u64.wrap (IntKind.u64.wrap (↑(BitVec.ofInt IntKind.u64.bits l &&& BitVec.ofInt IntKind.u64.bits 1).toNat : Int) * 2 ^ min (IntKind.u64.wrap (IntKind.u64.wrap (1 * 2 ^ min i.toNat IntKind.u64.bits) - 1)).toNat IntKind.u64.bits))).toNat : Int)))] X (bK E195_2 (m + 60) 2 k) else none else none else none else none else k AExit.normal { tmps := (J :: J :: AV.ptr 0 0 :: AV.ptr 1 0 :: u l :: J :: J :: i64 t :: jn 27 []), defers := [], fn := 195, foot := 0, round := false } [AObj.cells Z25, AObj.ints IntKind.u64 ds] := by kernel_rfl
theorem T195_2r (l t i : Int) (ds : List Int) (d m : Nat) (X : Type) (k : AExit → AAct → List AObj → Option X) :
    exec (E195_2) (d + 60) 2 (.loop (rnd Tryz.f195 2)) ⟨(J :: J :: .ptr 0 0 :: .ptr 1 0 :: u l :: J :: J :: i64 t :: jn 5 (i64 i :: jn 21 [])), [], 195, 0, false⟩ [.cells Z25, .ints .u64 ds] X (bK (E195_2) (m + 60) 2 k) =
    bif ilt i 7 then bif decide (0 + Int.toNat 0 * 1 < (List.map u ds).length) && (AV.isInt IntKind.u64 ((List.map u ds).getD (0 + Int.toNat 0 * 1) J) && true) then bif decide (0 ≤ i) then bif decide (0 ≤ IntKind.u64.wrap (IntKind.u64.wrap (1 * 2 ^ min i.toNat IntKind.u64.bits) - 1)) then bif decide (0 + Int.toNat 0 * 1 + 1 ≤ ds.length) then bif ilt 255 (IntKind.u64.wrap (l * 2 ^ min (Int.toNat 1) IntKind.u64.bits)) then exec (E195_2) (d + 59) 2 (.loop (rnd Tryz.f195 2)) { tmps := (J :: J :: AV.ptr 0 0 :: AV.ptr 1 0 :: u (IntKind.u64.wrap (↑(BitVec.ofInt IntKind.u64.bits (IntKind.u64.wrap (l * 2 ^ min (Int.toNat 1) IntKind.u64.bits)) ^^^ BitVec.ofInt IntKind.u64.bits 369).toNat : Int)) :: J :: J :: i64 t :: jn 5 (i64 (IntKind.i64.wrap (i + 1)) :: jn 21 [])), defers := [], fn := 195, foot := 0, round := false } [AObj.cells Z25, AObj.ints IntKind.u64 (ds.set (0 + Int.toNat 0 * 1) (IntKind.u64.wrap (↑(BitVec.ofInt IntKind.u64.bits ((List.map u ds).getD (0 + Int.toNat 0 * 1) J).toInt ^^^ BitVec.ofInt IntKind.u64.bits (IntKind.u64.wrap (IntKind.u64.wrap (↑(BitVec.ofInt IntKind.u64.bits l &&& BitVec.ofInt IntKind.u64.bits 1).toNat : Int) * 2 ^ min (IntKind.u64.wrap (IntKind.u64.wrap (1 * 2 ^ min i.toNat IntKind.u64.bits) - 1)).toNat IntKind.u64.bits))).toNat : Int)))] X (bK E195_2 (m + 60) 2 k) else exec (E195_2) (d + 59) 2 (.loop (rnd Tryz.f195 2)) { tmps := (J :: J :: AV.ptr 0 0 :: AV.ptr 1 0 :: u (IntKind.u64.wrap (l * 2 ^ min (Int.toNat 1) IntKind.u64.bits)) :: J :: J :: i64 t :: jn 5 (i64 (IntKind.i64.wrap (i + 1)) :: jn 21 [])), defers := [], fn := 195, foot := 0, round := false } [AObj.cells Z25, AObj.ints IntKind.u64 (ds.set (0 + Int.toNat 0 * 1) (IntKind.u64.wrap (↑(BitVec.ofInt IntKind.u64.bits ((List.map u ds).getD (0 + Int.toNat 0 * 1) J).toInt ^^^ BitVec.ofInt IntKind.u64.bits (IntKind.u64.wrap (IntKind.u64.wrap (↑(BitVec.ofInt IntKind.u64.bits l &&& BitVec.ofInt IntKind.u64.bits 1).toNat : Int) * 2 ^ min (IntKind.u64.wrap (IntKind.u64.wrap (1 * 2 ^ min i.toNat IntKind.u64.bits) - 1)).toNat IntKind.u64.bits))).toNat : Int)))] X (bK E195_2 (m + 60) 2 k) else none else none else none else none else k AExit.normal { tmps := (J :: J :: AV.ptr 0 0 :: AV.ptr 1 0 :: u l :: J :: J :: i64 t :: jn 27 []), defers := [], fn := 195, foot := 0, round := false } [AObj.cells Z25, AObj.ints IntKind.u64 ds] := (exec_loop _ _ _ _ _ _ _ _).trans (TL195_2r l t i ds d m (fun a os X k => exec (E195_2) (d + 59) 2 (.loop (rnd Tryz.f195 2)) a os X k) X k)
noncomputable def E195_0 (r250 : RF) (r251 : RF) (r252 : RF) (h195_2 : RB) : Env := En 195 [(0, [2, 3, 4, 7], [2, 3])] [] [] [(2, bShaped A195_2 [] (some [2, 3, 4, 7, 13]) h195_2)] [] [(250, shaped A250 r250), (251, shaped A251 r251), (252, shaped A252 r252)] [(0, [1])]
def a195_0 : BAlt := ⟨.normal, (.junk :: .junk :: .ptr 0 0 :: .ptr 1 0 :: sj 31 []), [.cells sh25c, .ints .u64], []⟩
def A195_0 : List BAlt := [a195_0]
noncomputable def h195_0 : RB := runB (blockRun (E195_0 r250 r251 r252 h195_2) (fun _ _ => 200) 0)
theorem q195_0 (c : Code) (a : AAct) (os : List AObj) : h195_0 c a os = exec (E195_0 r250 r251 r252 h195_2) ((fun _ _ => 200) a os) 0 (.block 0 c) a os _ finB := qB _ _ _ _ _ _
theorem k195_0 : blk Tryz.f195 0 = .loop (rnd Tryz.f195 0) := by kernel_rfl
theorem p195_0 (T : List AV) (os : List AObj) (F : Nat) (hF : (fun _ _ => 200) (⟨T, [], 195, 0, false⟩ : AAct) os = F + 1) : h195_0 (blk Tryz.f195 0) ⟨T, [], 195, 0, false⟩ os = exec (E195_0 r250 r251 r252 h195_2) F 0 (.loop (rnd Tryz.f195 0)) ⟨T, [], 195, 0, false⟩ os _ (bK (E195_0 r250 r251 r252 h195_2) F 0 finB) := by
  rw [q195_0, hF, exec_block (by kernel_rfl), k195_0]
theorem okb195_0 : BlockOK P 195 0 (bShaped A195_0 [] (some [2, 3, 4, 7]) h195_0) := by
  unfold h195_0 E195_0
  refine okBl _ ?_ ?_ ?_ _ _ _
  · exact (tcons ok250 (tcons ok251 (tcons ok252 tnil)))
  · exact trivial
  · exact (hcons okb195_2 hnil)
theorem TL195_0r (r250 : RF) (r251 : RF) (r252 : RF) (h195_2 : RB) (l t : Int) (ds : List Int) (d m : Nat) (L : AAct → List AObj → ∀ X : Type, (AExit → AAct → List AObj → Option X) → Option X) (X : Type) (k : AExit → AAct → List AObj → Option X)
    (x1 : RE) (e1 : r250 [AV.agg (ld25 ds)] [] = x1)
    (x2 : RE) (e2 : r251 [AV.agg (tu25 (rV x1).items)] [] = x2)
    (x3 : RE) (e3 : r252 [AV.agg (tu25 (rV x2).items)] [] = x3)
    (x4 : RBE) (e4 : h195_2 (blk Tryz.f195 2) { tmps := (J :: J :: AV.ptr 0 0 :: AV.ptr 1 0 :: u l :: J :: J :: i64 t :: jn 5 (i64 0 :: jn 21 [])), defers := [], fn := 195, foot := 0, round := false } [AObj.cells Z25, AObj.cells (tu25 (rV x3).items)] = x4) :
    roundL (E195_0 r250 r251 r252 h195_2) (d + 59) 0 (rnd Tryz.f195 0) L ⟨(J :: J :: .ptr 0 0 :: .ptr 1 0 :: u l :: J :: J :: i64 t :: jn 27 []), [], 195, 0, false⟩ [.cells Z25, .ints .u64 ds] X (bK (E195_0 r250 r251 r252 h195_2) (m + 60) 0 k) =
    bif ilt t 24 then bif dm25 ds then bif okAlt a250 x1 then bif okAlt a251 x2 then bif okAlt a252 x3 then bif decide (ds.length = 25) then bif okB a195_2 195 0 false x4 then L { tmps := (J :: J :: AV.ptr 0 0 :: AV.ptr 1 0 :: u ((bT x4).getD 4 J).toInt :: J :: J :: i64 (IntKind.i64.wrap (((bT x4).getD 7 J).toInt + 1)) :: jn 27 []), defers := [], fn := 195, foot := 0, round := false } [AObj.cells (tu25 ((bOs x4).getD 0 AObj.dead).cellsOf), AObj.ints IntKind.u64 ((bOs x4).getD 1 AObj.dead).intsOf] X (bK (E195_0 r250 r251 r252 h195_2) (m + 60) 0 k) else none else none else none else none else none else none else k AExit.normal { tmps := (J :: J :: AV.ptr 0 0 :: AV.ptr 1 0 :: jn 31 []), defers := [], fn := 195, foot := 0, round := false } [AObj.cells Z25, AObj.ints IntKind.u64 ds] := by subst e1 e2 e3 e4; kernel_rfl
theorem T195_0r (r250 : RF) (r251 : RF) (r252 : RF) (h195_2 : RB) (l t : Int) (ds : List Int) (d m : Nat) (X : Type) (k : AExit → AAct → List AObj → Option X)
    (x1 : RE) (e1 : r250 [AV.agg (ld25 ds)] [] = x1)
    (x2 : RE) (e2 : r251 [AV.agg (tu25 (rV x1).items)] [] = x2)
    (x3 : RE) (e3 : r252 [AV.agg (tu25 (rV x2).items)] [] = x3)
    (x4 : RBE) (e4 : h195_2 (blk Tryz.f195 2) { tmps := (J :: J :: AV.ptr 0 0 :: AV.ptr 1 0 :: u l :: J :: J :: i64 t :: jn 5 (i64 0 :: jn 21 [])), defers := [], fn := 195, foot := 0, round := false } [AObj.cells Z25, AObj.cells (tu25 (rV x3).items)] = x4) :
    exec (E195_0 r250 r251 r252 h195_2) (d + 60) 0 (.loop (rnd Tryz.f195 0)) ⟨(J :: J :: .ptr 0 0 :: .ptr 1 0 :: u l :: J :: J :: i64 t :: jn 27 []), [], 195, 0, false⟩ [.cells Z25, .ints .u64 ds] X (bK (E195_0 r250 r251 r252 h195_2) (m + 60) 0 k) =
    bif ilt t 24 then bif dm25 ds then bif okAlt a250 x1 then bif okAlt a251 x2 then bif okAlt a252 x3 then bif decide (ds.length = 25) then bif okB a195_2 195 0 false x4 then exec (E195_0 r250 r251 r252 h195_2) (d + 59) 0 (.loop (rnd Tryz.f195 0)) { tmps := (J :: J :: AV.ptr 0 0 :: AV.ptr 1 0 :: u ((bT x4).getD 4 J).toInt :: J :: J :: i64 (IntKind.i64.wrap (((bT x4).getD 7 J).toInt + 1)) :: jn 27 []), defers := [], fn := 195, foot := 0, round := false } [AObj.cells (tu25 ((bOs x4).getD 0 AObj.dead).cellsOf), AObj.ints IntKind.u64 ((bOs x4).getD 1 AObj.dead).intsOf] X (bK (E195_0 r250 r251 r252 h195_2) (m + 60) 0 k) else none else none else none else none else none else none else k AExit.normal { tmps := (J :: J :: AV.ptr 0 0 :: AV.ptr 1 0 :: jn 31 []), defers := [], fn := 195, foot := 0, round := false } [AObj.cells Z25, AObj.ints IntKind.u64 ds] := (exec_loop _ _ _ _ _ _ _ _).trans (TL195_0r r250 r251 r252 h195_2 l t ds d m (fun a os X k => exec (E195_0 r250 r251 r252 h195_2) (d + 59) 0 (.loop (rnd Tryz.f195 0)) a os X k) X k _ e1 _ e2 _ e3 _ e4)
noncomputable def E195 (h195_0 : RB) : Env := En 195 [(2, [2, 3, 4, 7, 13], [2, 3, 4, 7])] [] [] [(0, bShaped A195_0 [] (some [2, 3, 4, 7]) h195_0)] [] []
def a195 : Alt := ⟨false, sh25, []⟩
def A195 : List Alt := [a195]
theorem T195 (h195_0 : RB) (a0 a1 a2 a3 a4 a5 a6 a7 a8 a9 a10 a11 a12 a13 a14 a15 a16 a17 a18 a19 a20 a21 a22 a23 a24 : Int) (X : Type) (k : AEnd → List AObj → Option X)
    (x1 : RBE) (e1 : h195_0 (blk Tryz.f195 0) { tmps := (J :: J :: AV.ptr 0 0 :: AV.ptr 1 0 :: u 1 :: J :: J :: i64 0 :: jn 27 []), defers := [], fn := 195, foot := 0, round := false } [AObj.cells Z25, AObj.cells (D25c a0 a1 a2 a3 a4 a5 a6 a7 a8 a9 a10 a11 a12 a13 a14 a15 a16 a17 a18 a19 a20 a21 a22 a23 a24)] = x1) :
    body (E195 h195_0) 60 195 Tryz.f195 (cod Tryz.f195) [.agg (D25c a0 a1 a2 a3 a4 a5 a6 a7 a8 a9 a10 a11 a12 a13 a14 a15 a16 a17 a18 a19 a20 a21 a22 a23 a24)] [] X k =
    bif okB a195_0 195 0 false x1 then bif dm25 ((bOs x1).getD 1 AObj.dead).intsOf then k (.ret (AV.agg (ld25 ((bOs x1).getD 1 AObj.dead).intsOf))) [] else none else none := by subst e1; kernel_rfl
noncomputable def r195 : RF := runR (body (E195 h195_0) 60 195 Tryz.f195 (cod Tryz.f195))
theorem q195 (args : List AV) (os : List AObj) : r195 args os = body (E195 h195_0) 60 195 Tryz.f195 (cod Tryz.f195) args os _ fin := qR _ _ _
theorem ok195 : SpecOK P 195 (shaped A195 r195) := by
  unfold r195 E195
  refine okF 60 ?_ ?_ ?_ Tryz.func195 ?_ ?_ _
  · exact tnil
  · exact trivial
  · exact (hcons okb195_0 hnil)
  · kernel_rfl
  · kernel_rfl
end Go.Proofs.Vm
end
section
namespace Go.Proofs.Vm
open Go Go.Abs
set_option maxRecDepth 100000
set_option maxHeartbeats 1000000
theorem l25 {l : List Int} (h : l.length = 25) : ∃ d0 d1 d2 d3 d4 d5 d6 d7 d8 d9 d10 d11 d12 d13 d14 d15 d16 d17 d18 d19 d20 d21 d22 d23 d24, l = [d0, d1, d2, d3, d4, d5, d6, d7, d8, d9, d10, d11, d12, d13, d14, d15, d16, d17, d18, d19, d20, d21, d22, d23, d24] := by
  match l, h with
  | [a0, a1, a2, a3, a4, a5, a6, a7, a8, a9, a10, a11, a12, a13, a14, a15, a16, a17, a18, a19, a20, a21, a22, a23, a24], _ => exact ⟨_, _, _, _, _, _, _, _, _, _, _, _, _, _, _, _, _, _, _, _, _, _, _, _, _, rfl⟩
theorem ld25_eq {l : List Int} (h : l.length = 25) : ld25 l = l.map u := by
  obtain ⟨d0, d1, d2, d3, d4, d5, d6, d7, d8, d9, d10, d11, d12, d13, d14, d15, d16, d17, d18, d19, d20, d21, d22, d23, d24, rfl⟩ := l25 h
  rfl
theorem dm25_t {l : List Int} (h : l.length = 25) : dm25 l = true := by
  obtain ⟨d0, d1, d2, d3, d4, d5, d6, d7, d8, d9, d10, d11, d12, d13, d14, d15, d16, d17, d18, d19, d20, d21, d22, d23, d24, rfl⟩ := l25 h
  rfl
theorem w262 {x n : Int} (h : 0 ≤ n) : ∃ r, r262 [u x, u n] [] = some (.ret (u r), []) := by
  have hh := (q262 _ _).trans (T262 x n _ fin)
  replace hh := go hh (dec1 h)
  replace hh := go hh (dec1 (r64w _).1)
  exact ⟨_, hh⟩
theorem demI {l : List Int} {i : Int} {n : Nat} (h0 : 0 ≤ i) (h1 : i < (n : Int)) (hl : l.length = n) : (decide (0 ≤ i) && (decide (i < (n : Int)) && (decide (i.toNat * 1 < (mp l).length) && (AV.isInt IntKind.u64 ((mp l).getD (i.toNat * 1) J) && true)))) = true := by
  rw [decide_eq_true h0, decide_eq_true h1, demG (by omega)]; rfl
theorem tm5 {i : Int} (h : 0 ≤ i) : i.tmod 5 = i % 5 := Int.tmod_eq_emod_of_nonneg h
theorem l250_0 (a0 a1 a2 a3 a4 a5 a6 a7 a8 a9 a10 a11 a12 a13 a14 a15 a16 a17 a18 a19 a20 a21 a22 a23 a24 : Int) (m : Nat) : ∀ (f : Nat) (i : Int) (cs : List Int), 0 ≤ i → i ≤ 25 → 25 - i ≤ f → cs.length = 5 → ∀ r,
    r = exec (E250_0) (f + 60) 0 (.loop (rnd Tryz.f250 0)) ⟨(J :: .ptr 0 0 :: .ptr 1 0 :: .ptr 2 0 :: jn 3 (.agg (D25c a0 a1 a2 a3 a4 a5 a6 a7 a8 a9 a10 a11 a12 a13 a14 a15 a16 a17 a18 a19 a20 a21 a22 a23 a24) :: i64 i :: jn 33 [])), [], 250, 0, false⟩ [.cells (D25c a0 a1 a2 a3 a4 a5 a6 a7 a8 a9 a10 a11 a12 a13 a14 a15 a16 a17 a18 a19 a20 a21 a22 a23 a24), .cells Z25, .ints .u64 cs] _ (bK (E250_0) (m + 60) 0 finB) →
    ∃ cs' : List Int, cs'.length = 5 ∧ r = finB .normal ⟨(J :: .ptr 0 0 :: .ptr 1 0 :: .ptr 2 0 :: jn 38 []), [], 250, 0, false⟩ [.cells (D25c a0 a1 a2 a3 a4 a5 a6 a7 a8 a9 a10 a11 a12 a13 a14 a15 a16 a17 a18 a19 a20 a21 a22 a23 a24), .cells Z25, .ints .u64 cs'] := by
  intro f
  induction f with
  | zero =>
    intro i cs h0 h1 hf hc r h
    replace h := h.trans (T250_0r a0 a1 a2 a3 a4 a5 a6 a7 a8 a9 a10 a11 a12 a13 a14 a15 a16 a17 a18 a19 a20 a21 a22 a23 a24 i cs 0 m _ finB)
    exact ⟨cs, hc, gn h (ilt_f' (by omega))⟩
  | succ f ih =>
    intro i cs h0 h1 hf hc r h
    replace h := h.trans (T250_0r a0 a1 a2 a3 a4 a5 a6 a7 a8 a9 a10 a11 a12 a13 a14 a15 a16 a17 a18 a19 a20 a21 a22 a23 a24 i cs (f + 1) m _ finB)
    by_cases hi : i < 25
    · replace h := go h (ilt_t' hi)
      replace h := go h (demI (l := [a0, a1, a2, a3, a4, a5, a6, a7, a8, a9, a10, a11, a12, a13, a14, a15, a16, a17, a18, a19, a20, a21, a22, a23, a24]) (n := 25) h0 hi rfl)
      rw [tm5 h0] at h
      have hd : 0 + (i % 5).toNat * 1 < cs.length := by omega
      replace h := go h (dec2 (by omega) (by omega))
      replace h := go h (demG hd)
      replace h := go h (dec2 (by omega) (by omega))
      replace h := go h (dec1 (by omega))
      rw [w8in (n := i + 1) (by omega) (by omega)] at h
      exact ih (i + 1) _ (by omega) (by omega) (by omega) (by rw [List.length_set]; exact hc) r h
    · exact ⟨cs, hc, gn h (ilt_f' (by omega))⟩
theorem l250_2 (m : Nat) {cs : List Int} (hc : cs.length = 5) : ∀ (f : Nat) (i : Int) (ds : List Int), 0 ≤ i → i ≤ 25 → 25 - i ≤ f → ds.length = 25 → ∀ r,
    r = exec (E250_2 r262) (f + 60) 2 (.loop (rnd Tryz.f250 2)) ⟨(J :: .ptr 0 0 :: .ptr 1 0 :: .ptr 2 0 :: jn 16 (i64 i :: jn 21 [])), [], 250, 0, false⟩ [.ints .u64 ds, .cells Z25, .ints .u64 cs] _ (bK (E250_2 r262) (m + 60) 2 finB) →
    ∃ ds' : List Int, ds'.length = 25 ∧ r = finB .normal ⟨(J :: .ptr 0 0 :: .ptr 1 0 :: jn 39 []), [], 250, 0, false⟩ [.ints .u64 ds', .cells Z25] := by
  intro f
  induction f with
  | zero =>
    intro i ds h0 h1 hf hd r h
    replace h := h.trans (T250_2r r262 i ds cs 0 m _ finB _ rfl)
    exact ⟨ds, hd, gn h (ilt_f' (by omega))⟩
  | succ f ih =>
    intro i ds h0 h1 hf hd r h
    obtain ⟨t, e1⟩ := w262 (x := ((List.map u cs).getD (0 + ((IntKind.i64.wrap (i + 1)).tmod 5).toNat * 1) J).toInt) (n := 1) (by omega)
    replace h := h.trans (T250_2r r262 i ds cs (f + 1) m _ finB _ e1)
    by_cases hi : i < 25
    · replace h := go h (ilt_t' hi)
      replace h := go h (dec2 (by omega) (by omega))
      replace h := go h (demG (by omega))
      rw [w8in (n := i + 4) (by omega) (by omega), w8in (n := i + 1) (by omega) (by omega), tm5 (i := i + 4) (by omega), tm5 (i := i + 1) (by omega)] at h
      replace h := go h (dec2 (by omega) (by omega))
      replace h := go h (demG (by omega))
      replace h := go h (dec2 (by omega) (by omega))
      replace h := go h (demG (by omega))
      replace h := go h rfl
      replace h := go h (dec2 (by omega) (by omega))
      replace h := go h (dec1 (by omega))
      exact ih (i + 1) _ (by omega) (by omega) (by omega) (by rw [List.length_set]; exact hd) r h
    · exact ⟨ds, hd, gn h (ilt_f' (by omega))⟩
theorem z250_0 (a0 a1 a2 a3 a4 a5 a6 a7 a8 a9 a10 a11 a12 a13 a14 a15 a16 a17 a18 a19 a20 a21 a22 a23 a24 i : Int) (f : Nat) (X : Type) (k : AExit → AAct → List AObj → Option X) :
    exec (E250_0) (f + 60) 0 (.loop (rnd Tryz.f250 0)) ⟨(J :: .ptr 0 0 :: .ptr 1 0 :: .ptr 2 0 :: jn 3 (.agg (D25c a0 a1 a2 a3 a4 a5 a6 a7 a8 a9 a10 a11 a12 a13 a14 a15 a16 a17 a18 a19 a20 a21 a22 a23 a24) :: i64 i :: jn 33 [])), [], 250, 0, false⟩ [.cells (D25c a0 a1 a2 a3 a4 a5 a6 a7 a8 a9 a10 a11 a12 a13 a14 a15 a16 a17 a18 a19 a20 a21 a22 a23 a24), .cells Z25, .cells [u 0, u 0, u 0, u 0, u 0]] X k = exec (E250_0) (f + 60) 0 (.loop (rnd Tryz.f250 0)) ⟨(J :: .ptr 0 0 :: .ptr 1 0 :: .ptr 2 0 :: jn 3 (.agg (D25c a0 a1 a2 a3 a4 a5 a6 a7 a8 a9 a10 a11 a12 a13 a14 a15 a16 a17 a18 a19 a20 a21 a22 a23 a24) :: i64 i :: jn 33 [])), [], 250, 0, false⟩ [.cells (D25c a0 a1 a2 a3 a4 a5 a6 a7 a8 a9 a10 a11 a12 a13 a14 a15 a16 a17 a18 a19 a20 a21 a22 a23 a24), .cells Z25, .ints .u64 [0, 0, 0, 0, 0]] X k :=
  exec_view (n := f + 59) (a' := ⟨(J :: .ptr 0 0 :: .ptr 1 0 :: .ptr 2 0 :: jn 3 (.agg (D25c a0 a1 a2 a3 a4 a5 a6 a7 a8 a9 a10 a11 a12 a13 a14 a15 a16 a17 a18 a19 a20 a21 a22 a23 a24) :: i64 i :: jn 33 [])), [], 250, 0, false⟩) (os1' := [.cells (D25c a0 a1 a2 a3 a4 a5 a6 a7 a8 a9 a10 a11 a12 a13 a14 a15 a16 a17 a18 a19 a20 a21 a22 a23 a24), .cells Z25, .cells [u 0, u 0, u 0, u 0, u 0]]) (os2' := [.cells (D25c a0 a1 a2 a3 a4 a5 a6 a7 a8 a9 a10 a11 a12 a13 a14 a15 a16 a17 a18 a19 a20 a21 a22 a23 a24), .cells Z25, .ints .u64 [0, 0, 0, 0, 0]]) (fun K => by kernel_rfl) (fun K => by kernel_rfl) (by kernel_rfl)
theorem z250_2 (a0 a1 a2 a3 a4 a5 a6 a7 a8 a9 a10 a11 a12 a13 a14 a15 a16 a17 a18 a19 a20 a21 a22 a23 a24 c0 c1 c2 c3 c4 i : Int) (f : Nat) (X : Type) (k : AExit → AAct → List AObj → Option X) :
    exec (E250_2 r262) (f + 60) 2 (.loop (rnd Tryz.f250 2)) ⟨(J :: .ptr 0 0 :: .ptr 1 0 :: .ptr 2 0 :: jn 16 (i64 i :: jn 21 [])), [], 250, 0, false⟩ [.cells (D25c a0 a1 a2 a3 a4 a5 a6 a7 a8 a9 a10 a11 a12 a13 a14 a15 a16 a17 a18 a19 a20 a21 a22 a23 a24), .cells Z25, .ints .u64 [c0, c1, c2, c3, c4]] X k = exec (E250_2 r262) (f + 60) 2 (.loop (rnd Tryz.f250 2)) ⟨(J :: .ptr 0 0 :: .ptr 1 0 :: .ptr 2 0 :: jn 16 (i64 i :: jn 21 [])), [], 250, 0, false⟩ [.ints .u64 [a0, a1, a2, a3, a4, a5, a6, a7, a8, a9, a10, a11, a12, a13, a14, a15, a16, a17, a18, a19, a20, a21, a22, a23, a24], .cells Z25, .ints .u64 [c0, c1, c2, c3, c4]] X k :=
  exec_view (n := f + 59) (a' := ⟨(J :: .ptr 0 0 :: .ptr 1 0 :: .ptr 2 0 :: jn 16 (i64 i :: jn 21 [])), [], 250, 0, false⟩) (os1' := [.cells (D25c a0 a1 a2 a3 a4 a5 a6 a7 a8 a9 a10 a11 a12 a13 a14 a15 a16 a17 a18 a19 a20 a21 a22 a23 a24), .cells Z25, .ints .u64 [c0, c1, c2, c3, c4]]) (os2' := [.ints .u64 [a0, a1, a2, a3, a4, a5, a6, a7, a8, a9, a10, a11, a12, a13, a14, a15, a16, a17, a18, a19, a20, a21, a22, a23, a24], .cells Z25, .ints .u64 [c0, c1, c2, c3, c4]]) (fun K => by kernel_rfl) (fun K => by kernel_rfl) (by kernel_rfl)
theorem l5 {l : List Int} (h : l.length = 5) : ∃ a b c d e, l = [a, b, c, d, e] := by
  match l, h with
  | [a, b, c, d, e], _ => exact ⟨_, _, _, _, _, rfl⟩
theorem w250 {ds : List Int} (hd : ds.length = 25) : ∃ es, r250 [agg ds] [] = some (.ret (agg es), []) ∧ es.length = 25 := by
  obtain ⟨a0, a1, a2, a3, a4, a5, a6, a7, a8, a9, a10, a11, a12, a13, a14, a15, a16, a17, a18, a19, a20, a21, a22, a23, a24, rfl⟩ := l25 hd
  obtain ⟨cs, hc, e1⟩ := l250_0 a0 a1 a2 a3 a4 a5 a6 a7 a8 a9 a10 a11 a12 a13 a14 a15 a16 a17 a18 a19 a20 a21 a22 a23 a24 139 139 0 [0, 0, 0, 0, 0] (by omega) (by omega) (by omega) rfl _ rfl
  replace e1 := (p250_0 _ _ 199 rfl).trans ((z250_0 a0 a1 a2 a3 a4 a5 a6 a7 a8 a9 a10 a11 a12 a13 a14 a15 a16 a17 a18 a19 a20 a21 a22 a23 a24 0 139 _ _).trans e1)
  obtain ⟨c0, c1, c2, c3, c4, rfl⟩ := l5 hc
  obtain ⟨es, he, e2⟩ := l250_2 139 hc 139 0 [a0, a1, a2, a3, a4, a5, a6, a7, a8, a9, a10, a11, a12, a13, a14, a15, a16, a17, a18, a19, a20, a21, a22, a23, a24] (by omega) (by omega) (by omega) rfl _ rfl
  replace e2 := (p250_2 _ _ 199 rfl).trans ((z250_2 a0 a1 a2 a3 a4 a5 a6 a7 a8 a9 a10 a11 a12 a13 a14 a15 a16 a17 a18 a19 a20 a21 a22 a23 a24 c0 c1 c2 c3 c4 0 139 _ _).trans e2)
  have h := (q250 _ _).trans (T250 h250_0 h250_2 a0 a1 a2 a3 a4 a5 a6 a7 a8 a9 a10 a11 a12 a13 a14 a15 a16 a17 a18 a19 a20 a21 a22 a23 a24 _ fin _ e1 _ e2)
  replace h := go h rfl
  replace h := go h rfl
  replace h := go h (dm25_t he)
  refine ⟨es, h.trans ?_, he⟩
  show some (AEnd.ret (.agg (ld25 es)), _) = _
  rw [ld25_eq he]; rfl
theorem l251_0 (m : Nat) : ∀ (f : Nat) (at_ n last t : Int) (ds : List Int), 0 ≤ at_ → at_ < 25 → 0 ≤ t → t ≤ 24 → 24 - t ≤ f → ds.length = 25 → ∀ r,
    r = exec (E251_0 r262) (f + 60) 0 (.loop (rnd Tryz.f251 0)) ⟨(J :: .ptr 0 0 :: .ptr 1 0 :: i64 at_ :: u n :: u last :: jn 5 (i64 t :: jn 31 [])), [], 251, 0, false⟩ [.ints .u64 ds, .cells Z25] _ (bK (E251_0 r262) (m + 60) 0 finB) →
    ∃ ds' : List Int, ds'.length = 25 ∧ r = finB .normal ⟨(J :: .ptr 0 0 :: .ptr 1 0 :: jn 40 []), [], 251, 0, false⟩ [.ints .u64 ds', .cells Z25] := by
  intro f
  induction f with
  | zero =>
    intro at_ n last t ds ha ha2 h0 h1 hf hd r h
    replace h := h.trans (T251_0r r262 at_ n last t ds 0 m _ finB _ rfl)
    exact ⟨ds, hd, gn h (ilt_f' (by omega))⟩
  | succ f ih =>
    intro at_ n last t ds ha ha2 h0 h1 hf hd r h
    obtain ⟨x, e1⟩ := w262 (x := last) (n := (IntKind.u64.wrap (n + IntKind.u64.wrap (IntKind.u64.wrap t + 1))).tmod 64) (Int.tmod_nonneg _ (r64w _).1)
    replace h := h.trans (T251_0r r262 at_ n last t ds (f + 1) m _ finB _ e1)
    by_cases hi : t < 24
    · replace h := go h (ilt_t' hi)
      replace h := go h rfl
      have d5 : at_.tdiv 5 = at_ / 5 := Int.tdiv_eq_ediv_of_nonneg ha
      rw [d5, tm5 ha, w8in (n := at_ / 5) (by omega) (by omega), w8in (n := 2 * (at_ % 5)) (by omega) (by omega), w8in (n := 3 * (at_ / 5)) (by omega) (by omega), w8in (n := 2 * (at_ % 5) + 3 * (at_ / 5)) (by omega) (by omega),
        tm5 (i := 2 * (at_ % 5) + 3 * (at_ / 5)) (by omega), w8in (n := 5 * ((2 * (at_ % 5) + 3 * (at_ / 5)) % 5)) (by omega) (by omega), w8in (n := at_ / 5 + 5 * ((2 * (at_ % 5) + 3 * (at_ / 5)) % 5)) (by omega) (by omega), w8in (n := t + 1) (by omega) (by omega)] at h
      replace h := go h (dec2 (by omega) (by omega))
      replace h := go h (demG (by omega))
      replace h := go h (dec2 (by omega) (by omega))
      replace h := go h (dec1 (by omega))
      exact ih _ _ _ (t + 1) _ (by omega) (by omega) (by omega) (by omega) (by omega) (by rw [List.length_set]; exact hd) r h
    · exact ⟨ds, hd, gn h (ilt_f' (by omega))⟩
theorem z251_0 (a0 a1 a2 a3 a4 a5 a6 a7 a8 a9 a10 a11 a12 a13 a14 a15 a16 a17 a18 a19 a20 a21 a22 a23 a24 at_ n last t : Int) (f : Nat) (X : Type) (k : AExit → AAct → List AObj → Option X) :
    exec (E251_0 r262) (f + 60) 0 (.loop (rnd Tryz.f251 0)) ⟨(J :: .ptr 0 0 :: .ptr 1 0 :: i64 at_ :: u n :: u last :: jn 5 (i64 t :: jn 31 [])), [], 251, 0, false⟩ [.cells (D25c a0 a1 a2 a3 a4 a5 a6 a7 a8 a9 a10 a11 a12 a13 a14 a15 a16 a17 a18 a19 a20 a21 a22 a23 a24), .cells Z25] X k = exec (E251_0 r262) (f + 60) 0 (.loop (rnd Tryz.f251 0)) ⟨(J :: .ptr 0 0 :: .ptr 1 0 :: i64 at_ :: u n :: u last :: jn 5 (i64 t :: jn 31 [])), [], 251, 0, false⟩ [.ints .u64 [a0, a1, a2, a3, a4, a5, a6, a7, a8, a9, a10, a11, a12, a13, a14, a15, a16, a17, a18, a19, a20, a21, a22, a23, a24], .cells Z25] X k :=
  exec_view (n := f + 59) (a' := ⟨(J :: .ptr 0 0 :: .ptr 1 0 :: i64 at_ :: u n :: u last :: jn 5 (i64 t :: jn 31 [])), [], 251, 0, false⟩) (os1' := [.cells (D25c a0 a1 a2 a3 a4 a5 a6 a7 a8 a9 a10 a11 a12 a13 a14 a15 a16 a17 a18 a19 a20 a21 a22 a23 a24), .cells Z25]) (os2' := [.ints .u64 [a0, a1, a2, a3, a4, a5, a6, a7, a8, a9, a10, a11, a12, a13, a14, a15, a16, a17, a18, a19, a20, a21, a22, a23, a24], .cells Z25]) (fun K => by kernel_rfl) (fun K => by kernel_rfl) (by kernel_rfl)
theorem w251 {ds : List Int} (hd : ds.length = 25) : ∃ es, r251 [agg ds] [] = some (.ret (agg es), []) ∧ es.length = 25 := by
  obtain ⟨a0, a1, a2, a3, a4, a5, a6, a7, a8, a9, a10, a11, a12, a13, a14, a15, a16, a17, a18, a19, a20, a21, a22, a23, a24, rfl⟩ := l25 hd
  obtain ⟨es, he, e1⟩ := l251_0 139 139 1 0 a1 0 [a0, a1, a2, a3, a4, a5, a6, a7, a8, a9, a10, a11, a12, a13, a14, a15, a16, a17, a18, a19, a20, a21, a22, a23, a24] (by omega) (by omega) (by omega) (by omega) (by omega) rfl _ rfl
  replace e1 := (p251_0 _ _ 199 rfl).trans ((z251_0 a0 a1 a2 a3 a4 a5 a6 a7 a8 a9 a10 a11 a12 a13 a14 a15 a16 a17 a18 a19 a20 a21 a22 a23 a24 1 0 a1 0 139 _ _).trans e1)
  have h := (q251 _ _).trans (T251 h251_0 a0 a1 a2 a3 a4 a5 a6 a7 a8 a9 a10 a11 a12 a13 a14 a15 a16 a17 a18 a19 a20 a21 a22 a23 a24 _ fin _ e1)
  replace h := go h rfl
  replace h := go h (dm25_t he)
  refine ⟨es, h.trans ?_, he⟩
  show some (AEnd.ret (.agg (ld25 es)), _) = _
  rw [ld25_eq he]; rfl
theorem l252_0 (m : Nat) {ds : List Int} (hd : ds.length = 25) : ∀ (f : Nat) (i : Int) (es : List Int), 0 ≤ i → i ≤ 25 → 25 - i ≤ f → es.length = 25 → ∀ r,
    r = exec (E252_0) (f + 60) 0 (.loop (rnd Tryz.f252 0)) ⟨(J :: .ptr 0 0 :: .ptr 1 0 :: .ptr 2 0 :: jn 3 (i64 i :: jn 29 [])), [], 252, 0, false⟩ [.ints .u64 ds, .cells Z25, .ints .u64 es] _ (bK (E252_0) (m + 60) 0 finB) →
    ∃ es' : List Int, es'.length = 25 ∧ r = finB .normal ⟨(J :: J :: .ptr 0 0 :: .ptr 1 0 :: jn 33 []), [], 252, 0, false⟩ [.cells Z25, .ints .u64 es'] := by
  intro f
  induction f with
  | zero =>
    intro i es h0 h1 hf he r h
    replace h := h.trans (T252_0r i ds es 0 m _ finB)
    exact ⟨es, he, gn h (ilt_f' (by omega))⟩
  | succ f ih =>
    intro i es h0 h1 hf he r h
    replace h := h.trans (T252_0r i ds es (f + 1) m _ finB)
    by_cases hi : i < 25
    · replace h := go h (ilt_t' hi)
      rw [tm5 h0, w8in (n := i + 1) (by omega) (by omega), w8in (n := i + 2) (by omega) (by omega), tm5 (i := i + 1) (by omega), tm5 (i := i + 2) (by omega), w8in (n := i - i % 5) (by omega) (by omega),
        w8in (n := i - i % 5 + (i + 1) % 5) (by omega) (by omega), w8in (n := i - i % 5 + (i + 2) % 5) (by omega) (by omega)] at h
      replace h := go h (dec2 (by omega) (by omega))
      replace h := go h (demG (by omega))
      replace h := go h (dec2 (by omega) (by omega))
      replace h := go h (demG (by omega))
      replace h := go h (dec2 (by omega) (by omega))
      replace h := go h (demG (by omega))
      replace h := go h (dec2 (by omega) (by omega))
      replace h := go h (dec1 (by omega))
      exact ih (i + 1) _ (by omega) (by omega) (by omega) (by rw [List.length_set]; exact he) r h
    · exact ⟨es, he, gn h (ilt_f' (by omega))⟩
theorem z252_0 (a0 a1 a2 a3 a4 a5 a6 a7 a8 a9 a10 a11 a12 a13 a14 a15 a16 a17 a18 a19 a20 a21 a22 a23 a24 i : Int) (f : Nat) (X : Type) (k : AExit → AAct → List AObj → Option X) :
    exec (E252_0) (f + 60) 0 (.loop (rnd Tryz.f252 0)) ⟨(J :: .ptr 0 0 :: .ptr 1 0 :: .ptr 2 0 :: jn 3 (i64 i :: jn 29 [])), [], 252, 0, false⟩ [.cells (D25c a0 a1 a2 a3 a4 a5 a6 a7 a8 a9 a10 a11 a12 a13 a14 a15 a16 a17 a18 a19 a20 a21 a22 a23 a24), .cells Z25, .cells (D25c a0 a1 a2 a3 a4 a5 a6 a7 a8 a9 a10 a11 a12 a13 a14 a15 a16 a17 a18 a19 a20 a21 a22 a23 a24)] X k = exec (E252_0) (f + 60) 0 (.loop (rnd Tryz.f252 0)) ⟨(J :: .ptr 0 0 :: .ptr 1 0 :: .ptr 2 0 :: jn 3 (i64 i :: jn 29 [])), [], 252, 0, false⟩ [.ints .u64 [a0, a1, a2, a3, a4, a5, a6, a7, a8, a9, a10, a11, a12, a13, a14, a15, a16, a17, a18, a19, a20, a21, a22, a23, a24], .cells Z25, .ints .u64 [a0, a1, a2, a3, a4, a5, a6, a7, a8, a9, a10, a11, a12, a13, a14, a15, a16, a17, a18, a19, a20, a21, a22, a23, a24]] X k :=
  exec_view (n := f + 59) (a' := ⟨(J :: .ptr 0 0 :: .ptr 1 0 :: .ptr 2 0 :: jn 3 (i64 i :: jn 29 [])), [], 252, 0, false⟩) (os1' := [.cells (D25c a0 a1 a2 a3 a4 a5 a6 a7 a8 a9 a10 a11 a12 a13 a14 a15 a16 a17 a18 a19 a20 a21 a22 a23 a24), .cells Z25, .cells (D25c a0 a1 a2 a3 a4 a5 a6 a7 a8 a9 a10 a11 a12 a13 a14 a15 a16 a17 a18 a19 a20 a21 a22 a23 a24)]) (os2' := [.ints .u64 [a0, a1, a2, a3, a4, a5, a6, a7, a8, a9, a10, a11, a12, a13, a14, a15, a16, a17, a18, a19, a20, a21, a22, a23, a24], .cells Z25, .ints .u64 [a0, a1, a2, a3, a4, a5, a6, a7, a8, a9, a10, a11, a12, a13, a14, a15, a16, a17, a18, a19, a20, a21, a22, a23, a24]]) (fun K => by kernel_rfl) (fun K => by kernel_rfl) (by kernel_rfl)
theorem w252 {ds : List Int} (hd : ds.length = 25) : ∃ es, r252 [agg ds] [] = some (.ret (agg es), []) ∧ es.length = 25 := by
  obtain ⟨a0, a1, a2, a3, a4, a5, a6, a7, a8, a9, a10, a11, a12, a13, a14, a15, a16, a17, a18, a19, a20, a21, a22, a23, a24, rfl⟩ := l25 hd
  obtain ⟨es, he, e1⟩ := l252_0 139 (ds := [a0, a1, a2, a3, a4, a5, a6, a7, a8, a9, a10, a11, a12, a13, a14, a15, a16, a17, a18, a19, a20, a21, a22, a23, a24]) rfl 139 0 [a0, a1, a2, a3, a4, a5, a6, a7, a8, a9, a10, a11, a12, a13, a14, a15, a16, a17, a18, a19, a20, a21, a22, a23, a24] (by omega) (by omega) (by omega) rfl _ rfl
  replace e1 := (p252_0 _ _ 199 rfl).trans ((z252_0 a0 a1 a2 a3 a4 a5 a6 a7 a8 a9 a10 a11 a12 a13 a14 a15 a16 a17 a18 a19 a20 a21 a22 a23 a24 0 139 _ _).trans e1)
  have h := (q252 _ _).trans (T252 h252_0 a0 a1 a2 a3 a4 a5 a6 a7 a8 a9 a10 a11 a12 a13 a14 a15 a16 a17 a18 a19 a20 a21 a22 a23 a24 _ fin _ e1)
  replace h := go h rfl
  replace h := go h (dm25_t he)
  refine ⟨es, h.trans ?_, he⟩
  show some (AEnd.ret (.agg (ld25 es)), _) = _
  rw [ld25_eq he]; rfl
theorem l195_2 (t : Int) (m : Nat) : ∀ (f : Nat) (l i : Int) (ds : List Int), 0 ≤ i → i ≤ 7 → 7 - i ≤ f → ds.length = 25 → ∀ r,
    r = exec (E195_2) (f + 60) 2 (.loop (rnd Tryz.f195 2)) ⟨(J :: J :: .ptr 0 0 :: .ptr 1 0 :: u l :: J :: J :: i64 t :: jn 5 (i64 i :: jn 21 [])), [], 195, 0, false⟩ [.cells Z25, .ints .u64 ds] _ (bK (E195_2) (m + 60) 2 finB) →
    ∃ (l' : Int) (ds' : List Int), ds'.length = 25 ∧ r = finB .normal ⟨(J :: J :: .ptr 0 0 :: .ptr 1 0 :: u l' :: J :: J :: i64 t :: jn 27 []), [], 195, 0, false⟩ [.cells Z25, .ints .u64 ds'] := by
  intro f
  induction f with
  | zero =>
    intro l i ds h0 h1 hf hd r h
    replace h := h.trans (T195_2r l t i ds 0 m _ finB)
    exact ⟨l, ds, hd, gn h (ilt_f' (by omega))⟩
  | succ f ih =>
    intro l i ds h0 h1 hf hd r h
    replace h := h.trans (T195_2r l t i ds (f + 1) m _ finB)
    by_cases hi : i < 7
    · replace h := go h (ilt_t' hi)
      replace h := go h (demG (by show 0 < _; omega))
      replace h := go h (dec1 h0)
      replace h := go h (dec1 (r64w _).1)
      replace h := go h (dec1 (by show 1 ≤ _; omega))
      rw [w8in (n := i + 1) (by omega) (by omega)] at h
      rcases spBB h with ⟨_, h⟩ | ⟨_, h⟩
      · exact ih _ (i + 1) _ (by omega) (by omega) (by omega) (by rw [List.length_set]; exact hd) r h
      · exact ih _ (i + 1) _ (by omega) (by omega) (by omega) (by rw [List.length_set]; exact hd) r h
    · exact ⟨l, ds, hd, gn h (ilt_f' (by omega))⟩
theorem z195_2 (a0 a1 a2 a3 a4 a5 a6 a7 a8 a9 a10 a11 a12 a13 a14 a15 a16 a17 a18 a19 a20 a21 a22 a23 a24 l t i : Int) (f : Nat) (X : Type) (k : AExit → AAct → List AObj → Option X) :
    exec (E195_2) (f + 60) 2 (.loop (rnd Tryz.f195 2)) ⟨(J :: J :: .ptr 0 0 :: .ptr 1 0 :: u l :: J :: J :: i64 t :: jn 5 (i64 i :: jn 21 [])), [], 195, 0, false⟩ [.cells Z25, .cells (D25c a0 a1 a2 a3 a4 a5 a6 a7 a8 a9 a10 a11 a12 a13 a14 a15 a16 a17 a18 a19 a20 a21 a22 a23 a24)] X k = exec (E195_2) (f + 60) 2 (.loop (rnd Tryz.f195 2)) ⟨(J :: J :: .ptr 0 0 :: .ptr 1 0 :: u l :: J :: J :: i64 t :: jn 5 (i64 i :: jn 21 [])), [], 195, 0, false⟩ [.cells Z25, .ints .u64 [a0, a1, a2, a3, a4, a5, a6, a7, a8, a9, a10, a11, a12, a13, a14, a15, a16, a17, a18, a19, a20, a21, a22, a23, a24]] X k :=
  exec_view (n := f + 59) (a' := ⟨(J :: J :: .ptr 0 0 :: .ptr 1 0 :: u l :: J :: J :: i64 t :: jn 5 (i64 i :: jn 21 [])), [], 195, 0, false⟩) (os1' := [.cells Z25, .cells (D25c a0 a1 a2 a3 a4 a5 a6 a7 a8 a9 a10 a11 a12 a13 a14 a15 a16 a17 a18 a19 a20 a21 a22 a23 a24)]) (os2' := [.cells Z25, .ints .u64 [a0, a1, a2, a3, a4, a5, a6, a7, a8, a9, a10, a11, a12, a13, a14, a15, a16, a17, a18, a19, a20, a21, a22, a23, a24]]) (fun K => by kernel_rfl) (fun K => by kernel_rfl) (by kernel_rfl)
theorem l195_0 (m : Nat) : ∀ (f : Nat) (l t : Int) (ds : List Int), 0 ≤ t → t ≤ 24 → 24 - t ≤ f → ds.length = 25 → ∀ r,
    r = exec (E195_0 r250 r251 r252 h195_2) (f + 60) 0 (.loop (rnd Tryz.f195 0)) ⟨(J :: J :: .ptr 0 0 :: .ptr 1 0 :: u l :: J :: J :: i64 t :: jn 27 []), [], 195, 0, false⟩ [.cells Z25, .ints .u64 ds] _ (bK (E195_0 r250 r251 r252 h195_2) (m + 60) 0 finB) →
    ∃ ds' : List Int, ds'.length = 25 ∧ r = finB .normal ⟨(J :: J :: .ptr 0 0 :: .ptr 1 0 :: jn 31 []), [], 195, 0, false⟩ [.cells Z25, .ints .u64 ds'] := by
  intro f
  induction f with
  | zero =>
    intro l t ds h0 h1 hf hd r h
    replace h := h.trans (T195_0r r250 r251 r252 h195_2 l t ds 0 m _ finB _ rfl _ rfl _ rfl _ rfl)
    exact ⟨ds, hd, gn h (ilt_f' (by omega))⟩
  | succ f ih =>
    intro l t ds h0 h1 hf hd r h
    obtain ⟨xs, e1, hx⟩ := w250 hd
    obtain ⟨ys, e2, hy⟩ := w251 hx
    obtain ⟨zs, e3, hz⟩ := w252 hy
    obtain ⟨x0, x1, x2, x3, x4, x5, x6, x7, x8, x9, x10, x11, x12, x13, x14, x15, x16, x17, x18, x19, x20, x21, x22, x23, x24, rfl⟩ := l25 hx
    obtain ⟨y0, y1, y2, y3, y4, y5, y6, y7, y8, y9, y10, y11, y12, y13, y14, y15, y16, y17, y18, y19, y20, y21, y22, y23, y24, rfl⟩ := l25 hy
    obtain ⟨z0, z1, z2, z3, z4, z5, z6, z7, z8, z9, z10, z11, z12, z13, z14, z15, z16, z17, z18, z19, z20, z21, z22, z23, z24, rfl⟩ := l25 hz
    obtain ⟨l', ds', hd', e4⟩ := l195_2 t 139 139 l 0 [z0, z1, z2, z3, z4, z5, z6, z7, z8, z9, z10, z11, z12, z13, z14, z15, z16, z17, z18, z19, z20, z21, z22, z23, z24] (by omega) (by omega) (by omega) rfl _ rfl
    replace e4 := (p195_2 _ _ 199 rfl).trans ((z195_2 z0 z1 z2 z3 z4 z5 z6 z7 z8 z9 z10 z11 z12 z13 z14 z15 z16 z17 z18 z19 z20 z21 z22 z23 z24 l t 0 139 _ _).trans e4)
    unfold agg at e1
    rw [← ld25_eq hd] at e1
    replace h := h.trans (T195_0r r250 r251 r252 h195_2 l t ds (f + 1) m _ finB _ e1 _ e2 _ e3 _ e4)
    by_cases hi : t < 24
    · replace h := go h (ilt_t' hi)
      replace h := go h (dm25_t hd)
      replace h := go h rfl
      replace h := go h rfl
      replace h := go h rfl
      replace h := go h (dec1 hd)
      replace h := go h rfl
      have e5 : IntKind.i64.wrap (t + 1) = t + 1 := w8in (by omega) (by omega)
      refine ih l' (t + 1) ds' (by omega) (by omega) (by omega) hd' r (h.trans ?_)
      rw [← e5]
      rfl
    · exact ⟨ds, hd, gn h (ilt_f' (by omega))⟩
theorem z195_0 (a0 a1 a2 a3 a4 a5 a6 a7 a8 a9 a10 a11 a12 a13 a14 a15 a16 a17 a18 a19 a20 a21 a22 a23 a24 l t : Int) (f : Nat) (X : Type) (k : AExit → AAct → List AObj → Option X) :
    exec (E195_0 r250 r251 r252 h195_2) (f + 60) 0 (.loop (rnd Tryz.f195 0)) ⟨(J :: J :: .ptr 0 0 :: .ptr 1 0 :: u l :: J :: J :: i64 t :: jn 27 []), [], 195, 0, false⟩ [.cells Z25, .cells (D25c a0 a1 a2 a3 a4 a5 a6 a7 a8 a9 a10 a11 a12 a13 a14 a15 a16 a17 a18 a19 a20 a21 a22 a23 a24)] X k = exec (E195_0 r250 r251 r252 h195_2) (f + 60) 0 (.loop (rnd Tryz.f195 0)) ⟨(J :: J :: .ptr 0 0 :: .ptr 1 0 :: u l :: J :: J :: i64 t :: jn 27 []), [], 195, 0, false⟩ [.cells Z25, .ints .u64 [a0, a1, a2, a3, a4, a5, a6, a7, a8, a9, a10, a11, a12, a13, a14, a15, a16, a17, a18, a19, a20, a21, a22, a23, a24]] X k :=
  exec_view (n := f + 59) (a' := ⟨(J :: J :: .ptr 0 0 :: .ptr 1 0 :: u l :: J :: J :: i64 t :: jn 27 []), [], 195, 0, false⟩) (os1' := [.cells Z25, .cells (D25c a0 a1 a2 a3 a4 a5 a6 a7 a8 a9 a10 a11 a12 a13 a14 a15 a16 a17 a18 a19 a20 a21 a22 a23 a24)]) (os2' := [.cells Z25, .ints .u64 [a0, a1, a2, a3, a4, a5, a6, a7, a8, a9, a10, a11, a12, a13, a14, a15, a16, a17, a18, a19, a20, a21, a22, a23, a24]]) (fun K => by kernel_rfl) (fun K => by kernel_rfl) (by kernel_rfl)
theorem w195 {ds : List Int} (hd : ds.length = 25) : ∃ es, r195 [agg ds] [] = some (.ret (agg es), []) ∧ es.length = 25 := by
  obtain ⟨a0, a1, a2, a3, a4, a5, a6, a7, a8, a9, a10, a11, a12, a13, a14, a15, a16, a17, a18, a19, a20, a21, a22, a23, a24, rfl⟩ := l25 hd
  obtain ⟨es, he, e1⟩ := l195_0 139 139 1 0 [a0, a1, a2, a3, a4, a5, a6, a7, a8, a9, a10, a11, a12, a13, a14, a15, a16, a17, a18, a19, a20, a21, a22, a23, a24] (by omega) (by omega) (by omega) rfl _ rfl
  replace e1 := (p195_0 _ _ 199 rfl).trans ((z195_0 a0 a1 a2 a3 a4 a5 a6 a7 a8 a9 a10 a11 a12 a13 a14 a15 a16 a17 a18 a19 a20 a21 a22 a23 a24 1 0 139 _ _).trans e1)
  have h := (q195 _ _).trans (T195 h195_0 a0 a1 a2 a3 a4 a5 a6 a7 a8 a9 a10 a11 a12 a13 a14 a15 a16 a17 a18 a19 a20 a21 a22 a23 a24 _ fin _ e1)
  replace h := go h rfl
  replace h := go h (dm25_t he)
  refine ⟨es, h.trans ?_, he⟩
  show some (AEnd.ret (.agg (ld25 es)), _) = _
  rw [ld25_eq he]; rfl
end Go.Proofs.Vm
end
section
open Go Go.Abs
namespace Go.Proofs.Vm
def e0 : ByteArray := ⟨#[]⟩
def bytesL (es : List (List AV)) : ByteArray := ⟨(es.map Abs.byteOf).toArray⟩
set_option maxRecDepth 100000
set_option maxHeartbeats 0
noncomputable def E130_4 (r196 : RF) : Env := En 130 [(2, [3, 4, 12, 13], [3]), (4, [3, 6, 33], [6])] [] [] [] [] [(196, shaped A196 r196)] [(4, [0])]
noncomputable def a130_4 : BAlt := ⟨.normal, (sj 6 (.ptr 0 0 :: sj 41 [])), [.bld 147 (some 2), .dblk, .brow 5], [1]⟩
noncomputable def A130_4 : List BAlt := [a130_4]
noncomputable def h130_4 : RB := runB (blockRun (E130_4 r196) (fun _ _ => 200) 4)
theorem q130_4 (c : Code) (a : AAct) (os : List AObj) : h130_4 c a os = exec (E130_4 r196) ((fun _ _ => 200) a os) 4 (.block 4 c) a os _ finB := qB _ _ _ _ _ _
theorem k130_4 : blk Tryz.f130 4 = .loop (rnd Tryz.f130 4) := by kernel_rfl
theorem p130_4 (T : List AV) (os : List AObj) (F : Nat) (hF : (fun _ _ => 200) (⟨T, [(none, [.yld 2])], 130, 0, false⟩ : AAct) os = F + 1) : h130_4 (blk Tryz.f130 4) ⟨T, [(none, [.yld 2])], 130, 0, false⟩ os = exec (E130_4 r196) F 4 (.loop (rnd Tryz.f130 4)) ⟨T, [(none, [.yld 2])], 130, 0, false⟩ os _ (bK (E130_4 r196) F 4 finB) := by
  rw [q130_4, hF, exec_block (by kernel_rfl), k130_4]
theorem okb130_4 : BlockOK P 130 4 (bShaped A130_4 [] (some [3, 6, 33]) h130_4) := by
  unfold h130_4 E130_4
  refine okBl _ ?_ ?_ ?_ _ _ _
  · exact (tcons ok196 tnil)
  · exact trivial
  · exact hnil
theorem TL130_4r (r196 : RF) (i : Int) (ds : List Int) (d m : Nat) (L : AAct → List AObj → ∀ X : Type, (AExit → AAct → List AObj → Option X) → Option X) (X : Type) (k : AExit → AAct → List AObj → Option X)
    (x1 : RE) (e1 : r196 [AV.ptr 0 0, u8 (IntKind.u8.wrap (((List.map u ds).getD (0 + (IntKind.i64.wrap (i.tdiv 8)).toNat * 1) J).toInt.fdiv (2 ^ min (IntKind.i64.wrap (i.tmod 8 * 8)).toNat IntKind.u64.bits)))] [AObj.bld 147 none] = x1) :
    roundL (E130_4 r196) (d + 59) 4 (rnd Tryz.f130 4) L ⟨(jn 3 (.ptr 0 0 :: J :: J :: .ptr 1 0 :: jn 26 (i64 i :: jn 14 []))), [(none, [.yld 2])], 130, 0, false⟩ [.ints .u64 ds, .bld 147 none, .dblk] X (bK (E130_4 r196) (m + 60) 4 k) =
    bif ilt i 32 then bif decide (0 ≤ IntKind.i64.wrap (i.tdiv 8)) && decide (IntKind.i64.wrap (i.tdiv 8) < (↑25 : Int)) then bif decide (0 + (IntKind.i64.wrap (i.tdiv 8)).toNat * 1 < (List.map u ds).length) && (AV.isInt IntKind.u64 ((List.map u ds).getD (0 + (IntKind.i64.wrap (i.tdiv 8)).toNat * 1) J) && true) then bif decide (0 ≤ IntKind.i64.wrap (i.tmod 8 * 8)) then bif okAlt { pan := false, s := Sh.nilI, os := [ShO.bld 147 (some 1), ShO.brow 5] } x1 then L { tmps := (jn 3 (AV.ptr 0 0 :: J :: J :: AV.ptr 1 0 :: jn 26 (i64 (IntKind.i64.wrap (i + 1)) :: jn 14 []))), defers := [(none, [AV.yld 2])], fn := 130, foot := 0, round := false } [AObj.ints IntKind.u64 ds, AObj.bld 147 (some 3), AObj.dblk, AObj.brow 5 ((rOs x1).getD 1 AObj.dead).bytesOf] X (bK (E130_4 r196) (m + 60) 4 k) else bif okAlt { pan := false, s := Sh.nilI, os := [ShO.bld 147 (some 2), ShO.dead, ShO.brow 5] } x1 then L { tmps := (jn 3 (AV.ptr 0 0 :: J :: J :: AV.ptr 1 0 :: jn 26 (i64 (IntKind.i64.wrap (i + 1)) :: jn 14 []))), defers := [(none, [AV.yld 2])], fn := 130, foot := 0, round := false } [AObj.ints IntKind.u64 ds, AObj.bld 147 (some 3), AObj.dblk, AObj.brow 5 ((rOs x1).getD 2 AObj.dead).bytesOf] X (bK (E130_4 r196) (m + 60) 4 k) else none else none else none else none else k AExit.normal { tmps := (jn 6 (AV.ptr 0 0 :: jn 41 [])), defers := [(none, [AV.yld 1])], fn := 130, foot := 0, round := false } [AObj.bld 147 none, AObj.dblk] := by subst e1; kernel_rfl
theorem T130_4r (r196 : RF) (i : Int) (ds : List Int) (d m : Nat) (X : Type) (k : AExit → AAct → List AObj → Option X)
    (x1 : RE) (e1 : r196 [AV.ptr 0 0, u8 (IntKind.u8.wrap (((List.map u ds).getD (0 + (IntKind.i64.wrap (i.tdiv 8)).toNat * 1) J).toInt.fdiv (2 ^ min (IntKind.i64.wrap (i.tmod 8 * 8)).toNat IntKind.u64.bits)))] [AObj.bld 147 none] = x1) :
    exec (E130_4 r196) (d + 60) 4 (.loop (rnd Tryz.f130 4)) ⟨(jn 3 (.ptr 0 0 :: J :: J :: .ptr 1 0 :: jn 26 (i64 i :: jn 14 []))), [(none, [.yld 2])], 130, 0, false⟩ [.ints .u64 ds, .bld 147 none, .dblk] X (bK (E130_4 r196) (m + 60) 4 k) =
    bif ilt i 32 then bif decide (0 ≤ IntKind.i64.wrap (i.tdiv 8)) && decide (IntKind.i64.wrap (i.tdiv 8) < (↑25 : Int)) then bif decide (0 + (IntKind.i64.wrap (i.tdiv 8)).toNat * 1 < (List.map u ds).length) && (AV.isInt IntKind.u64 ((List.map u ds).getD (0 + (IntKind.i64.wrap (i.tdiv 8)).toNat * 1) J) && true) then bif decide (0 ≤ IntKind.i64.wrap (i.tmod 8 * 8)) then bif okAlt { pan := false, s := Sh.nilI, os := [ShO.bld 147 (some 1), ShO.brow 5] } x1 then exec (E130_4 r196) (d + 59) 4 (.loop (rnd Tryz.f130 4)) { tmps := (jn 3 (AV.ptr 0 0 :: J :: J :: AV.ptr 1 0 :: jn 26 (i64 (IntKind.i64.wrap (i + 1)) :: jn 14 []))), defers := [(none, [AV.yld 2])], fn := 130, foot := 0, round := false } [AObj.ints IntKind.u64 ds, AObj.bld 147 (some 3), AObj.dblk, AObj.brow 5 ((rOs x1).getD 1 AObj.dead).bytesOf] X (bK (E130_4 r196) (m + 60) 4 k) else bif okAlt { pan := false, s := Sh.nilI, os := [ShO.bld 147 (some 2), ShO.dead, ShO.brow 5] } x1 then exec (E130_4 r196) (d + 59) 4 (.loop (rnd Tryz.f130 4)) { tmps := (jn 3 (AV.ptr 0 0 :: J :: J :: AV.ptr 1 0 :: jn 26 (i64 (IntKind.i64.wrap (i + 1)) :: jn 14 []))), defers := [(none, [AV.yld 2])], fn := 130, foot := 0, round := false } [AObj.ints IntKind.u64 ds, AObj.bld 147 (some 3), AObj.dblk, AObj.brow 5 ((rOs x1).getD 2 AObj.dead).bytesOf] X (bK (E130_4 r196) (m + 60) 4 k) else none else none else none else none else k AExit.normal { tmps := (jn 6 (AV.ptr 0 0 :: jn 41 [])), defers := [(none, [AV.yld 1])], fn := 130, foot := 0, round := false } [AObj.bld 147 none, AObj.dblk] := (exec_loop _ _ _ _ _ _ _ _).trans (TL130_4r r196 i ds d m (fun a os X k => exec (E130_4 r196) (d + 59) 4 (.loop (rnd Tryz.f130 4)) a os X k) X k _ e1)
theorem TL130_4s (r196 : RF) (i : Int) (ds : List Int) (t : ByteArray) (d m : Nat) (L : AAct → List AObj → ∀ X : Type, (AExit → AAct → List AObj → Option X) → Option X) (X : Type) (k : AExit → AAct → List AObj → Option X)
    (x1 : RE) (e1 : r196 [AV.ptr 0 0, u8 (IntKind.u8.wrap (((List.map u ds).getD (0 + (IntKind.i64.wrap (i.tdiv 8)).toNat * 1) J).toInt.fdiv (2 ^ min (IntKind.i64.wrap (i.tmod 8 * 8)).toNat IntKind.u64.bits)))] [AObj.bld 147 (some 1), AObj.brow 5 t] = x1) :
    roundL (E130_4 r196) (d + 59) 4 (rnd Tryz.f130 4) L ⟨(jn 3 (.ptr 0 0 :: J :: J :: .ptr 1 0 :: jn 26 (i64 i :: jn 14 []))), [(none, [.yld 2])], 130, 0, false⟩ [.ints .u64 ds, .bld 147 (some 3), .dblk, .brow 5 t] X (bK (E130_4 r196) (m + 60) 4 k) =
    bif ilt i 32 then bif decide (0 ≤ IntKind.i64.wrap (i.tdiv 8)) && decide (IntKind.i64.wrap (i.tdiv 8) < (↑25 : Int)) then bif decide (0 + (IntKind.i64.wrap (i.tdiv 8)).toNat * 1 < (List.map u ds).length) && (AV.isInt IntKind.u64 ((List.map u ds).getD (0 + (IntKind.i64.wrap (i.tdiv 8)).toNat * 1) J) && true) then bif decide (0 ≤ IntKind.i64.wrap (i.tmod 8 * 8)) then bif okAlt { pan := false, s := Sh.nilI, os := [ShO.bld 147 (some 1), ShO.brow 5] } x1 then L { tmps := (jn 3 (AV.ptr 0 0 :: J :: J :: AV.ptr 1 0 :: jn 26 (i64 (IntKind.i64.wrap (i + 1)) :: jn 14 []))), defers := [(none, [AV.yld 2])], fn := 130, foot := 0, round := false } [AObj.ints IntKind.u64 ds, AObj.bld 147 (some 3), AObj.dblk, AObj.brow 5 ((rOs x1).getD 1 AObj.dead).bytesOf] X (bK (E130_4 r196) (m + 60) 4 k) else bif okAlt { pan := false, s := Sh.nilI, os := [ShO.bld 147 (some 2), ShO.dead, ShO.brow 5] } x1 then L { tmps := (jn 3 (AV.ptr 0 0 :: J :: J :: AV.ptr 1 0 :: jn 26 (i64 (IntKind.i64.wrap (i + 1)) :: jn 14 []))), defers := [(none, [AV.yld 2])], fn := 130, foot := 0, round := false } [AObj.ints IntKind.u64 ds, AObj.bld 147 (some 3), AObj.dblk, AObj.brow 5 ((rOs x1).getD 2 AObj.dead).bytesOf] X (bK (E130_4 r196) (m + 60) 4 k) else none else none else none else none else k AExit.normal { tmps := (jn 6 (AV.ptr 0 0 :: jn 41 [])), defers := [(none, [AV.yld 1])], fn := 130, foot := 0, round := false } [AObj.bld 147 (some 2), AObj.dblk, AObj.brow 5 t] := by subst e1; kernel_rfl
theorem T130_4s (r196 : RF) (i : Int) (ds : List Int) (t : ByteArray) (d m : Nat) (X : Type) (k : AExit → AAct → List AObj → Option X)
    (x1 : RE) (e1 : r196 [AV.ptr 0 0, u8 (IntKind.u8.wrap (((List.map u ds).getD (0 + (IntKind.i64.wrap (i.tdiv 8)).toNat * 1) J).toInt.fdiv (2 ^ min (IntKind.i64.wrap (i.tmod 8 * 8)).toNat IntKind.u64.bits)))] [AObj.bld 147 (some 1), AObj.brow 5 t] = x1) :
    exec (E130_4 r196) (d + 60) 4 (.loop (rnd Tryz.f130 4)) ⟨(jn 3 (.ptr 0 0 :: J :: J :: .ptr 1 0 :: jn 26 (i64 i :: jn 14 []))), [(none, [.yld 2])], 130, 0, false⟩ [.ints .u64 ds, .bld 147 (some 3), .dblk, .brow 5 t] X (bK (E130_4 r196) (m + 60) 4 k) =
    bif ilt i 32 then bif decide (0 ≤ IntKind.i64.wrap (i.tdiv 8)) && decide (IntKind.i64.wrap (i.tdiv 8) < (↑25 : Int)) then bif decide (0 + (IntKind.i64.wrap (i.tdiv 8)).toNat * 1 < (List.map u ds).length) && (AV.isInt IntKind.u64 ((List.map u ds).getD (0 + (IntKind.i64.wrap (i.tdiv 8)).toNat * 1) J) && true) then bif decide (0 ≤ IntKind.i64.wrap (i.tmod 8 * 8)) then bif okAlt { pan := false, s := Sh.nilI, os := [ShO.bld 147 (some 1), ShO.brow 5] } x1 then exec (E130_4 r196) (d + 59) 4 (.loop (rnd Tryz.f130 4)) { tmps := (jn 3 (AV.ptr 0 0 :: J :: J :: AV.ptr 1 0 :: jn 26 (i64 (IntKind.i64.wrap (i + 1)) :: jn 14 []))), defers := [(none, [AV.yld 2])], fn := 130, foot := 0, round := false } [AObj.ints IntKind.u64 ds, AObj.bld 147 (some 3), AObj.dblk, AObj.brow 5 ((rOs x1).getD 1 AObj.dead).bytesOf] X (bK (E130_4 r196) (m + 60) 4 k) else bif okAlt { pan := false, s := Sh.nilI, os := [ShO.bld 147 (some 2), ShO.dead, ShO.brow 5] } x1 then exec (E130_4 r196) (d + 59) 4 (.loop (rnd Tryz.f130 4)) { tmps := (jn 3 (AV.ptr 0 0 :: J :: J :: AV.ptr 1 0 :: jn 26 (i64 (IntKind.i64.wrap (i + 1)) :: jn 14 []))), defers := [(none, [AV.yld 2])], fn := 130, foot := 0, round := false } [AObj.ints IntKind.u64 ds, AObj.bld 147 (some 3), AObj.dblk, AObj.brow 5 ((rOs x1).getD 2 AObj.dead).bytesOf] X (bK (E130_4 r196) (m + 60) 4 k) else none else none else none else none else k AExit.normal { tmps := (jn 6 (AV.ptr 0 0 :: jn 41 [])), defers := [(none, [AV.yld 1])], fn := 130, foot := 0, round := false } [AObj.bld 147 (some 2), AObj.dblk, AObj.brow 5 t] := (exec_loop _ _ _ _ _ _ _ _).trans (TL130_4s r196 i ds t d m (fun a os X k => exec (E130_4 r196) (d + 59) 4 (.loop (rnd Tryz.f130 4)) a os X k) X k _ e1)
noncomputable def E130_2 : Env := En 130 [(2, [3, 4, 12, 13], [3]), (4, [3, 6, 33], [6])] [] [] [] [] [] [(2, [2])]
noncomputable def a130_2 : BAlt := ⟨.normal, (sj 3 (.ptr 2 0 :: sj 44 [])), [.dead, .cells [.wref 3], .ints .u64, .row 1 [sh8]], []⟩
noncomputable def A130_2 : List BAlt := [a130_2]
noncomputable def h130_2 : RB := runB (blockRun (E130_2) (fun _ _ => 200) 2)
theorem q130_2 (c : Code) (a : AAct) (os : List AObj) : h130_2 c a os = exec (E130_2) ((fun _ _ => 200) a os) 2 (.block 2 c) a os _ finB := qB _ _ _ _ _ _
theorem k130_2 : blk Tryz.f130 2 = .loop (rnd Tryz.f130 2) := by kernel_rfl
theorem p130_2 (T : List AV) (os : List AObj) (F : Nat) (hF : (fun _ _ => 200) (⟨T, [], 130, 4, true⟩ : AAct) os = F + 1) : h130_2 (blk Tryz.f130 2) ⟨T, [], 130, 4, true⟩ os = exec (E130_2) F 2 (.loop (rnd Tryz.f130 2)) ⟨T, [], 130, 4, true⟩ os _ (bK (E130_2) F 2 finB) := by
  rw [q130_2, hF, exec_block (by kernel_rfl), k130_2]
theorem okb130_2 : BlockOK P 130 2 (bShaped A130_2 [] (some [3, 4, 12, 13]) h130_2) := by
  unfold h130_2 E130_2
  refine okBl _ ?_ ?_ ?_ _ _ _
  · exact tnil
  · exact trivial
  · exact hnil
theorem TL130_2r (s : ByteArray) (n i : Int) (ds : List Int) (es : List (List AV)) (d m : Nat) (L : AAct → List AObj → ∀ X : Type, (AExit → AAct → List AObj → Option X) → Option X) (X : Type) (k : AExit → AAct → List AObj → Option X) :
    roundL (E130_2) (d + 59) 2 (rnd Tryz.f130 2) L ⟨(jn 3 (.ptr 2 0 :: st s :: jn 7 (i64 n :: i64 i :: jn 34 []))), [], 130, 4, true⟩ [.dead, .cells [.wref 3], .ints .u64 ds, .row 1 es] X (bK (E130_2) (m + 60) 2 k) =
    bif ilt i n then bif decide (0 ≤ IntKind.i64.wrap (i.tdiv 8)) && decide (IntKind.i64.wrap (i.tdiv 8) < (↑25 : Int)) then bif decide (0 + (IntKind.i64.wrap (i.tdiv 8)).toNat * 1 < (List.map u ds).length) && (AV.isInt IntKind.u64 ((List.map u ds).getD (0 + (IntKind.i64.wrap (i.tdiv 8)).toNat * 1) J) && true) then bif decide (0 ≤ i) && decide (i < (↑s.size : Int)) then bif decide (0 ≤ IntKind.i64.wrap (i.tmod 8 * 8)) then bif decide (0 ≤ IntKind.i64.wrap (i.tdiv 8)) && decide (IntKind.i64.wrap (i.tdiv 8) < (↑25 : Int)) then bif decide (0 + (IntKind.i64.wrap (i.tdiv 8)).toNat * 1 + 1 ≤ ds.length) then L { tmps := (jn 3 (AV.ptr 2 0 :: st s :: jn 7 (i64 n :: i64 (IntKind.i64.wrap (i + 1)) :: jn 34 []))), defers := [], fn := 130, foot := 4, round := true } [AObj.dead, AObj.cells [AV.wref 3], AObj.ints IntKind.u64 (ds.set (0 + (IntKind.i64.wrap (i.tdiv 8)).toNat * 1) (IntKind.u64.wrap (↑(BitVec.ofInt IntKind.u64.bits ((List.map u ds).getD (0 + (IntKind.i64.wrap (i.tdiv 8)).toNat * 1) J).toInt ^^^ BitVec.ofInt IntKind.u64.bits (IntKind.u64.wrap (IntKind.u64.wrap (↑(s.data.1.getD i.toNat 0).toNat : Int) * 2 ^ min (IntKind.i64.wrap (i.tmod 8 * 8)).toNat IntKind.u64.bits))).toNat : Int))), AObj.row 1 es] X (bK E130_2 (m + 60) 2 k) else none else none else none else none else none else none else k AExit.normal { tmps := (jn 3 (AV.ptr 2 0 :: jn 44 [])), defers := [], fn := 130, foot := 4, round := true } [AObj.dead, AObj.cells [AV.wref 3], AObj.ints IntKind.u64 ds, AObj.row 1 es] := by kernel_rfl
theorem T130_2r (s : ByteArray) (n i : Int) (ds : List Int) (es : List (List AV)) (d m : Nat) (X : Type) (k : AExit → AAct → List AObj → Option X) :
    exec (E130_2) (d + 60) 2 (.loop (rnd Tryz.f130 2)) ⟨(jn 3 (.ptr 2 0 :: st s :: jn 7 (i64 n :: i64 i :: jn 34 []))), [], 130, 4, true⟩ [.dead, .cells [.wref 3], .ints .u64 ds, .row 1 es] X (bK (E130_2) (m + 60) 2 k) =
    bif ilt i n then bif decide (0 ≤ IntKind.i64.wrap (i.tdiv 8)) && decide (IntKind.i64.wrap (i.tdiv 8) < (↑25 : Int)) then bif decide (0 + (IntKind.i64.wrap (i.tdiv 8)).toNat * 1 < (List.map u ds).length) && (AV.isInt IntKind.u64 ((List.map u ds).getD (0 + (IntKind.i64.wrap (i.tdiv 8)).toNat * 1) J) && true) then bif decide (0 ≤ i) && decide (i < (↑s.size : Int)) then bif decide (0 ≤ IntKind.i64.wrap (i.tmod 8 * 8)) then bif decide (0 ≤ IntKind.i64.wrap (i.tdiv 8)) && decide (IntKind.i64.wrap (i.tdiv 8) < (↑25 : Int)) then bif decide (0 + (IntKind.i64.wrap (i.tdiv 8)).toNat * 1 + 1 ≤ ds.length) then exec (E130_2) (d + 59) 2 (.loop (rnd Tryz.f130 2)) { tmps := (jn 3 (AV.ptr 2 0 :: st s :: jn 7 (i64 n :: i64 (IntKind.i64.wrap (i + 1)) :: jn 34 []))), defers := [], fn := 130, foot := 4, round := true } [AObj.dead, AObj.cells [AV.wref 3], AObj.ints IntKind.u64 (ds.set (0 + (IntKind.i64.wrap (i.tdiv 8)).toNat * 1) (IntKind.u64.wrap (↑(BitVec.ofInt IntKind.u64.bits ((List.map u ds).getD (0 + (IntKind.i64.wrap (i.tdiv 8)).toNat * 1) J).toInt ^^^ BitVec.ofInt IntKind.u64.bits (IntKind.u64.wrap (IntKind.u64.wrap (↑(s.data.1.getD i.toNat 0).toNat : Int) * 2 ^ min (IntKind.i64.wrap (i.tmod 8 * 8)).toNat IntKind.u64.bits))).toNat : Int))), AObj.row 1 es] X (bK E130_2 (m + 60) 2 k) else none else none else none else none else none else none else k AExit.normal { tmps := (jn 3 (AV.ptr 2 0 :: jn 44 [])), defers := [], fn := 130, foot := 4, round := true } [AObj.dead, AObj.cells [AV.wref 3], AObj.ints IntKind.u64 ds, AObj.row 1 es] := (exec_loop _ _ _ _ _ _ _ _).trans (TL130_2r s n i ds es d m (fun a os X k => exec (E130_2) (d + 59) 2 (.loop (rnd Tryz.f130 2)) a os X k) X k)
noncomputable def E249_0 (r195 : RF) (h130_2 : RB) : Env := En2 249 [(0, [0, 1, 3], [])] [] [(0, [2])] 130 [(4, [3, 6, 33], [6])] [(2, bShaped A130_2 [] (some [3, 4, 12, 13]) h130_2)] [] [] [(195, shaped A195 r195)]
noncomputable def a249_0 : BAlt := ⟨.normal, (sj 19 []), [.loop 130 (.str :: sun 1 (.str :: .ptr 2 0 :: sun 4 (.str :: .fn0 249 [.ptr 1 0] :: sun 38 []))) [10] (asgOf (blk Tryz.f130 0)) (bdOf (blk Tryz.f130 0)), .cells [.wref 3], .ints .u64, .row 1 [sh8]], []⟩
noncomputable def A249_0 : List BAlt := [a249_0]
noncomputable def h249_0 : RB := runB (blockRun (E249_0 r195 h130_2) (fun _ _ => 1000) 0)
theorem q249_0 (c : Code) (a : AAct) (os : List AObj) : h249_0 c a os = exec (E249_0 r195 h130_2) ((fun _ _ => 1000) a os) 0 (.block 0 c) a os _ finB := qB _ _ _ _ _ _
theorem k249_0 : blk Tryz.f249 0 = .loop (rnd Tryz.f249 0) := by kernel_rfl
theorem p249_0 (T : List AV) (os : List AObj) (F : Nat) (hF : (fun _ _ => 1000) (⟨T, [], 249, 4, false⟩ : AAct) os = F + 1) : h249_0 (blk Tryz.f249 0) ⟨T, [], 249, 4, false⟩ os = exec (E249_0 r195 h130_2) F 0 (.loop (rnd Tryz.f249 0)) ⟨T, [], 249, 4, false⟩ os _ (bK (E249_0 r195 h130_2) F 0 finB) := by
  rw [q249_0, hF, exec_block (by kernel_rfl), k249_0]
theorem okb249_0 : BlockOK P 249 0 (bShaped A249_0 [] (some [0, 1, 3]) h249_0) := by
  unfold h249_0 E249_0
  refine okBl2 _ ?_ ?_ ?_ ?_ _ _ _
  · exact (tcons ok195 tnil)
  · exact trivial
  · exact hnil
  · exact (hcons okb130_2 hnil)
theorem TL249_0r (r195 : RF) (h130_2 : RB) (s : ByteArray) (at_ : Int) (ds : List Int) (es : List (List AV)) (d m : Nat) (L : AAct → List AObj → ∀ X : Type, (AExit → AAct → List AObj → Option X) → Option X) (X : Type) (k : AExit → AAct → List AObj → Option X)
    (x1 : RBE) (e1 : h130_2 (blk Tryz.f130 2) { tmps := (jn 3 (AV.ptr 2 0 :: st (bytesL (List.take ((IntKind.i64.wrap (at_ + 136)).toNat - at_.toNat) (List.drop at_.toNat es))) :: jn 7 (i64 (↑(bytesL (List.take ((IntKind.i64.wrap (at_ + 136)).toNat - at_.toNat) (List.drop at_.toNat es))).size : Int) :: i64 0 :: jn 34 []))), defers := [], fn := 130, foot := 4, round := true } [AObj.dead, AObj.cells [AV.wref 3], AObj.ints IntKind.u64 ds, AObj.row 1 es] = x1)
    (x2 : RE) (e2 : r195 [AV.agg (ld25 ((bOs x1).getD 2 AObj.dead).intsOf)] [] = x2) :
    roundL (E249_0 r195 h130_2) (d + 59) 0 (rnd Tryz.f249 0) L ⟨(.yld 0 :: .ptr 1 0 :: J :: i64 at_ :: jn 15 []), [], 249, 4, false⟩ [.loop 130 (st s :: un 1 (st e0 :: .ptr 2 0 :: un 4 (st s :: .func (.func 249) [] [.ptr 1 0] :: un 38 []))) [10] (asgOf (blk Tryz.f130 0)) (bdOf (blk Tryz.f130 0)) none, .cells [.wref 3], .ints .u64 ds, .row 1 es] X (bK (E249_0 r195 h130_2) (m + 60) 0 k) =
    bif ilt at_ (↑es.length : Int) then bif decide (0 ≤ IntKind.i64.wrap (at_ + 136)) && decide (IntKind.i64.wrap (at_ + 136) ≤ (↑es.length : Int)) && (decide (0 ≤ at_) && decide (at_ ≤ IntKind.i64.wrap (at_ + 136))) then bif true && (List.take ((IntKind.i64.wrap (at_ + 136)).toNat - at_.toNat) (List.drop at_.toNat es)).all isByte then bif okB a130_2 130 4 true x1 then bif dm25 ((bOs x1).getD 2 AObj.dead).intsOf then bif okAlt a195 x2 then bif decide (((bOs x1).getD 2 AObj.dead).intsOf.length = 25) then L { tmps := (AV.yld 0 :: AV.ptr 1 0 :: J :: i64 (IntKind.i64.wrap (at_ + 136)) :: jn 15 []), defers := [], fn := 249, foot := 4, round := false } [AObj.loop 130 (st s :: un 1 (st { data := #[] } :: AV.ptr 2 0 :: un 4 (st s :: AV.func (Fn.func 249) [] [AV.ptr 1 0] :: un 38 []))) [10] (asgOf (blk Tryz.f130 0)) (bdOf (blk Tryz.f130 0)) none, AObj.cells [AV.wref 3], AObj.cells (tu25 (rV x2).items), AObj.row 1 (List.map (fun e => rebs [sh8] e 0) ((bOs x1).getD 3 AObj.dead).rowOf)] X (bK (E249_0 r195 h130_2) (m + 60) 0 k) else none else none else none else none else none else none else k AExit.normal { tmps := (jn 19 []), defers := [], fn := 249, foot := 4, round := false } [AObj.loop 130 (st s :: un 1 (st { data := #[] } :: AV.ptr 2 0 :: un 4 (st s :: AV.func (Fn.func 249) [] [AV.ptr 1 0] :: un 38 []))) [10] (asgOf (blk Tryz.f130 0)) (bdOf (blk Tryz.f130 0)) none, AObj.cells [AV.wref 3], AObj.ints IntKind.u64 ds, AObj.row 1 es] := by subst e1 e2; kernel_rfl
theorem T249_0r (r195 : RF) (h130_2 : RB) (s : ByteArray) (at_ : Int) (ds : List Int) (es : List (List AV)) (d m : Nat) (X : Type) (k : AExit → AAct → List AObj → Option X)
    (x1 : RBE) (e1 : h130_2 (blk Tryz.f130 2) { tmps := (jn 3 (AV.ptr 2 0 :: st (bytesL (List.take ((IntKind.i64.wrap (at_ + 136)).toNat - at_.toNat) (List.drop at_.toNat es))) :: jn 7 (i64 (↑(bytesL (List.take ((IntKind.i64.wrap (at_ + 136)).toNat - at_.toNat) (List.drop at_.toNat es))).size : Int) :: i64 0 :: jn 34 []))), defers := [], fn := 130, foot := 4, round := true } [AObj.dead, AObj.cells [AV.wref 3], AObj.ints IntKind.u64 ds, AObj.row 1 es] = x1)
    (x2 : RE) (e2 : r195 [AV.agg (ld25 ((bOs x1).getD 2 AObj.dead).intsOf)] [] = x2) :
    exec (E249_0 r195 h130_2) (d + 60) 0 (.loop (rnd Tryz.f249 0)) ⟨(.yld 0 :: .ptr 1 0 :: J :: i64 at_ :: jn 15 []), [], 249, 4, false⟩ [.loop 130 (st s :: un 1 (st e0 :: .ptr 2 0 :: un 4 (st s :: .func (.func 249) [] [.ptr 1 0] :: un 38 []))) [10] (asgOf (blk Tryz.f130 0)) (bdOf (blk Tryz.f130 0)) none, .cells [.wref 3], .ints .u64 ds, .row 1 es] X (bK (E249_0 r195 h130_2) (m + 60) 0 k) =
    bif ilt at_ (↑es.length : Int) then bif decide (0 ≤ IntKind.i64.wrap (at_ + 136)) && decide (IntKind.i64.wrap (at_ + 136) ≤ (↑es.length : Int)) && (decide (0 ≤ at_) && decide (at_ ≤ IntKind.i64.wrap (at_ + 136))) then bif true && (List.take ((IntKind.i64.wrap (at_ + 136)).toNat - at_.toNat) (List.drop at_.toNat es)).all isByte then bif okB a130_2 130 4 true x1 then bif dm25 ((bOs x1).getD 2 AObj.dead).intsOf then bif okAlt a195 x2 then bif decide (((bOs x1).getD 2 AObj.dead).intsOf.length = 25) then exec (E249_0 r195 h130_2) (d + 59) 0 (.loop (rnd Tryz.f249 0)) { tmps := (AV.yld 0 :: AV.ptr 1 0 :: J :: i64 (IntKind.i64.wrap (at_ + 136)) :: jn 15 []), defers := [], fn := 249, foot := 4, round := false } [AObj.loop 130 (st s :: un 1 (st { data := #[] } :: AV.ptr 2 0 :: un 4 (st s :: AV.func (Fn.func 249) [] [AV.ptr 1 0] :: un 38 []))) [10] (asgOf (blk Tryz.f130 0)) (bdOf (blk Tryz.f130 0)) none, AObj.cells [AV.wref 3], AObj.cells (tu25 (rV x2).items), AObj.row 1 (List.map (fun e => rebs [sh8] e 0) ((bOs x1).getD 3 AObj.dead).rowOf)] X (bK (E249_0 r195 h130_2) (m + 60) 0 k) else none else none else none else none else none else none else k AExit.normal { tmps := (jn 19 []), defers := [], fn := 249, foot := 4, round := false } [AObj.loop 130 (st s :: un 1 (st { data := #[] } :: AV.ptr 2 0 :: un 4 (st s :: AV.func (Fn.func 249) [] [AV.ptr 1 0] :: un 38 []))) [10] (asgOf (blk Tryz.f130 0)) (bdOf (blk Tryz.f130 0)) none, AObj.cells [AV.wref 3], AObj.ints IntKind.u64 ds, AObj.row 1 es] := (exec_loop _ _ _ _ _ _ _ _).trans (TL249_0r r195 h130_2 s at_ ds es d m (fun a os X k => exec (E249_0 r195 h130_2) (d + 59) 0 (.loop (rnd Tryz.f249 0)) a os X k) X k _ e1 _ e2)
end Go.Proofs.Vm
end
section
namespace Go.Proofs.Vm
open Go Go.Abs
set_option maxRecDepth 100000
set_option maxHeartbeats 0
theorem exec_seq {E : Env} {n b : Nat} {x y : Code} {a : AAct} {os : List AObj} {X : Type} {k : AExit → AAct → List AObj → Option X} :
    exec E (n + 1) b (.seq x y) a os X k = exec E n b x a os X (fun e a os => match e with | .normal => exec E n b y a os X k | e => k e a os) := by
  simp only [exec]
  congr
def hdC : Code → Code
  | .seq x _ => x
  | c => c
def tlC : Code → Code
  | .seq _ y => y
  | _ => .skip
theorem exec_hd {E : Env} {n b : Nat} {c : Code} (h : c = .seq (hdC c) (tlC c)) {a : AAct} {os : List AObj} {X : Type} {k : AExit → AAct → List AObj → Option X} :
    exec E (n + 1) b c a os X k = exec E n b (hdC c) a os X (fun e a os => match e with | .normal => exec E n b (tlC c) a os X k | e => k e a os) := by
  rw [h]; exact exec_seq
noncomputable def E194 : Env := En 194 [] [] [] [] [] []
noncomputable def a194 : Alt := ⟨false, .fn0 249 [.ptr 0 0], [.cells [.wref 1], .row 1 [sh8]]⟩
noncomputable def A194 : List Alt := [a194]
noncomputable def r194 : RF := runR (body E194 60 194 Tryz.f194 (cod Tryz.f194))
theorem q194 (args : List AV) (os : List AObj) : r194 args os = body E194 60 194 Tryz.f194 (cod Tryz.f194) args os _ fin := qR _ _ _
theorem body_eq (E : Env) (n : Nat) (f : FuncId) (fn : Func) (c : Code) (args : List AV) (os : List AObj) (X : Type) (k : AEnd → List AObj → Option X) :
    body E n f fn c args os X k = exec E n 0 c (initAct f fn args os) os X (fun e a os => ends E (fun c a os => exec E n 0 c a os) n f fn e a os k) := rfl
theorem ok194 : SpecOK P 194 (shaped A194 r194) := by
  unfold r194 E194
  refine okF 60 ?_ ?_ ?_ Tryz.func194 ?_ ?_ _
  · exact tnil
  · exact trivial
  · exact hnil
  · kernel_rfl
  · kernel_rfl
noncomputable abbrev c0 : Code := cod Tryz.f194
noncomputable abbrev c1 : Code := tlC c0
noncomputable abbrev c2 : Code := tlC c1
noncomputable abbrev c3 : Code := tlC c2
noncomputable abbrev c4 : Code := tlC c3
noncomputable abbrev c5 : Code := tlC c4
def z8 : List AV := [.v (.int .u8 0)]
abbrev KX (X : Type) := AExit → AAct → List AObj → Option X
abbrev st194 (l : List AV) : AAct := ⟨l, [], 194, 0, false⟩
def fillN (n : Nat) : Int := IntKind.i64.wrap (IntKind.i64.wrap ((n : Int) + 136) - (n : Int).tmod 136)
theorem B194_0 (s : ByteArray) (X : Type) (K : KX X) (x1 x2 x3 x4 x5 x6 x7 x8 x9 x10 x11 x12 x13 x14 x15 x16 x17 x18 x19 x20 x21 x22 x23 x24 x25 x26 x27 x28 x29 x30 : AV) :
    exec E194 59 0 (hdC c0) (st194 [st s, x1, x2, x3, x4, x5, x6, x7, x8, x9, x10, x11, x12, x13, x14, x15, x16, x17, x18, x19, x20, x21, x22, x23, x24, x25, x26, x27, x28, x29, x30]) [] X K =
    K .normal (st194 [st s, x1, .v .nilFunc, x3, x4, x5, x6, x7, x8, x9, x10, x11, x12, x13, x14, x15, x16, x17, x18, x19, x20, x21, x22, x23, x24, x25, x26, x27, x28, x29, x30]) [] := by kernel_rfl
theorem B194_1 (s : ByteArray) (X : Type) (K : KX X) (x1 x2 x3 x4 x5 x6 x7 x8 x9 x10 x11 x12 x13 x14 x15 x16 x17 x18 x19 x20 x21 x22 x23 x24 x25 x26 x27 x28 x29 x30 : AV) :
    exec E194 58 0 (hdC c1) (st194 [st s, x1, x2, x3, x4, x5, x6, x7, x8, x9, x10, x11, x12, x13, x14, x15, x16, x17, x18, x19, x20, x21, x22, x23, x24, x25, x26, x27, x28, x29, x30]) [] X K =
    bif decide (0 ≤ fillN s.size) && (decide (fillN s.size ≤ fillN s.size) && decide (fillN s.size * (((1 : Nat) : Int) + 1) ≤ 2 ^ 46)) then
      K .normal (st194 [st s, x1, x2, .ptr 1 0, st s, i64 s.size, i64 (IntKind.i64.wrap ((s.size : Int) + 136)), st s, i64 s.size, i64 ((s.size : Int).tmod 136), i64 (fillN s.size), .wref 0, x12, x13, x14, x15, x16, x17, x18, x19, x20, x21, x22, x23, x24, x25, x26, x27, x28, x29, x30]) [.row 1 (List.replicate (fillN s.size).toNat z8), .cells [.wref 0]]
    else none := by kernel_rfl
def strL (s : ByteArray) : List (List AV) := s.data.toList.map fun b => [.v (.int .u8 b.toNat)]
theorem B194_2 (s : ByteArray) (es : List (List AV)) (X : Type) (K : KX X) (x1 x2 x4 x5 x6 x7 x8 x9 x10 x11 x12 x13 x14 x15 x16 x17 x18 x19 x20 x21 x22 x23 x24 x25 x26 x27 x28 x29 x30 : AV) :
    exec E194 57 0 (hdC c2) (st194 [st s, x1, x2, .ptr 1 0, x4, x5, x6, x7, x8, x9, x10, x11, x12, x13, x14, x15, x16, x17, x18, x19, x20, x21, x22, x23, x24, x25, x26, x27, x28, x29, x30]) [.row 1 es, .cells [.wref 0]] X K =
      K .normal (st194 [st s, x1, x2, .ptr 1 0, x4, x5, x6, x7, x8, x9, x10, x11, .wref 0, st s, i64 (min (strL s).length es.length : Nat), x15, x16, x17, x18, x19, x20, x21, x22, x23, x24, x25, x26, x27, x28, x29, x30]) [.row 1 ((strL s).take (min (strL s).length es.length) ++ es.drop (min (strL s).length es.length)), .cells [.wref 0]] := by kernel_rfl
def b0 (es : List (List AV)) (i : Nat) : AV := (es.getD i []).getD 0 J
def orB (es : List (List AV)) (i : Nat) (c : Int) : Int := IntKind.u8.wrap ((BitVec.ofInt IntKind.u8.bits (b0 es i).toInt ||| BitVec.ofInt IntKind.u8.bits c).toNat : Int)
theorem B194_3 (s : ByteArray) (es : List (List AV)) (X : Type) (K : KX X) (x1 x2 x4 x5 x6 x7 x8 x9 x10 x11 x12 x13 x14 x15 x16 x17 x18 x19 x20 x21 x22 x23 x24 x25 x26 x27 x28 x29 x30 : AV) :
    exec E194 56 0 (hdC c3) (st194 [st s, x1, x2, .ptr 1 0, x4, x5, x6, x7, x8, x9, x10, x11, x12, x13, x14, x15, x16, x17, x18, x19, x20, x21, x22, x23, x24, x25, x26, x27, x28, x29, x30]) [.row 1 es, .cells [.wref 0]] X K =
    bif decide (0 ≤ (s.size : Int)) && decide ((s.size : Int) < es.length) then bif decide ((s.size : Int).toNat < es.length) && (decide (0 < (es.getD (s.size : Int).toNat []).length) && (AV.isInt .u8 (b0 es (s.size : Int).toNat) && true)) then
    bif decide (0 ≤ (s.size : Int)) && decide ((s.size : Int) < es.length) then bif decide ((s.size : Int).toNat < es.length) then
      K .normal (st194 [st s, x1, x2, .ptr 1 0, x4, x5, x6, x7, x8, x9, x10, x11, x12, x13, x14, .wref 0, st s, i64 s.size, .eptr 0 (s.size : Int).toNat 0, u8 (b0 es (s.size : Int).toNat).toInt, u8 (orB es (s.size : Int).toNat 1), .eptr 0 (s.size : Int).toNat 0, x22, x23, x24, x25, x26, x27, x28, x29, x30]) [.row 1 (es.set (s.size : Int).toNat [u8 (orB es (s.size : Int).toNat 1)]), .cells [.wref 0]]
    else none else none else none else none := by kernel_rfl
theorem B194_4 (s : ByteArray) (es : List (List AV)) (X : Type) (K : KX X) (x1 x2 x4 x5 x6 x7 x8 x9 x10 x11 x12 x13 x14 x15 x16 x17 x18 x19 x20 x21 x22 x23 x24 x25 x26 x27 x28 x29 x30 : AV) (n : Int) (hn : IntKind.i64.wrap ((es.length : Int) - 1) = n) :
    exec E194 55 0 (hdC c4) (st194 [st s, x1, x2, .ptr 1 0, x4, x5, x6, x7, x8, x9, x10, x11, x12, x13, x14, x15, x16, x17, x18, x19, x20, x21, x22, x23, x24, x25, x26, x27, x28, x29, x30]) [.row 1 es, .cells [.wref 0]] X K =
    bif decide (0 ≤ n) && decide (n < es.length) then bif decide (n.toNat < es.length) && (decide (0 < (es.getD n.toNat []).length) && (AV.isInt .u8 (b0 es n.toNat) && true)) then
    bif decide (0 ≤ n) && decide (n < es.length) then bif decide (n.toNat < es.length) then
      K .normal (st194 [st s, x1, x2, .ptr 1 0, x4, x5, x6, x7, x8, x9, x10, x11, x12, x13, x14, x15, x16, x17, x18, x19, x20, x21, .wref 0, .wref 0, i64 es.length, i64 n, .eptr 0 n.toNat 0, u8 (b0 es n.toNat).toInt, u8 (orB es n.toNat 128), .eptr 0 n.toNat 0, x30]) [.row 1 (es.set n.toNat [u8 (orB es n.toNat 128)]), .cells [.wref 0]]
    else none else none else none else none := by subst hn; kernel_rfl
theorem B194_5 (s : ByteArray) (es : List (List AV)) (X : Type) (k : AEnd → List AObj → Option X) (x1 x2 x4 x5 x6 x7 x8 x9 x10 x11 x12 x13 x14 x15 x16 x17 x18 x19 x20 x21 x22 x23 x24 x25 x26 x27 x28 x29 x30 : AV) :
    exec E194 55 0 c5 (st194 [st s, x1, x2, .ptr 1 0, x4, x5, x6, x7, x8, x9, x10, x11, x12, x13, x14, x15, x16, x17, x18, x19, x20, x21, x22, x23, x24, x25, x26, x27, x28, x29, x30]) [.row 1 es, .cells [.wref 0]] X (fun e a os => ends E194 (fun c a os => exec E194 60 0 c a os) 60 194 Tryz.f194 e a os k) =
    k (.ret (.func (.func 249) [] [.ptr 0 0])) [.cells [.wref 1], .row 1 es] := by kernel_rfl
def isB (e : List AV) : Prop := ∃ n : Int, 0 ≤ n ∧ n ≤ 255 ∧ e = [u8 n]
def AllB (es : List (List AV)) : Prop := ∀ e ∈ es, isB e
theorem AllB.set {es : List (List AV)} (h : AllB es) (i : Nat) {e : List AV} (he : isB e) : AllB (es.set i e) := fun x hx => by
  rcases List.mem_or_eq_of_mem_set hx with h' | h'
  · exact h x h'
  · exact h' ▸ he
theorem allB_strL (s : ByteArray) : AllB (strL s) := fun e he => by
  simp only [strL, List.mem_map] at he
  obtain ⟨b, _, rfl⟩ := he
  have : b.toNat < 256 := UInt8.toNat_lt b
  exact ⟨b.toNat, by omega, by omega, rfl⟩
theorem isB_wrap (x : Int) : isB [u8 (IntKind.u8.wrap x)] := ⟨_, by rw [IntKind.wrap_u8]; omega, by rw [IntKind.wrap_u8]; omega, rfl⟩
theorem AllB.get {es : List (List AV)} (h : AllB es) {i : Nat} (hi : i < es.length) : (decide (i < es.length) && (decide (0 < (es.getD i []).length) && (AV.isInt .u8 (b0 es i) && true))) = true := by
  obtain ⟨n, _, _, hn⟩ := h (es.getD i []) (by rw [List.getD_eq_getElem?_getD, List.getElem?_eq_getElem hi]; exact List.getElem_mem hi)
  unfold b0
  rw [decide_eq_true hi, hn]; rfl
theorem fillN_eq {n : Nat} (h : n ≤ 1048576) : fillN n = (n : Int) + 136 - (n : Int) % 136 := by
  unfold fillN
  rw [Int.tmod_eq_emod_of_nonneg (by omega), w8in (n := (n : Int) + 136) (by omega) (by omega), w8in (by omega) (by omega)]
theorem w194 {s : ByteArray} (hs : s.size ≤ 1048576) : ∃ es, r194 [st s] [] = some (.ret (.func (.func 249) [] [.ptr 0 0]), [.cells [.wref 1], .row 1 es]) ∧ AllB es ∧ (es.length : Int) = (s.size : Int) + 136 - (s.size : Int) % 136 := by
  have hN := fillN_eq hs
  have ei : initAct 194 Tryz.f194 [st s] [] = st194 [st s, .v undef, .v undef, .v undef, .v undef, .v undef, .v undef, .v undef, .v undef, .v undef, .v undef, .v undef, .v undef, .v undef, .v undef, .v undef, .v undef, .v undef, .v undef, .v undef, .v undef, .v undef, .v undef, .v undef, .v undef, .v undef, .v undef, .v undef, .v undef, .v undef, .v undef] := by kernel_rfl
  have e0 := (q194 [st s] []).trans (body_eq E194 60 194 Tryz.f194 (cod Tryz.f194) [st s] [] _ fin)
  rw [ei] at e0
  have k0 : c0 = .seq (hdC c0) (tlC c0) := by kernel_rfl
  have k1 : c1 = .seq (hdC c1) (tlC c1) := by kernel_rfl
  have k2 : c2 = .seq (hdC c2) (tlC c2) := by kernel_rfl
  have k3 : c3 = .seq (hdC c3) (tlC c3) := by kernel_rfl
  have k4 : c4 = .seq (hdC c4) (tlC c4) := by kernel_rfl
  have hl : (strL s).length = s.size := by simp only [strL, List.length_map, Array.length_toList]; rfl
  have h := e0.trans ((exec_hd (n := 59) k0).trans (B194_0 s _ _ _ _ _ _ _ _ _ _ _ _ _ _ _ _ _ _ _ _ _ _ _ _ _ _ _ _ _ _ _ _))
  replace h := h.trans ((exec_hd (n := 58) k1).trans (B194_1 s _ _ _ _ _ _ _ _ _ _ _ _ _ _ _ _ _ _ _ _ _ _ _ _ _ _ _ _ _ _ _ _))
  rw [hN] at h
  generalize hz : (s.size : Int) + 136 - (s.size : Int) % 136 = z at *
  have hz2 : (s.size : Int) < z ∧ z ≤ s.size + 136 := by omega
  replace h := go h (by simp; omega)
  have hes0 : AllB (List.replicate z.toNat z8) := fun e he => by rw [List.eq_of_mem_replicate he]; exact ⟨0, by omega, by omega, rfl⟩
  have hln0 : (List.replicate z.toNat z8).length = z.toNat := List.length_replicate
  generalize List.replicate z.toNat z8 = es at hes0 hln0 h
  replace h := h.trans ((exec_hd (n := 57) k2).trans (B194_2 s es _ _ _ _ _ _ _ _ _ _ _ _ _ _ _ _ _ _ _ _ _ _ _ _ _ _ _ _ _ _ _))
  have hm : min (strL s).length es.length = s.size := by rw [hl, hln0]; omega
  rw [hm] at h
  have hes1 : AllB ((strL s).take s.size ++ es.drop s.size) := fun e he => by
    rcases List.mem_append.1 he with h | h
    · exact allB_strL s e (List.mem_of_mem_take h)
    · exact hes0 e (List.mem_of_mem_drop h)
  have hln1 : ((strL s).take s.size ++ es.drop s.size).length = z.toNat := by
    rw [List.length_append, List.length_take, List.length_drop, hl, hln0]; omega
  generalize (strL s).take s.size ++ es.drop s.size = es1 at hes1 hln1 h
  replace h := h.trans ((exec_hd (n := 56) k3).trans (B194_3 s es1 _ _ _ _ _ _ _ _ _ _ _ _ _ _ _ _ _ _ _ _ _ _ _ _ _ _ _ _ _ _ _))
  replace h := go h (dec2 (by omega) (by omega))
  replace h := go h (AllB.get hes1 (i := (s.size : Int).toNat) (by omega))
  replace h := go h (dec2 (by omega) (by omega))
  replace h := go h (dec1 (by omega))
  have hes2 := hes1.set (s.size : Int).toNat (isB_wrap (↑(BitVec.ofInt IntKind.u8.bits (b0 es1 (s.size : Int).toNat).toInt ||| BitVec.ofInt IntKind.u8.bits 1).toNat : Int))
  have hln2 : (es1.set (s.size : Int).toNat [u8 (orB es1 (s.size : Int).toNat 1)]).length = z.toNat := by rw [List.length_set, hln1]
  replace hes2 : AllB (es1.set (s.size : Int).toNat [u8 (orB es1 (s.size : Int).toNat 1)]) := hes2
  generalize es1.set (s.size : Int).toNat [u8 (orB es1 (s.size : Int).toNat 1)] = es2 at hes2 hln2 h
  have hw : IntKind.i64.wrap ((es2.length : Int) - 1) = z - 1 := by rw [hln2, w8in (by omega) (by omega)]; omega
  replace h := h.trans ((exec_hd (n := 55) k4).trans (B194_4 s es2 _ _ _ _ _ _ _ _ _ _ _ _ _ _ _ _ _ _ _ _ _ _ _ _ _ _ _ _ _ _ _ (z - 1) hw))
  replace h := go h (dec2 (by omega) (by omega))
  replace h := go h (AllB.get hes2 (i := (z - 1).toNat) (by omega))
  replace h := go h (dec2 (by omega) (by omega))
  replace h := go h (dec1 (by omega))
  have hes3 := hes2.set (z - 1).toNat (isB_wrap (↑(BitVec.ofInt IntKind.u8.bits (b0 es2 (z - 1).toNat).toInt ||| BitVec.ofInt IntKind.u8.bits 128).toNat : Int))
  replace h := h.trans (B194_5 s _ _ _ _ _ _ _ _ _ _ _ _ _ _ _ _ _ _ _ _ _ _ _ _ _ _ _ _ _ _ _ _)
  exact ⟨_, h, hes3, by rw [List.length_set, hln2]; omega⟩
end Go.Proofs.Vm
end
section
open Go Go.Abs
namespace Go.Proofs.Vm
set_option maxRecDepth 100000
set_option maxHeartbeats 0
noncomputable def E130 (r138 : RF) (r194 : RF) (h130_4 : RB) (h249_0 : RB) : Env := En2 130 [(2, [3, 4, 12, 13], [3])] [(4, bShaped A130_4 [] (some [3, 6, 33]) h130_4)] [] 249 [] [(0, bShaped A249_0 [] (some [0, 1, 3]) h249_0)] [] [(249, Tryz.f249, cod Tryz.f249)] [(138, shaped A138 r138), (194, shaped A194 r194)]
noncomputable def a130 : Alt := ⟨false, shS, []⟩
noncomputable def A130 : List Alt := [a130]
theorem T130 (r138 : RF) (r194 : RF) (h130_4 : RB) (h249_0 : RB) (s : ByteArray) (X : Type) (k : AEnd → List AObj → Option X)
    (x1 : RE) (e1 : r194 [st s] [] = x1)
    (x2 : RBE) (e2 : h249_0 (blk Tryz.f249 0) { tmps := (AV.yld 0 :: AV.ptr 1 0 :: J :: i64 0 :: jn 15 []), defers := [], fn := 249, foot := 4, round := false } [AObj.loop 130 (st s :: un 1 (st { data := #[] } :: AV.ptr 2 0 :: un 4 (st s :: AV.func (Fn.func 249) [] [AV.ptr 1 0] :: un 38 []))) [10] (asgOf (blk Tryz.f130 0)) (bdOf (blk Tryz.f130 0)) none, AObj.cells [AV.wref 3], AObj.cells Z25, AObj.row 1 (List.map (fun e => rebs [sh8] e 0) ((rOs x1).getD 1 AObj.dead).rowOf)] = x2)
    (x3 : RBE) (e3 : h130_4 (blk Tryz.f130 4) { tmps := (jn 3 (AV.ptr 0 0 :: J :: J :: AV.ptr 1 0 :: jn 26 (i64 0 :: jn 14 []))), defers := [(none, [AV.yld 2])], fn := 130, foot := 0, round := false } [AObj.ints IntKind.u64 ((bOs x2).getD 2 AObj.dead).intsOf, AObj.bld 147 none, AObj.dblk] = x3)
    (x4 : RE) (e4 : r138 [AV.ptr 0 0] [AObj.bld 147 (some 1), AObj.brow 5 ((bOs x3).getD 2 AObj.dead).bytesOf] = x4) :
    body (E130 r138 r194 h130_4 h249_0) 60 130 Tryz.f130 (cod Tryz.f130) [st s] [] X k =
    bif okAlt a194 x1 then bif okB a249_0 249 4 false x2 then bif okB a130_4 130 0 false x3 then bif okAlt { pan := false, s := Sh.str, os := [ShO.dead] } x4 then none else bif okAlt { pan := false, s := Sh.str, os := [ShO.dead, ShO.dead] } x4 then k (.ret (st (rV x4).toStr)) [] else none else none else none else none := by subst e1 e2 e3 e4; kernel_rfl
noncomputable def r130 : RF := runR (body (E130 r138 r194 h130_4 h249_0) 60 130 Tryz.f130 (cod Tryz.f130))
theorem q130 (args : List AV) (os : List AObj) : r130 args os = body (E130 r138 r194 h130_4 h249_0) 60 130 Tryz.f130 (cod Tryz.f130) args os _ fin := qR _ _ _
theorem ok130 : SpecOK P 130 (shaped A130 r130) := by
  unfold r130 E130
  refine okF2 60 ?_ ?_ ?_ ?_ Tryz.func130 ?_ ?_ _
  · exact (tcons ok138 (tcons ok194 tnil))
  · exact (And.intro (And.intro Tryz.func249 (And.intro (by kernel_rfl) (by kernel_rfl))) trivial)
  · exact (hcons okb130_4 hnil)
  · exact (hcons okb249_0 hnil)
  · kernel_rfl
  · kernel_rfl
end Go.Proofs.Vm
end
section
namespace Go.Proofs.Vm
open Go Go.Abs
set_option maxRecDepth 100000
set_option maxHeartbeats 1000000
theorem and_t {a b : Bool} (ha : a = true) (hb : b = true) : (a && b) = true := by rw [ha, hb]; rfl
theorem okB_t {t : BAlt} {fn foot : Nat} {round : Bool} {e : AExit} {a : AAct} {os : List AObj} (h1 : okEx t.e e = true) (h2 : okSs t.tm a.tmps = true) (h3 : okOs t.os os = true) (h4 : (Nat.beq a.fn fn && (Nat.beq a.foot foot && ((a.round == round) && okD t.df a.defers))) = true) : okB t fn foot round (some (e, a, os)) = true := by
  unfold okB; simp only [h1, h2, h3, h4, Bool.and_self]
theorem okAlt_t {t : Alt} {x : AV} {os : List AObj} (h0 : t.pan = false) (h1 : okS t.s x = true) (h2 : okOs t.os os = true) : okAlt t (some (.ret x, os)) = true := by
  unfold okAlt; simp only [h0, h1, h2, Bool.not_false, Bool.and_self]
theorem okRow {es : List (List AV)} (h : (es.all fun e => okSs [sh8] e) = true) : okO (.row 1 [sh8]) (.row 1 es) = true := by
  show (true && es.all fun e => okSs [sh8] e) = true
  rw [h]; rfl
theorem okCons {s : ShO} {ss : List ShO} {o : AObj} {os : List AObj} (h : okO s o = true) (hs : okOs ss os = true) : okOs (s :: ss) (o :: os) = true := by
  unfold okOs; rw [h, hs]; rfl
theorem okLoop {f : FuncId} {ss : List Sh} {tm : List AV} {ps : List Tmp} {a b : Code} (h : okSs ss tm = true) : okO (.loop f ss ps a b) (.loop f tm ps a b none) = true := by
  show (Nat.beq f f && (okSs ss tm && sameLoop ps ps a a b b none)) = true
  rw [h, sameLoop_t, Nat.beq_refl]; rfl
theorem allB_ok {es : List (List AV)} (h : AllB es) : (es.all fun e => okSs [sh8] e) = true := by
  rw [List.all_eq_true]
  intro e he
  obtain ⟨n, _, _, rfl⟩ := h e he
  rfl
theorem allB_byte {es : List (List AV)} (h : AllB es) : es.all isByte = true := by
  rw [List.all_eq_true]
  intro e he
  obtain ⟨n, _, _, rfl⟩ := h e he
  rfl
theorem map_reb {es : List (List AV)} (h : AllB es) : (es.map fun e => rebs [sh8] e 0) = es := by
  refine (List.map_congr_left fun e he => ?_).trans (List.map_id _)
  obtain ⟨n, _, _, rfl⟩ := h e he
  rfl
theorem l130_2 {s : ByteArray} (hs : s.size ≤ 136) (es : List (List AV)) (m : Nat) : ∀ (f : Nat) (i : Int) (ds : List Int), 0 ≤ i → i ≤ s.size → s.size - i ≤ f → ds.length = 25 → ∀ r,
    r = exec (E130_2) (f + 60) 2 (.loop (rnd Tryz.f130 2)) ⟨(jn 3 (.ptr 2 0 :: st s :: jn 7 (i64 s.size :: i64 i :: jn 34 []))), [], 130, 4, true⟩ [.dead, .cells [.wref 3], .ints .u64 ds, .row 1 es] _ (bK (E130_2) (m + 60) 2 finB) →
    ∃ ds' : List Int, ds'.length = 25 ∧ r = finB .normal ⟨(jn 3 (.ptr 2 0 :: jn 44 [])), [], 130, 4, true⟩ [.dead, .cells [.wref 3], .ints .u64 ds', .row 1 es] := by
  intro f
  induction f with
  | zero =>
    intro i ds h0 h1 hf hd r h
    replace h := h.trans (T130_2r s s.size i ds es 0 m _ finB)
    exact ⟨ds, hd, gn h (ilt_f' (by omega))⟩
  | succ f ih =>
    intro i ds h0 h1 hf hd r h
    replace h := h.trans (T130_2r s s.size i ds es (f + 1) m _ finB)
    by_cases hi : i < s.size
    · replace h := go h (ilt_t' hi)
      have d8 : i.tdiv 8 = i / 8 := Int.tdiv_eq_ediv_of_nonneg h0
      have m8 : i.tmod 8 = i % 8 := Int.tmod_eq_emod_of_nonneg h0
      rw [d8, m8, w8in (n := i / 8) (by omega) (by omega), w8in (n := i % 8 * 8) (by omega) (by omega), w8in (n := i + 1) (by omega) (by omega)] at h
      replace h := go h (dec2 (by omega) (by omega))
      replace h := go h (demG (by omega))
      replace h := go h (dec2 (by omega) (by omega))
      replace h := go h (dec1 (by omega))
      replace h := go h (dec2 (by omega) (by omega))
      replace h := go h (dec1 (by omega))
      exact ih (i + 1) _ (by omega) (by omega) (by omega) (by rw [List.length_set]; exact hd) r h
    · exact ⟨ds, hd, gn h (ilt_f' (by omega))⟩
noncomputable def TL130 (s : ByteArray) : AObj := .loop 130 (st s :: un 1 (st e0 :: .ptr 2 0 :: un 4 (st s :: .func (.func 249) [] [.ptr 1 0] :: un 38 []))) [10] (asgOf (blk Tryz.f130 0)) (bdOf (blk Tryz.f130 0)) none
theorem z249_0 (s : ByteArray) (es : List (List AV)) (a0 a1 a2 a3 a4 a5 a6 a7 a8 a9 a10 a11 a12 a13 a14 a15 a16 a17 a18 a19 a20 a21 a22 a23 a24 at_ : Int) (f : Nat) (X : Type) (k : AExit → AAct → List AObj → Option X) :
    exec (E249_0 r195 h130_2) (f + 60) 0 (.loop (rnd Tryz.f249 0)) ⟨(.yld 0 :: .ptr 1 0 :: J :: i64 at_ :: jn 15 []), [], 249, 4, false⟩ [TL130 s, .cells [.wref 3], .cells (D25c a0 a1 a2 a3 a4 a5 a6 a7 a8 a9 a10 a11 a12 a13 a14 a15 a16 a17 a18 a19 a20 a21 a22 a23 a24), .row 1 es] X k =
    exec (E249_0 r195 h130_2) (f + 60) 0 (.loop (rnd Tryz.f249 0)) ⟨(.yld 0 :: .ptr 1 0 :: J :: i64 at_ :: jn 15 []), [], 249, 4, false⟩ [TL130 s, .cells [.wref 3], .ints .u64 [a0, a1, a2, a3, a4, a5, a6, a7, a8, a9, a10, a11, a12, a13, a14, a15, a16, a17, a18, a19, a20, a21, a22, a23, a24], .row 1 es] X k :=
  exec_view (n := f + 59) (a' := ⟨(.yld 0 :: .ptr 1 0 :: J :: i64 at_ :: jn 15 []), [], 249, 4, false⟩) (os1' := [TL130 s, .cells [.wref 3], .cells (D25c a0 a1 a2 a3 a4 a5 a6 a7 a8 a9 a10 a11 a12 a13 a14 a15 a16 a17 a18 a19 a20 a21 a22 a23 a24), .row 1 es]) (os2' := [TL130 s, .cells [.wref 3], .ints .u64 [a0, a1, a2, a3, a4, a5, a6, a7, a8, a9, a10, a11, a12, a13, a14, a15, a16, a17, a18, a19, a20, a21, a22, a23, a24], .row 1 es]) (fun K => by kernel_rfl) (fun K => by kernel_rfl) (by kernel_rfl)
theorem l249_0 (s : ByteArray) {es : List (List AV)} (hes : AllB es) (hm : es.length % 136 = 0) (hb : es.length ≤ 1048576) (m : Nat) : ∀ (f : Nat) (at_ : Int) (ds : List Int), 0 ≤ at_ → at_ % 136 = 0 → at_ ≤ es.length → es.length - at_ ≤ 136 * f → ds.length = 25 → ∀ r,
    r = exec (E249_0 r195 h130_2) (f + 60) 0 (.loop (rnd Tryz.f249 0)) ⟨(.yld 0 :: .ptr 1 0 :: J :: i64 at_ :: jn 15 []), [], 249, 4, false⟩ [TL130 s, .cells [.wref 3], .ints .u64 ds, .row 1 es] _ (bK (E249_0 r195 h130_2) (m + 60) 0 finB) →
    ∃ ds' : List Int, ds'.length = 25 ∧ r = finB .normal ⟨(jn 19 []), [], 249, 4, false⟩ [TL130 s, .cells [.wref 3], .ints .u64 ds', .row 1 es] := by
  intro f
  induction f with
  | zero =>
    intro at_ ds h0 hm2 h1 hf hd r h
    replace h := h.trans (T249_0r r195 h130_2 s at_ ds es 0 m _ finB _ rfl _ rfl)
    exact ⟨ds, hd, gn h (ilt_f' (by omega))⟩
  | succ f ih =>
    intro at_ ds h0 hm2 h1 hf hd r h
    by_cases hi : at_ < es.length
    · have hw : IntKind.i64.wrap (at_ + 136) = at_ + 136 := w8in (by omega) (by omega)
      have hsz : (bytesL (List.take ((IntKind.i64.wrap (at_ + 136)).toNat - at_.toNat) (List.drop at_.toNat es))).size ≤ 136 := by
        rw [hw]
        show (List.toArray _).size ≤ 136
        rw [List.size_toArray, List.length_map, List.length_take]; omega
      have hbT : AllB (List.take ((IntKind.i64.wrap (at_ + 136)).toNat - at_.toNat) (List.drop at_.toNat es)) := fun e he => hes e (List.mem_of_mem_drop (List.mem_of_mem_take he))
      obtain ⟨ds1, hd1, e1⟩ := l130_2 hsz es 139 139 0 ds (by omega) (by omega) (by omega) hd _ rfl
      replace e1 := (p130_2 _ _ 199 rfl).trans e1
      obtain ⟨xs, e2, hx⟩ := w195 hd1
      unfold agg at e2
      rw [← ld25_eq hd1] at e2
      replace h := h.trans (T249_0r r195 h130_2 s at_ ds es (f + 1) m _ finB _ e1 _ e2)
      replace h := go h (ilt_t' hi)
      rw [hw] at h hbT
      replace h := go h (and_t (dec2 (by omega) (by omega)) (dec2 (by omega) (by omega)))
      replace h := go h (and_t rfl (allB_byte hbT))
      replace h := go h (okB_t rfl rfl (okCons rfl (okCons rfl (okCons rfl (okCons (okRow (allB_ok hes)) rfl)))) rfl)
      obtain ⟨x0, x1, x2, x3, x4, x5, x6, x7, x8, x9, x10, x11, x12, x13, x14, x15, x16, x17, x18, x19, x20, x21, x22, x23, x24, rfl⟩ := l25 hx
      replace h := go h (dm25_t hd1)
      replace h := go h rfl
      replace h := go h (dec1 hd1)
      have hmr : (List.map (fun e => rebs [sh8] e 0) es) = es := map_reb hes
      refine ih (at_ + 136) [x0, x1, x2, x3, x4, x5, x6, x7, x8, x9, x10, x11, x12, x13, x14, x15, x16, x17, x18, x19, x20, x21, x22, x23, x24] (by omega) (by omega) (by omega) (by omega) rfl r (h.trans ?_)
      refine Eq.trans ?_ (z249_0 s es x0 x1 x2 x3 x4 x5 x6 x7 x8 x9 x10 x11 x12 x13 x14 x15 x16 x17 x18 x19 x20 x21 x22 x23 x24 (at_ + 136) f _ _)
      show exec _ _ _ _ _ [_, _, _, .row 1 (List.map (fun e => rebs [sh8] e 0) es)] _ _ = _
      rw [hmr]
      rfl
    · replace h := h.trans (T249_0r r195 h130_2 s at_ ds es (f + 1) m _ finB _ rfl _ rfl)
      exact ⟨ds, hd, gn h (ilt_f' (by omega))⟩
theorem w196a {c : Int} (h0 : 0 ≤ c) (h1 : c ≤ 255) : r196 [.ptr 0 0, u8 c] [.bld 147 none] = some (.ret (.v .nilIface), [.bld 147 (some 1), .brow 5 (ByteArray.empty.push (UInt8.ofNat c.toNat))]) := by
  simp [r196, u8, bsOf, wrO, ile_eq, h0, h1]; rfl
theorem w196b {c : Int} {t : ByteArray} (h0 : 0 ≤ c) (h1 : c ≤ 255) (ht : t.size ≤ 1048576) : r196 [.ptr 0 0, u8 c] [.bld 147 (some 1), .brow 5 t] = some (.ret (.v .nilIface), [.bld 147 (some 2), .dead, .brow 5 (t.push (UInt8.ofNat c.toNat))]) := by
  have hb : t.size.ble 1048576 = true := by rw [Nat.ble_eq]; exact ht
  simp [r196, u8, bsOf, wrO, ile_eq, h0, h1, hb]
theorem l130_4s {ds : List Int} (hd : ds.length = 25) (m : Nat) : ∀ (f : Nat) (i : Int) (t : ByteArray), 0 ≤ i → i ≤ 32 → 32 - i ≤ f → (t.size : Int) = i → ∀ r,
    r = exec (E130_4 r196) (f + 60) 4 (.loop (rnd Tryz.f130 4)) ⟨(jn 3 (.ptr 0 0 :: J :: J :: .ptr 1 0 :: jn 26 (i64 i :: jn 14 []))), [(none, [.yld 2])], 130, 0, false⟩ [.ints .u64 ds, .bld 147 (some 3), .dblk, .brow 5 t] _ (bK (E130_4 r196) (m + 60) 4 finB) →
    ∃ t' : ByteArray, t'.size = 32 ∧ r = finB .normal ⟨(jn 6 (.ptr 0 0 :: jn 41 [])), [(none, [.yld 1])], 130, 0, false⟩ [.bld 147 (some 2), .dblk, .brow 5 t'] := by
  intro f
  induction f with
  | zero =>
    intro i t h0 h1 hf ht r h
    replace h := h.trans (T130_4s r196 i ds t 0 m _ finB _ rfl)
    exact ⟨t, by omega, gn h (ilt_f' (by omega))⟩
  | succ f ih =>
    intro i t h0 h1 hf ht r h
    obtain ⟨hc0, hc1⟩ := (⟨by rw [IntKind.wrap_u8]; omega, by rw [IntKind.wrap_u8]; omega⟩ : 0 ≤ IntKind.u8.wrap (((List.map u ds).getD (0 + (IntKind.i64.wrap (i.tdiv 8)).toNat * 1) J).toInt.fdiv (2 ^ min (IntKind.i64.wrap (i.tmod 8 * 8)).toNat IntKind.u64.bits)) ∧ IntKind.u8.wrap (((List.map u ds).getD (0 + (IntKind.i64.wrap (i.tdiv 8)).toNat * 1) J).toInt.fdiv (2 ^ min (IntKind.i64.wrap (i.tmod 8 * 8)).toNat IntKind.u64.bits)) ≤ 255)
    have e1 := w196b (t := t) hc0 hc1 (by omega)
    replace h := h.trans (T130_4s r196 i ds t (f + 1) m _ finB _ e1)
    by_cases hi : i < 32
    · replace h := go h (ilt_t' hi)
      have d8 : i.tdiv 8 = i / 8 := Int.tdiv_eq_ediv_of_nonneg h0
      have m8 : i.tmod 8 = i % 8 := Int.tmod_eq_emod_of_nonneg h0
      have hq : IntKind.i64.wrap (i.tdiv 8) = i / 8 := by rw [d8]; exact w8in (by omega) (by omega)
      replace h := go h (dec2 (by rw [hq]; omega) (by rw [hq]; omega))
      replace h := go h (demG (by rw [hq]; omega))
      replace h := go h (dec1 (by rw [m8, w8in (by omega) (by omega)]; omega))
      replace h := gn h rfl
      replace h := go h rfl
      have e5 : IntKind.i64.wrap (i + 1) = i + 1 := w8in (by omega) (by omega)
      rw [e5] at h
      exact ih (i + 1) _ (by omega) (by omega) (by omega) (by show ((ByteArray.push t _).size : Int) = i + 1; rw [ByteArray.size_push]; omega) r h
    · exact ⟨t, by omega, gn h (ilt_f' (by omega))⟩
theorem l130_4 {ds : List Int} (hd : ds.length = 25) (m : Nat) (r) :
    r = exec (E130_4 r196) (138 + 61) 4 (.loop (rnd Tryz.f130 4)) ⟨(jn 3 (.ptr 0 0 :: J :: J :: .ptr 1 0 :: jn 26 (i64 0 :: jn 14 []))), [(none, [.yld 2])], 130, 0, false⟩ [.ints .u64 ds, .bld 147 none, .dblk] _ (bK (E130_4 r196) (m + 60) 4 finB) →
    ∃ t' : ByteArray, t'.size = 32 ∧ r = finB .normal ⟨(jn 6 (.ptr 0 0 :: jn 41 [])), [(none, [.yld 1])], 130, 0, false⟩ [.bld 147 (some 2), .dblk, .brow 5 t'] := by
  intro h
  obtain ⟨hc0, hc1⟩ := (⟨by rw [IntKind.wrap_u8]; omega, by rw [IntKind.wrap_u8]; omega⟩ : 0 ≤ IntKind.u8.wrap (((List.map u ds).getD (0 + (IntKind.i64.wrap (Int.tdiv 0 8)).toNat * 1) J).toInt.fdiv (2 ^ min (IntKind.i64.wrap (Int.tmod 0 8 * 8)).toNat IntKind.u64.bits)) ∧ IntKind.u8.wrap (((List.map u ds).getD (0 + (IntKind.i64.wrap (Int.tdiv 0 8)).toNat * 1) J).toInt.fdiv (2 ^ min (IntKind.i64.wrap (Int.tmod 0 8 * 8)).toNat IntKind.u64.bits)) ≤ 255)
  have e1 := w196a hc0 hc1
  replace h := h.trans (T130_4r r196 0 ds 139 m _ finB _ e1)
  replace h := go h rfl
  replace h := go h rfl
  replace h := go h (demG (by show 0 < _; omega))
  replace h := go h rfl
  replace h := go h rfl
  exact l130_4s hd m 138 1 _ (by omega) (by omega) (by omega) (by show ((ByteArray.push .empty _).size : Int) = 1; rw [ByteArray.size_push]; rfl) r h
theorem w138b {t : ByteArray} (h1 : 1 ≤ t.size) (h2 : t.size ≤ 1048576) : r138 [.ptr 0 0] [.bld 147 (some 1), .brow 5 t] = some (.ret (st t), [.dead, .dead]) := by
  have hb : t.size.ble 9223372036854775807 = true := by rw [Nat.ble_eq]; omega
  have hb2 : Nat.ble 1 t.size = true := by rw [Nat.ble_eq]; exact h1
  simp [r138, bsOf, st, hb, hb2]
theorem w130 {s : ByteArray} (hs : s.size ≤ 65536) : ∃ t : ByteArray, r130 [st s] [] = some (.ret (st t), []) ∧ t.size = 32 := by
  obtain ⟨es, e1, hes, hel⟩ := w194 (s := s) (by omega)
  obtain ⟨ds, hd, e2⟩ := l249_0 s hes (by omega) (by omega) 939 939 0 [0, 0, 0, 0, 0, 0, 0, 0, 0, 0, 0, 0, 0, 0, 0, 0, 0, 0, 0, 0, 0, 0, 0, 0, 0] (by omega) (by omega) (by omega) (by omega) rfl _ rfl
  replace e2 := (p249_0 _ _ 999 rfl).trans ((z249_0 s es 0 0 0 0 0 0 0 0 0 0 0 0 0 0 0 0 0 0 0 0 0 0 0 0 0 0 939 _ _).trans e2)
  obtain ⟨t, ht, e3⟩ := l130_4 hd 139 _ rfl
  replace e3 := (p130_4 _ _ 199 rfl).trans e3
  have e4 := w138b (t := t) (by omega) (by omega)
  have hmr : (List.map (fun e => rebs [sh8] e 0) es) = es := map_reb hes
  rw [← hmr] at e2
  have h := (q130 _ _).trans (T130 r138 r194 h130_4 h249_0 s _ fin _ e1 _ e2 _ e3 _ e4)
  replace h := go h (okAlt_t rfl rfl (okCons rfl (okCons (okRow (allB_ok hes)) rfl)))
  rw [hmr] at h
  replace h := go h (okB_t rfl rfl (okCons (okLoop rfl) (okCons rfl (okCons rfl (okCons (okRow (allB_ok hes)) rfl)))) rfl)
  replace h := go h rfl
  replace h := gn h rfl
  replace h := go h rfl
  exact ⟨t, h, ht⟩
end Go.Proofs.Vm
end
section
open Go Go.Abs
namespace Go.Proofs.Vm
set_option maxRecDepth 100000
set_option maxHeartbeats 0
noncomputable def E264 : Env := En 264 [] [] [] [] [] []
noncomputable def a264 : Alt := ⟨false, .int .i64, []⟩
noncomputable def A264 : List Alt := [a264]
theorem T264 (n : Int) (X : Type) (k : AEnd → List AObj → Option X) :
    body (E264) 60 264 Tryz.f264 (cod Tryz.f264) [u8 n] [] X k =
    bif n.fdiv (2 ^ min (Int.toNat 5) IntKind.u8.bits) == 3 then k (.ret (i64 (IntKind.i64.wrap (IntKind.i64.wrap (IntKind.u8.wrap (↑(BitVec.ofInt IntKind.u8.bits n &&& BitVec.ofInt IntKind.u8.bits 31).toNat : Int)) + 1)))) [] else k (.ret (i64 0)) [] := by kernel_rfl
noncomputable def r264 : RF := runR (body (E264) 60 264 Tryz.f264 (cod Tryz.f264))
theorem q264 (args : List AV) (os : List AObj) : r264 args os = body (E264) 60 264 Tryz.f264 (cod Tryz.f264) args os _ fin := qR _ _ _
theorem ok264 : SpecOK P 264 (shaped A264 r264) := by
  unfold r264 E264
  refine okF 60 ?_ ?_ ?_ Tryz.func264 ?_ ?_ _
  · exact tnil
  · exact trivial
  · exact hnil
  · kernel_rfl
  · kernel_rfl
noncomputable def E165 : Env := En 165 [] [] [] [] [] []
noncomputable def a165 : Alt := ⟨false, .agg [.str, .int .i64, .int .i64, .int .i64], []⟩
noncomputable def A165 : List Alt := [a165]
theorem T165 (n : Int) (X : Type) (k : AEnd → List AObj → Option X) :
    body (E165) 60 165 Tryz.f165 (cod Tryz.f165) [u8 n] [] X k =
    bif n == 0 then k (.ret (AV.agg [st (ByteArray.mk #[83, 84, 79, 80]), i64 0, i64 0, i64 0])) [] else bif n == 1 then k (.ret (AV.agg [st (ByteArray.mk #[65, 68, 68]), i64 2, i64 1, i64 3])) [] else bif n == 2 then k (.ret (AV.agg [st (ByteArray.mk #[77, 85, 76]), i64 2, i64 1, i64 5])) [] else bif n == 3 then k (.ret (AV.agg [st (ByteArray.mk #[83, 85, 66]), i64 2, i64 1, i64 3])) [] else bif n == 4 then k (.ret (AV.agg [st (ByteArray.mk #[68, 73, 86]), i64 2, i64 1, i64 5])) [] else bif n == 5 then k (.ret (AV.agg [st (ByteArray.mk #[83, 68, 73, 86]), i64 2, i64 1, i64 5])) [] else bif n == 6 then k (.ret (AV.agg [st (ByteArray.mk #[77, 79, 68]), i64 2, i64 1, i64 5])) [] else bif n == 7 then k (.ret (AV.agg [st (ByteArray.mk #[83, 77, 79, 68]), i64 2, i64 1, i64 5])) [] else bif n == 8 then k (.ret (AV.agg [st (ByteArray.mk #[65, 68, 68, 77, 79, 68]), i64 3, i64 1, i64 8])) [] else bif n == 9 then k (.ret (AV.agg [st (ByteArray.mk #[77, 85, 76, 77, 79, 68]), i64 3, i64 1, i64 8])) [] else bif n == 10 then k (.ret (AV.agg [st (ByteArray.mk #[69, 88, 80]), i64 2, i64 1, i64 10])) [] else bif n == 11 then k (.ret (AV.agg [st (ByteArray.mk #[83, 73, 71, 78, 69, 88, 84, 69, 78, 68]), i64 2, i64 1, i64 5])) [] else bif n == 16 then k (.ret (AV.agg [st (ByteArray.mk #[76, 84]), i64 2, i64 1, i64 3])) [] else bif n == 17 then k (.ret (AV.agg [st (ByteArray.mk #[71, 84]), i64 2, i64 1, i64 3])) [] else bif n == 18 then k (.ret (AV.agg [st (ByteArray.mk #[83, 76, 84]), i64 2, i64 1, i64 3])) [] else bif n == 19 then k (.ret (AV.agg [st (ByteArray.mk #[83, 71, 84]), i64 2, i64 1, i64 3])) [] else bif n == 20 then k (.ret (AV.agg [st (ByteArray.mk #[69, 81]), i64 2, i64 1, i64 3])) [] else bif n == 21 then k (.ret (AV.agg [st (ByteArray.mk #[73, 83, 90, 69, 82, 79]), i64 1, i64 1, i64 3])) [] else bif n == 22 then k (.ret (AV.agg [st (ByteArray.mk #[65, 78, 68]), i64 2, i64 1, i64 3])) [] else bif n == 23 then k (.ret (AV.agg [st (ByteArray.mk #[79, 82]), i64 2, i64 1, i64 3])) [] else bif n == 24 then k (.ret (AV.agg [st (ByteArray.mk #[88, 79, 82]), i64 2, i64 1, i64 3])) [] else bif n == 25 then k (.ret (AV.agg [st (ByteArray.mk #[78, 79, 84]), i64 1, i64 1, i64 3])) [] else bif n == 26 then k (.ret (AV.agg [st (ByteArray.mk #[66, 89, 84, 69]), i64 2, i64 1, i64 3])) [] else bif n == 27 then k (.ret (AV.agg [st (ByteArray.mk #[83, 72, 76]), i64 2, i64 1, i64 3])) [] else bif n == 28 then k (.ret (AV.agg [st (ByteArray.mk #[83, 72, 82]), i64 2, i64 1, i64 3])) [] else bif n == 29 then k (.ret (AV.agg [st (ByteArray.mk #[83, 65, 82]), i64 2, i64 1, i64 3])) [] else k (.ret (AV.agg [st (ByteArray.mk #[]), i64 0, i64 0, i64 0])) [] := by kernel_rfl
noncomputable def r165 : RF := runR (body (E165) 60 165 Tryz.f165 (cod Tryz.f165))
theorem q165 (args : List AV) (os : List AObj) : r165 args os = body (E165) 60 165 Tryz.f165 (cod Tryz.f165) args os _ fin := qR _ _ _
theorem ok165 : SpecOK P 165 (shaped A165 r165) := by
  unfold r165 E165
  refine okF 60 ?_ ?_ ?_ Tryz.func165 ?_ ?_ _
  · exact tnil
  · exact trivial
  · exact hnil
  · kernel_rfl
  · kernel_rfl
noncomputable def E167 : Env := En 167 [] [] [] [] [] []
noncomputable def a167 : Alt := ⟨false, .agg [.str, .int .i64, .int .i64, .int .i64], []⟩
noncomputable def A167 : List Alt := [a167]
theorem T167 (n : Int) (X : Type) (k : AEnd → List AObj → Option X) :
    body (E167) 60 167 Tryz.f167 (cod Tryz.f167) [u8 n] [] X k =
    bif n == 32 then k (.ret (AV.agg [st (ByteArray.mk #[75, 69, 67, 67, 65, 75, 50, 53, 54]), i64 2, i64 1, i64 30])) [] else bif n == 53 then k (.ret (AV.agg [st (ByteArray.mk #[67, 65, 76, 76, 68, 65, 84, 65, 76, 79, 65, 68]), i64 1, i64 1, i64 3])) [] else bif n == 54 then k (.ret (AV.agg [st (ByteArray.mk #[67, 65, 76, 76, 68, 65, 84, 65, 83, 73, 90, 69]), i64 0, i64 1, i64 2])) [] else bif n == 55 then k (.ret (AV.agg [st (ByteArray.mk #[67, 65, 76, 76, 68, 65, 84, 65, 67, 79, 80, 89]), i64 3, i64 0, i64 3])) [] else bif n == 56 then k (.ret (AV.agg [st (ByteArray.mk #[67, 79, 68, 69, 83, 73, 90, 69]), i64 0, i64 1, i64 2])) [] else bif n == 57 then k (.ret (AV.agg [st (ByteArray.mk #[67, 79, 68, 69, 67, 79, 80, 89]), i64 3, i64 0, i64 3])) [] else bif n == 80 then k (.ret (AV.agg [st (ByteArray.mk #[80, 79, 80]), i64 1, i64 0, i64 2])) [] else bif n == 81 then k (.ret (AV.agg [st (ByteArray.mk #[77, 76, 79, 65, 68]), i64 1, i64 1, i64 3])) [] else bif n == 82 then k (.ret (AV.agg [st (ByteArray.mk #[77, 83, 84, 79, 82, 69]), i64 2, i64 0, i64 3])) [] else bif n == 83 then k (.ret (AV.agg [st (ByteArray.mk #[77, 83, 84, 79, 82, 69, 56]), i64 2, i64 0, i64 3])) [] else bif n == 86 then k (.ret (AV.agg [st (ByteArray.mk #[74, 85, 77, 80]), i64 1, i64 0, i64 8])) [] else bif n == 87 then k (.ret (AV.agg [st (ByteArray.mk #[74, 85, 77, 80, 73]), i64 2, i64 0, i64 10])) [] else bif n == 88 then k (.ret (AV.agg [st (ByteArray.mk #[80, 67]), i64 0, i64 1, i64 2])) [] else bif n == 89 then k (.ret (AV.agg [st (ByteArray.mk #[77, 83, 73, 90, 69]), i64 0, i64 1, i64 2])) [] else bif n == 90 then k (.ret (AV.agg [st (ByteArray.mk #[71, 65, 83]), i64 0, i64 1, i64 2])) [] else bif n == 91 then k (.ret (AV.agg [st (ByteArray.mk #[74, 85, 77, 80, 68, 69, 83, 84]), i64 0, i64 0, i64 1])) [] else bif n == 243 then k (.ret (AV.agg [st (ByteArray.mk #[82, 69, 84, 85, 82, 78]), i64 2, i64 0, i64 0])) [] else bif n == 253 then k (.ret (AV.agg [st (ByteArray.mk #[82, 69, 86, 69, 82, 84]), i64 2, i64 0, i64 0])) [] else bif n == 254 then k (.ret (AV.agg [st (ByteArray.mk #[73, 78, 86, 65, 76, 73, 68]), i64 0, i64 0, i64 0])) [] else bif n == 95 then k (.ret (AV.agg [st (ByteArray.mk #[80, 85, 83, 72, 48]), i64 0, i64 1, i64 2])) [] else k (.ret (AV.agg [st (ByteArray.mk #[]), i64 0, i64 0, i64 0])) [] := by kernel_rfl
noncomputable def r167 : RF := runR (body (E167) 60 167 Tryz.f167 (cod Tryz.f167))
theorem q167 (args : List AV) (os : List AObj) : r167 args os = body (E167) 60 167 Tryz.f167 (cod Tryz.f167) args os _ fin := qR _ _ _
theorem ok167 : SpecOK P 167 (shaped A167 r167) := by
  unfold r167 E167
  refine okF 60 ?_ ?_ ?_ Tryz.func167 ?_ ?_ _
  · exact tnil
  · exact trivial
  · exact hnil
  · kernel_rfl
  · kernel_rfl
noncomputable def E166 : Env := En 166 [] [] [] [] [] []
noncomputable def a166 : Alt := ⟨false, .str, []⟩
noncomputable def A166 : List Alt := [a166]
theorem T166 (s : ByteArray) (n : Int) (X : Type) (k : AEnd → List AObj → Option X) :
    body (E166) 60 166 Tryz.f166 (cod Tryz.f166) [st s, i64 n] [] X k =
    bif ilt n 10 then bif (s.size + (ByteArray.mk #[Abs.byteOf [u8 (IntKind.u8.wrap (48 + IntKind.u8.wrap n))]]).size).ble 9223372036854775807 then k (.ret (st (s ++ (ByteArray.mk #[Abs.byteOf [u8 (IntKind.u8.wrap (48 + IntKind.u8.wrap n))]])))) [] else none else bif (s.size + (ByteArray.mk #[Abs.byteOf [u8 (IntKind.u8.wrap (48 + IntKind.u8.wrap (IntKind.i64.wrap (n.tdiv 10))))], Abs.byteOf [u8 (IntKind.u8.wrap (48 + IntKind.u8.wrap (n.tmod 10)))]]).size).ble 9223372036854775807 then k (.ret (st (s ++ (ByteArray.mk #[Abs.byteOf [u8 (IntKind.u8.wrap (48 + IntKind.u8.wrap (IntKind.i64.wrap (n.tdiv 10))))], Abs.byteOf [u8 (IntKind.u8.wrap (48 + IntKind.u8.wrap (n.tmod 10)))]])))) [] else none := by kernel_rfl
noncomputable def r166 : RF := runR (body (E166) 60 166 Tryz.f166 (cod Tryz.f166))
theorem q166 (args : List AV) (os : List AObj) : r166 args os = body (E166) 60 166 Tryz.f166 (cod Tryz.f166) args os _ fin := qR _ _ _
theorem ok166 : SpecOK P 166 (shaped A166 r166) := by
  unfold r166 E166
  refine okF 60 ?_ ?_ ?_ Tryz.func166 ?_ ?_ _
  · exact tnil
  · exact trivial
  · exact hnil
  · kernel_rfl
  · kernel_rfl
noncomputable def E108 (r165 : RF) (r166 : RF) (r167 : RF) : Env := En 108 [] [] [] [] [] [(165, shaped A165 r165), (166, shaped A166 r166), (167, shaped A167 r167)]
noncomputable def a108 : Alt := ⟨false, .agg [.str, .int .i64, .int .i64, .int .i64], []⟩
noncomputable def A108 : List Alt := [a108]
theorem T108 (r165 : RF) (r166 : RF) (r167 : RF) (n : Int) (X : Type) (k : AEnd → List AObj → Option X)
    (x1 : RE) (e1 : r167 [u8 n] [] = x1)
    (x2 : RE) (e2 : r166 [st (ByteArray.mk #[83, 87, 65, 80]), i64 (IntKind.i64.wrap (IntKind.i64.wrap (IntKind.i64.wrap (IntKind.u8.wrap (↑(BitVec.ofInt IntKind.u8.bits n &&& BitVec.ofInt IntKind.u8.bits 31).toNat : Int)) + 1) - 16))] [] = x2)
    (x3 : RE) (e3 : r166 [st (ByteArray.mk #[68, 85, 80]), i64 (IntKind.i64.wrap (IntKind.i64.wrap (IntKind.u8.wrap (↑(BitVec.ofInt IntKind.u8.bits n &&& BitVec.ofInt IntKind.u8.bits 31).toNat : Int)) + 1))] [] = x3)
    (x4 : RE) (e4 : r166 [st (ByteArray.mk #[80, 85, 83, 72]), i64 (IntKind.i64.wrap (IntKind.i64.wrap (IntKind.u8.wrap (↑(BitVec.ofInt IntKind.u8.bits n &&& BitVec.ofInt IntKind.u8.bits 31).toNat : Int)) + 1))] [] = x4)
    (x5 : RE) (e5 : r165 [u8 n] [] = x5) :
    body (E108 r165 r166 r167) 60 108 Tryz.f108 (cod Tryz.f108) [u8 n] [] X k =
    bif n.fdiv (2 ^ min (Int.toNat 4) IntKind.u8.bits) == 0 then bif n.fdiv (2 ^ min (Int.toNat 4) IntKind.u8.bits) == 0 then bif okAlt a165 x5 then k (.ret (AV.agg [st ((rV x5).items.getD 0 J).toStr, i64 ((rV x5).items.getD 1 J).toInt, i64 ((rV x5).items.getD 2 J).toInt, i64 ((rV x5).items.getD 3 J).toInt])) [] else none else bif n.fdiv (2 ^ min (Int.toNat 4) IntKind.u8.bits) == 6 then bif n.fdiv (2 ^ min (Int.toNat 4) IntKind.u8.bits) == 6 then bif okAlt a166 x4 then k (.ret (AV.agg [st (rV x4).toStr, i64 0, i64 1, i64 3])) [] else none else bif n.fdiv (2 ^ min (Int.toNat 4) IntKind.u8.bits) == 8 then bif okAlt a166 x3 then k (.ret (AV.agg [st (rV x3).toStr, i64 (IntKind.i64.wrap (IntKind.i64.wrap (IntKind.u8.wrap (↑(BitVec.ofInt IntKind.u8.bits n &&& BitVec.ofInt IntKind.u8.bits 31).toNat : Int)) + 1)), i64 (IntKind.i64.wrap (IntKind.i64.wrap (IntKind.i64.wrap (IntKind.u8.wrap (↑(BitVec.ofInt IntKind.u8.bits n &&& BitVec.ofInt IntKind.u8.bits 31).toNat : Int)) + 1) + 1)), i64 3])) [] else none else bif n.fdiv (2 ^ min (Int.toNat 4) IntKind.u8.bits) == 9 then bif okAlt a166 x2 then k (.ret (AV.agg [st (rV x2).toStr, i64 (IntKind.i64.wrap (IntKind.i64.wrap (IntKind.i64.wrap (IntKind.i64.wrap (IntKind.u8.wrap (↑(BitVec.ofInt IntKind.u8.bits n &&& BitVec.ofInt IntKind.u8.bits 31).toNat : Int)) + 1) - 16) + 1)), i64 (IntKind.i64.wrap (IntKind.i64.wrap (IntKind.i64.wrap (IntKind.i64.wrap (IntKind.u8.wrap (↑(BitVec.ofInt IntKind.u8.bits n &&& BitVec.ofInt IntKind.u8.bits 31).toNat : Int)) + 1) - 16) + 1)), i64 3])) [] else none else bif okAlt a167 x1 then k (.ret (AV.agg [st ((rV x1).items.getD 0 J).toStr, i64 ((rV x1).items.getD 1 J).toInt, i64 ((rV x1).items.getD 2 J).toInt, i64 ((rV x1).items.getD 3 J).toInt])) [] else none else bif n.fdiv (2 ^ min (Int.toNat 4) IntKind.u8.bits) == 7 then bif okAlt a166 x4 then k (.ret (AV.agg [st (rV x4).toStr, i64 0, i64 1, i64 3])) [] else none else bif n.fdiv (2 ^ min (Int.toNat 4) IntKind.u8.bits) == 8 then bif okAlt a166 x3 then k (.ret (AV.agg [st (rV x3).toStr, i64 (IntKind.i64.wrap (IntKind.i64.wrap (IntKind.u8.wrap (↑(BitVec.ofInt IntKind.u8.bits n &&& BitVec.ofInt IntKind.u8.bits 31).toNat : Int)) + 1)), i64 (IntKind.i64.wrap (IntKind.i64.wrap (IntKind.i64.wrap (IntKind.u8.wrap (↑(BitVec.ofInt IntKind.u8.bits n &&& BitVec.ofInt IntKind.u8.bits 31).toNat : Int)) + 1) + 1)), i64 3])) [] else none else bif n.fdiv (2 ^ min (Int.toNat 4) IntKind.u8.bits) == 9 then bif okAlt a166 x2 then k (.ret (AV.agg [st (rV x2).toStr, i64 (IntKind.i64.wrap (IntKind.i64.wrap (IntKind.i64.wrap (IntKind.i64.wrap (IntKind.u8.wrap (↑(BitVec.ofInt IntKind.u8.bits n &&& BitVec.ofInt IntKind.u8.bits 31).toNat : Int)) + 1) - 16) + 1)), i64 (IntKind.i64.wrap (IntKind.i64.wrap (IntKind.i64.wrap (IntKind.i64.wrap (IntKind.u8.wrap (↑(BitVec.ofInt IntKind.u8.bits n &&& BitVec.ofInt IntKind.u8.bits 31).toNat : Int)) + 1) - 16) + 1)), i64 3])) [] else none else bif okAlt a167 x1 then k (.ret (AV.agg [st ((rV x1).items.getD 0 J).toStr, i64 ((rV x1).items.getD 1 J).toInt, i64 ((rV x1).items.getD 2 J).toInt, i64 ((rV x1).items.getD 3 J).toInt])) [] else none else bif n.fdiv (2 ^ min (Int.toNat 4) IntKind.u8.bits) == 1 then bif okAlt a165 x5 then k (.ret (AV.agg [st ((rV x5).items.getD 0 J).toStr, i64 ((rV x5).items.getD 1 J).toInt, i64 ((rV x5).items.getD 2 J).toInt, i64 ((rV x5).items.getD 3 J).toInt])) [] else none else bif n.fdiv (2 ^ min (Int.toNat 4) IntKind.u8.bits) == 6 then bif n.fdiv (2 ^ min (Int.toNat 4) IntKind.u8.bits) == 6 then bif okAlt a166 x4 then k (.ret (AV.agg [st (rV x4).toStr, i64 0, i64 1, i64 3])) [] else none else bif n.fdiv (2 ^ min (Int.toNat 4) IntKind.u8.bits) == 8 then bif okAlt a166 x3 then k (.ret (AV.agg [st (rV x3).toStr, i64 (IntKind.i64.wrap (IntKind.i64.wrap (IntKind.u8.wrap (↑(BitVec.ofInt IntKind.u8.bits n &&& BitVec.ofInt IntKind.u8.bits 31).toNat : Int)) + 1)), i64 (IntKind.i64.wrap (IntKind.i64.wrap (IntKind.i64.wrap (IntKind.u8.wrap (↑(BitVec.ofInt IntKind.u8.bits n &&& BitVec.ofInt IntKind.u8.bits 31).toNat : Int)) + 1) + 1)), i64 3])) [] else none else bif n.fdiv (2 ^ min (Int.toNat 4) IntKind.u8.bits) == 9 then bif okAlt a166 x2 then k (.ret (AV.agg [st (rV x2).toStr, i64 (IntKind.i64.wrap (IntKind.i64.wrap (IntKind.i64.wrap (IntKind.i64.wrap (IntKind.u8.wrap (↑(BitVec.ofInt IntKind.u8.bits n &&& BitVec.ofInt IntKind.u8.bits 31).toNat : Int)) + 1) - 16) + 1)), i64 (IntKind.i64.wrap (IntKind.i64.wrap (IntKind.i64.wrap (IntKind.i64.wrap (IntKind.u8.wrap (↑(BitVec.ofInt IntKind.u8.bits n &&& BitVec.ofInt IntKind.u8.bits 31).toNat : Int)) + 1) - 16) + 1)), i64 3])) [] else none else bif okAlt a167 x1 then k (.ret (AV.agg [st ((rV x1).items.getD 0 J).toStr, i64 ((rV x1).items.getD 1 J).toInt, i64 ((rV x1).items.getD 2 J).toInt, i64 ((rV x1).items.getD 3 J).toInt])) [] else none else bif n.fdiv (2 ^ min (Int.toNat 4) IntKind.u8.bits) == 7 then bif okAlt a166 x4 then k (.ret (AV.agg [st (rV x4).toStr, i64 0, i64 1, i64 3])) [] else none else bif n.fdiv (2 ^ min (Int.toNat 4) IntKind.u8.bits) == 8 then bif okAlt a166 x3 then k (.ret (AV.agg [st (rV x3).toStr, i64 (IntKind.i64.wrap (IntKind.i64.wrap (IntKind.u8.wrap (↑(BitVec.ofInt IntKind.u8.bits n &&& BitVec.ofInt IntKind.u8.bits 31).toNat : Int)) + 1)), i64 (IntKind.i64.wrap (IntKind.i64.wrap (IntKind.i64.wrap (IntKind.u8.wrap (↑(BitVec.ofInt IntKind.u8.bits n &&& BitVec.ofInt IntKind.u8.bits 31).toNat : Int)) + 1) + 1)), i64 3])) [] else none else bif n.fdiv (2 ^ min (Int.toNat 4) IntKind.u8.bits) == 9 then bif okAlt a166 x2 then k (.ret (AV.agg [st (rV x2).toStr, i64 (IntKind.i64.wrap (IntKind.i64.wrap (IntKind.i64.wrap (IntKind.i64.wrap (IntKind.u8.wrap (↑(BitVec.ofInt IntKind.u8.bits n &&& BitVec.ofInt IntKind.u8.bits 31).toNat : Int)) + 1) - 16) + 1)), i64 (IntKind.i64.wrap (IntKind.i64.wrap (IntKind.i64.wrap (IntKind.i64.wrap (IntKind.u8.wrap (↑(BitVec.ofInt IntKind.u8.bits n &&& BitVec.ofInt IntKind.u8.bits 31).toNat : Int)) + 1) - 16) + 1)), i64 3])) [] else none else bif okAlt a167 x1 then k (.ret (AV.agg [st ((rV x1).items.getD 0 J).toStr, i64 ((rV x1).items.getD 1 J).toInt, i64 ((rV x1).items.getD 2 J).toInt, i64 ((rV x1).items.getD 3 J).toInt])) [] else none := by subst e1 e2 e3 e4 e5; kernel_rfl
noncomputable def r108 : RF := runR (body (E108 r165 r166 r167) 60 108 Tryz.f108 (cod Tryz.f108))
theorem q108 (args : List AV) (os : List AObj) : r108 args os = body (E108 r165 r166 r167) 60 108 Tryz.f108 (cod Tryz.f108) args os _ fin := qR _ _ _
theorem ok108 : SpecOK P 108 (shaped A108 r108) := by
  unfold r108 E108
  refine okF 60 ?_ ?_ ?_ Tryz.func108 ?_ ?_ _
  · exact (tcons ok165 (tcons ok166 (tcons ok167 tnil)))
  · exact trivial
  · exact hnil
  · kernel_rfl
  · kernel_rfl
noncomputable def E62 (r108 : RF) : Env := En 62 [] [] [] [] [] [(108, shaped A108 r108)]
noncomputable def a62 : Alt := ⟨false, .str, []⟩
noncomputable def A62 : List Alt := [a62]
theorem T62 (r108 : RF) (n : Int) (X : Type) (k : AEnd → List AObj → Option X)
    (x1 : RE) (e1 : r108 [u8 n] [] = x1) :
    body (E62 r108) 60 62 Tryz.f62 (cod Tryz.f62) [u8 n] [] X k =
    bif okAlt a108 x1 then k (.ret (st ((rV x1).items.getD 0 J).toStr)) [] else none := by subst e1; kernel_rfl
noncomputable def r62 : RF := runR (body (E62 r108) 60 62 Tryz.f62 (cod Tryz.f62))
theorem q62 (args : List AV) (os : List AObj) : r62 args os = body (E62 r108) 60 62 Tryz.f62 (cod Tryz.f62) args os _ fin := qR _ _ _
theorem ok62 : SpecOK P 62 (shaped A62 r62) := by
  unfold r62 E62
  refine okF 60 ?_ ?_ ?_ Tryz.func62 ?_ ?_ _
  · exact (tcons ok108 tnil)
  · exact trivial
  · exact hnil
  · kernel_rfl
  · kernel_rfl
noncomputable def E64 (r108 : RF) : Env := En 64 [] [] [] [] [] [(108, shaped A108 r108)]
noncomputable def a64 : Alt := ⟨false, .tup [.int .i64, .int .i64], []⟩
noncomputable def A64 : List Alt := [a64]
theorem T64 (r108 : RF) (n : Int) (X : Type) (k : AEnd → List AObj → Option X)
    (x1 : RE) (e1 : r108 [u8 n] [] = x1) :
    body (E64 r108) 60 64 Tryz.f64 (cod Tryz.f64) [u8 n] [] X k =
    bif okAlt a108 x1 then k (.ret (.tuple [i64 ((rV x1).items.getD 1 J).toInt, i64 ((rV x1).items.getD 2 J).toInt])) [] else none := by subst e1; kernel_rfl
noncomputable def r64 : RF := runR (body (E64 r108) 60 64 Tryz.f64 (cod Tryz.f64))
theorem q64 (args : List AV) (os : List AObj) : r64 args os = body (E64 r108) 60 64 Tryz.f64 (cod Tryz.f64) args os _ fin := qR _ _ _
theorem ok64 : SpecOK P 64 (shaped A64 r64) := by
  unfold r64 E64
  refine okF 60 ?_ ?_ ?_ Tryz.func64 ?_ ?_ _
  · exact (tcons ok108 tnil)
  · exact trivial
  · exact hnil
  · kernel_rfl
  · kernel_rfl
noncomputable def E69 (r108 : RF) : Env := En 69 [] [] [] [] [] [(108, shaped A108 r108)]
noncomputable def a69 : Alt := ⟨false, .int .i64, []⟩
noncomputable def A69 : List Alt := [a69]
theorem T69 (r108 : RF) (n : Int) (X : Type) (k : AEnd → List AObj → Option X)
    (x1 : RE) (e1 : r108 [u8 n] [] = x1) :
    body (E69 r108) 60 69 Tryz.f69 (cod Tryz.f69) [u8 n] [] X k =
    bif okAlt a108 x1 then k (.ret (i64 ((rV x1).items.getD 3 J).toInt)) [] else none := by subst e1; kernel_rfl
noncomputable def r69 : RF := runR (body (E69 r108) 60 69 Tryz.f69 (cod Tryz.f69))
theorem q69 (args : List AV) (os : List AObj) : r69 args os = body (E69 r108) 60 69 Tryz.f69 (cod Tryz.f69) args os _ fin := qR _ _ _
theorem ok69 : SpecOK P 69 (shaped A69 r69) := by
  unfold r69 E69
  refine okF 60 ?_ ?_ ?_ Tryz.func69 ?_ ?_ _
  · exact (tcons ok108 tnil)
  · exact trivial
  · exact hnil
  · kernel_rfl
  · kernel_rfl
noncomputable def E253 : Env := En 253 [] [] [] [] [] []
noncomputable def a253 : Alt := ⟨false, .fn0 263 [.ptr 0 0], [.cells [.str]]⟩
noncomputable def A253 : List Alt := [a253]
theorem T253 (s : ByteArray) (X : Type) (k : AEnd → List AObj → Option X) :
    body (E253) 60 253 Tryz.f253 (cod Tryz.f253) [st s] [] X k =
    k (.ret (AV.func (Fn.func 263) [] [AV.ptr 0 0])) [AObj.cells [st s]] := by kernel_rfl
noncomputable def r253 : RF := runR (body (E253) 60 253 Tryz.f253 (cod Tryz.f253))
theorem q253 (args : List AV) (os : List AObj) : r253 args os = body (E253) 60 253 Tryz.f253 (cod Tryz.f253) args os _ fin := qR _ _ _
theorem ok253 : SpecOK P 253 (shaped A253 r253) := by
  unfold r253 E253
  refine okF 60 ?_ ?_ ?_ Tryz.func253 ?_ ?_ _
  · exact tnil
  · exact trivial
  · exact hnil
  · kernel_rfl
  · kernel_rfl
noncomputable def E263_0 (r264 : RF) : Env := En2 263 [(0, [0, 1, 3], [])] [] [] 198 [] [] [] [] [(264, shaped A264 r264)]
noncomputable def a263_0 : BAlt := ⟨.normal, (sj 28 []), [.loop 198 (.str :: sun 1 (.nilS :: .ptr 2 0 :: sun 2 (.str :: .int .i64 :: .wref 3 :: .str :: .fn0 263 [.ptr 1 0] :: sun 9 []))) [11, 12] (asgOf (blk Tryz.f198 0)) (bdOf (blk Tryz.f198 0)), .cells [.str], .cells [.wref 3], .row 1 [shB]], []⟩
noncomputable def A263_0 : List BAlt := [a263_0]
noncomputable def h263_0 : RB := runB (blockRun (E263_0 r264) (fun _ _ => 3000) 0)
theorem q263_0 (c : Code) (a : AAct) (os : List AObj) : h263_0 c a os = exec (E263_0 r264) ((fun _ _ => 3000) a os) 0 (.block 0 c) a os _ finB := qB _ _ _ _ _ _
theorem k263_0 : blk Tryz.f263 0 = .loop (rnd Tryz.f263 0) := by kernel_rfl
theorem p263_0 (T : List AV) (os : List AObj) (F : Nat) (hF : (fun _ _ => 3000) (⟨T, [], 263, 4, false⟩ : AAct) os = F + 1) : h263_0 (blk Tryz.f263 0) ⟨T, [], 263, 4, false⟩ os = exec (E263_0 r264) F 0 (.loop (rnd Tryz.f263 0)) ⟨T, [], 263, 4, false⟩ os _ (bK (E263_0 r264) F 0 finB) := by
  rw [q263_0, hF, exec_block (by kernel_rfl), k263_0]
theorem okb263_0 : BlockOK P 263 0 (bShaped A263_0 [] (some [0, 1, 3]) h263_0) := by
  unfold h263_0 E263_0
  refine okBl2 _ ?_ ?_ ?_ ?_ _ _ _
  · exact (tcons ok264 tnil)
  · exact trivial
  · exact hnil
  · exact hnil
theorem TL263_0r (r264 : RF) (s : ByteArray) (i : Int) (es : List (List AV)) (d m : Nat) (L : AAct → List AObj → ∀ X : Type, (AExit → AAct → List AObj → Option X) → Option X) (X : Type) (k : AExit → AAct → List AObj → Option X)
    (x1 : RE) (e1 : r264 [u8 (↑(s.data.1.getD i.toNat 0).toNat : Int)] [] = x1) :
    roundL (E263_0 r264) (d + 59) 0 (rnd Tryz.f263 0) L ⟨(.yld 0 :: .ptr 1 0 :: J :: i64 i :: jn 24 []), [], 263, 4, false⟩ [.loop 198 (st s :: un 1 (.v (.slice none 0 0) :: .ptr 2 0 :: un 2 (st s :: i64 s.size :: .wref 3 :: st s :: .func (.func 263) [] [.ptr 1 0] :: un 9 []))) [11, 12] (asgOf (blk Tryz.f198 0)) (bdOf (blk Tryz.f198 0)) none, .cells [st s], .cells [.wref 3], .row 1 es] X (bK (E263_0 r264) (m + 60) 0 k) =
    bif ilt i (↑s.size : Int) then bif decide (0 ≤ i) && decide (i < (↑s.size : Int)) then bif okAlt a264 x1 then bif decide (0 ≤ bif decide ((↑s.size : Int) < IntKind.i64.wrap (IntKind.i64.wrap (i + 1) + (rV x1).toInt)) then (↑s.size : Int) else IntKind.i64.wrap (IntKind.i64.wrap (i + 1) + (rV x1).toInt)) && decide ((bif decide ((↑s.size : Int) < IntKind.i64.wrap (IntKind.i64.wrap (i + 1) + (rV x1).toInt)) then (↑s.size : Int) else IntKind.i64.wrap (IntKind.i64.wrap (i + 1) + (rV x1).toInt)) ≤ (↑s.size : Int)) && (decide (0 ≤ i) && decide (i ≤ bif decide ((↑s.size : Int) < IntKind.i64.wrap (IntKind.i64.wrap (i + 1) + (rV x1).toInt)) then (↑s.size : Int) else IntKind.i64.wrap (IntKind.i64.wrap (i + 1) + (rV x1).toInt))) then bif decide (0 ≤ 0) && decide (0 < (↑(s.extract i.toNat (bif decide ((↑s.size : Int) < IntKind.i64.wrap (IntKind.i64.wrap (i + 1) + (rV x1).toInt)) then (↑s.size : Int) else IntKind.i64.wrap (IntKind.i64.wrap (i + 1) + (rV x1).toInt)).toNat).size : Int)) then bif decide (0 ≤ i) && decide (i < (↑es.length : Int)) then bif decide (i.toNat < es.length) then L { tmps := (AV.yld 0 :: AV.ptr 1 0 :: J :: i64 (bif decide ((↑s.size : Int) < IntKind.i64.wrap (IntKind.i64.wrap (i + 1) + (rV x1).toInt)) then (↑s.size : Int) else IntKind.i64.wrap (IntKind.i64.wrap (i + 1) + (rV x1).toInt)) :: jn 24 []), defers := [], fn := 263, foot := 4, round := false } [AObj.loop 198 (st s :: un 1 (AV.v (Value.slice none 0 0) :: AV.ptr 2 0 :: un 2 (st s :: i64 (↑s.size : Int) :: AV.wref 3 :: st s :: AV.func (Fn.func 263) [] [AV.ptr 1 0] :: un 9 []))) [11, 12] (asgOf (blk Tryz.f198 0)) (bdOf (blk Tryz.f198 0)) none, AObj.cells [st s], AObj.cells [AV.wref 3], AObj.row 1 (es.set i.toNat [bo ((↑((s.extract i.toNat (bif decide ((↑s.size : Int) < IntKind.i64.wrap (IntKind.i64.wrap (i + 1) + (rV x1).toInt)) then (↑s.size : Int) else IntKind.i64.wrap (IntKind.i64.wrap (i + 1) + (rV x1).toInt)).toNat).data.1.getD (Int.toNat 0) 0).toNat : Int) == 91)])] X (bK (E263_0 r264) (m + 60) 0 k) else none else none else none else none else none else none else k AExit.normal { tmps := (jn 28 []), defers := [], fn := 263, foot := 4, round := false } [AObj.loop 198 (st s :: un 1 (AV.v (Value.slice none 0 0) :: AV.ptr 2 0 :: un 2 (st s :: i64 (↑s.size : Int) :: AV.wref 3 :: st s :: AV.func (Fn.func 263) [] [AV.ptr 1 0] :: un 9 []))) [11, 12] (asgOf (blk Tryz.f198 0)) (bdOf (blk Tryz.f198 0)) none, AObj.cells [st s], AObj.cells [AV.wref 3], AObj.row 1 es] := by subst e1; kernel_rfl
theorem T263_0r (r264 : RF) (s : ByteArray) (i : Int) (es : List (List AV)) (d m : Nat) (X : Type) (k : AExit → AAct → List AObj → Option X)
    (x1 : RE) (e1 : r264 [u8 (↑(s.data.1.getD i.toNat 0).toNat : Int)] [] = x1) :
    exec (E263_0 r264) (d + 60) 0 (.loop (rnd Tryz.f263 0)) ⟨(.yld 0 :: .ptr 1 0 :: J :: i64 i :: jn 24 []), [], 263, 4, false⟩ [.loop 198 (st s :: un 1 (.v (.slice none 0 0) :: .ptr 2 0 :: un 2 (st s :: i64 s.size :: .wref 3 :: st s :: .func (.func 263) [] [.ptr 1 0] :: un 9 []))) [11, 12] (asgOf (blk Tryz.f198 0)) (bdOf (blk Tryz.f198 0)) none, .cells [st s], .cells [.wref 3], .row 1 es] X (bK (E263_0 r264) (m + 60) 0 k) =
    bif ilt i (↑s.size : Int) then bif decide (0 ≤ i) && decide (i < (↑s.size : Int)) then bif okAlt a264 x1 then bif decide (0 ≤ bif decide ((↑s.size : Int) < IntKind.i64.wrap (IntKind.i64.wrap (i + 1) + (rV x1).toInt)) then (↑s.size : Int) else IntKind.i64.wrap (IntKind.i64.wrap (i + 1) + (rV x1).toInt)) && decide ((bif decide ((↑s.size : Int) < IntKind.i64.wrap (IntKind.i64.wrap (i + 1) + (rV x1).toInt)) then (↑s.size : Int) else IntKind.i64.wrap (IntKind.i64.wrap (i + 1) + (rV x1).toInt)) ≤ (↑s.size : Int)) && (decide (0 ≤ i) && decide (i ≤ bif decide ((↑s.size : Int) < IntKind.i64.wrap (IntKind.i64.wrap (i + 1) + (rV x1).toInt)) then (↑s.size : Int) else IntKind.i64.wrap (IntKind.i64.wrap (i + 1) + (rV x1).toInt))) then bif decide (0 ≤ 0) && decide (0 < (↑(s.extract i.toNat (bif decide ((↑s.size : Int) < IntKind.i64.wrap (IntKind.i64.wrap (i + 1) + (rV x1).toInt)) then (↑s.size : Int) else IntKind.i64.wrap (IntKind.i64.wrap (i + 1) + (rV x1).toInt)).toNat).size : Int)) then bif decide (0 ≤ i) && decide (i < (↑es.length : Int)) then bif decide (i.toNat < es.length) then exec (E263_0 r264) (d + 59) 0 (.loop (rnd Tryz.f263 0)) { tmps := (AV.yld 0 :: AV.ptr 1 0 :: J :: i64 (bif decide ((↑s.size : Int) < IntKind.i64.wrap (IntKind.i64.wrap (i + 1) + (rV x1).toInt)) then (↑s.size : Int) else IntKind.i64.wrap (IntKind.i64.wrap (i + 1) + (rV x1).toInt)) :: jn 24 []), defers := [], fn := 263, foot := 4, round := false } [AObj.loop 198 (st s :: un 1 (AV.v (Value.slice none 0 0) :: AV.ptr 2 0 :: un 2 (st s :: i64 (↑s.size : Int) :: AV.wref 3 :: st s :: AV.func (Fn.func 263) [] [AV.ptr 1 0] :: un 9 []))) [11, 12] (asgOf (blk Tryz.f198 0)) (bdOf (blk Tryz.f198 0)) none, AObj.cells [st s], AObj.cells [AV.wref 3], AObj.row 1 (es.set i.toNat [bo ((↑((s.extract i.toNat (bif decide ((↑s.size : Int) < IntKind.i64.wrap (IntKind.i64.wrap (i + 1) + (rV x1).toInt)) then (↑s.size : Int) else IntKind.i64.wrap (IntKind.i64.wrap (i + 1) + (rV x1).toInt)).toNat).data.1.getD (Int.toNat 0) 0).toNat : Int) == 91)])] X (bK (E263_0 r264) (m + 60) 0 k) else none else none else none else none else none else none else k AExit.normal { tmps := (jn 28 []), defers := [], fn := 263, foot := 4, round := false } [AObj.loop 198 (st s :: un 1 (AV.v (Value.slice none 0 0) :: AV.ptr 2 0 :: un 2 (st s :: i64 (↑s.size : Int) :: AV.wref 3 :: st s :: AV.func (Fn.func 263) [] [AV.ptr 1 0] :: un 9 []))) [11, 12] (asgOf (blk Tryz.f198 0)) (bdOf (blk Tryz.f198 0)) none, AObj.cells [st s], AObj.cells [AV.wref 3], AObj.row 1 es] := (exec_loop _ _ _ _ _ _ _ _).trans (TL263_0r r264 s i es d m (fun a os X k => exec (E263_0 r264) (d + 59) 0 (.loop (rnd Tryz.f263 0)) a os X k) X k _ e1)
noncomputable def E198 (r253 : RF) (h263_0 : RB) : Env := En2 198 [] [] [] 263 [] [(0, bShaped A263_0 [] (some [0, 1, 3]) h263_0)] [] [(263, Tryz.f263, cod Tryz.f263)] [(253, shaped A253 r253)]
noncomputable def a198 : Alt := ⟨false, .sl 1 [shB], []⟩
noncomputable def A198 : List Alt := [a198]
theorem T198 (r253 : RF) (h263_0 : RB) (s : ByteArray) (X : Type) (k : AEnd → List AObj → Option X)
    (x1 : RE) (e1 : r253 [st s] [] = x1)
    (x2 : RBE) (e2 : h263_0 (blk Tryz.f263 0) { tmps := (AV.yld 0 :: AV.ptr 1 0 :: J :: i64 0 :: jn 24 []), defers := [], fn := 263, foot := 4, round := false } [AObj.loop 198 (st s :: un 1 (AV.v (Value.slice none 0 0) :: AV.ptr 2 0 :: un 2 (st s :: i64 (↑s.size : Int) :: AV.wref 3 :: st s :: AV.func (Fn.func 263) [] [AV.ptr 1 0] :: un 9 []))) [11, 12] (asgOf (blk Tryz.f198 0)) (bdOf (blk Tryz.f198 0)) none, AObj.cells [st (((rOs x1).getD 0 AObj.dead).cellsOf.getD 0 J).toStr], AObj.cells [AV.wref 3], AObj.row 1 (List.replicate (↑s.size : Int).toNat [bo false])] = x2) :
    body (E198 r253 h263_0) 60 198 Tryz.f198 (cod Tryz.f198) [st s] [] X k =
    bif decide (0 ≤ (↑s.size : Int)) && (decide ((↑s.size : Int) ≤ (↑s.size : Int)) && decide ((↑s.size : Int) * ((↑1 : Int) + 1) ≤ 2 ^ 46)) then bif okAlt a253 x1 then bif okB a263_0 263 4 false x2 then k (.ret (AV.sl 1 (List.map (fun e => rebs [shB] e 0) ((bOs x2).getD 3 AObj.dead).rowOf))) [] else none else none else none := by subst e1 e2; kernel_rfl
noncomputable def r198 : RF := runR (body (E198 r253 h263_0) 60 198 Tryz.f198 (cod Tryz.f198))
theorem q198 (args : List AV) (os : List AObj) : r198 args os = body (E198 r253 h263_0) 60 198 Tryz.f198 (cod Tryz.f198) args os _ fin := qR _ _ _
theorem ok198 : SpecOK P 198 (shaped A198 r198) := by
  unfold r198 E198
  refine okF2 60 ?_ ?_ ?_ ?_ Tryz.func198 ?_ ?_ _
  · exact (tcons ok253 tnil)
  · exact (And.intro (And.intro Tryz.func263 (And.intro (by kernel_rfl) (by kernel_rfl))) trivial)
  · exact hnil
  · exact (hcons okb263_0 hnil)
  · kernel_rfl
  · kernel_rfl
end Go.Proofs.Vm
end
