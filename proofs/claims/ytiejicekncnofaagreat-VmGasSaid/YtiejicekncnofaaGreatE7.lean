/-
  Part 7 of what the row needs: the executor and what is said of the program's functions, each shown; no condition.
-/
import Derived.Test.YtiejicekncnofaaGreatE6
section
namespace Go.Proofs.Vm
open Go Go.Abs
set_option maxRecDepth 100000
set_option maxHeartbeats 1000000
theorem w264 {n : Int} (_h0 : 0 ≤ n) (_h1 : n ≤ 255) : ∃ r, r264 [u8 n] [] = some (.ret (i64 r), []) ∧ 0 ≤ r ∧ r ≤ 256 := by
  have h := (q264 _ _).trans (T264 n _ fin)
  rcases spB h with ⟨_, h⟩ | ⟨_, h⟩
  · refine ⟨_, h, ?_⟩
    generalize (BitVec.ofInt IntKind.u8.bits n &&& BitVec.ofInt IntKind.u8.bits 31).toNat = m
    have hm : 0 ≤ IntKind.u8.wrap (m : Int) ∧ IntKind.u8.wrap (m : Int) ≤ 255 := by rw [IntKind.wrap_u8]; omega
    rw [w8in (n := IntKind.u8.wrap (m : Int)) (by omega) (by omega), w8in (by omega) (by omega)]; omega
  · exact ⟨_, h, by omega, by omega⟩
theorem w253 (s : ByteArray) : r253 [st s] [] = some (.ret (.func (.func 263) [] [.ptr 0 0]), [.cells [st s]]) := (q253 _ _).trans (T253 s _ fin)
def AllO (es : List (List AV)) : Prop := ∀ e ∈ es, ∃ b : Bool, e = [bo b]
theorem AllO.set {es : List (List AV)} (h : AllO es) (i : Nat) (b : Bool) : AllO (es.set i [bo b]) := fun x hx => by
  rcases List.mem_or_eq_of_mem_set hx with h' | h'
  · exact h x h'
  · exact ⟨b, h'⟩
theorem allO_ok {es : List (List AV)} (h : AllO es) : (es.all fun e => okSs [shB] e) = true := by
  rw [List.all_eq_true]
  intro e he
  obtain ⟨n, rfl⟩ := h e he
  rfl
theorem map_rebO {es : List (List AV)} (h : AllO es) : (es.map fun e => rebs [shB] e 0) = es := by
  refine (List.map_congr_left fun e he => ?_).trans (List.map_id _)
  obtain ⟨n, rfl⟩ := h e he
  rfl
theorem okRowO {es : List (List AV)} (h : (es.all fun e => okSs [shB] e) = true) : okO (.row 1 [shB]) (.row 1 es) = true := by
  show (true && es.all fun e => okSs [shB] e) = true
  rw [h]; rfl
noncomputable def TL198 (s : ByteArray) : AObj := .loop 198 (st s :: un 1 (.v (.slice none 0 0) :: .ptr 2 0 :: un 2 (st s :: i64 s.size :: .wref 3 :: st s :: .func (.func 263) [] [.ptr 1 0] :: un 9 []))) [11, 12] (asgOf (blk Tryz.f198 0)) (bdOf (blk Tryz.f198 0)) none
theorem byteR (s : ByteArray) (i : Nat) : (0 : Int) ≤ ((s.data.1.getD i 0).toNat : Int) ∧ ((s.data.1.getD i 0).toNat : Int) ≤ 255 := by
  have := UInt8.toNat_lt (s.data.1.getD i 0)
  omega
theorem l263_0 (s : ByteArray) (hb : s.size ≤ 2900) (m : Nat) : ∀ (f : Nat) (i : Int) (es : List (List AV)), 0 ≤ i → i ≤ s.size → s.size - i ≤ f → es.length = s.size → AllO es → ∀ r,
    r = exec (E263_0 r264) (f + 60) 0 (.loop (rnd Tryz.f263 0)) ⟨(.yld 0 :: .ptr 1 0 :: J :: i64 i :: jn 24 []), [], 263, 4, false⟩ [TL198 s, .cells [st s], .cells [.wref 3], .row 1 es] _ (bK (E263_0 r264) (m + 60) 0 finB) →
    ∃ es' : List (List AV), es'.length = s.size ∧ AllO es' ∧ r = finB .normal ⟨(jn 28 []), [], 263, 4, false⟩ [TL198 s, .cells [st s], .cells [.wref 3], .row 1 es'] := by
  intro f
  induction f with
  | zero =>
    intro i es h0 h1 hf hl ha r h
    replace h := h.trans (T263_0r r264 s i es 0 m _ finB _ rfl)
    exact ⟨es, hl, ha, gn h (ilt_f' (by omega))⟩
  | succ f ih =>
    intro i es h0 h1 hf hl ha r h
    obtain ⟨o, e1, ho0, ho1⟩ := w264 (byteR s i.toNat).1 (byteR s i.toNat).2
    replace h := h.trans (T263_0r r264 s i es (f + 1) m _ finB _ e1)
    by_cases hi : i < s.size
    · replace h := go h (ilt_t' hi)
      replace h := go h (dec2 (by omega) (by omega))
      replace h := go h rfl
      have hw : IntKind.i64.wrap (IntKind.i64.wrap (i + 1) + (rV (some (AEnd.ret (i64 o), []))).toInt) = i + 1 + o := by
        show IntKind.i64.wrap (IntKind.i64.wrap (i + 1) + o) = _
        rw [w8in (n := i + 1) (by omega) (by omega), w8in (by omega) (by omega)]
      rw [hw] at h
      have hz : ∃ z, (bif decide ((s.size : Int) < i + 1 + o) then (s.size : Int) else i + 1 + o) = z ∧ i < z ∧ z ≤ s.size := by
        by_cases hc : (s.size : Int) < i + 1 + o
        · exact ⟨s.size, by rw [decide_eq_true hc]; rfl, by omega, by omega⟩
        · exact ⟨i + 1 + o, by rw [decide_eq_false hc]; rfl, by omega, by omega⟩
      obtain ⟨z, hz, hz1, hz2⟩ := hz
      rw [hz] at h
      replace h := go h (and_t (dec2 (by omega) (by omega)) (dec2 (by omega) (by omega)))
      have hsz : (s.extract i.toNat z.toNat).size = z.toNat - i.toNat := size_ex s (by omega)
      replace h := go h (dec2 (by omega) (by rw [hsz]; omega))
      replace h := go h (dec2 (by omega) (by omega))
      replace h := go h (dec1 (by omega))
      exact ih z _ (by omega) (by omega) (by omega) (by rw [List.length_set]; exact hl) (ha.set _ _) r h
    · exact ⟨es, hl, ha, gn h (ilt_f' (by omega))⟩
theorem w198 {s : ByteArray} (hs : s.size ≤ 2900) : ∃ es, r198 [st s] [] = some (.ret (.sl 1 es), []) ∧ es.length = s.size ∧ AllO es := by
  have h0 : AllO (List.replicate (s.size : Int).toNat [bo false]) := fun e he => by rw [List.eq_of_mem_replicate he]; exact ⟨false, rfl⟩
  obtain ⟨es, hl, ha, e2⟩ := l263_0 s hs 2939 2939 0 (List.replicate (s.size : Int).toNat [bo false]) (by omega) (by omega) (by omega) (by rw [List.length_replicate]; omega) h0 _ rfl
  replace e2 := (p263_0 _ _ 2999 rfl).trans e2
  have h := (q198 _ _).trans (T198 r253 h263_0 s _ fin _ (w253 s) _ e2)
  replace h := go h (by simp; omega)
  replace h := go h rfl
  replace h := go h (okB_t rfl rfl (okCons (okLoop rfl) (okCons rfl (okCons rfl (okCons (okRowO (allO_ok ha)) rfl)))) rfl)
  have hm : (List.map (fun e => rebs [shB] e 0) es) = es := map_rebO ha
  refine ⟨es, h.trans ?_, hl, ha⟩
  show some (AEnd.ret (.sl 1 (List.map (fun e => rebs [shB] e 0) es)), _) = _
  rw [hm]
noncomputable def kd (n : Nat) : List AV := (rV (r108 [u8 (n : Nat)] [])).items
noncomputable def nm (n : Nat) : ByteArray := ((kd n).getD 0 J).toStr
noncomputable def tk (n : Nat) : Int := ((kd n).getD 1 J).toInt
noncomputable def ly (n : Nat) : Int := ((kd n).getD 2 J).toInt
noncomputable def gs (n : Nat) : Int := ((kd n).getD 3 J).toInt
noncomputable def kdR (n : Nat) : RE := some (.ret (.agg [st (nm n), i64 (tk n), i64 (ly n), i64 (gs n)]), [])
theorem tab108 : ((List.range 256).all fun n => okAlt a108 (r108 [u8 (n : Nat)] [])) = true := by
  refine (congrArg (List.all (List.range 256)) (funext fun n => congrArg (okAlt a108) ((q108 _ _).trans (T108 r165 r166 r167 n _ fin _ ((q167 _ _).trans (T167 n _ fin)) _ ((q166 _ _).trans (T166 _ _ _ fin)) _ ((q166 _ _).trans (T166 _ _ _ fin)) _ ((q166 _ _).trans (T166 _ _ _ fin)) _ ((q165 _ _).trans (T165 n _ fin)))))).trans ?_
  kernel_rfl
theorem w108 {n : Nat} (h : n < 256) : r108 [u8 (n : Nat)] [] = kdR n := by
  have h1 := okAlt_eq (List.all_eq_true.1 tab108 n (List.mem_range.2 h))
  unfold kdR nm tk ly gs kd
  generalize r108 [u8 (n : Nat)] [] = r at h1 ⊢
  exact h1
theorem w62 {n : Nat} (h : n < 256) : r62 [u8 (n : Nat)] [] = some (.ret (st (nm n)), []) := by
  have e := w108 h
  unfold kdR at e
  generalize nm n = a at e ⊢; generalize tk n = b at e; generalize ly n = c at e; generalize gs n = d at e
  have hh := (q62 _ _).trans (T62 r108 n _ fin _ e)
  exact go hh rfl
theorem w64 {n : Nat} (h : n < 256) : r64 [u8 (n : Nat)] [] = some (.ret (.tuple [i64 (tk n), i64 (ly n)]), []) := by
  have e := w108 h
  unfold kdR at e
  generalize nm n = a at e; generalize tk n = b at e ⊢; generalize ly n = c at e ⊢; generalize gs n = d at e
  have hh := (q64 _ _).trans (T64 r108 n _ fin _ e)
  exact go hh rfl
theorem w69 {n : Nat} (h : n < 256) : r69 [u8 (n : Nat)] [] = some (.ret (i64 (gs n)), []) := by
  have e := w108 h
  unfold kdR at e
  generalize nm n = a at e; generalize tk n = b at e; generalize ly n = c at e; generalize gs n = d at e ⊢
  have hh := (q69 _ _).trans (T69 r108 n _ fin _ e)
  exact go hh rfl
end Go.Proofs.Vm
end
section
open Go Go.Abs
namespace Go.Proofs.Vm
def Mc (code inp : ByteArray) (stk : AV) (mem : ByteArray) (pc gas stand err : Int) (out : ByteArray) (op a0 a1 a2 a3 b0 b1 b2 b3 c0 c1 c2 c3 : Int) : List AV := [st code, st inp, stk, st mem, i64 pc, i64 gas, i64 stand, i64 err, st out, u8 op, u a0, u a1, u a2, u a3, u b0, u b1, u b2, u b3, u c0, u c1, u c2, u c3]
def shM (s : Sh) : List Sh := [.str, .str, s, .str, .int .i64, .int .i64, .int .i64, .int .i64, .str, .int .u8, sh6, sh6, sh6, sh6, sh6, sh6, sh6, sh6, sh6, sh6, sh6, sh6]
set_option maxRecDepth 100000
set_option maxHeartbeats 0
noncomputable def E115 : Env := En 115 [] [] [(169, Tryz.f169, cod Tryz.f169)] [] [] []
noncomputable def a115 : Alt := ⟨false, .bool, []⟩
noncomputable def A115 : List Alt := [a115]
theorem T115 (s t : ByteArray) (X : Type) (k : AEnd → List AObj → Option X) :
    body (E115) 60 115 Tryz.f115 (cod Tryz.f115) [st s, st t] [] X k =
    bif ile (↑t.size : Int) (↑s.size : Int) then bif decide (0 ≤ (↑t.size : Int)) && decide ((↑t.size : Int) ≤ (↑s.size : Int)) then k (.ret (bo ((s.extract 0 (↑t.size : Int).toNat).toList == t.toList))) [] else none else k (.ret (bo false)) [] := by kernel_rfl
noncomputable def r115 : RF := runR (body (E115) 60 115 Tryz.f115 (cod Tryz.f115))
theorem q115 (args : List AV) (os : List AObj) : r115 args os = body (E115) 60 115 Tryz.f115 (cod Tryz.f115) args os _ fin := qR _ _ _
theorem ok115 : SpecOK P 115 (shaped A115 r115) := by
  unfold r115 E115
  refine okF 60 ?_ ?_ ?_ Tryz.func115 ?_ ?_ _
  · exact tnil
  · exact (And.intro (And.intro Tryz.func169 (And.intro (by kernel_rfl) (by kernel_rfl))) trivial)
  · exact hnil
  · kernel_rfl
  · kernel_rfl
noncomputable def E63 : Env := En 63 [] [] [] [] [] []
noncomputable def a63 : Alt := ⟨false, .tup [], []⟩
noncomputable def a63y : Alt := ⟨true, .iface 63 (.int .i64), []⟩
noncomputable def A63 : List Alt := [a63, a63y]
theorem T63 (b : Bool) (e : Int) (X : Type) (k : AEnd → List AObj → Option X) :
    body (E63) 60 63 Tryz.f63 (cod Tryz.f63) [bo b, i64 e] [] X k =
    bif !b then k (.panic (AV.iface 63 (i64 e))) [] else k (.ret (.tuple [])) [] := by kernel_rfl
noncomputable def r63 : RF := runR (body (E63) 60 63 Tryz.f63 (cod Tryz.f63))
theorem q63 (args : List AV) (os : List AObj) : r63 args os = body (E63) 60 63 Tryz.f63 (cod Tryz.f63) args os _ fin := qR _ _ _
theorem ok63 : SpecOK P 63 (shaped A63 r63) := by
  unfold r63 E63
  refine okF 60 ?_ ?_ ?_ Tryz.func63 ?_ ?_ _
  · exact tnil
  · exact trivial
  · exact hnil
  · kernel_rfl
  · kernel_rfl
noncomputable def E65 : Env := En 65 [] [] [] [] [] []
noncomputable def a65 : Alt := ⟨false, shU, [.cells (shM (.sl 4 [sh6, sh6, sh6, sh6]))]⟩
noncomputable def a65y : Alt := ⟨false, shU, [.cells (shM (.wref 1)), .row 4 [sh6, sh6, sh6, sh6]]⟩
noncomputable def A65 : List Alt := [a65, a65y]
theorem T65 (code inp mem out : ByteArray) (pc gas stand err op a0 a1 a2 a3 b0 b1 b2 b3 c0 c1 c2 c3 : Int) (es : List (List AV)) (kk : Int) (X : Type) (k : AEnd → List AObj → Option X) :
    body (E65) 60 65 Tryz.f65 (cod Tryz.f65) [.ptr 0 0, i64 kk] [.cells (Mc code inp (.sl 4 es) mem pc gas stand err out op a0 a1 a2 a3 b0 b1 b2 b3 c0 c1 c2 c3)] X k =
    bif ile (↑es.length : Int) kk then k (.ret (U 0 0 0 0)) [AObj.cells (Mc code inp (AV.sl 4 es) mem pc gas stand err out op a0 a1 a2 a3 b0 b1 b2 b3 c0 c1 c2 c3)] else bif decide (0 ≤ IntKind.i64.wrap (IntKind.i64.wrap ((↑es.length : Int) - 1) - kk)) && decide (IntKind.i64.wrap (IntKind.i64.wrap ((↑es.length : Int) - 1) - kk) < (↑es.length : Int)) then bif decide (0 < (es.getD (IntKind.i64.wrap (IntKind.i64.wrap ((↑es.length : Int) - 1) - kk)).toNat []).length) && (AV.isInt IntKind.u64 ((es.getD (IntKind.i64.wrap (IntKind.i64.wrap ((↑es.length : Int) - 1) - kk)).toNat []).getD 0 J) && (decide (0 + 1 < (es.getD (IntKind.i64.wrap (IntKind.i64.wrap ((↑es.length : Int) - 1) - kk)).toNat []).length) && (AV.isInt IntKind.u64 ((es.getD (IntKind.i64.wrap (IntKind.i64.wrap ((↑es.length : Int) - 1) - kk)).toNat []).getD 1 J) && (decide (0 + 1 + 1 < (es.getD (IntKind.i64.wrap (IntKind.i64.wrap ((↑es.length : Int) - 1) - kk)).toNat []).length) && (AV.isInt IntKind.u64 ((es.getD (IntKind.i64.wrap (IntKind.i64.wrap ((↑es.length : Int) - 1) - kk)).toNat []).getD 2 J) && (decide (0 + 1 + 1 + 1 < (es.getD (IntKind.i64.wrap (IntKind.i64.wrap ((↑es.length : Int) - 1) - kk)).toNat []).length) && (AV.isInt IntKind.u64 ((es.getD (IntKind.i64.wrap (IntKind.i64.wrap ((↑es.length : Int) - 1) - kk)).toNat []).getD 3 J) && true))))))) then k (.ret (AV.agg (tu4 (es.getD (IntKind.i64.wrap (IntKind.i64.wrap ((↑es.length : Int) - 1) - kk)).toNat [])))) [AObj.cells (Mc code inp (AV.sl 4 es) mem pc gas stand err out op a0 a1 a2 a3 b0 b1 b2 b3 c0 c1 c2 c3)] else none else none := by kernel_rfl
noncomputable def r65 : RF := runR (body (E65) 60 65 Tryz.f65 (cod Tryz.f65))
theorem q65 (args : List AV) (os : List AObj) : r65 args os = body (E65) 60 65 Tryz.f65 (cod Tryz.f65) args os _ fin := qR _ _ _
theorem ok65 : SpecOK P 65 (shaped A65 r65) := by
  unfold r65 E65
  refine okF 60 ?_ ?_ ?_ Tryz.func65 ?_ ?_ _
  · exact tnil
  · exact trivial
  · exact hnil
  · kernel_rfl
  · kernel_rfl
theorem T65w (code inp mem out : ByteArray) (pc gas stand err op a0 a1 a2 a3 b0 b1 b2 b3 c0 c1 c2 c3 : Int) (es : List (List AV)) (kk : Int) (X : Type) (k : AEnd → List AObj → Option X) :
    body (E65) 60 65 Tryz.f65 (cod Tryz.f65) [.ptr 0 0, i64 kk] [.cells (Mc code inp (.wref 1) mem pc gas stand err out op a0 a1 a2 a3 b0 b1 b2 b3 c0 c1 c2 c3), .row 4 es] X k =
    bif ile (↑es.length : Int) kk then k (.ret (U 0 0 0 0)) [AObj.cells (Mc code inp (AV.wref 1) mem pc gas stand err out op a0 a1 a2 a3 b0 b1 b2 b3 c0 c1 c2 c3), AObj.row 4 es] else bif decide (0 ≤ IntKind.i64.wrap (IntKind.i64.wrap ((↑es.length : Int) - 1) - kk)) && decide (IntKind.i64.wrap (IntKind.i64.wrap ((↑es.length : Int) - 1) - kk) < (↑es.length : Int)) then bif decide ((IntKind.i64.wrap (IntKind.i64.wrap ((↑es.length : Int) - 1) - kk)).toNat < es.length) && (decide (0 < (es.getD (IntKind.i64.wrap (IntKind.i64.wrap ((↑es.length : Int) - 1) - kk)).toNat []).length) && (AV.isInt IntKind.u64 ((es.getD (IntKind.i64.wrap (IntKind.i64.wrap ((↑es.length : Int) - 1) - kk)).toNat []).getD 0 J) && (decide (0 + 1 < (es.getD (IntKind.i64.wrap (IntKind.i64.wrap ((↑es.length : Int) - 1) - kk)).toNat []).length) && (AV.isInt IntKind.u64 ((es.getD (IntKind.i64.wrap (IntKind.i64.wrap ((↑es.length : Int) - 1) - kk)).toNat []).getD 1 J) && (decide (0 + 1 + 1 < (es.getD (IntKind.i64.wrap (IntKind.i64.wrap ((↑es.length : Int) - 1) - kk)).toNat []).length) && (AV.isInt IntKind.u64 ((es.getD (IntKind.i64.wrap (IntKind.i64.wrap ((↑es.length : Int) - 1) - kk)).toNat []).getD 2 J) && (decide (0 + 1 + 1 + 1 < (es.getD (IntKind.i64.wrap (IntKind.i64.wrap ((↑es.length : Int) - 1) - kk)).toNat []).length) && (AV.isInt IntKind.u64 ((es.getD (IntKind.i64.wrap (IntKind.i64.wrap ((↑es.length : Int) - 1) - kk)).toNat []).getD 3 J) && true)))))))) then k (.ret (AV.agg (tu4 (es.getD (IntKind.i64.wrap (IntKind.i64.wrap ((↑es.length : Int) - 1) - kk)).toNat [])))) [AObj.cells (Mc code inp (AV.wref 1) mem pc gas stand err out op a0 a1 a2 a3 b0 b1 b2 b3 c0 c1 c2 c3), AObj.row 4 es] else none else none := by kernel_rfl
noncomputable def E68 (r63 : RF) : Env := En 68 [] [] [] [] [] [(63, shaped A63 r63)]
noncomputable def a68 : Alt := ⟨false, .tup [], [.cells (shM (.sl 4 [sh6, sh6, sh6, sh6]))]⟩
noncomputable def a68y : Alt := ⟨true, .iface 63 (.int .i64), [.cells (shM (.sl 4 [sh6, sh6, sh6, sh6]))]⟩
noncomputable def A68 : List Alt := [a68, a68y]
theorem T68 (r63 : RF) (code inp mem out : ByteArray) (pc gas stand err op a0 a1 a2 a3 b0 b1 b2 b3 c0 c1 c2 c3 : Int) (es : List (List AV)) (g : Int) (X : Type) (k : AEnd → List AObj → Option X)
    (x1 : RE) (e1 : r63 [bo (ile g gas), i64 18] [] = x1) :
    body (E68 r63) 60 68 Tryz.f68 (cod Tryz.f68) [.ptr 0 0, i64 g] [.cells (Mc code inp (.sl 4 es) mem pc gas stand err out op a0 a1 a2 a3 b0 b1 b2 b3 c0 c1 c2 c3)] X k =
    bif okAlt a63 x1 then k (.ret (.tuple [])) [AObj.cells (Mc code inp (AV.sl 4 es) mem pc (IntKind.i64.wrap (gas - g)) stand err out op a0 a1 a2 a3 b0 b1 b2 b3 c0 c1 c2 c3)] else bif okAlt a63y x1 then k (.panic (AV.iface 63 (i64 ((rV x1).items.getD 0 J).toInt))) [AObj.cells (Mc code inp (AV.sl 4 es) mem pc gas stand err out op a0 a1 a2 a3 b0 b1 b2 b3 c0 c1 c2 c3)] else none := by subst e1; kernel_rfl
noncomputable def r68 : RF := runR (body (E68 r63) 60 68 Tryz.f68 (cod Tryz.f68))
theorem q68 (args : List AV) (os : List AObj) : r68 args os = body (E68 r63) 60 68 Tryz.f68 (cod Tryz.f68) args os _ fin := qR _ _ _
theorem ok68 : SpecOK P 68 (shaped A68 r68) := by
  unfold r68 E68
  refine okF 60 ?_ ?_ ?_ Tryz.func68 ?_ ?_ _
  · exact (tcons ok63 tnil)
  · exact trivial
  · exact hnil
  · kernel_rfl
  · kernel_rfl
noncomputable def E66 (r62 : RF) (r83 : RF) : Env := En 66 [] [] [] [] [] [(62, shaped A62 r62), (83, shaped A83 r83)]
noncomputable def a66 : Alt := ⟨false, .tup [shU, shU], [.cells (shM (.sl 4 [sh6, sh6, sh6, sh6]))]⟩
noncomputable def A66 : List Alt := [a66]
theorem T66 (r62 : RF) (r83 : RF) (code inp mem out : ByteArray) (pc gas stand err op a0 a1 a2 a3 b0 b1 b2 b3 c0 c1 c2 c3 : Int) (es : List (List AV)) (X : Type) (k : AEnd → List AObj → Option X)
    (x1 : RE) (e1 : r62 [u8 op] [] = x1)
    (x2 : RE) (e2 : r83 [u 1] [] = x2)
    (x3 : RE) (e3 : r83 [u 32] [] = x3) :
    body (E66 r62 r83) 60 66 Tryz.f66 (cod Tryz.f66) [.ptr 0 0] [.cells (Mc code inp (.sl 4 es) mem pc gas stand err out op a0 a1 a2 a3 b0 b1 b2 b3 c0 c1 c2 c3)] X k =
    bif okAlt a62 x1 then bif (rV x1).toStr.toList == (ByteArray.mk #[75, 69, 67, 67, 65, 75, 50, 53, 54]).toList then bif (rV x1).toStr.toList == (ByteArray.mk #[75, 69, 67, 67, 65, 75, 50, 53, 54]).toList then k (.ret (.tuple [U a0 a1 a2 a3, U b0 b1 b2 b3])) [AObj.cells (Mc code inp (AV.sl 4 es) mem pc gas stand err out op a0 a1 a2 a3 b0 b1 b2 b3 c0 c1 c2 c3)] else bif (rV x1).toStr.toList == (ByteArray.mk #[67, 65, 76, 76, 68, 65, 84, 65, 67, 79, 80, 89]).toList then bif (rV x1).toStr.toList == (ByteArray.mk #[67, 65, 76, 76, 68, 65, 84, 65, 67, 79, 80, 89]).toList then k (.ret (.tuple [U a0 a1 a2 a3, U c0 c1 c2 c3])) [AObj.cells (Mc code inp (AV.sl 4 es) mem pc gas stand err out op a0 a1 a2 a3 b0 b1 b2 b3 c0 c1 c2 c3)] else bif (rV x1).toStr.toList == (ByteArray.mk #[77, 76, 79, 65, 68]).toList then bif (rV x1).toStr.toList == (ByteArray.mk #[77, 76, 79, 65, 68]).toList then bif okAlt a83 x3 then k (.ret (.tuple [U a0 a1 a2 a3, AV.agg (tu4 (rV x3).items)])) [AObj.cells (Mc code inp (AV.sl 4 es) mem pc gas stand err out op a0 a1 a2 a3 b0 b1 b2 b3 c0 c1 c2 c3)] else none else bif (rV x1).toStr.toList == (ByteArray.mk #[77, 83, 84, 79, 82, 69, 56]).toList then bif okAlt a83 x2 then k (.ret (.tuple [U a0 a1 a2 a3, AV.agg (tu4 (rV x2).items)])) [AObj.cells (Mc code inp (AV.sl 4 es) mem pc gas stand err out op a0 a1 a2 a3 b0 b1 b2 b3 c0 c1 c2 c3)] else none else k (.ret (.tuple [U 0 0 0 0, U 0 0 0 0])) [AObj.cells (Mc code inp (AV.sl 4 es) mem pc gas stand err out op a0 a1 a2 a3 b0 b1 b2 b3 c0 c1 c2 c3)] else bif (rV x1).toStr.toList == (ByteArray.mk #[77, 83, 84, 79, 82, 69]).toList then bif okAlt a83 x3 then k (.ret (.tuple [U a0 a1 a2 a3, AV.agg (tu4 (rV x3).items)])) [AObj.cells (Mc code inp (AV.sl 4 es) mem pc gas stand err out op a0 a1 a2 a3 b0 b1 b2 b3 c0 c1 c2 c3)] else none else bif (rV x1).toStr.toList == (ByteArray.mk #[77, 83, 84, 79, 82, 69, 56]).toList then bif okAlt a83 x2 then k (.ret (.tuple [U a0 a1 a2 a3, AV.agg (tu4 (rV x2).items)])) [AObj.cells (Mc code inp (AV.sl 4 es) mem pc gas stand err out op a0 a1 a2 a3 b0 b1 b2 b3 c0 c1 c2 c3)] else none else k (.ret (.tuple [U 0 0 0 0, U 0 0 0 0])) [AObj.cells (Mc code inp (AV.sl 4 es) mem pc gas stand err out op a0 a1 a2 a3 b0 b1 b2 b3 c0 c1 c2 c3)] else bif (rV x1).toStr.toList == (ByteArray.mk #[67, 79, 68, 69, 67, 79, 80, 89]).toList then k (.ret (.tuple [U a0 a1 a2 a3, U c0 c1 c2 c3])) [AObj.cells (Mc code inp (AV.sl 4 es) mem pc gas stand err out op a0 a1 a2 a3 b0 b1 b2 b3 c0 c1 c2 c3)] else bif (rV x1).toStr.toList == (ByteArray.mk #[77, 76, 79, 65, 68]).toList then bif (rV x1).toStr.toList == (ByteArray.mk #[77, 76, 79, 65, 68]).toList then bif okAlt a83 x3 then k (.ret (.tuple [U a0 a1 a2 a3, AV.agg (tu4 (rV x3).items)])) [AObj.cells (Mc code inp (AV.sl 4 es) mem pc gas stand err out op a0 a1 a2 a3 b0 b1 b2 b3 c0 c1 c2 c3)] else none else bif (rV x1).toStr.toList == (ByteArray.mk #[77, 83, 84, 79, 82, 69, 56]).toList then bif okAlt a83 x2 then k (.ret (.tuple [U a0 a1 a2 a3, AV.agg (tu4 (rV x2).items)])) [AObj.cells (Mc code inp (AV.sl 4 es) mem pc gas stand err out op a0 a1 a2 a3 b0 b1 b2 b3 c0 c1 c2 c3)] else none else k (.ret (.tuple [U 0 0 0 0, U 0 0 0 0])) [AObj.cells (Mc code inp (AV.sl 4 es) mem pc gas stand err out op a0 a1 a2 a3 b0 b1 b2 b3 c0 c1 c2 c3)] else bif (rV x1).toStr.toList == (ByteArray.mk #[77, 83, 84, 79, 82, 69]).toList then bif okAlt a83 x3 then k (.ret (.tuple [U a0 a1 a2 a3, AV.agg (tu4 (rV x3).items)])) [AObj.cells (Mc code inp (AV.sl 4 es) mem pc gas stand err out op a0 a1 a2 a3 b0 b1 b2 b3 c0 c1 c2 c3)] else none else bif (rV x1).toStr.toList == (ByteArray.mk #[77, 83, 84, 79, 82, 69, 56]).toList then bif okAlt a83 x2 then k (.ret (.tuple [U a0 a1 a2 a3, AV.agg (tu4 (rV x2).items)])) [AObj.cells (Mc code inp (AV.sl 4 es) mem pc gas stand err out op a0 a1 a2 a3 b0 b1 b2 b3 c0 c1 c2 c3)] else none else k (.ret (.tuple [U 0 0 0 0, U 0 0 0 0])) [AObj.cells (Mc code inp (AV.sl 4 es) mem pc gas stand err out op a0 a1 a2 a3 b0 b1 b2 b3 c0 c1 c2 c3)] else bif (rV x1).toStr.toList == (ByteArray.mk #[82, 69, 84, 85, 82, 78]).toList then bif (rV x1).toStr.toList == (ByteArray.mk #[82, 69, 84, 85, 82, 78]).toList then k (.ret (.tuple [U a0 a1 a2 a3, U b0 b1 b2 b3])) [AObj.cells (Mc code inp (AV.sl 4 es) mem pc gas stand err out op a0 a1 a2 a3 b0 b1 b2 b3 c0 c1 c2 c3)] else bif (rV x1).toStr.toList == (ByteArray.mk #[67, 65, 76, 76, 68, 65, 84, 65, 67, 79, 80, 89]).toList then bif (rV x1).toStr.toList == (ByteArray.mk #[67, 65, 76, 76, 68, 65, 84, 65, 67, 79, 80, 89]).toList then k (.ret (.tuple [U a0 a1 a2 a3, U c0 c1 c2 c3])) [AObj.cells (Mc code inp (AV.sl 4 es) mem pc gas stand err out op a0 a1 a2 a3 b0 b1 b2 b3 c0 c1 c2 c3)] else bif (rV x1).toStr.toList == (ByteArray.mk #[77, 76, 79, 65, 68]).toList then bif (rV x1).toStr.toList == (ByteArray.mk #[77, 76, 79, 65, 68]).toList then bif okAlt a83 x3 then k (.ret (.tuple [U a0 a1 a2 a3, AV.agg (tu4 (rV x3).items)])) [AObj.cells (Mc code inp (AV.sl 4 es) mem pc gas stand err out op a0 a1 a2 a3 b0 b1 b2 b3 c0 c1 c2 c3)] else none else bif (rV x1).toStr.toList == (ByteArray.mk #[77, 83, 84, 79, 82, 69, 56]).toList then bif okAlt a83 x2 then k (.ret (.tuple [U a0 a1 a2 a3, AV.agg (tu4 (rV x2).items)])) [AObj.cells (Mc code inp (AV.sl 4 es) mem pc gas stand err out op a0 a1 a2 a3 b0 b1 b2 b3 c0 c1 c2 c3)] else none else k (.ret (.tuple [U 0 0 0 0, U 0 0 0 0])) [AObj.cells (Mc code inp (AV.sl 4 es) mem pc gas stand err out op a0 a1 a2 a3 b0 b1 b2 b3 c0 c1 c2 c3)] else bif (rV x1).toStr.toList == (ByteArray.mk #[77, 83, 84, 79, 82, 69]).toList then bif okAlt a83 x3 then k (.ret (.tuple [U a0 a1 a2 a3, AV.agg (tu4 (rV x3).items)])) [AObj.cells (Mc code inp (AV.sl 4 es) mem pc gas stand err out op a0 a1 a2 a3 b0 b1 b2 b3 c0 c1 c2 c3)] else none else bif (rV x1).toStr.toList == (ByteArray.mk #[77, 83, 84, 79, 82, 69, 56]).toList then bif okAlt a83 x2 then k (.ret (.tuple [U a0 a1 a2 a3, AV.agg (tu4 (rV x2).items)])) [AObj.cells (Mc code inp (AV.sl 4 es) mem pc gas stand err out op a0 a1 a2 a3 b0 b1 b2 b3 c0 c1 c2 c3)] else none else k (.ret (.tuple [U 0 0 0 0, U 0 0 0 0])) [AObj.cells (Mc code inp (AV.sl 4 es) mem pc gas stand err out op a0 a1 a2 a3 b0 b1 b2 b3 c0 c1 c2 c3)] else bif (rV x1).toStr.toList == (ByteArray.mk #[67, 79, 68, 69, 67, 79, 80, 89]).toList then k (.ret (.tuple [U a0 a1 a2 a3, U c0 c1 c2 c3])) [AObj.cells (Mc code inp (AV.sl 4 es) mem pc gas stand err out op a0 a1 a2 a3 b0 b1 b2 b3 c0 c1 c2 c3)] else bif (rV x1).toStr.toList == (ByteArray.mk #[77, 76, 79, 65, 68]).toList then bif (rV x1).toStr.toList == (ByteArray.mk #[77, 76, 79, 65, 68]).toList then bif okAlt a83 x3 then k (.ret (.tuple [U a0 a1 a2 a3, AV.agg (tu4 (rV x3).items)])) [AObj.cells (Mc code inp (AV.sl 4 es) mem pc gas stand err out op a0 a1 a2 a3 b0 b1 b2 b3 c0 c1 c2 c3)] else none else bif (rV x1).toStr.toList == (ByteArray.mk #[77, 83, 84, 79, 82, 69, 56]).toList then bif okAlt a83 x2 then k (.ret (.tuple [U a0 a1 a2 a3, AV.agg (tu4 (rV x2).items)])) [AObj.cells (Mc code inp (AV.sl 4 es) mem pc gas stand err out op a0 a1 a2 a3 b0 b1 b2 b3 c0 c1 c2 c3)] else none else k (.ret (.tuple [U 0 0 0 0, U 0 0 0 0])) [AObj.cells (Mc code inp (AV.sl 4 es) mem pc gas stand err out op a0 a1 a2 a3 b0 b1 b2 b3 c0 c1 c2 c3)] else bif (rV x1).toStr.toList == (ByteArray.mk #[77, 83, 84, 79, 82, 69]).toList then bif okAlt a83 x3 then k (.ret (.tuple [U a0 a1 a2 a3, AV.agg (tu4 (rV x3).items)])) [AObj.cells (Mc code inp (AV.sl 4 es) mem pc gas stand err out op a0 a1 a2 a3 b0 b1 b2 b3 c0 c1 c2 c3)] else none else bif (rV x1).toStr.toList == (ByteArray.mk #[77, 83, 84, 79, 82, 69, 56]).toList then bif okAlt a83 x2 then k (.ret (.tuple [U a0 a1 a2 a3, AV.agg (tu4 (rV x2).items)])) [AObj.cells (Mc code inp (AV.sl 4 es) mem pc gas stand err out op a0 a1 a2 a3 b0 b1 b2 b3 c0 c1 c2 c3)] else none else k (.ret (.tuple [U 0 0 0 0, U 0 0 0 0])) [AObj.cells (Mc code inp (AV.sl 4 es) mem pc gas stand err out op a0 a1 a2 a3 b0 b1 b2 b3 c0 c1 c2 c3)] else bif (rV x1).toStr.toList == (ByteArray.mk #[82, 69, 86, 69, 82, 84]).toList then k (.ret (.tuple [U a0 a1 a2 a3, U b0 b1 b2 b3])) [AObj.cells (Mc code inp (AV.sl 4 es) mem pc gas stand err out op a0 a1 a2 a3 b0 b1 b2 b3 c0 c1 c2 c3)] else bif (rV x1).toStr.toList == (ByteArray.mk #[67, 65, 76, 76, 68, 65, 84, 65, 67, 79, 80, 89]).toList then bif (rV x1).toStr.toList == (ByteArray.mk #[67, 65, 76, 76, 68, 65, 84, 65, 67, 79, 80, 89]).toList then k (.ret (.tuple [U a0 a1 a2 a3, U c0 c1 c2 c3])) [AObj.cells (Mc code inp (AV.sl 4 es) mem pc gas stand err out op a0 a1 a2 a3 b0 b1 b2 b3 c0 c1 c2 c3)] else bif (rV x1).toStr.toList == (ByteArray.mk #[77, 76, 79, 65, 68]).toList then bif (rV x1).toStr.toList == (ByteArray.mk #[77, 76, 79, 65, 68]).toList then bif okAlt a83 x3 then k (.ret (.tuple [U a0 a1 a2 a3, AV.agg (tu4 (rV x3).items)])) [AObj.cells (Mc code inp (AV.sl 4 es) mem pc gas stand err out op a0 a1 a2 a3 b0 b1 b2 b3 c0 c1 c2 c3)] else none else bif (rV x1).toStr.toList == (ByteArray.mk #[77, 83, 84, 79, 82, 69, 56]).toList then bif okAlt a83 x2 then k (.ret (.tuple [U a0 a1 a2 a3, AV.agg (tu4 (rV x2).items)])) [AObj.cells (Mc code inp (AV.sl 4 es) mem pc gas stand err out op a0 a1 a2 a3 b0 b1 b2 b3 c0 c1 c2 c3)] else none else k (.ret (.tuple [U 0 0 0 0, U 0 0 0 0])) [AObj.cells (Mc code inp (AV.sl 4 es) mem pc gas stand err out op a0 a1 a2 a3 b0 b1 b2 b3 c0 c1 c2 c3)] else bif (rV x1).toStr.toList == (ByteArray.mk #[77, 83, 84, 79, 82, 69]).toList then bif okAlt a83 x3 then k (.ret (.tuple [U a0 a1 a2 a3, AV.agg (tu4 (rV x3).items)])) [AObj.cells (Mc code inp (AV.sl 4 es) mem pc gas stand err out op a0 a1 a2 a3 b0 b1 b2 b3 c0 c1 c2 c3)] else none else bif (rV x1).toStr.toList == (ByteArray.mk #[77, 83, 84, 79, 82, 69, 56]).toList then bif okAlt a83 x2 then k (.ret (.tuple [U a0 a1 a2 a3, AV.agg (tu4 (rV x2).items)])) [AObj.cells (Mc code inp (AV.sl 4 es) mem pc gas stand err out op a0 a1 a2 a3 b0 b1 b2 b3 c0 c1 c2 c3)] else none else k (.ret (.tuple [U 0 0 0 0, U 0 0 0 0])) [AObj.cells (Mc code inp (AV.sl 4 es) mem pc gas stand err out op a0 a1 a2 a3 b0 b1 b2 b3 c0 c1 c2 c3)] else bif (rV x1).toStr.toList == (ByteArray.mk #[67, 79, 68, 69, 67, 79, 80, 89]).toList then k (.ret (.tuple [U a0 a1 a2 a3, U c0 c1 c2 c3])) [AObj.cells (Mc code inp (AV.sl 4 es) mem pc gas stand err out op a0 a1 a2 a3 b0 b1 b2 b3 c0 c1 c2 c3)] else bif (rV x1).toStr.toList == (ByteArray.mk #[77, 76, 79, 65, 68]).toList then bif (rV x1).toStr.toList == (ByteArray.mk #[77, 76, 79, 65, 68]).toList then bif okAlt a83 x3 then k (.ret (.tuple [U a0 a1 a2 a3, AV.agg (tu4 (rV x3).items)])) [AObj.cells (Mc code inp (AV.sl 4 es) mem pc gas stand err out op a0 a1 a2 a3 b0 b1 b2 b3 c0 c1 c2 c3)] else none else bif (rV x1).toStr.toList == (ByteArray.mk #[77, 83, 84, 79, 82, 69, 56]).toList then bif okAlt a83 x2 then k (.ret (.tuple [U a0 a1 a2 a3, AV.agg (tu4 (rV x2).items)])) [AObj.cells (Mc code inp (AV.sl 4 es) mem pc gas stand err out op a0 a1 a2 a3 b0 b1 b2 b3 c0 c1 c2 c3)] else none else k (.ret (.tuple [U 0 0 0 0, U 0 0 0 0])) [AObj.cells (Mc code inp (AV.sl 4 es) mem pc gas stand err out op a0 a1 a2 a3 b0 b1 b2 b3 c0 c1 c2 c3)] else bif (rV x1).toStr.toList == (ByteArray.mk #[77, 83, 84, 79, 82, 69]).toList then bif okAlt a83 x3 then k (.ret (.tuple [U a0 a1 a2 a3, AV.agg (tu4 (rV x3).items)])) [AObj.cells (Mc code inp (AV.sl 4 es) mem pc gas stand err out op a0 a1 a2 a3 b0 b1 b2 b3 c0 c1 c2 c3)] else none else bif (rV x1).toStr.toList == (ByteArray.mk #[77, 83, 84, 79, 82, 69, 56]).toList then bif okAlt a83 x2 then k (.ret (.tuple [U a0 a1 a2 a3, AV.agg (tu4 (rV x2).items)])) [AObj.cells (Mc code inp (AV.sl 4 es) mem pc gas stand err out op a0 a1 a2 a3 b0 b1 b2 b3 c0 c1 c2 c3)] else none else k (.ret (.tuple [U 0 0 0 0, U 0 0 0 0])) [AObj.cells (Mc code inp (AV.sl 4 es) mem pc gas stand err out op a0 a1 a2 a3 b0 b1 b2 b3 c0 c1 c2 c3)] else none := by subst e1 e2 e3; kernel_rfl
noncomputable def r66 : RF := runR (body (E66 r62 r83) 60 66 Tryz.f66 (cod Tryz.f66))
theorem q66 (args : List AV) (os : List AObj) : r66 args os = body (E66 r62 r83) 60 66 Tryz.f66 (cod Tryz.f66) args os _ fin := qR _ _ _
theorem ok66 : SpecOK P 66 (shaped A66 r66) := by
  unfold r66 E66
  refine okF 60 ?_ ?_ ?_ Tryz.func66 ?_ ?_ _
  · exact (tcons ok62 (tcons ok83 tnil))
  · exact trivial
  · exact hnil
  · kernel_rfl
  · kernel_rfl
noncomputable def E70 (r62 : RF) (r111 : RF) (r114 : RF) : Env := En 70 [] [] [] [] [] [(62, shaped A62 r62), (111, shaped A111 r111), (114, shaped A114 r114)]
noncomputable def a70 : Alt := ⟨false, .int .i64, [.cells (shM (.sl 4 [sh6, sh6, sh6, sh6]))]⟩
noncomputable def A70 : List Alt := [a70]
theorem T70 (r62 : RF) (r111 : RF) (r114 : RF) (code inp mem out : ByteArray) (pc gas stand err op a0 a1 a2 a3 b0 b1 b2 b3 c0 c1 c2 c3 : Int) (es : List (List AV)) (n0 n1 n2 n3 : Int) (X : Type) (k : AEnd → List AObj → Option X)
    (x1 : RE) (e1 : r62 [u8 op] [] = x1)
    (x2 : RE) (e2 : r111 [i64 (IntKind.i64.wrap n0)] [] = x2)
    (x3 : RE) (e3 : r114 [U b0 b1 b2 b3] [] = x3) :
    body (E70 r62 r111 r114) 60 70 Tryz.f70 (cod Tryz.f70) [.ptr 0 0, U n0 n1 n2 n3] [.cells (Mc code inp (.sl 4 es) mem pc gas stand err out op a0 a1 a2 a3 b0 b1 b2 b3 c0 c1 c2 c3)] X k =
    bif okAlt a62 x1 then bif (rV x1).toStr.toList == (ByteArray.mk #[69, 88, 80]).toList then bif okAlt a114 x3 then k (.ret (i64 (IntKind.i64.wrap (50 * (IntKind.i64.wrap ((rV x3).toInt + 7)).fdiv (2 ^ min (Int.toNat 3) IntKind.i64.bits))))) [AObj.cells (Mc code inp (AV.sl 4 es) mem pc gas stand err out op a0 a1 a2 a3 b0 b1 b2 b3 c0 c1 c2 c3)] else none else bif (rV x1).toStr.toList == (ByteArray.mk #[75, 69, 67, 67, 65, 75, 50, 53, 54]).toList then bif okAlt a111 x2 then k (.ret (i64 (IntKind.i64.wrap (6 * (rV x2).toInt)))) [AObj.cells (Mc code inp (AV.sl 4 es) mem pc gas stand err out op a0 a1 a2 a3 b0 b1 b2 b3 c0 c1 c2 c3)] else none else bif (rV x1).toStr.toList == (ByteArray.mk #[67, 65, 76, 76, 68, 65, 84, 65, 67, 79, 80, 89]).toList then bif (rV x1).toStr.toList == (ByteArray.mk #[67, 65, 76, 76, 68, 65, 84, 65, 67, 79, 80, 89]).toList then bif okAlt a111 x2 then k (.ret (i64 (IntKind.i64.wrap (3 * (rV x2).toInt)))) [AObj.cells (Mc code inp (AV.sl 4 es) mem pc gas stand err out op a0 a1 a2 a3 b0 b1 b2 b3 c0 c1 c2 c3)] else none else k (.ret (i64 0)) [AObj.cells (Mc code inp (AV.sl 4 es) mem pc gas stand err out op a0 a1 a2 a3 b0 b1 b2 b3 c0 c1 c2 c3)] else bif (rV x1).toStr.toList == (ByteArray.mk #[67, 79, 68, 69, 67, 79, 80, 89]).toList then bif okAlt a111 x2 then k (.ret (i64 (IntKind.i64.wrap (3 * (rV x2).toInt)))) [AObj.cells (Mc code inp (AV.sl 4 es) mem pc gas stand err out op a0 a1 a2 a3 b0 b1 b2 b3 c0 c1 c2 c3)] else none else k (.ret (i64 0)) [AObj.cells (Mc code inp (AV.sl 4 es) mem pc gas stand err out op a0 a1 a2 a3 b0 b1 b2 b3 c0 c1 c2 c3)] else none := by subst e1 e2 e3; kernel_rfl
noncomputable def r70 : RF := runR (body (E70 r62 r111 r114) 60 70 Tryz.f70 (cod Tryz.f70))
theorem q70 (args : List AV) (os : List AObj) : r70 args os = body (E70 r62 r111 r114) 60 70 Tryz.f70 (cod Tryz.f70) args os _ fin := qR _ _ _
theorem ok70 : SpecOK P 70 (shaped A70 r70) := by
  unfold r70 E70
  refine okF 60 ?_ ?_ ?_ Tryz.func70 ?_ ?_ _
  · exact (tcons ok62 (tcons ok111 (tcons ok114 tnil)))
  · exact trivial
  · exact hnil
  · kernel_rfl
  · kernel_rfl
noncomputable def E187 (r83 : RF) : Env := En 187 [] [] [] [] [] [(83, shaped A83 r83)]
noncomputable def a187 : Alt := ⟨false, shU, []⟩
noncomputable def A187 : List Alt := [a187]
theorem T187 (r83 : RF) (b : Bool) (X : Type) (k : AEnd → List AObj → Option X)
    (x1 : RE) (e1 : r83 [u 1] [] = x1) :
    body (E187 r83) 60 187 Tryz.f187 (cod Tryz.f187) [bo b] [] X k =
    bif b then bif okAlt a83 x1 then k (.ret (AV.agg (tu4 (rV x1).items))) [] else none else k (.ret (U 0 0 0 0)) [] := by subst e1; kernel_rfl
noncomputable def r187 : RF := runR (body (E187 r83) 60 187 Tryz.f187 (cod Tryz.f187))
theorem q187 (args : List AV) (os : List AObj) : r187 args os = body (E187 r83) 60 187 Tryz.f187 (cod Tryz.f187) args os _ fin := qR _ _ _
theorem ok187 : SpecOK P 187 (shaped A187 r187) := by
  unfold r187 E187
  refine okF 60 ?_ ?_ ?_ Tryz.func187 ?_ ?_ _
  · exact (tcons ok83 tnil)
  · exact trivial
  · exact hnil
  · kernel_rfl
  · kernel_rfl
noncomputable def E192 (r114 : RF) : Env := En 192 [] [] [] [] [] [(114, shaped A114 r114)]
noncomputable def a192 : Alt := ⟨false, sh6, [.cells (shM (.sref 1)), .row 4 [sh6, sh6, sh6, sh6]]⟩
noncomputable def A192 : List Alt := [a192]
theorem T192 (r114 : RF) (code inp mem out : ByteArray) (pc gas stand err op a0 a1 a2 a3 b0 b1 b2 b3 c0 c1 c2 c3 : Int) (es : List (List AV)) (n : Nat) (X : Type) (k : AEnd → List AObj → Option X)
    (x1 : RE) (e1 : r114 [U a0 a1 a2 a3] [] = x1) :
    body (E192 r114) 60 192 Tryz.f192 (cod Tryz.f192) [.ptr 0 0] [.cells (Mc code inp (.sref 1 0 n) mem pc gas stand err out op a0 a1 a2 a3 b0 b1 b2 b3 c0 c1 c2 c3), .row 4 es] X k =
    bif okAlt a114 x1 then bif ilt 64 (rV x1).toInt then k (.ret (u 256)) [AObj.cells (Mc code inp (AV.sref 1 0 n) mem pc gas stand err out op a0 a1 a2 a3 b0 b1 b2 b3 c0 c1 c2 c3), AObj.row 4 es] else k (.ret (u a0)) [AObj.cells (Mc code inp (AV.sref 1 0 n) mem pc gas stand err out op a0 a1 a2 a3 b0 b1 b2 b3 c0 c1 c2 c3), AObj.row 4 es] else none := by subst e1; kernel_rfl
noncomputable def r192 : RF := runR (body (E192 r114) 60 192 Tryz.f192 (cod Tryz.f192))
theorem q192 (args : List AV) (os : List AObj) : r192 args os = body (E192 r114) 60 192 Tryz.f192 (cod Tryz.f192) args os _ fin := qR _ _ _
theorem ok192 : SpecOK P 192 (shaped A192 r192) := by
  unfold r192 E192
  refine okF 60 ?_ ?_ ?_ Tryz.func192 ?_ ?_ _
  · exact (tcons ok114 tnil)
  · exact trivial
  · exact hnil
  · kernel_rfl
  · kernel_rfl
noncomputable def E73 : Env := En 73 [] [] [] [] [] []
noncomputable def a73 : Alt := ⟨false, .tup [], [.cells (shM (.wref 2)), .dead, .row 4 [sh6, sh6, sh6, sh6]]⟩
noncomputable def A73 : List Alt := [a73]
theorem T73 (code inp mem out : ByteArray) (pc gas stand err op a0 a1 a2 a3 b0 b1 b2 b3 c0 c1 c2 c3 : Int) (es : List (List AV)) (n : Nat) (x0 x1 x2 x3 : Int) (X : Type) (k : AEnd → List AObj → Option X) :
    body (E73) 60 73 Tryz.f73 (cod Tryz.f73) [.ptr 0 0, U x0 x1 x2 x3] [.cells (Mc code inp (.sref 1 0 n) mem pc gas stand err out op a0 a1 a2 a3 b0 b1 b2 b3 c0 c1 c2 c3), .row 4 es] X k =
    bif true && decide ((n + [[u x0, u x1, u x2, u x3]].length) * (32 + 1) ≤ 2 ^ 46) then k (.ret (.tuple [])) [AObj.cells (Mc code inp (AV.wref 2) mem pc gas stand err out op a0 a1 a2 a3 b0 b1 b2 b3 c0 c1 c2 c3), AObj.dead, AObj.row 4 (List.take n (List.drop 0 es) ++ [[u x0, u x1, u x2, u x3]])] else none := by kernel_rfl
noncomputable def r73 : RF := runR (body (E73) 60 73 Tryz.f73 (cod Tryz.f73))
theorem q73 (args : List AV) (os : List AObj) : r73 args os = body (E73) 60 73 Tryz.f73 (cod Tryz.f73) args os _ fin := qR _ _ _
theorem ok73 : SpecOK P 73 (shaped A73 r73) := by
  unfold r73 E73
  refine okF 60 ?_ ?_ ?_ Tryz.func73 ?_ ?_ _
  · exact tnil
  · exact trivial
  · exact hnil
  · kernel_rfl
  · kernel_rfl
theorem T73w (code inp mem out : ByteArray) (pc gas stand err op a0 a1 a2 a3 b0 b1 b2 b3 c0 c1 c2 c3 : Int) (es : List (List AV)) (x0 x1 x2 x3 : Int) (X : Type) (k : AEnd → List AObj → Option X) :
    body (E73) 60 73 Tryz.f73 (cod Tryz.f73) [.ptr 0 0, U x0 x1 x2 x3] [.cells (Mc code inp (.wref 1) mem pc gas stand err out op a0 a1 a2 a3 b0 b1 b2 b3 c0 c1 c2 c3), .row 4 es] X k =
    bif true && decide ((es.length + [[u x0, u x1, u x2, u x3]].length) * (32 + 1) ≤ 2 ^ 46) then k (.ret (.tuple [])) [AObj.cells (Mc code inp (AV.wref 2) mem pc gas stand err out op a0 a1 a2 a3 b0 b1 b2 b3 c0 c1 c2 c3), AObj.dead, AObj.row 4 (es ++ [[u x0, u x1, u x2, u x3]])] else none := by kernel_rfl
noncomputable def E131 (r197 : RF) : Env := En 131 [] [] [] [] [] [(197, shaped A197 r197)]
noncomputable def a131 : Alt := ⟨false, .tup [], [.cells (shM (.sref 1)), .row 4 [sh6, sh6, sh6, sh6]]⟩
noncomputable def A131 : List Alt := [a131]
theorem T131 (r197 : RF) (code inp mem out : ByteArray) (pc gas stand err op a0 a1 a2 a3 b0 b1 b2 b3 c0 c1 c2 c3 : Int) (es : List (List AV)) (n : Nat) (s : ByteArray) (X : Type) (k : AEnd → List AObj → Option X)
    (x1 : RE) (e1 : r197 [st mem, i64 (IntKind.i64.wrap a0), st s] [] = x1) :
    body (E131 r197) 60 131 Tryz.f131 (cod Tryz.f131) [.ptr 0 0, st s] [.cells (Mc code inp (.sref 1 0 n) mem pc gas stand err out op a0 a1 a2 a3 b0 b1 b2 b3 c0 c1 c2 c3), .row 4 es] X k =
    bif !s.toList == (ByteArray.mk #[]).toList then bif okAlt a197 x1 then k (.ret (.tuple [])) [AObj.cells (Mc code inp (AV.sref 1 0 n) ((rV x1).toStr) pc gas stand err out op a0 a1 a2 a3 b0 b1 b2 b3 c0 c1 c2 c3), AObj.row 4 es] else none else k (.ret (.tuple [])) [AObj.cells (Mc code inp (AV.sref 1 0 n) mem pc gas stand err out op a0 a1 a2 a3 b0 b1 b2 b3 c0 c1 c2 c3), AObj.row 4 es] := by subst e1; kernel_rfl
noncomputable def r131 : RF := runR (body (E131 r197) 60 131 Tryz.f131 (cod Tryz.f131))
theorem q131 (args : List AV) (os : List AObj) : r131 args os = body (E131 r197) 60 131 Tryz.f131 (cod Tryz.f131) args os _ fin := qR _ _ _
theorem ok131 : SpecOK P 131 (shaped A131 r131) := by
  unfold r131 E131
  refine okF 60 ?_ ?_ ?_ Tryz.func131 ?_ ?_ _
  · exact (tcons ok197 tnil)
  · exact trivial
  · exact hnil
  · kernel_rfl
  · kernel_rfl
noncomputable def E129 (r117 : RF) : Env := En 129 [] [] [] [] [] [(117, shaped A117 r117)]
noncomputable def a129 : Alt := ⟨false, .tup [], [.cells (shM (.sref 1)), .row 4 [sh6, sh6, sh6, sh6]]⟩
noncomputable def A129 : List Alt := [a129]
theorem T129 (r117 : RF) (code inp mem out : ByteArray) (pc gas stand err op a0 a1 a2 a3 b0 b1 b2 b3 c0 c1 c2 c3 : Int) (es : List (List AV)) (n : Nat) (kk : Int) (X : Type) (k : AEnd → List AObj → Option X)
    (x1 : RE) (e1 : r117 [st mem, U a0 a1 a2 a3, i64 (IntKind.i64.wrap b0)] [] = x1) :
    body (E129 r117) 60 129 Tryz.f129 (cod Tryz.f129) [.ptr 0 0, i64 kk] [.cells (Mc code inp (.sref 1 0 n) mem pc gas stand err out op a0 a1 a2 a3 b0 b1 b2 b3 c0 c1 c2 c3), .row 4 es] X k =
    bif okAlt a117 x1 then k (.ret (.tuple [])) [AObj.cells (Mc code inp (AV.sref 1 0 n) mem pc gas kk err ((rV x1).toStr) op a0 a1 a2 a3 b0 b1 b2 b3 c0 c1 c2 c3), AObj.row 4 es] else none := by subst e1; kernel_rfl
noncomputable def r129 : RF := runR (body (E129 r117) 60 129 Tryz.f129 (cod Tryz.f129))
theorem q129 (args : List AV) (os : List AObj) : r129 args os = body (E129 r117) 60 129 Tryz.f129 (cod Tryz.f129) args os _ fin := qR _ _ _
theorem ok129 : SpecOK P 129 (shaped A129 r129) := by
  unfold r129 E129
  refine okF 60 ?_ ?_ ?_ Tryz.func129 ?_ ?_ _
  · exact (tcons ok117 tnil)
  · exact trivial
  · exact hnil
  · kernel_rfl
  · kernel_rfl
noncomputable def E132 (r63 : RF) (r83 : RF) (r110 : RF) (r198 : RF) : Env := En 132 [] [] [] [] [] [(63, shaped A63 r63), (83, shaped A83 r83), (110, shaped A110 r110), (198, shaped A198 r198)]
noncomputable def a132 : Alt := ⟨false, .tup [], [.cells (shM (.sref 1)), .row 4 [sh6, sh6, sh6, sh6]]⟩
noncomputable def a132y : Alt := ⟨true, .iface 63 (.int .i64), [.cells (shM (.sref 1)), .row 4 [sh6, sh6, sh6, sh6]]⟩
noncomputable def A132 : List Alt := [a132, a132y]
theorem T132 (r63 : RF) (r83 : RF) (r110 : RF) (r198 : RF) (code inp mem out : ByteArray) (pc gas stand err op a0 a1 a2 a3 b0 b1 b2 b3 c0 c1 c2 c3 : Int) (es : List (List AV)) (n : Nat) (X : Type) (k : AEnd → List AObj → Option X)
    (x1 : RE) (e1 : r198 [st code] [] = x1)
    (x2 : RE) (e2 : r83 [u (IntKind.u64.wrap (↑(List.map (fun e => rebs [shB] e 0) (rV x1).toSl).length : Int))] [] = x2)
    (x3 : RE) (e3 : r110 [U a0 a1 a2 a3, AV.agg (tu4 (rV x2).items)] [] = x3)
    (x4 : RE) (e4 : r63 [bo false, i64 20] [] = x4)
    (x5 : RE) (e5 : r63 [bo (((List.map (fun e => rebs [shB] e 0) (rV x1).toSl).getD a0.toNat []).getD 0 J).toBool, i64 20] [] = x5) :
    body (E132 r63 r83 r110 r198) 60 132 Tryz.f132 (cod Tryz.f132) [.ptr 0 0] [.cells (Mc code inp (.sref 1 0 n) mem pc gas stand err out op a0 a1 a2 a3 b0 b1 b2 b3 c0 c1 c2 c3), .row 4 es] X k =
    bif okAlt a198 x1 then bif okAlt a83 x2 then bif okAlt a110 x3 then bif ilt (rV x3).toInt 0 then bif decide (0 ≤ a0) && decide (a0 < (↑(List.map (fun e => rebs [shB] e 0) (rV x1).toSl).length : Int)) then bif decide (0 < ((List.map (fun e => rebs [shB] e 0) (rV x1).toSl).getD a0.toNat []).length) && ((((List.map (fun e => rebs [shB] e 0) (rV x1).toSl).getD a0.toNat []).getD 0 J).isBool && true) then bif okAlt a63 x5 then k (.ret (.tuple [])) [AObj.cells (Mc code inp (AV.sref 1 0 n) mem (IntKind.i64.wrap (IntKind.i64.wrap a0 - 1)) gas stand err out op a0 a1 a2 a3 b0 b1 b2 b3 c0 c1 c2 c3), AObj.row 4 es] else bif okAlt a63y x5 then k (.panic (AV.iface 63 (i64 ((rV x5).items.getD 0 J).toInt))) [AObj.cells (Mc code inp (AV.sref 1 0 n) mem pc gas stand err out op a0 a1 a2 a3 b0 b1 b2 b3 c0 c1 c2 c3), AObj.row 4 es] else none else none else none else bif okAlt a63 x4 then k (.ret (.tuple [])) [AObj.cells (Mc code inp (AV.sref 1 0 n) mem (IntKind.i64.wrap (IntKind.i64.wrap a0 - 1)) gas stand err out op a0 a1 a2 a3 b0 b1 b2 b3 c0 c1 c2 c3), AObj.row 4 es] else bif okAlt a63y x4 then k (.panic (AV.iface 63 (i64 ((rV x4).items.getD 0 J).toInt))) [AObj.cells (Mc code inp (AV.sref 1 0 n) mem pc gas stand err out op a0 a1 a2 a3 b0 b1 b2 b3 c0 c1 c2 c3), AObj.row 4 es] else none else none else none else none := by subst e1 e2 e3 e4 e5; kernel_rfl
noncomputable def r132 : RF := runR (body (E132 r63 r83 r110 r198) 60 132 Tryz.f132 (cod Tryz.f132))
theorem q132 (args : List AV) (os : List AObj) : r132 args os = body (E132 r63 r83 r110 r198) 60 132 Tryz.f132 (cod Tryz.f132) args os _ fin := qR _ _ _
theorem ok132 : SpecOK P 132 (shaped A132 r132) := by
  unfold r132 E132
  refine okF 60 ?_ ?_ ?_ Tryz.func132 ?_ ?_ _
  · exact (tcons ok63 (tcons ok83 (tcons ok110 (tcons ok198 tnil))))
  · exact trivial
  · exact hnil
  · kernel_rfl
  · kernel_rfl
end Go.Proofs.Vm
end
section
namespace Go.Proofs.Vm
open Go Go.Abs
def tuM (l : List AV) (stk : AV) : List AV := Mc (l.getD 0 J).toStr (l.getD 1 J).toStr stk (l.getD 3 J).toStr (l.getD 4 J).toInt (l.getD 5 J).toInt (l.getD 6 J).toInt (l.getD 7 J).toInt (l.getD 8 J).toStr (l.getD 9 J).toInt (l.getD 10 J).toInt (l.getD 11 J).toInt (l.getD 12 J).toInt (l.getD 13 J).toInt (l.getD 14 J).toInt (l.getD 15 J).toInt (l.getD 16 J).toInt (l.getD 17 J).toInt (l.getD 18 J).toInt (l.getD 19 J).toInt (l.getD 20 J).toInt (l.getD 21 J).toInt
end Go.Proofs.Vm
end
section
open Go Go.Abs
namespace Go.Proofs.Vm
set_option maxRecDepth 100000
set_option maxHeartbeats 0
noncomputable def E128 (r62 : RF) (r110 : RF) (r183 : RF) (r184 : RF) (r185 : RF) (r186 : RF) (r187 : RF) (r188 : RF) (r189 : RF) (r190 : RF) (r191 : RF) (r192 : RF) (r193 : RF) : Env := En 128 [] [] [] [] [] [(62, shaped A62 r62), (110, shaped A110 r110), (183, shaped A183 r183), (184, shaped A184 r184), (185, shaped A185 r185), (186, shaped A186 r186), (187, shaped A187 r187), (188, shaped A188 r188), (189, shaped A189 r189), (190, shaped A190 r190), (191, shaped A191 r191), (192, shaped A192 r192), (193, shaped A193 r193)]
noncomputable def a128 : Alt := ⟨false, shU, [.cells (shM (.sref 1)), .row 4 [sh6, sh6, sh6, sh6]]⟩
noncomputable def A128 : List Alt := [a128]
theorem T128 (r62 : RF) (r110 : RF) (r183 : RF) (r184 : RF) (r185 : RF) (r186 : RF) (r187 : RF) (r188 : RF) (r189 : RF) (r190 : RF) (r191 : RF) (r192 : RF) (r193 : RF) (code inp mem out : ByteArray) (pc gas stand err op a0 a1 a2 a3 b0 b1 b2 b3 c0 c1 c2 c3 : Int) (es : List (List AV)) (n : Nat) (X : Type) (k : AEnd → List AObj → Option X)
    (x1 : RE) (e1 : r62 [u8 op] [] = x1)
    (x2 : RE) (e2 : r192 [AV.ptr 0 0] [AObj.cells (Mc code inp (AV.sref 1 0 n) mem pc gas stand err out op a0 a1 a2 a3 b0 b1 b2 b3 c0 c1 c2 c3), AObj.row 4 es] = x2)
    (x3 : RE) (e3 : r193 [U b0 b1 b2 b3, u (rV x2).toInt] [] = x3)
    (x4 : RE) (e4 : r183 [U b0 b1 b2 b3, u (rV x2).toInt] [] = x4)
    (x5 : RE) (e5 : r191 [U b0 b1 b2 b3, u (rV x2).toInt] [] = x5)
    (x6 : RE) (e6 : r190 [U a0 a1 a2 a3, U b0 b1 b2 b3] [] = x6)
    (x7 : RE) (e7 : r184 [U a0 a1 a2 a3] [] = x7)
    (x8 : RE) (e8 : r189 [U a0 a1 a2 a3, U b0 b1 b2 b3] [] = x8)
    (x9 : RE) (e9 : r185 [U a0 a1 a2 a3, U b0 b1 b2 b3] [] = x9)
    (x10 : RE) (e10 : r186 [U a0 a1 a2 a3, U b0 b1 b2 b3] [] = x10)
    (x11 : RE) (e11 : r187 [bo (a0 == 0 && (a1 == 0 && (a2 == 0 && (a3 == 0 && true))))] [] = x11)
    (x12 : RE) (e12 : r187 [bo (a0 == b0 && (a1 == b1 && (a2 == b2 && (a3 == b3 && true))))] [] = x12)
    (x13 : RE) (e13 : r188 [U b0 b1 b2 b3, U a0 a1 a2 a3] [] = x13)
    (x14 : RE) (e14 : r187 [bo (rV x13).toBool] [] = x14)
    (x15 : RE) (e15 : r188 [U a0 a1 a2 a3, U b0 b1 b2 b3] [] = x15)
    (x16 : RE) (e16 : r187 [bo (rV x15).toBool] [] = x16)
    (x17 : RE) (e17 : r110 [U a0 a1 a2 a3, U b0 b1 b2 b3] [] = x17)
    (x18 : RE) (e18 : r187 [bo (ilt 0 (rV x17).toInt)] [] = x18)
    (x19 : RE) (e19 : r187 [bo (ilt (rV x17).toInt 0)] [] = x19) :
    body (E128 r62 r110 r183 r184 r185 r186 r187 r188 r189 r190 r191 r192 r193) 60 128 Tryz.f128 (cod Tryz.f128) [.ptr 0 0] [.cells (Mc code inp (.sref 1 0 n) mem pc gas stand err out op a0 a1 a2 a3 b0 b1 b2 b3 c0 c1 c2 c3), .row 4 es] X k =
    bif okAlt a62 x1 then bif (rV x1).toStr.toList == (ByteArray.mk #[76, 84]).toList then bif okAlt a110 x17 then bif okAlt a187 x19 then k (.ret (AV.agg (tu4 (rV x19).items))) [AObj.cells (Mc code inp (AV.sref 1 0 n) mem pc gas stand err out op a0 a1 a2 a3 b0 b1 b2 b3 c0 c1 c2 c3), AObj.row 4 es] else none else none else bif (rV x1).toStr.toList == (ByteArray.mk #[71, 84]).toList then bif okAlt a110 x17 then bif okAlt a187 x18 then k (.ret (AV.agg (tu4 (rV x18).items))) [AObj.cells (Mc code inp (AV.sref 1 0 n) mem pc gas stand err out op a0 a1 a2 a3 b0 b1 b2 b3 c0 c1 c2 c3), AObj.row 4 es] else none else none else bif (rV x1).toStr.toList == (ByteArray.mk #[83, 76, 84]).toList then bif okAlt a188 x15 then bif okAlt a187 x16 then k (.ret (AV.agg (tu4 (rV x16).items))) [AObj.cells (Mc code inp (AV.sref 1 0 n) mem pc gas stand err out op a0 a1 a2 a3 b0 b1 b2 b3 c0 c1 c2 c3), AObj.row 4 es] else none else none else bif (rV x1).toStr.toList == (ByteArray.mk #[83, 71, 84]).toList then bif okAlt a188 x13 then bif okAlt a187 x14 then k (.ret (AV.agg (tu4 (rV x14).items))) [AObj.cells (Mc code inp (AV.sref 1 0 n) mem pc gas stand err out op a0 a1 a2 a3 b0 b1 b2 b3 c0 c1 c2 c3), AObj.row 4 es] else none else none else bif (rV x1).toStr.toList == (ByteArray.mk #[69, 81]).toList then bif okAlt a187 x12 then k (.ret (AV.agg (tu4 (rV x12).items))) [AObj.cells (Mc code inp (AV.sref 1 0 n) mem pc gas stand err out op a0 a1 a2 a3 b0 b1 b2 b3 c0 c1 c2 c3), AObj.row 4 es] else none else bif (rV x1).toStr.toList == (ByteArray.mk #[73, 83, 90, 69, 82, 79]).toList then bif okAlt a187 x11 then k (.ret (AV.agg (tu4 (rV x11).items))) [AObj.cells (Mc code inp (AV.sref 1 0 n) mem pc gas stand err out op a0 a1 a2 a3 b0 b1 b2 b3 c0 c1 c2 c3), AObj.row 4 es] else none else bif (rV x1).toStr.toList == (ByteArray.mk #[65, 78, 68]).toList then bif okAlt a186 x10 then k (.ret (AV.agg (tu4 (rV x10).items))) [AObj.cells (Mc code inp (AV.sref 1 0 n) mem pc gas stand err out op a0 a1 a2 a3 b0 b1 b2 b3 c0 c1 c2 c3), AObj.row 4 es] else none else bif (rV x1).toStr.toList == (ByteArray.mk #[79, 82]).toList then bif okAlt a185 x9 then k (.ret (AV.agg (tu4 (rV x9).items))) [AObj.cells (Mc code inp (AV.sref 1 0 n) mem pc gas stand err out op a0 a1 a2 a3 b0 b1 b2 b3 c0 c1 c2 c3), AObj.row 4 es] else none else bif (rV x1).toStr.toList == (ByteArray.mk #[88, 79, 82]).toList then bif okAlt a189 x8 then k (.ret (AV.agg (tu4 (rV x8).items))) [AObj.cells (Mc code inp (AV.sref 1 0 n) mem pc gas stand err out op a0 a1 a2 a3 b0 b1 b2 b3 c0 c1 c2 c3), AObj.row 4 es] else none else bif (rV x1).toStr.toList == (ByteArray.mk #[78, 79, 84]).toList then bif okAlt a184 x7 then k (.ret (AV.agg (tu4 (rV x7).items))) [AObj.cells (Mc code inp (AV.sref 1 0 n) mem pc gas stand err out op a0 a1 a2 a3 b0 b1 b2 b3 c0 c1 c2 c3), AObj.row 4 es] else none else bif (rV x1).toStr.toList == (ByteArray.mk #[66, 89, 84, 69]).toList then bif okAlt a190 x6 then k (.ret (AV.agg (tu4 (rV x6).items))) [AObj.cells (Mc code inp (AV.sref 1 0 n) mem pc gas stand err out op a0 a1 a2 a3 b0 b1 b2 b3 c0 c1 c2 c3), AObj.row 4 es] else none else bif (rV x1).toStr.toList == (ByteArray.mk #[83, 72, 76]).toList then bif okAlt a192 x2 then bif okAlt a191 x5 then k (.ret (AV.agg (tu4 (rV x5).items))) [AObj.cells (tuM (((rOs x2).getD 0 AObj.dead).cellsOf) (AV.sref 1 (((rOs x2).getD 0 AObj.dead).cellsOf.getD 2 J).srOff (((rOs x2).getD 0 AObj.dead).cellsOf.getD 2 J).srN)), AObj.row 4 (List.map (fun e => rebs [sh6, sh6, sh6, sh6] e 0) ((rOs x2).getD 1 AObj.dead).rowOf)] else none else none else bif (rV x1).toStr.toList == (ByteArray.mk #[83, 72, 82]).toList then bif okAlt a192 x2 then bif okAlt a183 x4 then k (.ret (AV.agg (tu4 (rV x4).items))) [AObj.cells (tuM (((rOs x2).getD 0 AObj.dead).cellsOf) (AV.sref 1 (((rOs x2).getD 0 AObj.dead).cellsOf.getD 2 J).srOff (((rOs x2).getD 0 AObj.dead).cellsOf.getD 2 J).srN)), AObj.row 4 (List.map (fun e => rebs [sh6, sh6, sh6, sh6] e 0) ((rOs x2).getD 1 AObj.dead).rowOf)] else none else none else bif okAlt a192 x2 then bif okAlt a193 x3 then k (.ret (AV.agg (tu4 (rV x3).items))) [AObj.cells (tuM (((rOs x2).getD 0 AObj.dead).cellsOf) (AV.sref 1 (((rOs x2).getD 0 AObj.dead).cellsOf.getD 2 J).srOff (((rOs x2).getD 0 AObj.dead).cellsOf.getD 2 J).srN)), AObj.row 4 (List.map (fun e => rebs [sh6, sh6, sh6, sh6] e 0) ((rOs x2).getD 1 AObj.dead).rowOf)] else none else none else none := by subst e1 e2 e3 e4 e5 e6 e7 e8 e9 e10 e11 e12 e13 e14 e15 e16 e17 e18 e19; kernel_rfl
noncomputable def r128 : RF := runR (body (E128 r62 r110 r183 r184 r185 r186 r187 r188 r189 r190 r191 r192 r193) 60 128 Tryz.f128 (cod Tryz.f128))
theorem q128 (args : List AV) (os : List AObj) : r128 args os = body (E128 r62 r110 r183 r184 r185 r186 r187 r188 r189 r190 r191 r192 r193) 60 128 Tryz.f128 (cod Tryz.f128) args os _ fin := qR _ _ _
theorem ok128 : SpecOK P 128 (shaped A128 r128) := by
  unfold r128 E128
  refine okF 60 ?_ ?_ ?_ Tryz.func128 ?_ ?_ _
  · exact (tcons ok62 (tcons ok110 (tcons ok183 (tcons ok184 (tcons ok185 (tcons ok186 (tcons ok187 (tcons ok188 (tcons ok189 (tcons ok190 (tcons ok191 (tcons ok192 (tcons ok193 tnil)))))))))))))
  · exact trivial
  · exact hnil
  · kernel_rfl
  · kernel_rfl
noncomputable def E74 (r62 : RF) (r109 : RF) (r118 : RF) (r119 : RF) (r120 : RF) (r121 : RF) (r122 : RF) (r123 : RF) (r124 : RF) (r125 : RF) (r126 : RF) (r127 : RF) (r128 : RF) : Env := En 74 [] [] [] [] [] [(62, shaped A62 r62), (109, shaped A109 r109), (118, shaped A118 r118), (119, shaped A119 r119), (120, shaped A120 r120), (121, shaped A121 r121), (122, shaped A122 r122), (123, shaped A123 r123), (124, shaped A124 r124), (125, shaped A125 r125), (126, shaped A126 r126), (127, shaped A127 r127), (128, shaped A128 r128)]
noncomputable def a74 : Alt := ⟨false, shU, [.cells (shM (.sref 1)), .row 4 [sh6, sh6, sh6, sh6]]⟩
noncomputable def A74 : List Alt := [a74]
theorem T74 (r62 : RF) (r109 : RF) (r118 : RF) (r119 : RF) (r120 : RF) (r121 : RF) (r122 : RF) (r123 : RF) (r124 : RF) (r125 : RF) (r126 : RF) (r127 : RF) (r128 : RF) (code inp mem out : ByteArray) (pc gas stand err op a0 a1 a2 a3 b0 b1 b2 b3 c0 c1 c2 c3 : Int) (es : List (List AV)) (n : Nat) (X : Type) (k : AEnd → List AObj → Option X)
    (x1 : RE) (e1 : r62 [u8 op] [] = x1)
    (x2 : RE) (e2 : r128 [AV.ptr 0 0] [AObj.cells (Mc code inp (AV.sref 1 0 n) mem pc gas stand err out op a0 a1 a2 a3 b0 b1 b2 b3 c0 c1 c2 c3), AObj.row 4 es] = x2)
    (x3 : RE) (e3 : r127 [U a0 a1 a2 a3, U b0 b1 b2 b3] [] = x3)
    (x4 : RE) (e4 : r126 [U a0 a1 a2 a3, U b0 b1 b2 b3] [] = x4)
    (x5 : RE) (e5 : r125 [U a0 a1 a2 a3, U b0 b1 b2 b3, U c0 c1 c2 c3] [] = x5)
    (x6 : RE) (e6 : r124 [U a0 a1 a2 a3, U b0 b1 b2 b3, U c0 c1 c2 c3] [] = x6)
    (x7 : RE) (e7 : r122 [U a0 a1 a2 a3, U b0 b1 b2 b3] [] = x7)
    (x8 : RE) (e8 : r123 [AV.agg (tu4 ((rV x7).items.getD 0 J).items), AV.agg (tu4 ((rV x7).items.getD 1 J).items)] [] = x8)
    (x9 : RE) (e9 : r121 [U a0 a1 a2 a3, U b0 b1 b2 b3] [] = x9)
    (x10 : RE) (e10 : r123 [AV.agg (tu4 ((rV x9).items.getD 0 J).items), AV.agg (tu4 ((rV x9).items.getD 1 J).items)] [] = x10)
    (x11 : RE) (e11 : r120 [AV.agg (tu4 ((rV x7).items.getD 0 J).items), AV.agg (tu4 ((rV x7).items.getD 1 J).items)] [] = x11)
    (x12 : RE) (e12 : r120 [AV.agg (tu4 ((rV x9).items.getD 0 J).items), AV.agg (tu4 ((rV x9).items.getD 1 J).items)] [] = x12)
    (x13 : RE) (e13 : r119 [U a0 a1 a2 a3, U b0 b1 b2 b3] [] = x13)
    (x14 : RE) (e14 : r118 [U a0 a1 a2 a3, U b0 b1 b2 b3] [] = x14)
    (x15 : RE) (e15 : r109 [U a0 a1 a2 a3, U b0 b1 b2 b3] [] = x15) :
    body (E74 r62 r109 r118 r119 r120 r121 r122 r123 r124 r125 r126 r127 r128) 60 74 Tryz.f74 (cod Tryz.f74) [.ptr 0 0] [.cells (Mc code inp (.sref 1 0 n) mem pc gas stand err out op a0 a1 a2 a3 b0 b1 b2 b3 c0 c1 c2 c3), .row 4 es] X k =
    bif okAlt a62 x1 then bif (rV x1).toStr.toList == (ByteArray.mk #[65, 68, 68]).toList then bif okAlt a109 x15 then k (.ret (AV.agg (tu4 ((rV x15).items.getD 0 J).items))) [AObj.cells (Mc code inp (AV.sref 1 0 n) mem pc gas stand err out op a0 a1 a2 a3 b0 b1 b2 b3 c0 c1 c2 c3), AObj.row 4 es] else none else bif (rV x1).toStr.toList == (ByteArray.mk #[77, 85, 76]).toList then bif okAlt a118 x14 then k (.ret (AV.agg (tu4 (rV x14).items))) [AObj.cells (Mc code inp (AV.sref 1 0 n) mem pc gas stand err out op a0 a1 a2 a3 b0 b1 b2 b3 c0 c1 c2 c3), AObj.row 4 es] else none else bif (rV x1).toStr.toList == (ByteArray.mk #[83, 85, 66]).toList then bif okAlt a119 x13 then k (.ret (AV.agg (tu4 ((rV x13).items.getD 0 J).items))) [AObj.cells (Mc code inp (AV.sref 1 0 n) mem pc gas stand err out op a0 a1 a2 a3 b0 b1 b2 b3 c0 c1 c2 c3), AObj.row 4 es] else none else bif (rV x1).toStr.toList == (ByteArray.mk #[68, 73, 86]).toList then bif okAlt a121 x9 then bif okAlt a120 x12 then k (.ret (AV.agg (tu4 (rV x12).items))) [AObj.cells (Mc code inp (AV.sref 1 0 n) mem pc gas stand err out op a0 a1 a2 a3 b0 b1 b2 b3 c0 c1 c2 c3), AObj.row 4 es] else none else none else bif (rV x1).toStr.toList == (ByteArray.mk #[83, 68, 73, 86]).toList then bif okAlt a122 x7 then bif okAlt a120 x11 then k (.ret (AV.agg (tu4 (rV x11).items))) [AObj.cells (Mc code inp (AV.sref 1 0 n) mem pc gas stand err out op a0 a1 a2 a3 b0 b1 b2 b3 c0 c1 c2 c3), AObj.row 4 es] else none else none else bif (rV x1).toStr.toList == (ByteArray.mk #[77, 79, 68]).toList then bif okAlt a121 x9 then bif okAlt a123 x10 then k (.ret (AV.agg (tu4 (rV x10).items))) [AObj.cells (Mc code inp (AV.sref 1 0 n) mem pc gas stand err out op a0 a1 a2 a3 b0 b1 b2 b3 c0 c1 c2 c3), AObj.row 4 es] else none else none else bif (rV x1).toStr.toList == (ByteArray.mk #[83, 77, 79, 68]).toList then bif okAlt a122 x7 then bif okAlt a123 x8 then k (.ret (AV.agg (tu4 (rV x8).items))) [AObj.cells (Mc code inp (AV.sref 1 0 n) mem pc gas stand err out op a0 a1 a2 a3 b0 b1 b2 b3 c0 c1 c2 c3), AObj.row 4 es] else none else none else bif (rV x1).toStr.toList == (ByteArray.mk #[65, 68, 68, 77, 79, 68]).toList then bif okAlt a124 x6 then k (.ret (AV.agg (tu4 (rV x6).items))) [AObj.cells (Mc code inp (AV.sref 1 0 n) mem pc gas stand err out op a0 a1 a2 a3 b0 b1 b2 b3 c0 c1 c2 c3), AObj.row 4 es] else none else bif (rV x1).toStr.toList == (ByteArray.mk #[77, 85, 76, 77, 79, 68]).toList then bif okAlt a125 x5 then k (.ret (AV.agg (tu4 (rV x5).items))) [AObj.cells (Mc code inp (AV.sref 1 0 n) mem pc gas stand err out op a0 a1 a2 a3 b0 b1 b2 b3 c0 c1 c2 c3), AObj.row 4 es] else none else bif (rV x1).toStr.toList == (ByteArray.mk #[69, 88, 80]).toList then bif okAlt a126 x4 then k (.ret (AV.agg (tu4 (rV x4).items))) [AObj.cells (Mc code inp (AV.sref 1 0 n) mem pc gas stand err out op a0 a1 a2 a3 b0 b1 b2 b3 c0 c1 c2 c3), AObj.row 4 es] else none else bif (rV x1).toStr.toList == (ByteArray.mk #[83, 73, 71, 78, 69, 88, 84, 69, 78, 68]).toList then bif okAlt a127 x3 then k (.ret (AV.agg (tu4 (rV x3).items))) [AObj.cells (Mc code inp (AV.sref 1 0 n) mem pc gas stand err out op a0 a1 a2 a3 b0 b1 b2 b3 c0 c1 c2 c3), AObj.row 4 es] else none else bif okAlt a128 x2 then k (.ret (AV.agg (tu4 (rV x2).items))) [AObj.cells (tuM (((rOs x2).getD 0 AObj.dead).cellsOf) (AV.sref 1 (((rOs x2).getD 0 AObj.dead).cellsOf.getD 2 J).srOff (((rOs x2).getD 0 AObj.dead).cellsOf.getD 2 J).srN)), AObj.row 4 (List.map (fun e => rebs [sh6, sh6, sh6, sh6] e 0) ((rOs x2).getD 1 AObj.dead).rowOf)] else none else none := by subst e1 e2 e3 e4 e5 e6 e7 e8 e9 e10 e11 e12 e13 e14 e15; kernel_rfl
noncomputable def r74 : RF := runR (body (E74 r62 r109 r118 r119 r120 r121 r122 r123 r124 r125 r126 r127 r128) 60 74 Tryz.f74 (cod Tryz.f74))
theorem q74 (args : List AV) (os : List AObj) : r74 args os = body (E74 r62 r109 r118 r119 r120 r121 r122 r123 r124 r125 r126 r127 r128) 60 74 Tryz.f74 (cod Tryz.f74) args os _ fin := qR _ _ _
theorem ok74 : SpecOK P 74 (shaped A74 r74) := by
  unfold r74 E74
  refine okF 60 ?_ ?_ ?_ Tryz.func74 ?_ ?_ _
  · exact (tcons ok62 (tcons ok109 (tcons ok118 (tcons ok119 (tcons ok120 (tcons ok121 (tcons ok122 (tcons ok123 (tcons ok124 (tcons ok125 (tcons ok126 (tcons ok127 (tcons ok128 tnil)))))))))))))
  · exact trivial
  · exact hnil
  · kernel_rfl
  · kernel_rfl
end Go.Proofs.Vm
end
section
open Go Go.Abs
namespace Go.Proofs.Vm
set_option maxRecDepth 100000
set_option maxHeartbeats 0
noncomputable def E72 (r65 : RF) (r73 : RF) (r83 : RF) (r115 : RF) (r116 : RF) (r117 : RF) : Env := En 72 [] [] [] [] [] [(65, shaped A65 r65), (73, shaped A73 r73), (83, shaped A83 r83), (115, shaped A115 r115), (116, shaped A116 r116), (117, shaped A117 r117)]
noncomputable def a72 : Alt := ⟨false, .tup [], [.cells (shM (.wref 2)), .dead, .row 4 [sh6, sh6, sh6, sh6]]⟩
noncomputable def a72y : Alt := ⟨false, .tup [], [.cells (shM (.wref 1)), .row 4 [sh6, sh6, sh6, sh6]]⟩
noncomputable def A72 : List Alt := [a72, a72y]
theorem T72 (r65 : RF) (r73 : RF) (r83 : RF) (r115 : RF) (r116 : RF) (r117 : RF) (code inp mem out : ByteArray) (pc gas stand err op a0 a1 a2 a3 b0 b1 b2 b3 c0 c1 c2 c3 : Int) (es : List (List AV)) (name : ByteArray) (X : Type) (k : AEnd → List AObj → Option X)
    (x1 : RE) (e1 : r115 [st name, st (ByteArray.mk #[80, 85, 83, 72])] [] = x1)
    (x2 : RE) (e2 : r115 [st name, st (ByteArray.mk #[68, 85, 80])] [] = x2)
    (x3 : RE) (e3 : r65 [AV.ptr 0 0, i64 (IntKind.i64.wrap (↑(BitVec.ofInt IntKind.i64.bits (IntKind.i64.wrap (IntKind.u8.wrap (↑(BitVec.ofInt IntKind.u8.bits op &&& BitVec.ofInt IntKind.u8.bits 31).toNat : Int))) &&& BitVec.ofInt IntKind.i64.bits 15).toNat : Int))] [AObj.cells (Mc code inp (AV.wref 1) mem pc gas stand err out op a0 a1 a2 a3 b0 b1 b2 b3 c0 c1 c2 c3), AObj.row 4 es] = x3)
    (x4 : RE) (e4 : r73 [AV.ptr 0 0, AV.agg (tu4 (rV x3).items)] [AObj.cells (tuM (((rOs x3).getD 0 AObj.dead).cellsOf) (AV.wref 1)), AObj.row 4 (List.map (fun e => rebs [sh6, sh6, sh6, sh6] e 0) ((rOs x3).getD 1 AObj.dead).rowOf)] = x4)
    (x5 : RE) (e5 : r83 [u (IntKind.u64.wrap (IntKind.i64.wrap (pc + 1)))] [] = x5)
    (x6 : RE) (e6 : r117 [st code, AV.agg (tu4 (rV x5).items), i64 (IntKind.i64.wrap (IntKind.i64.wrap (IntKind.u8.wrap (↑(BitVec.ofInt IntKind.u8.bits op &&& BitVec.ofInt IntKind.u8.bits 31).toNat : Int)) + 1))] [] = x6)
    (x7 : RE) (e7 : r116 [st (rV x6).toStr] [] = x7)
    (x8 : RE) (e8 : r73 [AV.ptr 0 0, AV.agg (tu4 (rV x7).items)] [AObj.cells (Mc code inp (AV.wref 1) mem pc gas stand err out op a0 a1 a2 a3 b0 b1 b2 b3 c0 c1 c2 c3), AObj.row 4 es] = x8)
    (x9 : RE) (e9 : r73 [AV.ptr 0 0, U 0 0 0 0] [AObj.cells (Mc code inp (AV.wref 1) mem pc gas stand err out op a0 a1 a2 a3 b0 b1 b2 b3 c0 c1 c2 c3), AObj.row 4 es] = x9) :
    body (E72 r65 r73 r83 r115 r116 r117) 60 72 Tryz.f72 (cod Tryz.f72) [.ptr 0 0, st name] [.cells (Mc code inp (.wref 1) mem pc gas stand err out op a0 a1 a2 a3 b0 b1 b2 b3 c0 c1 c2 c3), .row 4 es] X k =
    bif name.toList == (ByteArray.mk #[80, 85, 83, 72, 48]).toList then bif okAlt a73 x9 then k (.ret (.tuple [])) [AObj.cells (tuM (((rOs x9).getD 0 AObj.dead).cellsOf) (AV.wref 2)), AObj.dead, AObj.row 4 (List.map (fun e => rebs [sh6, sh6, sh6, sh6] e 0) ((rOs x9).getD 2 AObj.dead).rowOf)] else none else bif okAlt a115 x1 then bif (rV x1).toBool then bif okAlt a83 x5 then bif okAlt a117 x6 then bif okAlt a116 x7 then bif okAlt a73 x8 then k (.ret (.tuple [])) [AObj.cells (Mc ((((rOs x8).getD 0 AObj.dead).cellsOf.getD 0 J).toStr) ((((rOs x8).getD 0 AObj.dead).cellsOf.getD 1 J).toStr) (AV.wref 2) ((((rOs x8).getD 0 AObj.dead).cellsOf.getD 3 J).toStr) (IntKind.i64.wrap ((((rOs x8).getD 0 AObj.dead).cellsOf.getD 4 J).toInt + IntKind.i64.wrap (IntKind.i64.wrap (IntKind.u8.wrap (↑(BitVec.ofInt IntKind.u8.bits op &&& BitVec.ofInt IntKind.u8.bits 31).toNat : Int)) + 1))) ((((rOs x8).getD 0 AObj.dead).cellsOf.getD 5 J).toInt) ((((rOs x8).getD 0 AObj.dead).cellsOf.getD 6 J).toInt) ((((rOs x8).getD 0 AObj.dead).cellsOf.getD 7 J).toInt) ((((rOs x8).getD 0 AObj.dead).cellsOf.getD 8 J).toStr) ((((rOs x8).getD 0 AObj.dead).cellsOf.getD 9 J).toInt) ((((rOs x8).getD 0 AObj.dead).cellsOf.getD 10 J).toInt) ((((rOs x8).getD 0 AObj.dead).cellsOf.getD 11 J).toInt) ((((rOs x8).getD 0 AObj.dead).cellsOf.getD 12 J).toInt) ((((rOs x8).getD 0 AObj.dead).cellsOf.getD 13 J).toInt) ((((rOs x8).getD 0 AObj.dead).cellsOf.getD 14 J).toInt) ((((rOs x8).getD 0 AObj.dead).cellsOf.getD 15 J).toInt) ((((rOs x8).getD 0 AObj.dead).cellsOf.getD 16 J).toInt) ((((rOs x8).getD 0 AObj.dead).cellsOf.getD 17 J).toInt) ((((rOs x8).getD 0 AObj.dead).cellsOf.getD 18 J).toInt) ((((rOs x8).getD 0 AObj.dead).cellsOf.getD 19 J).toInt) ((((rOs x8).getD 0 AObj.dead).cellsOf.getD 20 J).toInt) ((((rOs x8).getD 0 AObj.dead).cellsOf.getD 21 J).toInt)), AObj.dead, AObj.row 4 (List.map (fun e => rebs [sh6, sh6, sh6, sh6] e 0) ((rOs x8).getD 2 AObj.dead).rowOf)] else none else none else none else none else bif okAlt a115 x2 then bif (rV x2).toBool then bif okAlt a65 x3 then none else bif okAlt a65y x3 then bif okAlt a73 x4 then k (.ret (.tuple [])) [AObj.cells (tuM (((rOs x4).getD 0 AObj.dead).cellsOf) (AV.wref 2)), AObj.dead, AObj.row 4 (List.map (fun e => rebs [sh6, sh6, sh6, sh6] e 0) ((rOs x4).getD 2 AObj.dead).rowOf)] else none else none else bif decide (0 ≤ IntKind.i64.wrap (IntKind.i64.wrap ((↑es.length : Int) - 2) - IntKind.i64.wrap (↑(BitVec.ofInt IntKind.i64.bits (IntKind.i64.wrap (IntKind.u8.wrap (↑(BitVec.ofInt IntKind.u8.bits op &&& BitVec.ofInt IntKind.u8.bits 31).toNat : Int))) &&& BitVec.ofInt IntKind.i64.bits 15).toNat : Int))) && decide (IntKind.i64.wrap (IntKind.i64.wrap ((↑es.length : Int) - 2) - IntKind.i64.wrap (↑(BitVec.ofInt IntKind.i64.bits (IntKind.i64.wrap (IntKind.u8.wrap (↑(BitVec.ofInt IntKind.u8.bits op &&& BitVec.ofInt IntKind.u8.bits 31).toNat : Int))) &&& BitVec.ofInt IntKind.i64.bits 15).toNat : Int)) < (↑es.length : Int)) then bif decide ((IntKind.i64.wrap (IntKind.i64.wrap ((↑es.length : Int) - 2) - IntKind.i64.wrap (↑(BitVec.ofInt IntKind.i64.bits (IntKind.i64.wrap (IntKind.u8.wrap (↑(BitVec.ofInt IntKind.u8.bits op &&& BitVec.ofInt IntKind.u8.bits 31).toNat : Int))) &&& BitVec.ofInt IntKind.i64.bits 15).toNat : Int))).toNat < es.length) && (decide (0 < (es.getD (IntKind.i64.wrap (IntKind.i64.wrap ((↑es.length : Int) - 2) - IntKind.i64.wrap (↑(BitVec.ofInt IntKind.i64.bits (IntKind.i64.wrap (IntKind.u8.wrap (↑(BitVec.ofInt IntKind.u8.bits op &&& BitVec.ofInt IntKind.u8.bits 31).toNat : Int))) &&& BitVec.ofInt IntKind.i64.bits 15).toNat : Int))).toNat []).length) && (AV.isInt IntKind.u64 ((es.getD (IntKind.i64.wrap (IntKind.i64.wrap ((↑es.length : Int) - 2) - IntKind.i64.wrap (↑(BitVec.ofInt IntKind.i64.bits (IntKind.i64.wrap (IntKind.u8.wrap (↑(BitVec.ofInt IntKind.u8.bits op &&& BitVec.ofInt IntKind.u8.bits 31).toNat : Int))) &&& BitVec.ofInt IntKind.i64.bits 15).toNat : Int))).toNat []).getD 0 J) && (decide (0 + 1 < (es.getD (IntKind.i64.wrap (IntKind.i64.wrap ((↑es.length : Int) - 2) - IntKind.i64.wrap (↑(BitVec.ofInt IntKind.i64.bits (IntKind.i64.wrap (IntKind.u8.wrap (↑(BitVec.ofInt IntKind.u8.bits op &&& BitVec.ofInt IntKind.u8.bits 31).toNat : Int))) &&& BitVec.ofInt IntKind.i64.bits 15).toNat : Int))).toNat []).length) && (AV.isInt IntKind.u64 ((es.getD (IntKind.i64.wrap (IntKind.i64.wrap ((↑es.length : Int) - 2) - IntKind.i64.wrap (↑(BitVec.ofInt IntKind.i64.bits (IntKind.i64.wrap (IntKind.u8.wrap (↑(BitVec.ofInt IntKind.u8.bits op &&& BitVec.ofInt IntKind.u8.bits 31).toNat : Int))) &&& BitVec.ofInt IntKind.i64.bits 15).toNat : Int))).toNat []).getD 1 J) && (decide (0 + 1 + 1 < (es.getD (IntKind.i64.wrap (IntKind.i64.wrap ((↑es.length : Int) - 2) - IntKind.i64.wrap (↑(BitVec.ofInt IntKind.i64.bits (IntKind.i64.wrap (IntKind.u8.wrap (↑(BitVec.ofInt IntKind.u8.bits op &&& BitVec.ofInt IntKind.u8.bits 31).toNat : Int))) &&& BitVec.ofInt IntKind.i64.bits 15).toNat : Int))).toNat []).length) && (AV.isInt IntKind.u64 ((es.getD (IntKind.i64.wrap (IntKind.i64.wrap ((↑es.length : Int) - 2) - IntKind.i64.wrap (↑(BitVec.ofInt IntKind.i64.bits (IntKind.i64.wrap (IntKind.u8.wrap (↑(BitVec.ofInt IntKind.u8.bits op &&& BitVec.ofInt IntKind.u8.bits 31).toNat : Int))) &&& BitVec.ofInt IntKind.i64.bits 15).toNat : Int))).toNat []).getD 2 J) && (decide (0 + 1 + 1 + 1 < (es.getD (IntKind.i64.wrap (IntKind.i64.wrap ((↑es.length : Int) - 2) - IntKind.i64.wrap (↑(BitVec.ofInt IntKind.i64.bits (IntKind.i64.wrap (IntKind.u8.wrap (↑(BitVec.ofInt IntKind.u8.bits op &&& BitVec.ofInt IntKind.u8.bits 31).toNat : Int))) &&& BitVec.ofInt IntKind.i64.bits 15).toNat : Int))).toNat []).length) && (AV.isInt IntKind.u64 ((es.getD (IntKind.i64.wrap (IntKind.i64.wrap ((↑es.length : Int) - 2) - IntKind.i64.wrap (↑(BitVec.ofInt IntKind.i64.bits (IntKind.i64.wrap (IntKind.u8.wrap (↑(BitVec.ofInt IntKind.u8.bits op &&& BitVec.ofInt IntKind.u8.bits 31).toNat : Int))) &&& BitVec.ofInt IntKind.i64.bits 15).toNat : Int))).toNat []).getD 3 J) && true)))))))) then bif decide (0 ≤ IntKind.i64.wrap ((↑es.length : Int) - 1)) && decide (IntKind.i64.wrap ((↑es.length : Int) - 1) < (↑es.length : Int)) then bif decide ((IntKind.i64.wrap ((↑es.length : Int) - 1)).toNat < es.length) && (decide (0 < (es.getD (IntKind.i64.wrap ((↑es.length : Int) - 1)).toNat []).length) && (AV.isInt IntKind.u64 ((es.getD (IntKind.i64.wrap ((↑es.length : Int) - 1)).toNat []).getD 0 J) && (decide (0 + 1 < (es.getD (IntKind.i64.wrap ((↑es.length : Int) - 1)).toNat []).length) && (AV.isInt IntKind.u64 ((es.getD (IntKind.i64.wrap ((↑es.length : Int) - 1)).toNat []).getD 1 J) && (decide (0 + 1 + 1 < (es.getD (IntKind.i64.wrap ((↑es.length : Int) - 1)).toNat []).length) && (AV.isInt IntKind.u64 ((es.getD (IntKind.i64.wrap ((↑es.length : Int) - 1)).toNat []).getD 2 J) && (decide (0 + 1 + 1 + 1 < (es.getD (IntKind.i64.wrap ((↑es.length : Int) - 1)).toNat []).length) && (AV.isInt IntKind.u64 ((es.getD (IntKind.i64.wrap ((↑es.length : Int) - 1)).toNat []).getD 3 J) && true)))))))) then bif decide (0 ≤ IntKind.i64.wrap ((↑es.length : Int) - 1)) && decide (IntKind.i64.wrap ((↑es.length : Int) - 1) < (↑es.length : Int)) then bif decide ((IntKind.i64.wrap ((↑es.length : Int) - 1)).toNat < es.length) then bif decide (0 ≤ IntKind.i64.wrap (IntKind.i64.wrap ((↑es.length : Int) - 2) - IntKind.i64.wrap (↑(BitVec.ofInt IntKind.i64.bits (IntKind.i64.wrap (IntKind.u8.wrap (↑(BitVec.ofInt IntKind.u8.bits op &&& BitVec.ofInt IntKind.u8.bits 31).toNat : Int))) &&& BitVec.ofInt IntKind.i64.bits 15).toNat : Int))) && decide (IntKind.i64.wrap (IntKind.i64.wrap ((↑es.length : Int) - 2) - IntKind.i64.wrap (↑(BitVec.ofInt IntKind.i64.bits (IntKind.i64.wrap (IntKind.u8.wrap (↑(BitVec.ofInt IntKind.u8.bits op &&& BitVec.ofInt IntKind.u8.bits 31).toNat : Int))) &&& BitVec.ofInt IntKind.i64.bits 15).toNat : Int)) < (↑(es.set (IntKind.i64.wrap ((↑es.length : Int) - 1)).toNat (tu4 (es.getD (IntKind.i64.wrap (IntKind.i64.wrap ((↑es.length : Int) - 2) - IntKind.i64.wrap (↑(BitVec.ofInt IntKind.i64.bits (IntKind.i64.wrap (IntKind.u8.wrap (↑(BitVec.ofInt IntKind.u8.bits op &&& BitVec.ofInt IntKind.u8.bits 31).toNat : Int))) &&& BitVec.ofInt IntKind.i64.bits 15).toNat : Int))).toNat []))).length : Int)) then bif decide ((IntKind.i64.wrap (IntKind.i64.wrap ((↑es.length : Int) - 2) - IntKind.i64.wrap (↑(BitVec.ofInt IntKind.i64.bits (IntKind.i64.wrap (IntKind.u8.wrap (↑(BitVec.ofInt IntKind.u8.bits op &&& BitVec.ofInt IntKind.u8.bits 31).toNat : Int))) &&& BitVec.ofInt IntKind.i64.bits 15).toNat : Int))).toNat < (es.set (IntKind.i64.wrap ((↑es.length : Int) - 1)).toNat (tu4 (es.getD (IntKind.i64.wrap (IntKind.i64.wrap ((↑es.length : Int) - 2) - IntKind.i64.wrap (↑(BitVec.ofInt IntKind.i64.bits (IntKind.i64.wrap (IntKind.u8.wrap (↑(BitVec.ofInt IntKind.u8.bits op &&& BitVec.ofInt IntKind.u8.bits 31).toNat : Int))) &&& BitVec.ofInt IntKind.i64.bits 15).toNat : Int))).toNat []))).length) then k (.ret (.tuple [])) [AObj.cells (Mc code inp (AV.wref 1) mem pc gas stand err out op a0 a1 a2 a3 b0 b1 b2 b3 c0 c1 c2 c3), AObj.row 4 ((es.set (IntKind.i64.wrap ((↑es.length : Int) - 1)).toNat (tu4 (es.getD (IntKind.i64.wrap (IntKind.i64.wrap ((↑es.length : Int) - 2) - IntKind.i64.wrap (↑(BitVec.ofInt IntKind.i64.bits (IntKind.i64.wrap (IntKind.u8.wrap (↑(BitVec.ofInt IntKind.u8.bits op &&& BitVec.ofInt IntKind.u8.bits 31).toNat : Int))) &&& BitVec.ofInt IntKind.i64.bits 15).toNat : Int))).toNat []))).set (IntKind.i64.wrap (IntKind.i64.wrap ((↑es.length : Int) - 2) - IntKind.i64.wrap (↑(BitVec.ofInt IntKind.i64.bits (IntKind.i64.wrap (IntKind.u8.wrap (↑(BitVec.ofInt IntKind.u8.bits op &&& BitVec.ofInt IntKind.u8.bits 31).toNat : Int))) &&& BitVec.ofInt IntKind.i64.bits 15).toNat : Int))).toNat (tu4 (es.getD (IntKind.i64.wrap ((↑es.length : Int) - 1)).toNat [])))] else none else none else none else none else none else none else none else none else none else none := by subst e1 e2 e3 e4 e5 e6 e7 e8 e9; kernel_rfl
noncomputable def r72 : RF := runR (body (E72 r65 r73 r83 r115 r116 r117) 60 72 Tryz.f72 (cod Tryz.f72))
theorem q72 (args : List AV) (os : List AObj) : r72 args os = body (E72 r65 r73 r83 r115 r116 r117) 60 72 Tryz.f72 (cod Tryz.f72) args os _ fin := qR _ _ _
theorem ok72 : SpecOK P 72 (shaped A72 r72) := by
  unfold r72 E72
  refine okF 60 ?_ ?_ ?_ Tryz.func72 ?_ ?_ _
  · exact (tcons ok65 (tcons ok73 (tcons ok83 (tcons ok115 (tcons ok116 (tcons ok117 tnil))))))
  · exact trivial
  · exact hnil
  · kernel_rfl
  · kernel_rfl
noncomputable def E75 (r62 : RF) (r73 : RF) (r82 : RF) (r83 : RF) (r116 : RF) (r117 : RF) (r129 : RF) (r130 : RF) (r131 : RF) (r132 : RF) : Env := En 75 [] [] [] [] [] [(62, shaped A62 r62), (73, shaped A73 r73), (82, shaped A82 r82), (83, shaped A83 r83), (116, shaped A116 r116), (117, shaped A117 r117), (129, shaped A129 r129), (130, shaped A130 r130), (131, shaped A131 r131), (132, shaped A132 r132)]
noncomputable def a75 : Alt := ⟨false, .tup [], [.cells (shM (.sref 1)), .row 4 [sh6, sh6, sh6, sh6]]⟩
noncomputable def a75y : Alt := ⟨false, .tup [], [.cells (shM (.wref 2)), .dead, .row 4 [sh6, sh6, sh6, sh6]]⟩
noncomputable def a75z : Alt := ⟨true, .iface 63 (.int .i64), [.cells (shM (.sref 1)), .row 4 [sh6, sh6, sh6, sh6]]⟩
noncomputable def A75 : List Alt := [a75, a75y, a75z]
theorem T75 (r62 : RF) (r73 : RF) (r82 : RF) (r83 : RF) (r116 : RF) (r117 : RF) (r129 : RF) (r130 : RF) (r131 : RF) (r132 : RF) (code inp mem out : ByteArray) (pc gas stand err op a0 a1 a2 a3 b0 b1 b2 b3 c0 c1 c2 c3 : Int) (es : List (List AV)) (n : Nat) (X : Type) (k : AEnd → List AObj → Option X)
    (x1 : RE) (e1 : r62 [u8 op] [] = x1)
    (x2 : RE) (e2 : r83 [u (IntKind.u64.wrap gas)] [] = x2)
    (x3 : RE) (e3 : r73 [AV.ptr 0 0, AV.agg (tu4 (rV x2).items)] [AObj.cells (Mc code inp (AV.sref 1 0 n) mem pc gas stand err out op a0 a1 a2 a3 b0 b1 b2 b3 c0 c1 c2 c3), AObj.row 4 es] = x3)
    (x4 : RE) (e4 : r83 [u (IntKind.u64.wrap (↑mem.size : Int))] [] = x4)
    (x5 : RE) (e5 : r73 [AV.ptr 0 0, AV.agg (tu4 (rV x4).items)] [AObj.cells (Mc code inp (AV.sref 1 0 n) mem pc gas stand err out op a0 a1 a2 a3 b0 b1 b2 b3 c0 c1 c2 c3), AObj.row 4 es] = x5)
    (x6 : RE) (e6 : r83 [u (IntKind.u64.wrap pc)] [] = x6)
    (x7 : RE) (e7 : r73 [AV.ptr 0 0, AV.agg (tu4 (rV x6).items)] [AObj.cells (Mc code inp (AV.sref 1 0 n) mem pc gas stand err out op a0 a1 a2 a3 b0 b1 b2 b3 c0 c1 c2 c3), AObj.row 4 es] = x7)
    (x8 : RE) (e8 : r132 [AV.ptr 0 0] [AObj.cells (Mc code inp (AV.sref 1 0 n) mem pc gas stand err out op a0 a1 a2 a3 b0 b1 b2 b3 c0 c1 c2 c3), AObj.row 4 es] = x8)
    (x9 : RE) (e9 : r82 [U b0 b1 b2 b3] [] = x9)
    (x10 : RE) (e10 : r131 [AV.ptr 0 0, st ((rV x9).toStr.extract (Int.toNat 31) (rV x9).toStr.size)] [AObj.cells (Mc code inp (AV.sref 1 0 n) mem pc gas stand err out op a0 a1 a2 a3 b0 b1 b2 b3 c0 c1 c2 c3), AObj.row 4 es] = x10)
    (x11 : RE) (e11 : r131 [AV.ptr 0 0, st (rV x9).toStr] [AObj.cells (Mc code inp (AV.sref 1 0 n) mem pc gas stand err out op a0 a1 a2 a3 b0 b1 b2 b3 c0 c1 c2 c3), AObj.row 4 es] = x11)
    (x12 : RE) (e12 : r117 [st mem, U a0 a1 a2 a3, i64 32] [] = x12)
    (x13 : RE) (e13 : r116 [st (rV x12).toStr] [] = x13)
    (x14 : RE) (e14 : r73 [AV.ptr 0 0, AV.agg (tu4 (rV x13).items)] [AObj.cells (Mc code inp (AV.sref 1 0 n) mem pc gas stand err out op a0 a1 a2 a3 b0 b1 b2 b3 c0 c1 c2 c3), AObj.row 4 es] = x14)
    (x15 : RE) (e15 : r117 [st code, U b0 b1 b2 b3, i64 (IntKind.i64.wrap c0)] [] = x15)
    (x16 : RE) (e16 : r131 [AV.ptr 0 0, st (rV x15).toStr] [AObj.cells (Mc code inp (AV.sref 1 0 n) mem pc gas stand err out op a0 a1 a2 a3 b0 b1 b2 b3 c0 c1 c2 c3), AObj.row 4 es] = x16)
    (x17 : RE) (e17 : r83 [u (IntKind.u64.wrap (↑code.size : Int))] [] = x17)
    (x18 : RE) (e18 : r73 [AV.ptr 0 0, AV.agg (tu4 (rV x17).items)] [AObj.cells (Mc code inp (AV.sref 1 0 n) mem pc gas stand err out op a0 a1 a2 a3 b0 b1 b2 b3 c0 c1 c2 c3), AObj.row 4 es] = x18)
    (x19 : RE) (e19 : r117 [st inp, U b0 b1 b2 b3, i64 (IntKind.i64.wrap c0)] [] = x19)
    (x20 : RE) (e20 : r131 [AV.ptr 0 0, st (rV x19).toStr] [AObj.cells (Mc code inp (AV.sref 1 0 n) mem pc gas stand err out op a0 a1 a2 a3 b0 b1 b2 b3 c0 c1 c2 c3), AObj.row 4 es] = x20)
    (x21 : RE) (e21 : r83 [u (IntKind.u64.wrap (↑inp.size : Int))] [] = x21)
    (x22 : RE) (e22 : r73 [AV.ptr 0 0, AV.agg (tu4 (rV x21).items)] [AObj.cells (Mc code inp (AV.sref 1 0 n) mem pc gas stand err out op a0 a1 a2 a3 b0 b1 b2 b3 c0 c1 c2 c3), AObj.row 4 es] = x22)
    (x23 : RE) (e23 : r117 [st inp, U a0 a1 a2 a3, i64 32] [] = x23)
    (x24 : RE) (e24 : r116 [st (rV x23).toStr] [] = x24)
    (x25 : RE) (e25 : r73 [AV.ptr 0 0, AV.agg (tu4 (rV x24).items)] [AObj.cells (Mc code inp (AV.sref 1 0 n) mem pc gas stand err out op a0 a1 a2 a3 b0 b1 b2 b3 c0 c1 c2 c3), AObj.row 4 es] = x25)
    (x26 : RE) (e26 : r117 [st mem, U a0 a1 a2 a3, i64 (IntKind.i64.wrap b0)] [] = x26)
    (x27 : RE) (e27 : r130 [st (rV x26).toStr] [] = x27)
    (x28 : RE) (e28 : r116 [st (rV x27).toStr] [] = x28)
    (x29 : RE) (e29 : r73 [AV.ptr 0 0, AV.agg (tu4 (rV x28).items)] [AObj.cells (Mc code inp (AV.sref 1 0 n) mem pc gas stand err out op a0 a1 a2 a3 b0 b1 b2 b3 c0 c1 c2 c3), AObj.row 4 es] = x29)
    (x30 : RE) (e30 : r129 [AV.ptr 0 0, i64 2] [AObj.cells (Mc code inp (AV.sref 1 0 n) mem pc gas stand err out op a0 a1 a2 a3 b0 b1 b2 b3 c0 c1 c2 c3), AObj.row 4 es] = x30)
    (x31 : RE) (e31 : r129 [AV.ptr 0 0, i64 1] [AObj.cells (Mc code inp (AV.sref 1 0 n) mem pc gas stand err out op a0 a1 a2 a3 b0 b1 b2 b3 c0 c1 c2 c3), AObj.row 4 es] = x31) :
    body (E75 r62 r73 r82 r83 r116 r117 r129 r130 r131 r132) 60 75 Tryz.f75 (cod Tryz.f75) [.ptr 0 0] [.cells (Mc code inp (.sref 1 0 n) mem pc gas stand err out op a0 a1 a2 a3 b0 b1 b2 b3 c0 c1 c2 c3), .row 4 es] X k =
    bif okAlt a62 x1 then bif (rV x1).toStr.toList == (ByteArray.mk #[83, 84, 79, 80]).toList then k (.ret (.tuple [])) [AObj.cells (Mc code inp (AV.sref 1 0 n) mem pc gas 1 err out op a0 a1 a2 a3 b0 b1 b2 b3 c0 c1 c2 c3), AObj.row 4 es] else bif (rV x1).toStr.toList == (ByteArray.mk #[82, 69, 84, 85, 82, 78]).toList then bif okAlt a129 x31 then k (.ret (.tuple [])) [AObj.cells (tuM (((rOs x31).getD 0 AObj.dead).cellsOf) (AV.sref 1 (((rOs x31).getD 0 AObj.dead).cellsOf.getD 2 J).srOff (((rOs x31).getD 0 AObj.dead).cellsOf.getD 2 J).srN)), AObj.row 4 (List.map (fun e => rebs [sh6, sh6, sh6, sh6] e 0) ((rOs x31).getD 1 AObj.dead).rowOf)] else none else bif (rV x1).toStr.toList == (ByteArray.mk #[82, 69, 86, 69, 82, 84]).toList then bif okAlt a129 x30 then k (.ret (.tuple [])) [AObj.cells (tuM (((rOs x30).getD 0 AObj.dead).cellsOf) (AV.sref 1 (((rOs x30).getD 0 AObj.dead).cellsOf.getD 2 J).srOff (((rOs x30).getD 0 AObj.dead).cellsOf.getD 2 J).srN)), AObj.row 4 (List.map (fun e => rebs [sh6, sh6, sh6, sh6] e 0) ((rOs x30).getD 1 AObj.dead).rowOf)] else none else bif (rV x1).toStr.toList == (ByteArray.mk #[75, 69, 67, 67, 65, 75, 50, 53, 54]).toList then bif okAlt a117 x26 then bif okAlt a130 x27 then bif okAlt a116 x28 then bif okAlt a73 x29 then k (.ret (.tuple [])) [AObj.cells (tuM (((rOs x29).getD 0 AObj.dead).cellsOf) (AV.wref 2)), AObj.dead, AObj.row 4 (List.map (fun e => rebs [sh6, sh6, sh6, sh6] e 0) ((rOs x29).getD 2 AObj.dead).rowOf)] else none else none else none else none else bif (rV x1).toStr.toList == (ByteArray.mk #[67, 65, 76, 76, 68, 65, 84, 65, 76, 79, 65, 68]).toList then bif okAlt a117 x23 then bif okAlt a116 x24 then bif okAlt a73 x25 then k (.ret (.tuple [])) [AObj.cells (tuM (((rOs x25).getD 0 AObj.dead).cellsOf) (AV.wref 2)), AObj.dead, AObj.row 4 (List.map (fun e => rebs [sh6, sh6, sh6, sh6] e 0) ((rOs x25).getD 2 AObj.dead).rowOf)] else none else none else none else bif (rV x1).toStr.toList == (ByteArray.mk #[67, 65, 76, 76, 68, 65, 84, 65, 83, 73, 90, 69]).toList then bif okAlt a83 x21 then bif okAlt a73 x22 then k (.ret (.tuple [])) [AObj.cells (tuM (((rOs x22).getD 0 AObj.dead).cellsOf) (AV.wref 2)), AObj.dead, AObj.row 4 (List.map (fun e => rebs [sh6, sh6, sh6, sh6] e 0) ((rOs x22).getD 2 AObj.dead).rowOf)] else none else none else bif (rV x1).toStr.toList == (ByteArray.mk #[67, 65, 76, 76, 68, 65, 84, 65, 67, 79, 80, 89]).toList then bif okAlt a117 x19 then bif okAlt a131 x20 then k (.ret (.tuple [])) [AObj.cells (tuM (((rOs x20).getD 0 AObj.dead).cellsOf) (AV.sref 1 (((rOs x20).getD 0 AObj.dead).cellsOf.getD 2 J).srOff (((rOs x20).getD 0 AObj.dead).cellsOf.getD 2 J).srN)), AObj.row 4 (List.map (fun e => rebs [sh6, sh6, sh6, sh6] e 0) ((rOs x20).getD 1 AObj.dead).rowOf)] else none else none else bif (rV x1).toStr.toList == (ByteArray.mk #[67, 79, 68, 69, 83, 73, 90, 69]).toList then bif okAlt a83 x17 then bif okAlt a73 x18 then k (.ret (.tuple [])) [AObj.cells (tuM (((rOs x18).getD 0 AObj.dead).cellsOf) (AV.wref 2)), AObj.dead, AObj.row 4 (List.map (fun e => rebs [sh6, sh6, sh6, sh6] e 0) ((rOs x18).getD 2 AObj.dead).rowOf)] else none else none else bif (rV x1).toStr.toList == (ByteArray.mk #[67, 79, 68, 69, 67, 79, 80, 89]).toList then bif okAlt a117 x15 then bif okAlt a131 x16 then k (.ret (.tuple [])) [AObj.cells (tuM (((rOs x16).getD 0 AObj.dead).cellsOf) (AV.sref 1 (((rOs x16).getD 0 AObj.dead).cellsOf.getD 2 J).srOff (((rOs x16).getD 0 AObj.dead).cellsOf.getD 2 J).srN)), AObj.row 4 (List.map (fun e => rebs [sh6, sh6, sh6, sh6] e 0) ((rOs x16).getD 1 AObj.dead).rowOf)] else none else none else bif (rV x1).toStr.toList == (ByteArray.mk #[77, 76, 79, 65, 68]).toList then bif okAlt a117 x12 then bif okAlt a116 x13 then bif okAlt a73 x14 then k (.ret (.tuple [])) [AObj.cells (tuM (((rOs x14).getD 0 AObj.dead).cellsOf) (AV.wref 2)), AObj.dead, AObj.row 4 (List.map (fun e => rebs [sh6, sh6, sh6, sh6] e 0) ((rOs x14).getD 2 AObj.dead).rowOf)] else none else none else none else bif (rV x1).toStr.toList == (ByteArray.mk #[77, 83, 84, 79, 82, 69]).toList then bif okAlt a82 x9 then bif okAlt a131 x11 then k (.ret (.tuple [])) [AObj.cells (tuM (((rOs x11).getD 0 AObj.dead).cellsOf) (AV.sref 1 (((rOs x11).getD 0 AObj.dead).cellsOf.getD 2 J).srOff (((rOs x11).getD 0 AObj.dead).cellsOf.getD 2 J).srN)), AObj.row 4 (List.map (fun e => rebs [sh6, sh6, sh6, sh6] e 0) ((rOs x11).getD 1 AObj.dead).rowOf)] else none else none else bif (rV x1).toStr.toList == (ByteArray.mk #[77, 83, 84, 79, 82, 69, 56]).toList then bif okAlt a82 x9 then bif decide (0 ≤ 31) && decide (31 ≤ (↑(rV x9).toStr.size : Int)) then bif okAlt a131 x10 then k (.ret (.tuple [])) [AObj.cells (tuM (((rOs x10).getD 0 AObj.dead).cellsOf) (AV.sref 1 (((rOs x10).getD 0 AObj.dead).cellsOf.getD 2 J).srOff (((rOs x10).getD 0 AObj.dead).cellsOf.getD 2 J).srN)), AObj.row 4 (List.map (fun e => rebs [sh6, sh6, sh6, sh6] e 0) ((rOs x10).getD 1 AObj.dead).rowOf)] else none else none else none else bif (rV x1).toStr.toList == (ByteArray.mk #[74, 85, 77, 80]).toList then bif okAlt a132 x8 then k (.ret (.tuple [])) [AObj.cells (tuM (((rOs x8).getD 0 AObj.dead).cellsOf) (AV.sref 1 (((rOs x8).getD 0 AObj.dead).cellsOf.getD 2 J).srOff (((rOs x8).getD 0 AObj.dead).cellsOf.getD 2 J).srN)), AObj.row 4 (List.map (fun e => rebs [sh6, sh6, sh6, sh6] e 0) ((rOs x8).getD 1 AObj.dead).rowOf)] else bif okAlt a132y x8 then k (.panic (AV.iface 63 (i64 ((rV x8).items.getD 0 J).toInt))) [AObj.cells (tuM (((rOs x8).getD 0 AObj.dead).cellsOf) (AV.sref 1 (((rOs x8).getD 0 AObj.dead).cellsOf.getD 2 J).srOff (((rOs x8).getD 0 AObj.dead).cellsOf.getD 2 J).srN)), AObj.row 4 (List.map (fun e => rebs [sh6, sh6, sh6, sh6] e 0) ((rOs x8).getD 1 AObj.dead).rowOf)] else none else bif (rV x1).toStr.toList == (ByteArray.mk #[74, 85, 77, 80, 73]).toList then bif !(b0 == 0 && (b1 == 0 && (b2 == 0 && (b3 == 0 && true)))) then bif okAlt a132 x8 then k (.ret (.tuple [])) [AObj.cells (tuM (((rOs x8).getD 0 AObj.dead).cellsOf) (AV.sref 1 (((rOs x8).getD 0 AObj.dead).cellsOf.getD 2 J).srOff (((rOs x8).getD 0 AObj.dead).cellsOf.getD 2 J).srN)), AObj.row 4 (List.map (fun e => rebs [sh6, sh6, sh6, sh6] e 0) ((rOs x8).getD 1 AObj.dead).rowOf)] else bif okAlt a132y x8 then k (.panic (AV.iface 63 (i64 ((rV x8).items.getD 0 J).toInt))) [AObj.cells (tuM (((rOs x8).getD 0 AObj.dead).cellsOf) (AV.sref 1 (((rOs x8).getD 0 AObj.dead).cellsOf.getD 2 J).srOff (((rOs x8).getD 0 AObj.dead).cellsOf.getD 2 J).srN)), AObj.row 4 (List.map (fun e => rebs [sh6, sh6, sh6, sh6] e 0) ((rOs x8).getD 1 AObj.dead).rowOf)] else none else k (.ret (.tuple [])) [AObj.cells (Mc code inp (AV.sref 1 0 n) mem pc gas stand err out op a0 a1 a2 a3 b0 b1 b2 b3 c0 c1 c2 c3), AObj.row 4 es] else bif (rV x1).toStr.toList == (ByteArray.mk #[80, 67]).toList then bif okAlt a83 x6 then bif okAlt a73 x7 then k (.ret (.tuple [])) [AObj.cells (tuM (((rOs x7).getD 0 AObj.dead).cellsOf) (AV.wref 2)), AObj.dead, AObj.row 4 (List.map (fun e => rebs [sh6, sh6, sh6, sh6] e 0) ((rOs x7).getD 2 AObj.dead).rowOf)] else none else none else bif (rV x1).toStr.toList == (ByteArray.mk #[77, 83, 73, 90, 69]).toList then bif okAlt a83 x4 then bif okAlt a73 x5 then k (.ret (.tuple [])) [AObj.cells (tuM (((rOs x5).getD 0 AObj.dead).cellsOf) (AV.wref 2)), AObj.dead, AObj.row 4 (List.map (fun e => rebs [sh6, sh6, sh6, sh6] e 0) ((rOs x5).getD 2 AObj.dead).rowOf)] else none else none else bif (rV x1).toStr.toList == (ByteArray.mk #[71, 65, 83]).toList then bif okAlt a83 x2 then bif okAlt a73 x3 then k (.ret (.tuple [])) [AObj.cells (tuM (((rOs x3).getD 0 AObj.dead).cellsOf) (AV.wref 2)), AObj.dead, AObj.row 4 (List.map (fun e => rebs [sh6, sh6, sh6, sh6] e 0) ((rOs x3).getD 2 AObj.dead).rowOf)] else none else none else k (.ret (.tuple [])) [AObj.cells (Mc code inp (AV.sref 1 0 n) mem pc gas stand err out op a0 a1 a2 a3 b0 b1 b2 b3 c0 c1 c2 c3), AObj.row 4 es] else none := by subst e1 e2 e3 e4 e5 e6 e7 e8 e9 e10 e11 e12 e13 e14 e15 e16 e17 e18 e19 e20 e21 e22 e23 e24 e25 e26 e27 e28 e29 e30 e31; kernel_rfl
noncomputable def r75 : RF := runR (body (E75 r62 r73 r82 r83 r116 r117 r129 r130 r131 r132) 60 75 Tryz.f75 (cod Tryz.f75))
theorem q75 (args : List AV) (os : List AObj) : r75 args os = body (E75 r62 r73 r82 r83 r116 r117 r129 r130 r131 r132) 60 75 Tryz.f75 (cod Tryz.f75) args os _ fin := qR _ _ _
theorem ok75 : SpecOK P 75 (shaped A75 r75) := by
  unfold r75 E75
  refine okF 60 ?_ ?_ ?_ Tryz.func75 ?_ ?_ _
  · exact (tcons ok62 (tcons ok73 (tcons ok82 (tcons ok83 (tcons ok116 (tcons ok117 (tcons ok129 (tcons ok130 (tcons ok131 (tcons ok132 tnil))))))))))
  · exact trivial
  · exact hnil
  · kernel_rfl
  · kernel_rfl
end Go.Proofs.Vm
end
section
namespace Go.Proofs.Vm
open Go Go.Abs
theorem endSpec_some {X : Type} {r : RE} {k : AEnd → List AObj → Option X} : ∀ {ts : List Alt} {t : Alt}, t ∈ ts → okAlt t r = true → ∃ e os, r = some (e, os) ∧ endSpec r k ts = k e os
  | [], _, h, _ => by cases h
  | t' :: ts, t, h, ho => by
    unfold endSpec
    cases hb : okAlt t' r with
    | true => exact ⟨_, _, okAlt_eq hb, by simp only [cond_true]⟩
    | false =>
      rcases List.mem_cons.1 h with rfl | h
      · rw [hb] at ho; cases ho
      · simp only [cond_false]; exact endSpec_some h ho
theorem _root_.Go.Abs.SpecOK.sub {f : FuncId} {ts ts' : List Alt} {r : RF} (h : SpecOK P f (shaped ts r)) (hs : ∀ t ∈ ts', t ∈ ts) : SpecOK P f (shaped ts' r) := by
  have key : ∀ args os (ts2 : List Alt), (∀ t ∈ ts2, t ∈ ts) → (∃ e os', r args os = some (e, os') ∧ (∀ (X : Type) (k : AEnd → List AObj → Option X), endSpec (r args os) k ts2 = k e os') ∧ ∀ (X : Type) (k : AEnd → List AObj → Option X), endSpec (r args os) k ts = k e os') ∨ ∀ (X : Type) (k : AEnd → List AObj → Option X), endSpec (r args os) k ts2 = none := by
    intro args os ts2
    induction ts2 with
    | nil => exact fun _ => .inr fun _ _ => rfl
    | cons t ts2 ih =>
      intro hm
      cases hb : okAlt t (r args os) with
      | true =>
        left
        refine ⟨_, _, okAlt_eq hb, fun X k => by simp only [endSpec, hb, cond_true], fun X k => ?_⟩
        obtain ⟨e, os', h1, h2⟩ := endSpec_some (k := k) (hm t (List.mem_cons_self ..)) hb
        have h3 := (okAlt_eq hb).symm.trans h1
        simp only [Option.some.injEq, Prod.mk.injEq] at h3
        rw [h2, h3.1, h3.2]
      | false =>
        rcases ih (fun t ht => hm t (List.mem_cons_of_mem _ ht)) with ⟨e, os', h1, h2, h3⟩ | h2
        · exact .inl ⟨e, os', h1, fun X k => by simp only [endSpec, hb, cond_false]; exact h2 X k, h3⟩
        · exact .inr fun X k => by simp only [endSpec, hb, cond_false]; exact h2 X k
  refine ⟨fun args os => ?_, fun args os e os' hk => ?_⟩
  · rcases key args os ts' hs with ⟨e, os', _, h2, _⟩ | h2
    · exact .inl ⟨e, os', h2⟩
    · exact .inr h2
  · rcases key args os ts' hs with ⟨e', os2, _, h2, h3⟩ | h2
    · obtain ⟨rfl, rfl⟩ := some_of_det hk h2
      exact h.ok args os _ _ h3
    · exact (none_of_det hk h2).elim
noncomputable def A65s : List Alt := [a65]
theorem ok65s : SpecOK P 65 (shaped A65s r65) := ok65.sub fun t ht => by simp only [A65s, A65, List.mem_cons, List.not_mem_nil, or_false] at ht ⊢; exact .inl ht
noncomputable def A73s : List Alt := [a73]
theorem ok73s : SpecOK P 73 (shaped A73s r73) := ok73.sub fun t ht => by simp only [A73s, A73, List.mem_cons, List.not_mem_nil, or_false] at ht ⊢; first | exact ht | exact .inl ht
end Go.Proofs.Vm
end
section
namespace Go.Proofs.Vm
open Go Go.Abs
set_option maxRecDepth 100000
set_option maxHeartbeats 1000000
theorem goG {α : Type} {b : Bool} {x y r : Int → α} (h : ∀ g, r g = (bif b then x g else y g)) (hb : b = true) : ∀ g, r g = x g := by subst hb; exact h
theorem gnG {α : Type} {b : Bool} {x y r : Int → α} (h : ∀ g, r g = (bif b then x g else y g)) (hb : b = false) : ∀ g, r g = y g := by subst hb; exact h
theorem spG {α : Type} {b : Bool} {x y r : Int → α} (h : ∀ g, r g = (bif b then x g else y g)) : (b = true ∧ ∀ g, r g = x g) ∨ (b = false ∧ ∀ g, r g = y g) := by cases b; exact .inr ⟨rfl, h⟩; exact .inl ⟨rfl, h⟩
def isU (e : List AV) : Prop := ∃ x0 x1 x2 x3, R4 x0 x1 x2 x3 ∧ e = [u x0, u x1, u x2, u x3]
def AllU (es : List (List AV)) : Prop := ∀ e ∈ es, isU e
theorem AllU.get {es : List (List AV)} (h : AllU es) {i : Nat} (hi : i < es.length) : isU (es.getD i []) :=
  h _ (by rw [List.getD_eq_getElem?_getD, List.getElem?_eq_getElem hi]; exact List.getElem_mem hi)
theorem AllU.set {es : List (List AV)} (h : AllU es) (i : Nat) {e : List AV} (he : isU e) : AllU (es.set i e) := fun x hx => by
  rcases List.mem_or_eq_of_mem_set hx with h' | h'
  · exact h x h'
  · exact h' ▸ he
theorem AllU.app {es : List (List AV)} (h : AllU es) {e : List AV} (he : isU e) : AllU (es ++ [e]) := fun x hx => by
  rcases List.mem_append.1 hx with h' | h'
  · exact h x h'
  · rw [List.mem_singleton.1 h']; exact he
theorem AllU.take {es : List (List AV)} (h : AllU es) (n : Nat) : AllU (es.take n) := fun x hx => h x (List.mem_of_mem_take hx)
theorem allU_ok {es : List (List AV)} (h : AllU es) : (es.all fun e => okSs [sh6, sh6, sh6, sh6] e) = true := by
  rw [List.all_eq_true]
  intro e he
  obtain ⟨_, _, _, _, _, rfl⟩ := h e he
  rfl
theorem map_rebU {es : List (List AV)} (h : AllU es) : (es.map fun e => rebs [sh6, sh6, sh6, sh6] e 0) = es := by
  refine (List.map_congr_left fun e he => ?_).trans (List.map_id _)
  obtain ⟨_, _, _, _, _, rfl⟩ := h e he
  rfl
theorem w63t (e : Int) : r63 [bo true, i64 e] [] = some (.ret (.tuple []), []) := (q63 _ _).trans (T63 true e _ fin)
theorem w63f (e : Int) : r63 [bo false, i64 e] [] = some (.panic (.iface 63 (i64 e)), []) := (q63 _ _).trans (T63 false e _ fin)
theorem w187 (b : Bool) : ∃ x0 x1 x2 x3, r187 [bo b] [] = some (.ret (U x0 x1 x2 x3), []) ∧ R4 x0 x1 x2 x3 := by
  have h := (q187 _ _).trans (T187 r83 b _ fin _ (w83 1))
  cases b
  · exact ⟨_, _, _, _, h, r4_0⟩
  · exact ⟨_, _, _, _, h, r4_1⟩
theorem w115 {s t : ByteArray} : ∃ b, r115 [st s, st t] [] = some (.ret (bo b), []) := by
  have h := (q115 _ _).trans (T115 s t _ fin)
  rcases spB h with ⟨hc, h⟩ | ⟨_, h⟩
  · rw [ile_eq, decide_eq_true_eq] at hc
    exact ⟨_, go h (dec2 (by omega) (by omega))⟩
  · exact ⟨_, h⟩
section
variable {code inp mem out : ByteArray} {pc stand err op a0 a1 a2 a3 b0 b1 b2 b3 c0 c1 c2 c3 : Int} {es : List (List AV)}
def topE (es : List (List AV)) (k : Nat) : List AV := if es.length ≤ k then [u 0, u 0, u 0, u 0] else es.getD (es.length - 1 - k) []
theorem topE_u (h : AllU es) (k : Nat) : isU (topE es k) := by
  unfold topE
  split
  · exact ⟨0, 0, 0, 0, r4_0, rfl⟩
  · exact h.get (by omega)
theorem w65 (h : AllU es) (hl : es.length ≤ 1048576) (k : Nat) (hk : k ≤ 1000) (gas : Int) : r65 [.ptr 0 0, i64 k] [.cells (Mc code inp (.sl 4 es) mem pc gas stand err out op a0 a1 a2 a3 b0 b1 b2 b3 c0 c1 c2 c3)] = some (.ret (.agg (topE es k)), [.cells (Mc code inp (.sl 4 es) mem pc gas stand err out op a0 a1 a2 a3 b0 b1 b2 b3 c0 c1 c2 c3)]) := by
  have hh := (q65 _ _).trans (T65 code inp mem out pc gas stand err op a0 a1 a2 a3 b0 b1 b2 b3 c0 c1 c2 c3 es k _ fin)
  unfold topE
  by_cases hc : es.length ≤ k
  · rw [if_pos hc]
    exact go hh (ile_t' (by omega))
  · rw [if_neg hc]
    replace hh := gn hh (ile_f' (by omega))
    have e : IntKind.i64.wrap (IntKind.i64.wrap ((es.length : Int) - 1) - k) = (es.length : Int) - 1 - k := by rw [w8in (n := (es.length : Int) - 1) (by omega) (by omega), w8in (by omega) (by omega)]
    rw [e] at hh
    replace hh := go hh (dec2 (by omega) (by omega))
    obtain ⟨x0, x1, x2, x3, _, hx⟩ := h.get (i := ((es.length : Int) - 1 - k).toNat) (by omega)
    rw [hx] at hh
    replace hh := go hh rfl
    rw [show es.length - 1 - k = ((es.length : Int) - 1 - k).toNat by omega, hx]
    exact hh
theorem w65w (h : AllU es) (hl : es.length ≤ 1048576) (k : Nat) (hk : k ≤ 1000) (gas : Int) : r65 [.ptr 0 0, i64 k] [.cells (Mc code inp (.wref 1) mem pc gas stand err out op a0 a1 a2 a3 b0 b1 b2 b3 c0 c1 c2 c3), .row 4 es] = some (.ret (.agg (topE es k)), [.cells (Mc code inp (.wref 1) mem pc gas stand err out op a0 a1 a2 a3 b0 b1 b2 b3 c0 c1 c2 c3), .row 4 es]) := by
  have hh := (q65 _ _).trans (T65w code inp mem out pc gas stand err op a0 a1 a2 a3 b0 b1 b2 b3 c0 c1 c2 c3 es k _ fin)
  unfold topE
  by_cases hc : es.length ≤ k
  · rw [if_pos hc]
    exact go hh (ile_t' (by omega))
  · rw [if_neg hc]
    replace hh := gn hh (ile_f' (by omega))
    have e : IntKind.i64.wrap (IntKind.i64.wrap ((es.length : Int) - 1) - k) = (es.length : Int) - 1 - k := by rw [w8in (n := (es.length : Int) - 1) (by omega) (by omega), w8in (by omega) (by omega)]
    rw [e] at hh
    replace hh := go hh (dec2 (by omega) (by omega))
    obtain ⟨x0, x1, x2, x3, _, hx⟩ := h.get (i := ((es.length : Int) - 1 - k).toNat) (by omega)
    rw [hx] at hh
    replace hh := go hh (and_t (dec1 (by omega)) rfl)
    rw [show es.length - 1 - k = ((es.length : Int) - 1 - k).toNat by omega, hx]
    exact hh
theorem w68t {g gas : Int} (h : g ≤ gas) : r68 [.ptr 0 0, i64 g] [.cells (Mc code inp (.sl 4 es) mem pc gas stand err out op a0 a1 a2 a3 b0 b1 b2 b3 c0 c1 c2 c3)] = some (.ret (.tuple []), [.cells (Mc code inp (.sl 4 es) mem pc (IntKind.i64.wrap (gas - g)) stand err out op a0 a1 a2 a3 b0 b1 b2 b3 c0 c1 c2 c3)]) := by
  have hh := (q68 _ _).trans (T68 r63 code inp mem out pc gas stand err op a0 a1 a2 a3 b0 b1 b2 b3 c0 c1 c2 c3 es g _ fin _ ((congrArg (fun b => r63 [bo b, i64 18] []) (ile_t' h)).trans (w63t 18)))
  exact go hh rfl
theorem w68f {g gas : Int} (h : gas < g) : r68 [.ptr 0 0, i64 g] [.cells (Mc code inp (.sl 4 es) mem pc gas stand err out op a0 a1 a2 a3 b0 b1 b2 b3 c0 c1 c2 c3)] = some (.panic (.iface 63 (i64 18)), [.cells (Mc code inp (.sl 4 es) mem pc gas stand err out op a0 a1 a2 a3 b0 b1 b2 b3 c0 c1 c2 c3)]) := by
  have hh := (q68 _ _).trans (T68 r63 code inp mem out pc gas stand err op a0 a1 a2 a3 b0 b1 b2 b3 c0 c1 c2 c3 es g _ fin _ ((congrArg (fun b => r63 [bo b, i64 18] []) (ile_f' h)).trans (w63f 18)))
  exact go (gn hh rfl) rfl
theorem w66 {n : Nat} (hn : n < 256) (ha : R4 a0 a1 a2 a3) (hb : R4 b0 b1 b2 b3) (hc : R4 c0 c1 c2 c3) : ∃ x0 x1 x2 x3 y0 y1 y2 y3, R4 x0 x1 x2 x3 ∧ R4 y0 y1 y2 y3 ∧
    ∀ gas : Int, r66 [.ptr 0 0] [.cells (Mc code inp (.sl 4 es) mem pc gas stand err out n a0 a1 a2 a3 b0 b1 b2 b3 c0 c1 c2 c3)] = some (.ret (.tuple [U x0 x1 x2 x3, U y0 y1 y2 y3]), [.cells (Mc code inp (.sl 4 es) mem pc gas stand err out n a0 a1 a2 a3 b0 b1 b2 b3 c0 c1 c2 c3)]) := by
  have h := fun gas => (q66 _ _).trans (T66 r62 r83 code inp mem out pc gas stand err n a0 a1 a2 a3 b0 b1 b2 b3 c0 c1 c2 c3 es _ fin _ (w62 hn) _ (w83 1) _ (w83 32))
  have h1 : R4 1 0 0 0 := r4_1
  have h32 : R4 32 0 0 0 := r4c (by constructor <;> omega)
  have h0 : R4 0 0 0 0 := r4_0
  generalize nm n = a at h
  replace h := goG h rfl
  repeat' first
    | exact ⟨_, _, _, _, _, _, _, _, by assumption, by assumption, h⟩
    | replace h := goG h rfl
    | (rcases spG h with ⟨_, h⟩ | ⟨_, h⟩)
theorem w70 {n : Nat} (hn : n < 256) {n0 n1 n2 n3 : Int} (h0 : 0 ≤ n0) (h1 : n0 ≤ 1048576) : ∃ c : Int, 0 ≤ c ∧ c ≤ 16777216 ∧
    ∀ gas : Int, r70 [.ptr 0 0, U n0 n1 n2 n3] [.cells (Mc code inp (.sl 4 es) mem pc gas stand err out n a0 a1 a2 a3 b0 b1 b2 b3 c0 c1 c2 c3)] = some (.ret (i64 c), [.cells (Mc code inp (.sl 4 es) mem pc gas stand err out n a0 a1 a2 a3 b0 b1 b2 b3 c0 c1 c2 c3)]) := by
  have ew : IntKind.i64.wrap n0 = n0 := w8in (by omega) (by omega)
  obtain ⟨w, e2, hw⟩ := w111 (n := n0) h0 (by omega)
  obtain ⟨bb, e3, hb0, hb1⟩ := w114 (a0 := b0) (a1 := b1) (a2 := b2) (a3 := b3)
  rw [← ew] at e2
  have h := fun gas => (q70 _ _).trans (T70 r62 r111 r114 code inp mem out pc gas stand err n a0 a1 a2 a3 b0 b1 b2 b3 c0 c1 c2 c3 es n0 n1 n2 n3 _ fin _ (w62 hn) _ e2 _ e3)
  have k1 : 0 ≤ IntKind.i64.wrap (50 * (IntKind.i64.wrap (bb + 7)).fdiv (2 ^ min (Int.toNat 3) IntKind.i64.bits)) ∧ IntKind.i64.wrap (50 * (IntKind.i64.wrap (bb + 7)).fdiv (2 ^ min (Int.toNat 3) IntKind.i64.bits)) ≤ 16777216 := by
    have e : (2 : Int) ^ min (Int.toNat 3) IntKind.i64.bits = 8 := by decide
    rw [e, w8in (n := bb + 7) (by omega) (by omega), Int.fdiv_eq_ediv_of_nonneg _ (by omega), w8in (by omega) (by omega)]; omega
  have k2 : 0 ≤ IntKind.i64.wrap (6 * w) ∧ IntKind.i64.wrap (6 * w) ≤ 16777216 := by rw [w8in (by omega) (by omega)]; omega
  have k3 : 0 ≤ IntKind.i64.wrap (3 * w) ∧ IntKind.i64.wrap (3 * w) ≤ 16777216 := by rw [w8in (by omega) (by omega)]; omega
  generalize nm n = a at h
  replace h := goG h rfl
  repeat' first
    | exact ⟨_, k1.1, k1.2, h⟩
    | exact ⟨_, k2.1, k2.2, h⟩
    | exact ⟨_, k3.1, k3.2, h⟩
    | exact ⟨0, by omega, by omega, h⟩
    | replace h := goG h rfl
    | (rcases spG h with ⟨_, h⟩ | ⟨_, h⟩)
theorem w192 {n : Nat} (ha : R64 a0) : ∃ x : Int, R64 x ∧ ∀ gas : Int, r192 [.ptr 0 0] [.cells (Mc code inp (.sref 1 0 n) mem pc gas stand err out op a0 a1 a2 a3 b0 b1 b2 b3 c0 c1 c2 c3), .row 4 es] = some (.ret (u x), [.cells (Mc code inp (.sref 1 0 n) mem pc gas stand err out op a0 a1 a2 a3 b0 b1 b2 b3 c0 c1 c2 c3), .row 4 es]) := by
  obtain ⟨bb, e1, _, _⟩ := w114 (a0 := a0) (a1 := a1) (a2 := a2) (a3 := a3)
  have h := fun gas => (q192 _ _).trans (T192 r114 code inp mem out pc gas stand err op a0 a1 a2 a3 b0 b1 b2 b3 c0 c1 c2 c3 es n _ fin _ e1)
  replace h := goG h rfl
  rcases spG h with ⟨_, h⟩ | ⟨_, h⟩
  · exact ⟨256, by constructor <;> omega, h⟩
  · exact ⟨a0, ha, h⟩
theorem w73 {n : Nat} (hn : n ≤ 1048576) (x0 x1 x2 x3 gas : Int) : r73 [.ptr 0 0, U x0 x1 x2 x3] [.cells (Mc code inp (.sref 1 0 n) mem pc gas stand err out op a0 a1 a2 a3 b0 b1 b2 b3 c0 c1 c2 c3), .row 4 es] =
    some (.ret (.tuple []), [.cells (Mc code inp (.wref 2) mem pc gas stand err out op a0 a1 a2 a3 b0 b1 b2 b3 c0 c1 c2 c3), .dead, .row 4 (es.take n ++ [[u x0, u x1, u x2, u x3]])]) := by
  have h := (q73 _ _).trans (T73 code inp mem out pc gas stand err op a0 a1 a2 a3 b0 b1 b2 b3 c0 c1 c2 c3 es n x0 x1 x2 x3 _ fin)
  replace h := go h (and_t rfl (dec1 (by show (n + 1) * 33 ≤ _; omega)))
  exact h
theorem w73w (hn : es.length ≤ 1048576) (x0 x1 x2 x3 gas : Int) : r73 [.ptr 0 0, U x0 x1 x2 x3] [.cells (Mc code inp (.wref 1) mem pc gas stand err out op a0 a1 a2 a3 b0 b1 b2 b3 c0 c1 c2 c3), .row 4 es] =
    some (.ret (.tuple []), [.cells (Mc code inp (.wref 2) mem pc gas stand err out op a0 a1 a2 a3 b0 b1 b2 b3 c0 c1 c2 c3), .dead, .row 4 (es ++ [[u x0, u x1, u x2, u x3]])]) := by
  have h := (q73 _ _).trans (T73w code inp mem out pc gas stand err op a0 a1 a2 a3 b0 b1 b2 b3 c0 c1 c2 c3 es x0 x1 x2 x3 _ fin)
  exact go h (and_t rfl (dec1 (by show (es.length + 1) * 33 ≤ _; omega)))
theorem w131 {n : Nat} {s : ByteArray} (hm : mem.size ≤ 4096) (hs : s.size ≤ 65536) : ∃ t : ByteArray, t.size = mem.size ∧ ∀ gas : Int, r131 [.ptr 0 0, st s] [.cells (Mc code inp (.sref 1 0 n) mem pc gas stand err out op a0 a1 a2 a3 b0 b1 b2 b3 c0 c1 c2 c3), .row 4 es] =
    some (.ret (.tuple []), [.cells (Mc code inp (.sref 1 0 n) t pc gas stand err out op a0 a1 a2 a3 b0 b1 b2 b3 c0 c1 c2 c3), .row 4 es]) := by
  obtain ⟨t, e1, ht⟩ := w197 (s := mem) (t := s) (n := IntKind.i64.wrap a0) (by omega) (by omega) (by rw [IntKind.wrap_i64]; omega) (by rw [IntKind.wrap_i64]; omega)
  have h := fun gas => (q131 _ _).trans (T131 r197 code inp mem out pc gas stand err op a0 a1 a2 a3 b0 b1 b2 b3 c0 c1 c2 c3 es n s _ fin _ e1)
  rcases spG h with ⟨_, h⟩ | ⟨_, h⟩
  · exact ⟨t, ht, goG h rfl⟩
  · exact ⟨mem, rfl, h⟩
theorem w129 {n : Nat} {kk : Int} (hm : mem.size ≤ 4096) (ha : R4 a0 a1 a2 a3) : ∃ t : ByteArray, ∀ gas : Int, r129 [.ptr 0 0, i64 kk] [.cells (Mc code inp (.sref 1 0 n) mem pc gas stand err out op a0 a1 a2 a3 b0 b1 b2 b3 c0 c1 c2 c3), .row 4 es] =
    some (.ret (.tuple []), [.cells (Mc code inp (.sref 1 0 n) mem pc gas kk err t op a0 a1 a2 a3 b0 b1 b2 b3 c0 c1 c2 c3), .row 4 es]) := by
  obtain ⟨t, e1, _⟩ := w117 (s := mem) (n := IntKind.i64.wrap b0) (by omega) ha
  have h := fun gas => (q129 _ _).trans (T129 r117 code inp mem out pc gas stand err op a0 a1 a2 a3 b0 b1 b2 b3 c0 c1 c2 c3 es n kk _ fin _ e1)
  exact ⟨t, goG h rfl⟩
theorem w132 {n : Nat} (hc : code.size ≤ 2900) (ha : R4 a0 a1 a2 a3) :
    (∃ p : Int, 0 ≤ p ∧ p < code.size ∧ ∀ gas : Int, r132 [.ptr 0 0] [.cells (Mc code inp (.sref 1 0 n) mem pc gas stand err out op a0 a1 a2 a3 b0 b1 b2 b3 c0 c1 c2 c3), .row 4 es] =
      some (.ret (.tuple []), [.cells (Mc code inp (.sref 1 0 n) mem (p - 1) gas stand err out op a0 a1 a2 a3 b0 b1 b2 b3 c0 c1 c2 c3), .row 4 es])) ∨
    ∀ gas : Int, r132 [.ptr 0 0] [.cells (Mc code inp (.sref 1 0 n) mem pc gas stand err out op a0 a1 a2 a3 b0 b1 b2 b3 c0 c1 c2 c3), .row 4 es] =
      some (.panic (.iface 63 (i64 20)), [.cells (Mc code inp (.sref 1 0 n) mem pc gas stand err out op a0 a1 a2 a3 b0 b1 b2 b3 c0 c1 c2 c3), .row 4 es]) := by
  obtain ⟨ds, e1, hl, hd⟩ := w198 hc
  have hm : (List.map (fun e => rebs [shB] e 0) ds) = ds := map_rebO hd
  have e2 := w83 (IntKind.u64.wrap (ds.length : Int))
  have ew : IntKind.u64.wrap (ds.length : Int) = ds.length := r64in (by constructor <;> omega)
  have e3 := w110 ha (r4c (n := IntKind.u64.wrap (ds.length : Int)) (by rw [ew]; constructor <;> omega))
  have hb : ∃ b : Bool, ((ds.getD a0.toNat []).getD 0 J).toBool = b := ⟨_, rfl⟩
  obtain ⟨b, hb⟩ := hb
  have e5 : ∃ r5, r63 [bo ((ds.getD a0.toNat []).getD 0 J).toBool, i64 20] [] = r5 := ⟨_, rfl⟩
  obtain ⟨r5, e5⟩ := e5
  rw [← hm] at e2 e3 e5
  have h := fun gas => (q132 _ _).trans (T132 r63 r83 r110 r198 code inp mem out pc gas stand err op a0 a1 a2 a3 b0 b1 b2 b3 c0 c1 c2 c3 es n _ fin _ e1 _ e2 _ e3 _ (w63f 20) _ e5)
  rw [hm] at e5
  have hds : okAlt a198 (some (.ret (.sl 1 ds), [])) = true := okAlt_t rfl (by show (true && ds.all fun e => okSs [shB] e) = true; rw [allO_ok hd]; rfl) rfl
  replace h := goG h hds
  replace h := goG h rfl
  replace h := goG h rfl
  generalize hq : List.map (fun e => rebs [shB] e 0) (rV (some (AEnd.ret (AV.sl 1 ds), []))).toSl = ds2 at h
  have hq2 : ds2 = ds := hq.symm.trans hm
  clear hq
  subst hq2
  have hva := val_lt ha
  obtain ⟨⟨_, _⟩, ⟨_, _⟩, ⟨_, _⟩, ⟨_, _⟩⟩ := ha
  rcases spG h with ⟨hlt, h⟩ | ⟨_, h⟩
  · have hlt2 : val a0 a1 a2 a3 < val (IntKind.u64.wrap (ds2.length : Int)) 0 0 0 := by
      have hcm : cmpI (val a0 a1 a2 a3) (val (IntKind.u64.wrap ((List.map (fun e => rebs [shB] e 0) ds2).length : Int)) 0 0 0) < 0 := by
        rw [ilt_eq, decide_eq_true_eq] at hlt; exact hlt
      rw [hm] at hcm
      unfold cmpI at hcm
      split at hcm
      · omega
      · split at hcm
        · assumption
        · omega
    rw [val1, ew] at hlt2
    have ha0 : a0 < ds2.length := by unfold val at hlt2; omega
    obtain ⟨bb, hbb⟩ := hd (ds2.getD a0.toNat []) (by rw [List.getD_eq_getElem?_getD, List.getElem?_eq_getElem (show a0.toNat < ds2.length by omega)]; exact List.getElem_mem _)
    replace h := goG h (dec2 (by omega) ha0)
    rw [hbb] at h e5
    replace h := goG h rfl
    cases bb with
    | true =>
      have e6 := e5.symm.trans (w63t 20)
      subst e6
      replace h := goG h rfl
      rw [w8in (n := a0) (by omega) (by omega), w8in (by omega) (by omega)] at h
      exact .inl ⟨a0, by omega, by omega, h⟩
    | false =>
      have e6 := e5.symm.trans (w63f 20)
      subst e6
      replace h := gnG h rfl
      replace h := goG h rfl
      exact .inr h
  · replace h := gnG h rfl
    replace h := goG h rfl
    exact .inr h
end
end Go.Proofs.Vm
end
section
namespace Go.Proofs.Vm
open Go Go.Abs
set_option maxRecDepth 100000
set_option maxHeartbeats 4000000
theorem okRowU {es : List (List AV)} (h : AllU es) : okO (.row 4 [sh6, sh6, sh6, sh6]) (.row 4 es) = true := by
  show (true && es.all fun e => okSs [sh6, sh6, sh6, sh6] e) = true
  rw [allU_ok h]; rfl
theorem goA {α : Type} {b : Int → Bool} {x y r : Int → α} (h : ∀ g, r g = (bif b g then x g else y g)) (hb : ∀ g, b g = true) : ∀ g, r g = x g := fun g => by rw [h g, hb g]; rfl
section
variable {code inp mem out : ByteArray} {pc stand err a0 a1 a2 a3 b0 b1 b2 b3 c0 c1 c2 c3 : Int} {es : List (List AV)}
theorem fixR (h : AllU es) {r : RE} {x : AV} {c : AObj} (hr : r = some (.ret x, [c, .row 4 (List.map (fun e => rebs [sh6, sh6, sh6, sh6] e 0) es)])) : r = some (.ret x, [c, .row 4 es]) := by
  rw [hr, map_rebU h]
theorem w128 {n op : Nat} (hop : op < 256) (he : AllU es) (ha : R4 a0 a1 a2 a3) (hb : R4 b0 b1 b2 b3) : ∃ x0 x1 x2 x3, R4 x0 x1 x2 x3 ∧ ∀ gas : Int,
    r128 [.ptr 0 0] [.cells (Mc code inp (.sref 1 0 n) mem pc gas stand err out op a0 a1 a2 a3 b0 b1 b2 b3 c0 c1 c2 c3), .row 4 es] = some (.ret (U x0 x1 x2 x3), [.cells (Mc code inp (.sref 1 0 n) mem pc gas stand err out op a0 a1 a2 a3 b0 b1 b2 b3 c0 c1 c2 c3), .row 4 es]) := by
  obtain ⟨fr, hfr, e2⟩ := w192 (code := code) (inp := inp) (mem := mem) (out := out) (pc := pc) (stand := stand) (err := err) (op := op) (a1 := a1) (a2 := a2) (a3 := a3) (b0 := b0) (b1 := b1) (b2 := b2) (b3 := b3) (c0 := c0) (c1 := c1) (c2 := c2) (c3 := c3) (es := es) (n := n) ha.h0
  obtain ⟨_, _, _, _, e3, h3⟩ := w193 hb hfr.1
  obtain ⟨_, _, _, _, e4, h4⟩ := w183 hb hfr.1
  obtain ⟨_, _, _, _, e5, h5⟩ := w191 hb hfr.1
  obtain ⟨_, _, _, _, e6, h6⟩ := w190 ha hb
  obtain ⟨_, _, _, _, e7, h7⟩ := w184 a0 a1 a2 a3
  obtain ⟨_, _, _, _, e8, h8⟩ := w189 a0 a1 a2 a3 b0 b1 b2 b3
  obtain ⟨_, _, _, _, e9, h9⟩ := w185 a0 a1 a2 a3 b0 b1 b2 b3
  obtain ⟨_, _, _, _, e10, h10⟩ := w186 a0 a1 a2 a3 b0 b1 b2 b3
  obtain ⟨_, _, _, _, e11, h11⟩ := w187 (a0 == 0 && (a1 == 0 && (a2 == 0 && (a3 == 0 && true))))
  obtain ⟨_, _, _, _, e12, h12⟩ := w187 (a0 == b0 && (a1 == b1 && (a2 == b2 && (a3 == b3 && true))))
  obtain ⟨o13, e13⟩ := w188 hb ha
  obtain ⟨_, _, _, _, e14, h14⟩ := w187 o13
  obtain ⟨o15, e15⟩ := w188 ha hb
  obtain ⟨_, _, _, _, e16, h16⟩ := w187 o15
  have e17 := w110 ha hb
  generalize cmpI _ _ = cc at e17
  obtain ⟨_, _, _, _, e18, h18⟩ := w187 (ilt 0 cc)
  obtain ⟨_, _, _, _, e19, h19⟩ := w187 (ilt cc 0)
  have h := fun gas => (q128 _ _).trans (T128 r62 r110 r183 r184 r185 r186 r187 r188 r189 r190 r191 r192 r193 code inp mem out pc gas stand err op a0 a1 a2 a3 b0 b1 b2 b3 c0 c1 c2 c3 es n _ fin _ (w62 hop) _ (e2 gas) _ e3 _ e4 _ e5 _ e6 _ e7 _ e8 _ e9 _ e10 _ e11 _ e12 _ e13 _ e14 _ e15 _ e16 _ e17 _ e18 _ e19)
  clear e2 e3 e4 e5 e6 e7 e8 e9 e10 e11 e12 e13 e14 e15 e16 e17 e18 e19
  generalize nm op = a at h
  replace h := goG h rfl
  repeat' first
    | exact ⟨_, _, _, _, by assumption, h⟩
    | exact ⟨_, _, _, _, by assumption, fun g => fixR he (h g)⟩
    | replace h := goG h rfl
    | replace h := goA h (fun _ => okAlt_t rfl rfl (okCons rfl (okCons (okRowU he) rfl)))
    | (rcases spG h with ⟨_, h⟩ | ⟨_, h⟩)
theorem w74 {n op : Nat} (hop : op < 256) (he : AllU es) (ha : R4 a0 a1 a2 a3) (hb : R4 b0 b1 b2 b3) (hc : R4 c0 c1 c2 c3) : ∃ x0 x1 x2 x3, R4 x0 x1 x2 x3 ∧ ∀ gas : Int,
    r74 [.ptr 0 0] [.cells (Mc code inp (.sref 1 0 n) mem pc gas stand err out op a0 a1 a2 a3 b0 b1 b2 b3 c0 c1 c2 c3), .row 4 es] = some (.ret (U x0 x1 x2 x3), [.cells (Mc code inp (.sref 1 0 n) mem pc gas stand err out op a0 a1 a2 a3 b0 b1 b2 b3 c0 c1 c2 c3), .row 4 es]) := by
  obtain ⟨_, _, _, _, h2, e2⟩ := w128 (code := code) (inp := inp) (mem := mem) (out := out) (pc := pc) (stand := stand) (err := err) (c0 := c0) (c1 := c1) (c2 := c2) (c3 := c3) (es := es) (n := n) hop he ha hb
  obtain ⟨_, _, _, _, e3, h3⟩ := w127 ha hb
  obtain ⟨_, _, _, _, e4, h4⟩ := w126 ha hb
  obtain ⟨_, _, _, _, e5, h5⟩ := w125 ha hb hc
  obtain ⟨_, _, _, _, e6, h6⟩ := w124 ha hb hc
  obtain ⟨q0, q1, q2, q3, r0, r1, r2, r3, e7, g7, h7⟩ := w122 ha hb
  have e8 := w123 q0 q1 q2 q3 r0 r1 r2 r3
  have e11 := w120 q0 q1 q2 q3 r0 r1 r2 r3
  obtain ⟨p0, p1, p2, p3, s0, s1, s2, s3, e9, g9, h9⟩ := w121 ha hb
  have e10 := w123 p0 p1 p2 p3 s0 s1 s2 s3
  have e12 := w120 p0 p1 p2 p3 s0 s1 s2 s3
  obtain ⟨_, _, _, _, _, e13, h13, _⟩ := w119 ha hb
  obtain ⟨_, _, _, _, e14, h14⟩ := w118 ha hb
  obtain ⟨_, _, _, _, _, e15, h15, _⟩ := w109 ha hb
  have h := fun gas => (q74 _ _).trans (T74 r62 r109 r118 r119 r120 r121 r122 r123 r124 r125 r126 r127 r128 code inp mem out pc gas stand err op a0 a1 a2 a3 b0 b1 b2 b3 c0 c1 c2 c3 es n _ fin _ (w62 hop) _ (e2 gas) _ e3 _ e4 _ e5 _ e6 _ e7 _ e8 _ e9 _ e10 _ e11 _ e12 _ e13 _ e14 _ e15)
  clear e2 e3 e4 e5 e6 e7 e8 e9 e10 e11 e12 e13 e14 e15
  generalize nm op = a at h
  replace h := goG h rfl
  repeat' first
    | exact ⟨_, _, _, _, by assumption, h⟩
    | exact ⟨_, _, _, _, by assumption, fun g => fixR he (h g)⟩
    | replace h := goG h rfl
    | replace h := goA h (fun _ => okAlt_t rfl rfl (okCons rfl (okCons (okRowU he) rfl)))
    | (rcases spG h with ⟨_, h⟩ | ⟨_, h⟩)
end
end Go.Proofs.Vm
end
section
namespace Go.Proofs.Vm
open Go Go.Abs
set_option maxRecDepth 100000
set_option maxHeartbeats 1000000
noncomputable def t165 (n : Int) : RE := bif n == 0 then fin (.ret (AV.agg [st (ByteArray.mk #[83, 84, 79, 80]), i64 0, i64 0, i64 0])) [] else bif n == 1 then fin (.ret (AV.agg [st (ByteArray.mk #[65, 68, 68]), i64 2, i64 1, i64 3])) [] else bif n == 2 then fin (.ret (AV.agg [st (ByteArray.mk #[77, 85, 76]), i64 2, i64 1, i64 5])) [] else bif n == 3 then fin (.ret (AV.agg [st (ByteArray.mk #[83, 85, 66]), i64 2, i64 1, i64 3])) [] else bif n == 4 then fin (.ret (AV.agg [st (ByteArray.mk #[68, 73, 86]), i64 2, i64 1, i64 5])) [] else bif n == 5 then fin (.ret (AV.agg [st (ByteArray.mk #[83, 68, 73, 86]), i64 2, i64 1, i64 5])) [] else bif n == 6 then fin (.ret (AV.agg [st (ByteArray.mk #[77, 79, 68]), i64 2, i64 1, i64 5])) [] else bif n == 7 then fin (.ret (AV.agg [st (ByteArray.mk #[83, 77, 79, 68]), i64 2, i64 1, i64 5])) [] else bif n == 8 then fin (.ret (AV.agg [st (ByteArray.mk #[65, 68, 68, 77, 79, 68]), i64 3, i64 1, i64 8])) [] else bif n == 9 then fin (.ret (AV.agg [st (ByteArray.mk #[77, 85, 76, 77, 79, 68]), i64 3, i64 1, i64 8])) [] else bif n == 10 then fin (.ret (AV.agg [st (ByteArray.mk #[69, 88, 80]), i64 2, i64 1, i64 10])) [] else bif n == 11 then fin (.ret (AV.agg [st (ByteArray.mk #[83, 73, 71, 78, 69, 88, 84, 69, 78, 68]), i64 2, i64 1, i64 5])) [] else bif n == 16 then fin (.ret (AV.agg [st (ByteArray.mk #[76, 84]), i64 2, i64 1, i64 3])) [] else bif n == 17 then fin (.ret (AV.agg [st (ByteArray.mk #[71, 84]), i64 2, i64 1, i64 3])) [] else bif n == 18 then fin (.ret (AV.agg [st (ByteArray.mk #[83, 76, 84]), i64 2, i64 1, i64 3])) [] else bif n == 19 then fin (.ret (AV.agg [st (ByteArray.mk #[83, 71, 84]), i64 2, i64 1, i64 3])) [] else bif n == 20 then fin (.ret (AV.agg [st (ByteArray.mk #[69, 81]), i64 2, i64 1, i64 3])) [] else bif n == 21 then fin (.ret (AV.agg [st (ByteArray.mk #[73, 83, 90, 69, 82, 79]), i64 1, i64 1, i64 3])) [] else bif n == 22 then fin (.ret (AV.agg [st (ByteArray.mk #[65, 78, 68]), i64 2, i64 1, i64 3])) [] else bif n == 23 then fin (.ret (AV.agg [st (ByteArray.mk #[79, 82]), i64 2, i64 1, i64 3])) [] else bif n == 24 then fin (.ret (AV.agg [st (ByteArray.mk #[88, 79, 82]), i64 2, i64 1, i64 3])) [] else bif n == 25 then fin (.ret (AV.agg [st (ByteArray.mk #[78, 79, 84]), i64 1, i64 1, i64 3])) [] else bif n == 26 then fin (.ret (AV.agg [st (ByteArray.mk #[66, 89, 84, 69]), i64 2, i64 1, i64 3])) [] else bif n == 27 then fin (.ret (AV.agg [st (ByteArray.mk #[83, 72, 76]), i64 2, i64 1, i64 3])) [] else bif n == 28 then fin (.ret (AV.agg [st (ByteArray.mk #[83, 72, 82]), i64 2, i64 1, i64 3])) [] else bif n == 29 then fin (.ret (AV.agg [st (ByteArray.mk #[83, 65, 82]), i64 2, i64 1, i64 3])) [] else fin (.ret (AV.agg [st (ByteArray.mk #[]), i64 0, i64 0, i64 0])) []
noncomputable def t167 (n : Int) : RE := bif n == 32 then fin (.ret (AV.agg [st (ByteArray.mk #[75, 69, 67, 67, 65, 75, 50, 53, 54]), i64 2, i64 1, i64 30])) [] else bif n == 53 then fin (.ret (AV.agg [st (ByteArray.mk #[67, 65, 76, 76, 68, 65, 84, 65, 76, 79, 65, 68]), i64 1, i64 1, i64 3])) [] else bif n == 54 then fin (.ret (AV.agg [st (ByteArray.mk #[67, 65, 76, 76, 68, 65, 84, 65, 83, 73, 90, 69]), i64 0, i64 1, i64 2])) [] else bif n == 55 then fin (.ret (AV.agg [st (ByteArray.mk #[67, 65, 76, 76, 68, 65, 84, 65, 67, 79, 80, 89]), i64 3, i64 0, i64 3])) [] else bif n == 56 then fin (.ret (AV.agg [st (ByteArray.mk #[67, 79, 68, 69, 83, 73, 90, 69]), i64 0, i64 1, i64 2])) [] else bif n == 57 then fin (.ret (AV.agg [st (ByteArray.mk #[67, 79, 68, 69, 67, 79, 80, 89]), i64 3, i64 0, i64 3])) [] else bif n == 80 then fin (.ret (AV.agg [st (ByteArray.mk #[80, 79, 80]), i64 1, i64 0, i64 2])) [] else bif n == 81 then fin (.ret (AV.agg [st (ByteArray.mk #[77, 76, 79, 65, 68]), i64 1, i64 1, i64 3])) [] else bif n == 82 then fin (.ret (AV.agg [st (ByteArray.mk #[77, 83, 84, 79, 82, 69]), i64 2, i64 0, i64 3])) [] else bif n == 83 then fin (.ret (AV.agg [st (ByteArray.mk #[77, 83, 84, 79, 82, 69, 56]), i64 2, i64 0, i64 3])) [] else bif n == 86 then fin (.ret (AV.agg [st (ByteArray.mk #[74, 85, 77, 80]), i64 1, i64 0, i64 8])) [] else bif n == 87 then fin (.ret (AV.agg [st (ByteArray.mk #[74, 85, 77, 80, 73]), i64 2, i64 0, i64 10])) [] else bif n == 88 then fin (.ret (AV.agg [st (ByteArray.mk #[80, 67]), i64 0, i64 1, i64 2])) [] else bif n == 89 then fin (.ret (AV.agg [st (ByteArray.mk #[77, 83, 73, 90, 69]), i64 0, i64 1, i64 2])) [] else bif n == 90 then fin (.ret (AV.agg [st (ByteArray.mk #[71, 65, 83]), i64 0, i64 1, i64 2])) [] else bif n == 91 then fin (.ret (AV.agg [st (ByteArray.mk #[74, 85, 77, 80, 68, 69, 83, 84]), i64 0, i64 0, i64 1])) [] else bif n == 243 then fin (.ret (AV.agg [st (ByteArray.mk #[82, 69, 84, 85, 82, 78]), i64 2, i64 0, i64 0])) [] else bif n == 253 then fin (.ret (AV.agg [st (ByteArray.mk #[82, 69, 86, 69, 82, 84]), i64 2, i64 0, i64 0])) [] else bif n == 254 then fin (.ret (AV.agg [st (ByteArray.mk #[73, 78, 86, 65, 76, 73, 68]), i64 0, i64 0, i64 0])) [] else bif n == 95 then fin (.ret (AV.agg [st (ByteArray.mk #[80, 85, 83, 72, 48]), i64 0, i64 1, i64 2])) [] else fin (.ret (AV.agg [st (ByteArray.mk #[]), i64 0, i64 0, i64 0])) []
noncomputable def t166 (s : ByteArray) (n : Int) : RE := bif ilt n 10 then bif (s.size + (ByteArray.mk #[Abs.byteOf [u8 (IntKind.u8.wrap (48 + IntKind.u8.wrap n))]]).size).ble 9223372036854775807 then fin (.ret (st (s ++ (ByteArray.mk #[Abs.byteOf [u8 (IntKind.u8.wrap (48 + IntKind.u8.wrap n))]])))) [] else none else bif (s.size + (ByteArray.mk #[Abs.byteOf [u8 (IntKind.u8.wrap (48 + IntKind.u8.wrap (IntKind.i64.wrap (n.tdiv 10))))], Abs.byteOf [u8 (IntKind.u8.wrap (48 + IntKind.u8.wrap (n.tmod 10)))]]).size).ble 9223372036854775807 then fin (.ret (st (s ++ (ByteArray.mk #[Abs.byteOf [u8 (IntKind.u8.wrap (48 + IntKind.u8.wrap (IntKind.i64.wrap (n.tdiv 10))))], Abs.byteOf [u8 (IntKind.u8.wrap (48 + IntKind.u8.wrap (n.tmod 10)))]])))) [] else none
noncomputable def t108 (n : Int) : RE := let x1 := t167 n; let x2 := t166 (ByteArray.mk #[83, 87, 65, 80]) (IntKind.i64.wrap (IntKind.i64.wrap (IntKind.i64.wrap (IntKind.u8.wrap (↑(BitVec.ofInt IntKind.u8.bits n &&& BitVec.ofInt IntKind.u8.bits 31).toNat : Int)) + 1) - 16)); let x3 := t166 (ByteArray.mk #[68, 85, 80]) (IntKind.i64.wrap (IntKind.i64.wrap (IntKind.u8.wrap (↑(BitVec.ofInt IntKind.u8.bits n &&& BitVec.ofInt IntKind.u8.bits 31).toNat : Int)) + 1)); let x4 := t166 (ByteArray.mk #[80, 85, 83, 72]) (IntKind.i64.wrap (IntKind.i64.wrap (IntKind.u8.wrap (↑(BitVec.ofInt IntKind.u8.bits n &&& BitVec.ofInt IntKind.u8.bits 31).toNat : Int)) + 1)); let x5 := t165 n; bif n.fdiv (2 ^ min (Int.toNat 4) IntKind.u8.bits) == 0 then bif n.fdiv (2 ^ min (Int.toNat 4) IntKind.u8.bits) == 0 then bif okAlt a165 x5 then fin (.ret (AV.agg [st ((rV x5).items.getD 0 J).toStr, i64 ((rV x5).items.getD 1 J).toInt, i64 ((rV x5).items.getD 2 J).toInt, i64 ((rV x5).items.getD 3 J).toInt])) [] else none else bif n.fdiv (2 ^ min (Int.toNat 4) IntKind.u8.bits) == 6 then bif n.fdiv (2 ^ min (Int.toNat 4) IntKind.u8.bits) == 6 then bif okAlt a166 x4 then fin (.ret (AV.agg [st (rV x4).toStr, i64 0, i64 1, i64 3])) [] else none else bif n.fdiv (2 ^ min (Int.toNat 4) IntKind.u8.bits) == 8 then bif okAlt a166 x3 then fin (.ret (AV.agg [st (rV x3).toStr, i64 (IntKind.i64.wrap (IntKind.i64.wrap (IntKind.u8.wrap (↑(BitVec.ofInt IntKind.u8.bits n &&& BitVec.ofInt IntKind.u8.bits 31).toNat : Int)) + 1)), i64 (IntKind.i64.wrap (IntKind.i64.wrap (IntKind.i64.wrap (IntKind.u8.wrap (↑(BitVec.ofInt IntKind.u8.bits n &&& BitVec.ofInt IntKind.u8.bits 31).toNat : Int)) + 1) + 1)), i64 3])) [] else none else bif n.fdiv (2 ^ min (Int.toNat 4) IntKind.u8.bits) == 9 then bif okAlt a166 x2 then fin (.ret (AV.agg [st (rV x2).toStr, i64 (IntKind.i64.wrap (IntKind.i64.wrap (IntKind.i64.wrap (IntKind.i64.wrap (IntKind.u8.wrap (↑(BitVec.ofInt IntKind.u8.bits n &&& BitVec.ofInt IntKind.u8.bits 31).toNat : Int)) + 1) - 16) + 1)), i64 (IntKind.i64.wrap (IntKind.i64.wrap (IntKind.i64.wrap (IntKind.i64.wrap (IntKind.u8.wrap (↑(BitVec.ofInt IntKind.u8.bits n &&& BitVec.ofInt IntKind.u8.bits 31).toNat : Int)) + 1) - 16) + 1)), i64 3])) [] else none else bif okAlt a167 x1 then fin (.ret (AV.agg [st ((rV x1).items.getD 0 J).toStr, i64 ((rV x1).items.getD 1 J).toInt, i64 ((rV x1).items.getD 2 J).toInt, i64 ((rV x1).items.getD 3 J).toInt])) [] else none else bif n.fdiv (2 ^ min (Int.toNat 4) IntKind.u8.bits) == 7 then bif okAlt a166 x4 then fin (.ret (AV.agg [st (rV x4).toStr, i64 0, i64 1, i64 3])) [] else none else bif n.fdiv (2 ^ min (Int.toNat 4) IntKind.u8.bits) == 8 then bif okAlt a166 x3 then fin (.ret (AV.agg [st (rV x3).toStr, i64 (IntKind.i64.wrap (IntKind.i64.wrap (IntKind.u8.wrap (↑(BitVec.ofInt IntKind.u8.bits n &&& BitVec.ofInt IntKind.u8.bits 31).toNat : Int)) + 1)), i64 (IntKind.i64.wrap (IntKind.i64.wrap (IntKind.i64.wrap (IntKind.u8.wrap (↑(BitVec.ofInt IntKind.u8.bits n &&& BitVec.ofInt IntKind.u8.bits 31).toNat : Int)) + 1) + 1)), i64 3])) [] else none else bif n.fdiv (2 ^ min (Int.toNat 4) IntKind.u8.bits) == 9 then bif okAlt a166 x2 then fin (.ret (AV.agg [st (rV x2).toStr, i64 (IntKind.i64.wrap (IntKind.i64.wrap (IntKind.i64.wrap (IntKind.i64.wrap (IntKind.u8.wrap (↑(BitVec.ofInt IntKind.u8.bits n &&& BitVec.ofInt IntKind.u8.bits 31).toNat : Int)) + 1) - 16) + 1)), i64 (IntKind.i64.wrap (IntKind.i64.wrap (IntKind.i64.wrap (IntKind.i64.wrap (IntKind.u8.wrap (↑(BitVec.ofInt IntKind.u8.bits n &&& BitVec.ofInt IntKind.u8.bits 31).toNat : Int)) + 1) - 16) + 1)), i64 3])) [] else none else bif okAlt a167 x1 then fin (.ret (AV.agg [st ((rV x1).items.getD 0 J).toStr, i64 ((rV x1).items.getD 1 J).toInt, i64 ((rV x1).items.getD 2 J).toInt, i64 ((rV x1).items.getD 3 J).toInt])) [] else none else bif n.fdiv (2 ^ min (Int.toNat 4) IntKind.u8.bits) == 1 then bif okAlt a165 x5 then fin (.ret (AV.agg [st ((rV x5).items.getD 0 J).toStr, i64 ((rV x5).items.getD 1 J).toInt, i64 ((rV x5).items.getD 2 J).toInt, i64 ((rV x5).items.getD 3 J).toInt])) [] else none else bif n.fdiv (2 ^ min (Int.toNat 4) IntKind.u8.bits) == 6 then bif n.fdiv (2 ^ min (Int.toNat 4) IntKind.u8.bits) == 6 then bif okAlt a166 x4 then fin (.ret (AV.agg [st (rV x4).toStr, i64 0, i64 1, i64 3])) [] else none else bif n.fdiv (2 ^ min (Int.toNat 4) IntKind.u8.bits) == 8 then bif okAlt a166 x3 then fin (.ret (AV.agg [st (rV x3).toStr, i64 (IntKind.i64.wrap (IntKind.i64.wrap (IntKind.u8.wrap (↑(BitVec.ofInt IntKind.u8.bits n &&& BitVec.ofInt IntKind.u8.bits 31).toNat : Int)) + 1)), i64 (IntKind.i64.wrap (IntKind.i64.wrap (IntKind.i64.wrap (IntKind.u8.wrap (↑(BitVec.ofInt IntKind.u8.bits n &&& BitVec.ofInt IntKind.u8.bits 31).toNat : Int)) + 1) + 1)), i64 3])) [] else none else bif n.fdiv (2 ^ min (Int.toNat 4) IntKind.u8.bits) == 9 then bif okAlt a166 x2 then fin (.ret (AV.agg [st (rV x2).toStr, i64 (IntKind.i64.wrap (IntKind.i64.wrap (IntKind.i64.wrap (IntKind.i64.wrap (IntKind.u8.wrap (↑(BitVec.ofInt IntKind.u8.bits n &&& BitVec.ofInt IntKind.u8.bits 31).toNat : Int)) + 1) - 16) + 1)), i64 (IntKind.i64.wrap (IntKind.i64.wrap (IntKind.i64.wrap (IntKind.i64.wrap (IntKind.u8.wrap (↑(BitVec.ofInt IntKind.u8.bits n &&& BitVec.ofInt IntKind.u8.bits 31).toNat : Int)) + 1) - 16) + 1)), i64 3])) [] else none else bif okAlt a167 x1 then fin (.ret (AV.agg [st ((rV x1).items.getD 0 J).toStr, i64 ((rV x1).items.getD 1 J).toInt, i64 ((rV x1).items.getD 2 J).toInt, i64 ((rV x1).items.getD 3 J).toInt])) [] else none else bif n.fdiv (2 ^ min (Int.toNat 4) IntKind.u8.bits) == 7 then bif okAlt a166 x4 then fin (.ret (AV.agg [st (rV x4).toStr, i64 0, i64 1, i64 3])) [] else none else bif n.fdiv (2 ^ min (Int.toNat 4) IntKind.u8.bits) == 8 then bif okAlt a166 x3 then fin (.ret (AV.agg [st (rV x3).toStr, i64 (IntKind.i64.wrap (IntKind.i64.wrap (IntKind.u8.wrap (↑(BitVec.ofInt IntKind.u8.bits n &&& BitVec.ofInt IntKind.u8.bits 31).toNat : Int)) + 1)), i64 (IntKind.i64.wrap (IntKind.i64.wrap (IntKind.i64.wrap (IntKind.u8.wrap (↑(BitVec.ofInt IntKind.u8.bits n &&& BitVec.ofInt IntKind.u8.bits 31).toNat : Int)) + 1) + 1)), i64 3])) [] else none else bif n.fdiv (2 ^ min (Int.toNat 4) IntKind.u8.bits) == 9 then bif okAlt a166 x2 then fin (.ret (AV.agg [st (rV x2).toStr, i64 (IntKind.i64.wrap (IntKind.i64.wrap (IntKind.i64.wrap (IntKind.i64.wrap (IntKind.u8.wrap (↑(BitVec.ofInt IntKind.u8.bits n &&& BitVec.ofInt IntKind.u8.bits 31).toNat : Int)) + 1) - 16) + 1)), i64 (IntKind.i64.wrap (IntKind.i64.wrap (IntKind.i64.wrap (IntKind.i64.wrap (IntKind.u8.wrap (↑(BitVec.ofInt IntKind.u8.bits n &&& BitVec.ofInt IntKind.u8.bits 31).toNat : Int)) + 1) - 16) + 1)), i64 3])) [] else none else bif okAlt a167 x1 then fin (.ret (AV.agg [st ((rV x1).items.getD 0 J).toStr, i64 ((rV x1).items.getD 1 J).toInt, i64 ((rV x1).items.getD 2 J).toInt, i64 ((rV x1).items.getD 3 J).toInt])) [] else none
theorem t108_eq (n : Int) : r108 [u8 n] [] = t108 n :=
  (q108 _ _).trans (T108 r165 r166 r167 n _ fin _ ((q167 _ _).trans (T167 n _ fin)) _ ((q166 _ _).trans (T166 _ _ _ fin)) _ ((q166 _ _).trans (T166 _ _ _ fin)) _ ((q166 _ _).trans (T166 _ _ _ fin)) _ ((q165 _ _).trans (T165 n _ fin)))
noncomputable def kT (n : Nat) : List AV := (rV (t108 (n : Nat))).items
theorem kd_eq (n : Nat) : kd n = kT n := by unfold kd kT; rw [t108_eq]
def pfx (s t : ByteArray) : Bool := bif ile t.size s.size then (s.extract 0 (t.size : Int).toNat).toList == t.toList else false
noncomputable def nmT (n : Nat) : ByteArray := ((kT n).getD 0 J).toStr
noncomputable def tkT (n : Nat) : Int := ((kT n).getD 1 J).toInt
noncomputable def lyT (n : Nat) : Int := ((kT n).getD 2 J).toInt
noncomputable def gsT (n : Nat) : Int := ((kT n).getD 3 J).toInt
theorem nm_eq (n : Nat) : nm n = nmT n := by unfold nm nmT; rw [kd_eq]
theorem tk_eq (n : Nat) : tk n = tkT n := by unfold tk tkT; rw [kd_eq]
theorem ly_eq (n : Nat) : ly n = lyT n := by unfold ly lyT; rw [kd_eq]
theorem gs_eq (n : Nat) : gs n = gsT n := by unfold gs gsT; rw [kd_eq]
def bPUSH0 : ByteArray := ByteArray.mk #[80, 85, 83, 72, 48]
def bPUSH : ByteArray := ByteArray.mk #[80, 85, 83, 72]
def bDUP : ByteArray := ByteArray.mk #[68, 85, 80]
theorem tabA : ((List.range 256).all fun n => (ile 0 (tkT n) && (ile (tkT n) 20 && (ile 0 (lyT n) && (ile (lyT n) 20 && (ile 0 (gsT n) && ile (gsT n) 1000)))))) = true := by kernel_rfl
theorem tabB : ((List.range 256).all fun n => !(Nat.ble 95 n && Nat.ble n 159) || ((nmT n).toList == bPUSH0.toList || (pfx (nmT n) bPUSH || (pfx (nmT n) bDUP || ile ((n % 16 : Nat) + 2) (tkT n))))) = true := by kernel_rfl
theorem tabC : ((List.range 256).all fun n => (nmT n).toList == (ByteArray.mk #[]).toList || ((nmT n).toList == (ByteArray.mk #[73, 78, 86, 65, 76, 73, 68]).toList || (ile 1 (gsT n) || (Nat.beq n 0 || (Nat.beq n 243 || Nat.beq n 253))))) = true := by kernel_rfl
end Go.Proofs.Vm
end
section
namespace Go.Proofs.Vm
open Go Go.Abs
set_option maxRecDepth 100000
set_option maxHeartbeats 4000000
abbrev n32 (op : Int) : Int := IntKind.i64.wrap (IntKind.u8.wrap (↑(BitVec.ofInt IntKind.u8.bits op &&& BitVec.ofInt IntKind.u8.bits 31).toNat : Int))
abbrev n16 (op : Int) : Int := IntKind.i64.wrap (↑(BitVec.ofInt IntKind.i64.bits (n32 op) &&& BitVec.ofInt IntKind.i64.bits 15).toNat : Int)
theorem tabN : ((List.range 256).all fun n => n32 (n : Nat) == (n % 32 : Nat) && n16 (n : Nat) == (n % 16 : Nat)) = true := by kernel_rfl
theorem n32_eq {n : Nat} (h : n < 256) : n32 (n : Nat) = (n % 32 : Nat) := by
  have := List.all_eq_true.1 tabN n (List.mem_range.2 h)
  simp only [Bool.and_eq_true, beq_iff_eq] at this
  exact this.1
theorem n16_eq {n : Nat} (h : n < 256) : n16 (n : Nat) = (n % 16 : Nat) := by
  have := List.all_eq_true.1 tabN n (List.mem_range.2 h)
  simp only [Bool.and_eq_true, beq_iff_eq] at this
  exact this.2
theorem w115x (s t : ByteArray) : r115 [st s, st t] [] = some (.ret (bo (pfx s t)), []) := by
  have h := (q115 _ _).trans (T115 s t _ fin)
  unfold pfx
  rcases spB h with ⟨hc, h⟩ | ⟨hc, h⟩
  · rw [hc]
    rw [ile_eq, decide_eq_true_eq] at hc
    exact go h (dec2 (by omega) (by omega))
  · rw [hc]; exact h
abbrev rbU (es : List (List AV)) : List (List AV) := List.map (fun e => rebs [sh6, sh6, sh6, sh6] e 0) es
section
variable {code inp mem out : ByteArray} {pc stand err a0 a1 a2 a3 b0 b1 b2 b3 c0 c1 c2 c3 : Int} {es : List (List AV)}
theorem fixD (h : AllU es) {r : RE} {x : AV} {c : AObj} (hr : r = some (.ret x, [c, .dead, .row 4 (rbU es)])) : r = some (.ret x, [c, .dead, .row 4 es]) := by
  rw [hr]; unfold rbU; rw [map_rebU h]
theorem okLay {cs : List AV} (h : AllU es) (hc : okSs (shM (.wref 2)) cs = true) : okAlt a73 (some (.ret (.tuple []), [.cells cs, .dead, .row 4 es])) = true :=
  okAlt_t rfl rfl (okCons hc (okCons rfl (okCons (okRowU h) rfl)))
theorem w72 {op : Nat} (hop : op < 256) (h95 : 95 ≤ op) (h159 : op ≤ 159) (he : AllU es) (hl : es.length ≤ 2000) (hc : code.size ≤ 2900) (hp0 : 0 ≤ pc) (hp1 : pc ≤ 4000) (htk : tk op ≤ es.length) :
    (∃ (pc' : Int) (es' : List (List AV)), pc ≤ pc' ∧ pc' ≤ pc + 32 ∧ AllU es' ∧ es'.length = es.length + 1 ∧ ∀ gas : Int, r72 [.ptr 0 0, st (nm op)] [.cells (Mc code inp (.wref 1) mem pc gas stand err out op a0 a1 a2 a3 b0 b1 b2 b3 c0 c1 c2 c3), .row 4 es] =
      some (.ret (.tuple []), [.cells (Mc code inp (.wref 2) mem pc' gas stand err out op a0 a1 a2 a3 b0 b1 b2 b3 c0 c1 c2 c3), .dead, .row 4 es'])) ∨
    ∃ es' : List (List AV), AllU es' ∧ es'.length = es.length ∧ ∀ gas : Int, r72 [.ptr 0 0, st (nm op)] [.cells (Mc code inp (.wref 1) mem pc gas stand err out op a0 a1 a2 a3 b0 b1 b2 b3 c0 c1 c2 c3), .row 4 es] =
      some (.ret (.tuple []), [.cells (Mc code inp (.wref 1) mem pc gas stand err out op a0 a1 a2 a3 b0 b1 b2 b3 c0 c1 c2 c3), .row 4 es']) := by
  have hm : rbU es = es := map_rebU he
  have hB := List.all_eq_true.1 tabB op (List.mem_range.2 hop)
  rw [← nm_eq, ← tk_eq] at hB
  generalize nm op = nam at hB ⊢
  have e1 := w115x nam bPUSH
  have e2 := w115x nam bDUP
  generalize pfx nam bPUSH = p1 at e1 hB
  generalize pfx nam bDUP = p2 at e2 hB
  have e3 := fun gas => w65w (code := code) (inp := inp) (mem := mem) (out := out) (pc := pc) (stand := stand) (err := err) (op := op) (a0 := a0) (a1 := a1) (a2 := a2) (a3 := a3) (b0 := b0) (b1 := b1) (b2 := b2) (b3 := b3) (c0 := c0) (c1 := c1) (c2 := c2) (c3 := c3) he (by omega) (op % 16) (by omega) gas
  rw [← n16_eq hop] at e3
  obtain ⟨x0, x1, x2, x3, hx, ht⟩ := topE_u he (op % 16)
  rw [ht] at e3
  have e4 := fun gas => w73w (code := code) (inp := inp) (mem := mem) (out := out) (pc := pc) (stand := stand) (err := err) (op := op) (a0 := a0) (a1 := a1) (a2 := a2) (a3 := a3) (b0 := b0) (b1 := b1) (b2 := b2) (b3 := b3) (c0 := c0) (c1 := c1) (c2 := c2) (c3 := c3) (es := rbU es) (by rw [hm]; omega) x0 x1 x2 x3 gas
  have e5 := w83 (IntKind.u64.wrap (IntKind.i64.wrap (pc + 1)))
  obtain ⟨t, e6, _⟩ := w117 (s := code) (n := IntKind.i64.wrap (n32 op + 1)) (by omega) (r4c (r64w (IntKind.i64.wrap (pc + 1))))
  obtain ⟨y0, y1, y2, y3, e7, hy⟩ := w116 (s := t)
  have e8 := fun gas => w73w (code := code) (inp := inp) (mem := mem) (out := out) (pc := pc) (stand := stand) (err := err) (op := op) (a0 := a0) (a1 := a1) (a2 := a2) (a3 := a3) (b0 := b0) (b1 := b1) (b2 := b2) (b3 := b3) (c0 := c0) (c1 := c1) (c2 := c2) (c3 := c3) (es := es) (by omega) y0 y1 y2 y3 gas
  have e9 := fun gas => w73w (code := code) (inp := inp) (mem := mem) (out := out) (pc := pc) (stand := stand) (err := err) (op := op) (a0 := a0) (a1 := a1) (a2 := a2) (a3 := a3) (b0 := b0) (b1 := b1) (b2 := b2) (b3 := b3) (c0 := c0) (c1 := c1) (c2 := c2) (c3 := c3) (es := es) (by omega) 0 0 0 0 gas
  have h := fun gas => (q72 _ _).trans (T72 r65 r73 r83 r115 r116 r117 code inp mem out pc gas stand err op a0 a1 a2 a3 b0 b1 b2 b3 c0 c1 c2 c3 es nam _ fin _ e1 _ e2 _ (e3 gas) _ (e4 gas) _ e5 _ e6 _ e7 _ (e8 gas) _ (e9 gas))
  have hu : ∀ {z0 z1 z2 z3 : Int}, R4 z0 z1 z2 z3 → isU [u z0, u z1, u z2, u z3] := fun h => ⟨_, _, _, _, h, rfl⟩
  rcases spG h with ⟨_, h⟩ | ⟨g1, h⟩
  · have hall := he.app (hu r4_0)
    replace h := goA h (fun _ => okAlt_t rfl rfl (okCons rfl (okCons rfl (okCons (okRowU hall) rfl))))
    exact .inl ⟨pc, _, by omega, by omega, hall, by simp, fun g => fixD hall (h g)⟩
  · replace h := goG h rfl
    rcases spG h with ⟨_, h⟩ | ⟨g2, h⟩
    · have hall := he.app (hu hy)
      replace h := goG h rfl
      replace h := goG h rfl
      replace h := goG h rfl
      replace h := goA h (fun _ => okAlt_t rfl rfl (okCons rfl (okCons rfl (okCons (okRowU hall) rfl))))
      have hpc : IntKind.i64.wrap (pc + IntKind.i64.wrap (n32 op + 1)) = pc + (op % 32 : Nat) + 1 := by
        rw [n32_eq hop, w8in (n := ((op % 32 : Nat) : Int) + 1) (by omega) (by omega), w8in (by omega) (by omega)]; omega
      refine .inl ⟨pc + (op % 32 : Nat) + 1, _, by omega, by omega, hall, by simp, fun g => ?_⟩
      rw [← hpc]
      exact fixD hall (h g)
    · replace h := goG h rfl
      rcases spG h with ⟨_, h⟩ | ⟨g3, h⟩
      · have hall : AllU (rbU es ++ [[u x0, u x1, u x2, u x3]]) := by rw [hm]; exact he.app (hu hx)
        replace h := gnG h rfl
        replace h := goA h (fun _ => okAlt_t rfl rfl (okCons rfl (okCons (okRowU he) rfl)))
        replace h := goA h (fun _ => okAlt_t rfl rfl (okCons rfl (okCons rfl (okCons (okRowU hall) rfl))))
        exact .inl ⟨pc, _, by omega, by omega, hall, by simp, fun g => fixD hall (h g)⟩
      · have hk : ((op % 16 : Nat) : Int) + 2 ≤ tk op := by
          have r1 : (Nat.ble 95 op && Nat.ble op 159) = true := and_t (by rw [Nat.ble_eq]; exact h95) (by rw [Nat.ble_eq]; exact h159)
          have r2 : (nam.toList == bPUSH0.toList) = false := g1
          have r3 : p1 = false := g2
          have r4 : p2 = false := g3
          rw [r1, r2, r3, r4] at hB
          have hB2 : ile ((op % 16 : Nat) + 2) (tk op) = true := hB
          rw [ile_eq, decide_eq_true_eq] at hB2
          exact hB2
        have eN : IntKind.i64.wrap (↑(BitVec.ofInt IntKind.i64.bits (IntKind.i64.wrap (IntKind.u8.wrap (↑(BitVec.ofInt IntKind.u8.bits (op : Int) &&& BitVec.ofInt IntKind.u8.bits 31).toNat : Int))) &&& BitVec.ofInt IntKind.i64.bits 15).toNat : Int) = ((op % 16 : Nat) : Int) := n16_eq hop
        clear e1 e2 e3 e4 e5 e6 e7 e8 e9
        rw [eN] at h
        generalize hM : ((op % 16 : Nat) : Int) = M at h hk
        have hM0 : 0 ≤ M := by omega
        rw [w8in (n := (es.length : Int) - 2) (by omega) (by omega), w8in (n := (es.length : Int) - 2 - M) (by omega) (by omega), w8in (n := (es.length : Int) - 1) (by omega) (by omega)] at h
        generalize hK : (es.length : Int) - 2 - M = K at h
        generalize hI : (es.length : Int) - 1 = I at h
        obtain ⟨p0, p1, p2, p3, hp, hpe⟩ := he.get (i := K.toNat) (by omega)
        obtain ⟨q0, q1, q2, q3, hq, hqe⟩ := he.get (i := I.toNat) (by omega)
        rw [hpe, hqe] at h
        replace h := goG h (dec2 (by omega) (by omega))
        replace h := goG h (and_t (dec1 (by omega)) rfl)
        replace h := goG h (dec2 (by omega) (by omega))
        replace h := goG h (and_t (dec1 (by omega)) rfl)
        replace h := goG h (dec2 (by omega) (by omega))
        replace h := goG h (dec1 (by omega))
        replace h := goG h (dec2 (by omega) (by rw [List.length_set]; omega))
        replace h := goG h (dec1 (by rw [List.length_set]; omega))
        have hall : AllU ((es.set I.toNat [u p0, u p1, u p2, u p3]).set K.toNat [u q0, u q1, u q2, u q3]) := (he.set _ (hu hp)).set _ (hu hq)
        exact .inr ⟨_, hall, by rw [List.length_set, List.length_set], h⟩
end
end Go.Proofs.Vm
end
section
namespace Go.Proofs.Vm
open Go Go.Abs
set_option maxRecDepth 100000
set_option maxHeartbeats 4000000
def bSTOP : ByteArray := ByteArray.mk #[83, 84, 79, 80]
def bRETURN : ByteArray := ByteArray.mk #[82, 69, 84, 85, 82, 78]
def bREVERT : ByteArray := ByteArray.mk #[82, 69, 86, 69, 82, 84]
def bGAS : ByteArray := ByteArray.mk #[71, 65, 83]
section
variable {code inp mem out : ByteArray} {pc stand err a0 a1 a2 a3 b0 b1 b2 b3 c0 c1 c2 c3 : Int} {es : List (List AV)}
theorem okAltP_t {t : Alt} {x : AV} {os : List AObj} (h0 : t.pan = true) (h1 : okS t.s x = true) (h2 : okOs t.os os = true) : okAlt t (some (.panic x, os)) = true := by
  unfold okAlt; simp only [h0, h1, h2, Bool.and_self]
theorem fixP (h : AllU es) {r : RE} {x : AV} {c : AObj} (hr : r = some (.panic x, [c, .row 4 (rbU es)])) : r = some (.panic x, [c, .row 4 es]) := by
  rw [hr]; unfold rbU; rw [map_rebU h]
theorem w75 {op n : Nat} (hop : op < 256) (he : AllU es) (hn : n ≤ es.length) (hl : es.length ≤ 2000) (hc : code.size ≤ 2900) (hi : inp.size ≤ 65536) (hm : mem.size ≤ 4096) (ha : R4 a0 a1 a2 a3) (hb : R4 b0 b1 b2 b3) (_hcc : R4 c0 c1 c2 c3) :
    (∃ z : Int → List AV, (∀ g, isU (z g)) ∧ (((nm op).toList == bGAS.toList) = true ∨ ∀ g g', z g = z g') ∧ ((nm op).toList == bSTOP.toList) = false ∧ ((nm op).toList == bRETURN.toList) = false ∧ ((nm op).toList == bREVERT.toList) = false ∧
      ∀ gas : Int, r75 [.ptr 0 0] [.cells (Mc code inp (.sref 1 0 n) mem pc gas stand err out op a0 a1 a2 a3 b0 b1 b2 b3 c0 c1 c2 c3), .row 4 es] = some (.ret (.tuple []), [.cells (Mc code inp (.wref 2) mem pc gas stand err out op a0 a1 a2 a3 b0 b1 b2 b3 c0 c1 c2 c3), .dead, .row 4 (es.take n ++ [z gas])])) ∨
    (∃ (mem' out' : ByteArray) (pc' stand' : Int), mem'.size = mem.size ∧ (pc' = pc ∨ (0 ≤ pc' + 1 ∧ pc' + 1 < code.size)) ∧ (stand' = 1 ∨ stand' = 2 ∨ (stand' = stand ∧ out' = out ∧ ((nm op).toList == bSTOP.toList) = false ∧ ((nm op).toList == bRETURN.toList) = false ∧ ((nm op).toList == bREVERT.toList) = false)) ∧
      ∀ gas : Int, r75 [.ptr 0 0] [.cells (Mc code inp (.sref 1 0 n) mem pc gas stand err out op a0 a1 a2 a3 b0 b1 b2 b3 c0 c1 c2 c3), .row 4 es] = some (.ret (.tuple []), [.cells (Mc code inp (.sref 1 0 n) mem' pc' gas stand' err out' op a0 a1 a2 a3 b0 b1 b2 b3 c0 c1 c2 c3), .row 4 es])) ∨
    ∀ gas : Int, r75 [.ptr 0 0] [.cells (Mc code inp (.sref 1 0 n) mem pc gas stand err out op a0 a1 a2 a3 b0 b1 b2 b3 c0 c1 c2 c3), .row 4 es] = some (.panic (.iface 63 (i64 20)), [.cells (Mc code inp (.sref 1 0 n) mem pc gas stand err out op a0 a1 a2 a3 b0 b1 b2 b3 c0 c1 c2 c3), .row 4 es]) := by
  have e1 := w62 hop
  have w73' := fun (z0 z1 z2 z3 gas : Int) => w73 (code := code) (inp := inp) (mem := mem) (out := out) (pc := pc) (stand := stand) (err := err) (op := op) (a0 := a0) (a1 := a1) (a2 := a2) (a3 := a3) (b0 := b0) (b1 := b1) (b2 := b2) (b3 := b3) (c0 := c0) (c1 := c1) (c2 := c2) (c3 := c3) (es := es) (n := n) (by omega) z0 z1 z2 z3 gas
  have w131' := fun {s : ByteArray} (hs : s.size ≤ 65536) => w131 (code := code) (inp := inp) (mem := mem) (out := out) (pc := pc) (stand := stand) (err := err) (op := op) (a0 := a0) (a1 := a1) (a2 := a2) (a3 := a3) (b0 := b0) (b1 := b1) (b2 := b2) (b3 := b3) (c0 := c0) (c1 := c1) (c2 := c2) (c3 := c3) (es := es) (n := n) hm hs
  have w129' := fun (kk : Int) => w129 (code := code) (inp := inp) (mem := mem) (out := out) (pc := pc) (stand := stand) (err := err) (op := op) (a0 := a0) (a1 := a1) (a2 := a2) (a3 := a3) (b0 := b0) (b1 := b1) (b2 := b2) (b3 := b3) (c0 := c0) (c1 := c1) (c2 := c2) (c3 := c3) (es := es) (n := n) (kk := kk) hm ha
  have e2 := fun gas => w83 (IntKind.u64.wrap gas)
  have e3 := fun gas => w73' (IntKind.u64.wrap gas) 0 0 0 gas
  have e4 := w83 (IntKind.u64.wrap (mem.size : Int))
  have e5 := fun gas => w73' (IntKind.u64.wrap (mem.size : Int)) 0 0 0 gas
  have e6 := w83 (IntKind.u64.wrap pc)
  have e7 := fun gas => w73' (IntKind.u64.wrap pc) 0 0 0 gas
  obtain ⟨tb, e9, htb⟩ := w82 b0 b1 b2 b3
  obtain ⟨t10, ht10, e10⟩ := w131' (s := tb.extract (Int.toNat 31) tb.size) (by rw [ByteArray.size_extract]; omega)
  obtain ⟨t11, ht11, e11⟩ := w131' (s := tb) (by omega)
  obtain ⟨t12, e12, _⟩ := w117 (s := mem) (n := 32) (by omega) ha
  obtain ⟨p0, p1, p2, p3, e13, h13⟩ := w116 (s := t12)
  have e14 := fun gas => w73' p0 p1 p2 p3 gas
  obtain ⟨t15, e15, h15⟩ := w117 (s := code) (n := IntKind.i64.wrap c0) (by omega) hb
  obtain ⟨t16, ht16, e16⟩ := w131' (s := t15) (by rw [h15]; split <;> omega)
  have e17 := w83 (IntKind.u64.wrap (code.size : Int))
  obtain ⟨t19, e19, h19⟩ := w117 (s := inp) (n := IntKind.i64.wrap c0) (by omega) hb
  obtain ⟨t20, ht20, e20⟩ := w131' (s := t19) (by rw [h19]; split <;> omega)
  have e21 := w83 (IntKind.u64.wrap (inp.size : Int))
  obtain ⟨t23, e23, _⟩ := w117 (s := inp) (n := 32) (by omega) ha
  obtain ⟨q0, q1, q2, q3, e24, h24⟩ := w116 (s := t23)
  have e25 := fun gas => w73' q0 q1 q2 q3 gas
  obtain ⟨t26, e26, h26⟩ := w117 (s := mem) (n := IntKind.i64.wrap b0) (by omega) ha
  obtain ⟨t30, e30⟩ := w129' 2
  obtain ⟨t31, e31⟩ := w129' 1
  obtain ⟨t27, e27, _⟩ := w130 (s := t26) (by rw [h26]; split <;> omega)
  obtain ⟨y0, y1, y2, y3, e28, h28⟩ := w116 (s := t27)
  have e29 := fun gas => w73' y0 y1 y2 y3 gas
  have e18 := fun gas => w73' (IntKind.u64.wrap (code.size : Int)) 0 0 0 gas
  have e22 := fun gas => w73' (IntKind.u64.wrap (inp.size : Int)) 0 0 0 gas
  have hj := w132 (code := code) (inp := inp) (mem := mem) (out := out) (pc := pc) (stand := stand) (err := err) (op := op) (a0 := a0) (a1 := a1) (a2 := a2) (a3 := a3) (b0 := b0) (b1 := b1) (b2 := b2) (b3 := b3) (c0 := c0) (c1 := c1) (c2 := c2) (c3 := c3) (es := es) (n := n) hc ha
  have hR : ∀ (x8 : Int → RE), (∀ gas, r132 [.ptr 0 0] [.cells (Mc code inp (.sref 1 0 n) mem pc gas stand err out op a0 a1 a2 a3 b0 b1 b2 b3 c0 c1 c2 c3), .row 4 es] = x8 gas) → _ := fun x8 e8 => fun gas => (q75 _ _).trans (T75 r62 r73 r82 r83 r116 r117 r129 r130 r131 r132 code inp mem out pc gas stand err op a0 a1 a2 a3 b0 b1 b2 b3 c0 c1 c2 c3 es n _ fin _ e1 _ (e2 gas) _ (e3 gas) _ e4 _ (e5 gas) _ e6 _ (e7 gas) _ (e8 gas) _ e9 _ (e10 gas) _ (e11 gas) _ e12 _ e13 _ (e14 gas) _ e15 _ (e16 gas) _ e17 _ (e18 gas) _ e19 _ (e20 gas) _ e21 _ (e22 gas) _ e23 _ e24 _ (e25 gas) _ e26 _ e27 _ e28 _ (e29 gas) _ (e30 gas) _ (e31 gas))
  clear e1 e2 e3 e4 e5 e6 e7 e9 e10 e11 e12 e13 e14 e15 e16 e17 e18 e19 e20 e21 e22 e23 e24 e25 e26 e27 e28 e29 e30 e31
  generalize nm op = nam at hR ⊢
  have hu : ∀ {z0 z1 z2 z3 : Int}, R4 z0 z1 z2 z3 → isU [u z0, u z1, u z2, u z3] := fun h => ⟨_, _, _, _, h, rfl⟩
  have hall : ∀ {z0 z1 z2 z3 : Int}, R4 z0 z1 z2 z3 → AllU (es.take n ++ [[u z0, u z1, u z2, u z3]]) := fun h => (he.take n).app (hu h)
  have hr : ∀ x, R4 (IntKind.u64.wrap x) 0 0 0 := fun x => r4c (r64w x)
  rcases hj with ⟨p, hp0, hp1, e8⟩ | e8
  all_goals
    have h := hR _ e8
    clear hR e8
    replace h := goG h rfl
    rcases spG h with ⟨s1, h⟩ | ⟨s1, h⟩
    · exact .inr (.inl ⟨mem, out, pc, 1, rfl, .inl rfl, .inl rfl, h⟩)
    rcases spG h with ⟨s2, h⟩ | ⟨s2, h⟩
    · replace h := goA h (fun _ => okAlt_t rfl rfl (okCons rfl (okCons (okRowU he) rfl)))
      exact .inr (.inl ⟨mem, t31, pc, 1, rfl, .inl rfl, .inl rfl, fun g => fixR he (h g)⟩)
    rcases spG h with ⟨s3, h⟩ | ⟨s3, h⟩
    · replace h := goA h (fun _ => okAlt_t rfl rfl (okCons rfl (okCons (okRowU he) rfl)))
      exact .inr (.inl ⟨mem, t30, pc, 2, rfl, .inl rfl, .inr (.inl rfl), fun g => fixR he (h g)⟩)
    repeat' first
      | exact .inl ⟨fun _ => [_, _, _, _], fun _ => hu (by assumption), .inr fun _ _ => rfl, s1, s2, s3, fun g => fixD (hall (by assumption)) (h g)⟩
      | exact .inl ⟨fun _ => [_, _, _, _], fun _ => hu (hr _), .inr fun _ _ => rfl, s1, s2, s3, fun g => fixD (hall (hr _)) (h g)⟩
      | exact .inr (.inl ⟨_, _, _, _, by assumption, .inl rfl, .inr (.inr ⟨rfl, rfl, s1, s2, s3⟩), fun g => fixR he (h g)⟩)
      | exact .inr (.inl ⟨_, _, _, _, rfl, .inl rfl, .inr (.inr ⟨rfl, rfl, s1, s2, s3⟩), h⟩)
      | exact .inr (.inl ⟨mem, out, p - 1, stand, rfl, .inr ⟨by omega, by omega⟩, .inr (.inr ⟨rfl, rfl, s1, s2, s3⟩), fun g => fixR he (h g)⟩)
      | exact .inl ⟨fun g => [u (IntKind.u64.wrap g), u 0, u 0, u 0], fun g => hu (hr g), .inl hg, s1, s2, s3, fun g => fixD (hall (hr g)) (h g)⟩
      | exact .inr (.inr fun g => fixP he (h g))
      | replace h := goG h rfl
      | replace h := gnG h rfl
      | replace h := goA h (fun _ => okAltP_t rfl rfl (okCons rfl (okCons (okRowU he) rfl)))
      | replace h := goA h (fun _ => okAlt_t rfl rfl (okCons rfl (okCons rfl (okCons (okRowU (hall (by assumption))) rfl))))
      | replace h := goA h (fun _ => okAlt_t rfl rfl (okCons rfl (okCons rfl (okCons (okRowU (hall (hr _))) rfl))))
      | replace h := goA h (fun g => okAlt_t rfl rfl (okCons rfl (okCons rfl (okCons (okRowU (hall (hr g))) rfl))))
      | replace h := goA h (fun _ => okAlt_t rfl rfl (okCons rfl (okCons (okRowU he) rfl)))
      | replace h := goG h (dec2 (by decide) (by show (31 : Int) ≤ (tb.size : Int); omega))
      | (rcases spG h with ⟨hg, h⟩ | ⟨hg, h⟩)
end
end Go.Proofs.Vm
end
section
namespace Go.Proofs.Vm
open Go Go.Abs
set_option maxRecDepth 100000
noncomputable def gd (p : Prop) : Bool := @decide p (Classical.propDecidable p)
theorem gd_t {p : Prop} (h : p) : gd p = true := @decide_eq_true p (Classical.propDecidable p) h
theorem gd_h {p : Prop} (h : gd p = true) : p := @of_decide_eq_true p (Classical.propDecidable p) h
noncomputable def ask (pre : List AV → List AObj → Prop) (S : ASpec) : ASpec := fun args os X k => bif gd (pre args os) then S args os X k else none
theorem _root_.Go.Abs.SpecOK.ask {f : FuncId} {ts : List Alt} {r : RF} (h : SpecOK P f (shaped ts r)) {pre : List AV → List AObj → Prop} {S : ASpec}
    (hs : ∀ args os, pre args os → ∃ e os', r args os = some (e, os') ∧ (∃ t, t ∈ ts ∧ okAlt t (some (e, os')) = true) ∧ ∀ (X : Type) (k : AEnd → List AObj → Option X), S args os X k = k e os') : SpecOK P f (ask pre S) := by
  have key : ∀ args os, (∃ e os', (∀ (X : Type) (k : AEnd → List AObj → Option X), Vm.ask pre S args os X k = k e os') ∧ ∀ (X : Type) (k : AEnd → List AObj → Option X), shaped ts r args os X k = k e os') ∨ ∀ (X : Type) (k : AEnd → List AObj → Option X), Vm.ask pre S args os X k = none := by
    intro args os
    cases hb : gd (pre args os) with
    | false => exact .inr fun X k => by unfold Vm.ask; rw [hb]; rfl
    | true =>
      obtain ⟨e, os', h1, ⟨t, h2, h3⟩, h4⟩ := hs args os (gd_h hb)
      refine .inl ⟨e, os', fun X k => by unfold Vm.ask; rw [hb]; exact h4 X k, fun X k => ?_⟩
      unfold shaped
      rw [h1]
      obtain ⟨e', os2, h5, h6⟩ := endSpec_some (k := k) h2 h3
      cases h5
      exact h6
  refine ⟨fun args os => ?_, fun args os e os' hk => ?_⟩
  · rcases key args os with ⟨e, os', h1, _⟩ | h1
    · exact .inl ⟨e, os', h1⟩
    · exact .inr h1
  · rcases key args os with ⟨e', os2, h1, h2⟩ | h1
    · obtain ⟨rfl, rfl⟩ := some_of_det hk h1
      exact h.ok args os _ _ h2
    · exact (none_of_det hk h1).elim
def tells (s : Sh) (v : RF) : ASpec := fun args os _ k => k (.ret (reb s (rV (v args os)))) os
def csOf (os : List AObj) : List AV := (os.getD 0 .dead).cellsOf
def stOf (os : List AObj) : List (List AV) := ((csOf os).getD 2 J).toSl
def rowAt (os : List AObj) (i : Nat) : List (List AV) := (os.getD i .dead).rowOf
def argI (args : List AV) (i : Nat) : Int := (args.getD i J).toInt
def itm (r : RE) (i : Nat) : AV := (rV r).items.getD i J
def S63 : ASpec := fun args os _ k => bif (args.getD 0 J).toBool then k (.ret (.tuple [])) os else k (.panic (.iface 63 (i64 (argI args 1)))) os
def S71 : ASpec := fun args _ _ k => k (.ret (.wref 0)) [.row 4 (args.getD 0 J).toSl]
def S68 : ASpec := fun args os _ k => bif ile (argI args 1) ((csOf os).getD 5 J).toInt then k (.ret (.tuple [])) [.cells ((csOf os).set 5 (i64 (IntKind.i64.wrap (((csOf os).getD 5 J).toInt - argI args 1))))] else k (.panic (.iface 63 (i64 18))) os
def layO (os : List AObj) (es : List (List AV)) : List AObj := [.cells ((csOf os).set 2 (.wref 2)), .dead, .row 4 es]
def uOf (x : AV) : List AV := tu4 x.items
def S73 : ASpec := fun args os _ k => k (.ret (.tuple [])) (layO os ((rowAt os 1).take ((csOf os).getD 2 J).srN ++ [uOf (args.getD 1 J)]))
def S72 (v : RF) : ASpec := fun args os _ k =>
  bif (itm (v args os) 0).toBool then k (.ret (.tuple [])) [.cells (((csOf os).set 2 (.wref 2)).set 4 (i64 (itm (v args os) 1).toInt)), .dead, .row 4 (rowAt (rOs (v args os)) 0)] else k (.ret (.tuple [])) [.cells (csOf os), .row 4 (rowAt (rOs (v args os)) 0)]
def S75 (v : RF) : ASpec := fun args os _ k =>
  bif (itm (v args os) 0).toBool then k (.ret (.tuple [])) (layO os ((rowAt os 1).take ((csOf os).getD 2 J).srN ++ [uOf (itm (v args os) 2)]))
  else bif (itm (v args os) 1).toBool then k (.ret (.tuple [])) [.cells (((((csOf os).set 3 (st (itm (v args os) 3).toStr)).set 4 (i64 (itm (v args os) 4).toInt)).set 6 (i64 (itm (v args os) 5).toInt)).set 8 (st (itm (v args os) 6).toStr)), .row 4 (rowAt os 1)]
  else k (.panic (.iface 63 (i64 20))) [.cells (csOf os), .row 4 (rowAt os 1)]
end Go.Proofs.Vm
end
section
namespace Go.Proofs.Vm
open Go Go.Abs
set_option maxRecDepth 100000
set_option maxHeartbeats 1000000
structure Ms where
  (code inp mem out : ByteArray) (pc gas stand err op a0 a1 a2 a3 b0 b1 b2 b3 c0 c1 c2 c3 : Int)
abbrev Ms.c (m : Ms) (stk : AV) : List AV := Mc m.code m.inp stk m.mem m.pc m.gas m.stand m.err m.out m.op m.a0 m.a1 m.a2 m.a3 m.b0 m.b1 m.b2 m.b3 m.c0 m.c1 m.c2 m.c3
structure Ms.In (m : Ms) : Prop where
  op : ∃ n : Nat, n < 256 ∧ m.op = n
  code : m.code.size ≤ 2900
  inp : m.inp.size ≤ 65536
  mem : m.mem.size ≤ 4096
  a : R4 m.a0 m.a1 m.a2 m.a3
  b : R4 m.b0 m.b1 m.b2 m.b3
  c : R4 m.c0 m.c1 m.c2 m.c3
def g0 : List AObj → List AObj
  | .cells cs :: os => .cells (cs.set 5 (i64 0)) :: os
  | os => os
theorem okSl {es : List (List AV)} (he : AllU es) {ss : List Sh} {cs : List AV} (h : okSs ss cs = true) : okSs (.sl 4 [sh6, sh6, sh6, sh6] :: ss) (.sl 4 es :: cs) = true := by
  show ((true && es.all fun e => okSs [sh6, sh6, sh6, sh6] e) && okSs ss cs) = true
  rw [allU_ok he, h]; rfl
theorem okMS {m : Ms} {es : List (List AV)} (he : AllU es) : okO (.cells (shM (.sl 4 [sh6, sh6, sh6, sh6]))) (.cells (m.c (.sl 4 es))) = true := okSl he rfl
theorem okMW {m : Ms} {i : Nat} : okO (.cells (shM (.wref i))) (.cells (m.c (.wref i))) = true := by
  show (true && (true && ((Nat.beq i i) && true))) = true
  rw [Nat.beq_refl]; rfl
theorem okMR {m : Ms} {n : Nat} : okO (.cells (shM (.sref 1))) (.cells (m.c (.sref 1 0 n))) = true := rfl
noncomputable def v62 : RF := fun args _ => some (.ret (st (nm (argI args 0).toNat)), [])
noncomputable def v64 : RF := fun args _ => some (.ret (.tuple [i64 (tk (argI args 0).toNat), i64 (ly (argI args 0).toNat)]), [])
noncomputable def v69 : RF := fun args _ => some (.ret (i64 (gs (argI args 0).toNat)), [])
def pOp (args : List AV) (os : List AObj) : Prop := ∃ n : Nat, n < 256 ∧ args = [u8 n] ∧ os = []
noncomputable def p62 := pOp
noncomputable def p64 := pOp
noncomputable def p69 := pOp
noncomputable def p63 (args : List AV) (os : List AObj) : Prop := ∃ b e, args = [bo b, i64 e] ∧ os = []
noncomputable def v65 : RF := fun args os => some (.ret (.agg (topE (stOf os) (argI args 1).toNat)), [])
noncomputable def p65 (args : List AV) (os : List AObj) : Prop := ∃ (m : Ms) (es : List (List AV)) (k : Nat), args = [.ptr 0 0, i64 k] ∧ os = [.cells (m.c (.sl 4 es))] ∧ AllU es ∧ es.length ≤ 1048576 ∧ k ≤ 1000
noncomputable def pM (args : List AV) (os : List AObj) : Prop := ∃ (m : Ms) (es : List (List AV)), args = [.ptr 0 0] ∧ os = [.cells (m.c (.sl 4 es))] ∧ AllU es ∧ m.In
noncomputable def p66 := pM
noncomputable def v66 : RF := fun args os => r66 args (g0 os)
noncomputable def p67 (args : List AV) (os : List AObj) : Prop := ∃ (s : ByteArray) (a0 a1 a2 a3 b0 b1 b2 b3 : Int), args = [st s, U a0 a1 a2 a3, U b0 b1 b2 b3] ∧ os = [] ∧ s.size ≤ 4096 ∧ R4 a0 a1 a2 a3 ∧ R4 b0 b1 b2 b3
noncomputable def v67 : RF := r67
noncomputable def p68 (args : List AV) (os : List AObj) : Prop := ∃ (m : Ms) (es : List (List AV)) (g : Int), args = [.ptr 0 0, i64 g] ∧ os = [.cells (m.c (.sl 4 es))] ∧ AllU es
noncomputable def p70 (args : List AV) (os : List AObj) : Prop := ∃ (m : Ms) (es : List (List AV)) (n0 n1 n2 n3 : Int), args = [.ptr 0 0, U n0 n1 n2 n3] ∧ os = [.cells (m.c (.sl 4 es))] ∧ AllU es ∧ m.In ∧ 0 ≤ n0 ∧ n0 ≤ 1048576
noncomputable def v70 : RF := fun args os => r70 args (g0 os)
noncomputable def p72 (args : List AV) (os : List AObj) : Prop := ∃ (m : Ms) (es : List (List AV)) (n : Nat), args = [.ptr 0 0, st (nm n)] ∧ os = [.cells (m.c (.wref 1)), .row 4 es] ∧ n < 256 ∧ m.op = n ∧ 95 ≤ n ∧ n ≤ 159 ∧ AllU es ∧ es.length ≤ 2000 ∧ m.code.size ≤ 2900 ∧ 0 ≤ m.pc ∧ m.pc ≤ 4000 ∧ tk n ≤ es.length
noncomputable def v72 : RF := fun args os => match r72 args (g0 os) with
  | some (_, [.cells cs, .dead, .row _ es]) => some (.ret (.tuple [bo true, i64 (cs.getD 4 J).toInt]), [.row 4 es])
  | some (_, [_, .row _ es]) => some (.ret (.tuple [bo false, i64 0]), [.row 4 es])
  | r => r
noncomputable def p73 (args : List AV) (os : List AObj) : Prop := ∃ (m : Ms) (es : List (List AV)) (n : Nat) (x0 x1 x2 x3 : Int), args = [.ptr 0 0, U x0 x1 x2 x3] ∧ os = [.cells (m.c (.sref 1 0 n)), .row 4 es] ∧ R4 x0 x1 x2 x3 ∧ AllU es ∧ n ≤ es.length ∧ es.length ≤ 2000
noncomputable def p74 (args : List AV) (os : List AObj) : Prop := ∃ (m : Ms) (es : List (List AV)) (n : Nat), args = [.ptr 0 0] ∧ os = [.cells (m.c (.sref 1 0 n)), .row 4 es] ∧ m.In ∧ AllU es
noncomputable def v74 : RF := fun args os => r74 args (g0 os)
noncomputable def p75 (args : List AV) (os : List AObj) : Prop := ∃ (m : Ms) (es : List (List AV)) (n : Nat), args = [.ptr 0 0] ∧ os = [.cells (m.c (.sref 1 0 n)), .row 4 es] ∧ m.In ∧ AllU es ∧ n ≤ es.length ∧ es.length ≤ 2000
noncomputable def v75 : RF := fun args os => match r75 args os with
  | some (.ret _, [_, .dead, .row _ es]) => some (.ret (.tuple [bo true, bo true, .agg (es.getLastD []), st .empty, i64 0, i64 0, st .empty]), [])
  | some (.ret _, [.cells cs, _]) => some (.ret (.tuple [bo false, bo true, J, cs.getD 3 J, cs.getD 4 J, cs.getD 6 J, cs.getD 8 J]), [])
  | _ => some (.ret (.tuple [bo false, bo false]), [])
theorem okS62 : SpecOK P 62 (ask p62 (tells .str v62)) := ok62.ask fun args os ⟨n, hn, e1, e2⟩ => by
  subst e1 e2
  have h := w62 hn
  have h0 : v62 [u8 (n : Nat)] [] = some (.ret (st (nm n)), []) := by
    show some (AEnd.ret (st (nm (Int.toNat (n : Int)))), ([] : List AObj)) = _
    rw [Int.toNat_natCast]
  generalize nm n = s at h h0
  exact ⟨_, _, h, ⟨a62, List.mem_singleton.2 rfl, rfl⟩, fun X kk => by unfold tells; rw [h0]; rfl⟩
theorem okS64 : SpecOK P 64 (ask p64 (tells (.tup [.int .i64, .int .i64]) v64)) := ok64.ask fun args os ⟨n, hn, e1, e2⟩ => by
  subst e1 e2
  have h := w64 hn
  have h0 : v64 [u8 (n : Nat)] [] = some (.ret (.tuple [i64 (tk n), i64 (ly n)]), []) := by
    show some (AEnd.ret (.tuple [i64 (tk (Int.toNat (n : Int))), i64 (ly (Int.toNat (n : Int)))]), ([] : List AObj)) = _
    rw [Int.toNat_natCast]
  generalize tk n = s at h h0; generalize ly n = s' at h h0
  exact ⟨_, _, h, ⟨a64, List.mem_singleton.2 rfl, rfl⟩, fun X kk => by unfold tells; rw [h0]; rfl⟩
theorem okS69 : SpecOK P 69 (ask p69 (tells (.int .i64) v69)) := ok69.ask fun args os ⟨n, hn, e1, e2⟩ => by
  subst e1 e2
  have h := w69 hn
  have h0 : v69 [u8 (n : Nat)] [] = some (.ret (i64 (gs n)), []) := by
    show some (AEnd.ret (i64 (gs (Int.toNat (n : Int)))), ([] : List AObj)) = _
    rw [Int.toNat_natCast]
  generalize gs n = s at h h0
  exact ⟨_, _, h, ⟨a69, List.mem_singleton.2 rfl, rfl⟩, fun X kk => by unfold tells; rw [h0]; rfl⟩
theorem okS63 : SpecOK P 63 (ask p63 S63) := ok63.ask fun args os ⟨b, e, e1, e2⟩ => by
  subst e1 e2
  cases b
  · exact ⟨_, _, w63f e, ⟨a63y, by simp [A63], rfl⟩, fun _ _ => rfl⟩
  · exact ⟨_, _, w63t e, ⟨a63, by simp [A63], rfl⟩, fun _ _ => rfl⟩
theorem okS65 : SpecOK P 65 (ask p65 (tells shU v65)) := ok65.ask fun args os ⟨m, es, k, e1, e2, he, hl, hk⟩ => by
  subst e1 e2
  obtain ⟨x0, x1, x2, x3, _, hx⟩ := topE_u he k
  refine ⟨_, _, w65 he hl k hk m.gas, ⟨a65, by simp [A65], ?_⟩, fun X kk => ?_⟩
  · exact okAlt_t rfl (by rw [hx]; rfl) (okCons (okMS he) rfl)
  · show kk (.ret (reb shU (.agg (topE es k)))) _ = _
    rw [hx]; rfl
theorem okS66 : SpecOK P 66 (ask p66 (tells (.tup [shU, shU]) v66)) := ok66.ask fun args os ⟨m, es, e1, e2, he, hm⟩ => by
  subst e1 e2
  obtain ⟨n, hn, ho⟩ := hm.op
  obtain ⟨x0, x1, x2, x3, y0, y1, y2, y3, _, _, h⟩ := w66 (code := m.code) (inp := m.inp) (mem := m.mem) (out := m.out) (pc := m.pc) (stand := m.stand) (err := m.err) (es := es) hn hm.a hm.b hm.c
  refine ⟨.ret (.tuple [U x0 x1 x2 x3, U y0 y1 y2 y3]), [.cells (m.c (.sl 4 es))], by rw [Ms.c, ho]; exact h m.gas, ⟨a66, List.mem_singleton.2 rfl, okAlt_t rfl rfl (okCons (okMS he) rfl)⟩, fun X kk => ?_⟩
  have h0 := h 0
  rw [← ho] at h0
  unfold tells
  rw [show v66 [.ptr 0 0] [.cells (m.c (.sl 4 es))] = some (.ret (.tuple [U x0 x1 x2 x3, U y0 y1 y2 y3]), _) from h0]; rfl
theorem okS67 : SpecOK P 67 (ask p67 (tells (.tup [.str, .int .i64, .int .i64]) v67)) := ok67.ask fun args os ⟨s, a0, a1, a2, a3, b0, b1, b2, b3, e1, e2, hs, ha, hb⟩ => by
  subst e1 e2
  obtain ⟨t, c, e, h, _⟩ := w67 hs ha hb
  refine ⟨_, _, h, ⟨a67, List.mem_singleton.2 rfl, rfl⟩, fun X kk => ?_⟩
  show kk (.ret (reb _ (rV (r67 _ _)))) _ = _
  rw [h]; rfl
theorem okS68 : SpecOK P 68 (ask p68 S68) := ok68.ask fun args os ⟨m, es, g, e1, e2, he⟩ => by
  subst e1 e2
  by_cases hg : g ≤ m.gas
  · refine ⟨_, _, w68t hg, ⟨a68, by simp [A68], okAlt_t rfl rfl (okCons (okMS (m := { m with gas := _ }) he) rfl)⟩, fun X kk => ?_⟩
    show (bif ile g m.gas then _ else _) = _
    rw [ile_t' hg]; rfl
  · refine ⟨_, _, w68f (by omega), ⟨a68y, by simp [A68], okAltP_t rfl rfl (okCons (okMS he) rfl)⟩, fun X kk => ?_⟩
    show (bif ile g m.gas then _ else _) = _
    rw [ile_f' (by omega)]; rfl
theorem okS70 : SpecOK P 70 (ask p70 (tells (.int .i64) v70)) := ok70.ask fun args os ⟨m, es, n0, n1, n2, n3, e1, e2, he, hm, h0, h1⟩ => by
  subst e1 e2
  obtain ⟨n, hn, ho⟩ := hm.op
  obtain ⟨c, _, _, h⟩ := w70 (code := m.code) (inp := m.inp) (mem := m.mem) (out := m.out) (pc := m.pc) (stand := m.stand) (err := m.err) (a0 := m.a0) (a1 := m.a1) (a2 := m.a2) (a3 := m.a3) (b0 := m.b0) (b1 := m.b1) (b2 := m.b2) (b3 := m.b3) (c0 := m.c0) (c1 := m.c1) (c2 := m.c2) (c3 := m.c3) (es := es) (n1 := n1) (n2 := n2) (n3 := n3) hn h0 h1
  refine ⟨.ret (i64 c), [.cells (m.c (.sl 4 es))], by rw [Ms.c, ho]; exact h m.gas, ⟨a70, List.mem_singleton.2 rfl, okAlt_t rfl rfl (okCons (okMS he) rfl)⟩, fun X kk => ?_⟩
  have h0 := h 0
  rw [← ho] at h0
  unfold tells
  rw [show v70 [.ptr 0 0, U n0 n1 n2 n3] [.cells (m.c (.sl 4 es))] = some (.ret (i64 c), _) from h0]; rfl
def p71 (args : List AV) (os : List AObj) : Prop := ∃ es : List (List AV), args = [.sl 4 es] ∧ os = [] ∧ AllU es ∧ es.length ≤ 1048576
theorem okS71 : SpecOK P 71 (ask p71 S71) := ok71.ask fun args os ⟨es, e1, e2, he, hl⟩ => by
  subst e1 e2
  refine ⟨.ret (.wref 0), [.row 4 es], ?_, ⟨a71, List.mem_singleton.2 rfl, okAlt_t rfl rfl (okCons (okRowU he) rfl)⟩, fun X kk => rfl⟩
  show (bif Nat.ble es.length 1048576 then _ else _) = _
  rw [Nat.ble_eq_true_of_le hl]; rfl
theorem okS72 : SpecOK P 72 (ask p72 (S72 v72)) := ok72.ask fun args os ⟨m, es, n, e1, e2, hn, ho, h95, h159, he, hl, hc, hp0, hp1, htk⟩ => by
  subst e1 e2
  rcases w72 (code := m.code) (inp := m.inp) (mem := m.mem) (out := m.out) (pc := m.pc) (stand := m.stand) (err := m.err) (a0 := m.a0) (a1 := m.a1) (a2 := m.a2) (a3 := m.a3) (b0 := m.b0) (b1 := m.b1) (b2 := m.b2) (b3 := m.b3) (c0 := m.c0) (c1 := m.c1) (c2 := m.c2) (c3 := m.c3) (es := es) hn h95 h159 he hl hc hp0 hp1 htk with ⟨pc', es', _, _, he', _, h⟩ | ⟨es', he', _, h⟩
  · refine ⟨.ret (.tuple []), [.cells (({ m with pc := pc' } : Ms).c (.wref 2)), .dead, .row 4 es'], by rw [Ms.c, ho]; exact h m.gas, ⟨a72, by simp [A72], okAlt_t rfl rfl (okCons okMW (okCons rfl (okCons (okRowU he') rfl)))⟩, fun X kk => ?_⟩
    have h0 : v72 [.ptr 0 0, st (nm n)] [.cells (m.c (.wref 1)), .row 4 es] = some (.ret (.tuple [bo true, i64 pc']), [.row 4 es']) := by
      have h1 := h 0
      rw [← ho] at h1
      unfold v72
      rw [show r72 _ (g0 _) = _ from h1]; rfl
    unfold S72
    rw [h0]; rfl
  · refine ⟨.ret (.tuple []), [.cells (m.c (.wref 1)), .row 4 es'], by rw [Ms.c, ho]; exact h m.gas, ⟨a72y, by simp [A72], okAlt_t rfl rfl (okCons okMW (okCons (okRowU he') rfl))⟩, fun X kk => ?_⟩
    have h0 : v72 [.ptr 0 0, st (nm n)] [.cells (m.c (.wref 1)), .row 4 es] = some (.ret (.tuple [bo false, i64 0]), [.row 4 es']) := by
      have h1 := h 0
      rw [← ho] at h1
      unfold v72
      rw [show r72 _ (g0 _) = _ from h1]
    unfold S72
    rw [h0]; rfl
theorem okS73 : SpecOK P 73 (ask p73 S73) := ok73.ask fun args os ⟨m, es, n, x0, x1, x2, x3, e1, e2, hx, he, hn, hl⟩ => by
  subst e1 e2
  exact ⟨_, _, w73 (by omega) x0 x1 x2 x3 m.gas, ⟨a73, by simp [A73], okAlt_t rfl rfl (okCons okMW (okCons rfl (okCons (okRowU ((he.take n).app ⟨_, _, _, _, hx, rfl⟩)) rfl)))⟩, fun X kk => rfl⟩
theorem okS74 : SpecOK P 74 (ask p74 (tells shU v74)) := ok74.ask fun args os ⟨m, es, n, e1, e2, hm, he⟩ => by
  subst e1 e2
  obtain ⟨o, hn, ho⟩ := hm.op
  obtain ⟨x0, x1, x2, x3, _, h⟩ := w74 (code := m.code) (inp := m.inp) (mem := m.mem) (out := m.out) (pc := m.pc) (stand := m.stand) (err := m.err) (es := es) (n := n) hn he hm.a hm.b hm.c
  refine ⟨.ret (U x0 x1 x2 x3), [.cells (m.c (.sref 1 0 n)), .row 4 es], by rw [Ms.c, ho]; exact h m.gas, ⟨a74, List.mem_singleton.2 rfl, okAlt_t rfl rfl (okCons okMR (okCons (okRowU he) rfl))⟩, fun X kk => ?_⟩
  have h0 := h 0
  rw [← ho] at h0
  unfold tells
  rw [show v74 [.ptr 0 0] [.cells (m.c (.sref 1 0 n)), .row 4 es] = some (.ret (U x0 x1 x2 x3), _) from h0]; rfl
theorem k75 {m : Ms} {es : List (List AV)} {n : Nat} (hm : m.In) (he : AllU es) (hn : n ≤ es.length) (hl : es.length ≤ 2000) :
    (∃ z : Int → List AV, (∀ g, isU (z g)) ∧ (((nm m.op.toNat).toList == bGAS.toList) = true ∨ ∀ g g', z g = z g') ∧ ((nm m.op.toNat).toList == bSTOP.toList) = false ∧ ((nm m.op.toNat).toList == bRETURN.toList) = false ∧ ((nm m.op.toNat).toList == bREVERT.toList) = false ∧
      ∀ gas : Int, r75 [.ptr 0 0] [.cells (({ m with gas := gas } : Ms).c (.sref 1 0 n)), .row 4 es] = some (.ret (.tuple []), [.cells (({ m with gas := gas } : Ms).c (.wref 2)), .dead, .row 4 (es.take n ++ [z gas])])
        ∧ v75 [.ptr 0 0] [.cells (({ m with gas := gas } : Ms).c (.sref 1 0 n)), .row 4 es] = some (.ret (.tuple [bo true, bo true, .agg (z gas), st .empty, i64 0, i64 0, st .empty]), [])) ∨
    (∃ (mem' out' : ByteArray) (pc' stand' : Int), mem'.size = m.mem.size ∧ (pc' = m.pc ∨ (0 ≤ pc' + 1 ∧ pc' + 1 < m.code.size)) ∧ (stand' = 1 ∨ stand' = 2 ∨ (stand' = m.stand ∧ out' = m.out ∧ ((nm m.op.toNat).toList == bSTOP.toList) = false ∧ ((nm m.op.toNat).toList == bRETURN.toList) = false ∧ ((nm m.op.toNat).toList == bREVERT.toList) = false)) ∧
      ∀ gas : Int, r75 [.ptr 0 0] [.cells (({ m with gas := gas } : Ms).c (.sref 1 0 n)), .row 4 es] = some (.ret (.tuple []), [.cells (({ m with gas := gas, mem := mem', out := out', pc := pc', stand := stand' } : Ms).c (.sref 1 0 n)), .row 4 es])
        ∧ v75 [.ptr 0 0] [.cells (({ m with gas := gas } : Ms).c (.sref 1 0 n)), .row 4 es] = some (.ret (.tuple [bo false, bo true, J, st mem', i64 pc', i64 stand', st out']), [])) ∨
    ∀ gas : Int, r75 [.ptr 0 0] [.cells (({ m with gas := gas } : Ms).c (.sref 1 0 n)), .row 4 es] = some (.panic (.iface 63 (i64 20)), [.cells (({ m with gas := gas } : Ms).c (.sref 1 0 n)), .row 4 es])
        ∧ v75 [.ptr 0 0] [.cells (({ m with gas := gas } : Ms).c (.sref 1 0 n)), .row 4 es] = some (.ret (.tuple [bo false, bo false]), []) := by
  obtain ⟨o, ho, e⟩ := hm.op
  have h := w75 (code := m.code) (inp := m.inp) (mem := m.mem) (out := m.out) (pc := m.pc) (stand := m.stand) (err := m.err) (a0 := m.a0) (a1 := m.a1) (a2 := m.a2) (a3 := m.a3) (b0 := m.b0) (b1 := m.b1) (b2 := m.b2) (b3 := m.b3) (c0 := m.c0) (c1 := m.c1) (c2 := m.c2) (c3 := m.c3) (es := es) (n := n) ho he hn hl hm.code hm.inp hm.mem hm.a hm.b hm.c
  rw [← e] at h
  have e2 : m.op.toNat = o := by rw [e]; rfl
  rw [e2]
  rcases h with ⟨z, h1, h2, h3, h4, h5, h6⟩ | ⟨mem', out', pc', stand', h1, h2, h3, h4⟩ | h
  · refine .inl ⟨z, h1, h2, h3, h4, h5, fun gas => ⟨h6 gas, ?_⟩⟩
    unfold v75
    rw [show r75 _ _ = _ from h6 gas]
    simp only [List.getLastD_concat]
  · refine .inr (.inl ⟨mem', out', pc', stand', h1, h2, h3, fun gas => ⟨h4 gas, ?_⟩⟩)
    unfold v75
    rw [show r75 _ _ = _ from h4 gas]; rfl
  · refine .inr (.inr fun gas => ⟨h gas, ?_⟩)
    unfold v75
    rw [show r75 _ _ = _ from h gas]
theorem okS75 : SpecOK P 75 (ask p75 (S75 v75)) := ok75.ask fun args os ⟨m, es, n, e1, e2, hm, he, hn, hl⟩ => by
  subst e1 e2
  rcases k75 hm he hn hl with ⟨z, h1, h2, h3, h4, h5, h6⟩ | ⟨mem', out', pc', stand', h1, h2, h3, h4⟩ | h
  · obtain ⟨h7, h8⟩ := h6 m.gas
    refine ⟨_, _, h7, ⟨a75y, by simp [A75], okAlt_t rfl rfl (okCons okMW (okCons rfl (okCons (okRowU ((he.take n).app (h1 _))) rfl)))⟩, fun X kk => ?_⟩
    unfold S75
    rw [show v75 _ _ = _ from h8]
    obtain ⟨x0, x1, x2, x3, _, hx⟩ := h1 m.gas
    rw [hx]; rfl
  · obtain ⟨h7, h8⟩ := h4 m.gas
    refine ⟨_, _, h7, ⟨a75, by simp [A75], okAlt_t rfl rfl (okCons okMR (okCons (okRowU he) rfl))⟩, fun X kk => ?_⟩
    unfold S75
    rw [show v75 _ _ = _ from h8]; rfl
  · obtain ⟨h7, h8⟩ := h m.gas
    refine ⟨_, _, h7, ⟨a75z, by simp [A75], okAltP_t rfl rfl (okCons okMR (okCons (okRowU he) rfl))⟩, fun X kk => ?_⟩
    unfold S75
    rw [show v75 _ _ = _ from h8]; rfl
end Go.Proofs.Vm
end
