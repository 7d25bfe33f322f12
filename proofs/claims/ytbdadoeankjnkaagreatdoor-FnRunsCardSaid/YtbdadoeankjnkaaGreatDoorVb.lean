/- A part of the proof. No statement of the claim is in it. -/
import Derived.Test.YtbdadoeankjnkaaGreatDoorVa
import Derived.Laws.BytesString
import Derived.Lib.ConvBytes
set_option linter.all false
set_option linter.deprecated false
/- Literals, slices of slices, maps, conversions. -/
namespace Go.V

theorem qnh {P : Program} {t : TypeId} {u : TypeDesc} (hu : P.underlying t = some u) (hsh : u = .string ∨ ∃ e inf, u = .slice e ∧ P.info? e = some inf) {g : G} {w : World} {x v : V} {cx : Value} {lo hi : Option V} {clo chi : Option Value}
  (hx : VR g x cx) (hk : ∀ loc gn off len k, x = .sl loc gn off len k → ∀ e inf, u = .slice e → P.info? e = some inf → inf.size = k)
  (hk2 : ∀ rows, x = .t (.list rows) → ∀ e inf, u = .slice e → P.info? e = some inf → ∀ (i : Nat) (cs : List T), rows[i]? = some (.agg cs) → cs.length = inf.size)
  (rlo : ∀ v, lo = some v → ∃ c, clo = some c ∧ VR g v c) (rlo' : lo = none → clo = none) (rhi : ∀ v, hi = some v → ∃ c, chi = some c ∧ VR g v c) (rhi' : hi = none → chi = none)
  (hstr : ∀ s, x = .t (.str s) → u = .string) (hsl : (∀ s, cx ≠ .string s) → u ≠ .string)
  (h : qez x lo hi = some v) : ∃ cv, (Instr.sliceAt t cx clo chi none).run P w = .ok cv w ∧ VR g v cv := by
 unfold qez at h
 split at h
 ·rename_i s
  have hus := hstr s rfl
  subst hus
  simp only [VR, TR] at hx
  obtain ⟨b, rfl, rfl⟩ := hx
  split at h
  ·rename_i l hh hlo hhi
   split at h
   ·rename_i hc
    obtain ⟨h1, h2, h3⟩ := hc
    cases h
    rw [qbb] at hhi h3
    have := qgj (P := P) (w := w) false b.size b.size hlo hhi rlo rlo' rhi rhi' h1 h2 h3 (Nat.le_refl _)
    refine ⟨.string (b.extract l.toNat hh.toNat), ?_, ?_⟩
    ·simp [Instr.sliceAt, Instr.slice, qan hu, this]
    ·simp only [VR, TR]; exact ⟨_, rfl, qma _ _ _⟩
   ·cases h
  ·cases h
 ·rename_i rows
  simp only [VR, TR] at hx
  obtain ⟨a, c, k, rfl, hle, hsp, hr⟩ := hx
  rcases hsh with rfl | ⟨e, inf, rfl, hi'⟩
  ·exact absurd rfl (hsl (by simp))
  split at h
  ·rename_i l hh hlo hhi
   split at h
   ·rename_i hc
    obtain ⟨h1, h2, h3⟩ := hc
    cases h
    have hb := qgj (P := P) (w := w) true rows.length c hlo hhi rlo rlo' rhi rhi' h1 h2 h3 hle
    refine ⟨.slice ((if c = l.toNat then some a else some (a.add (l.toNat * inf.size)))) (hh.toNat - l.toNat) (c - l.toNat), ?_, ?_⟩
    ·simp only [Instr.sliceAt, Instr.slice, Sem.run_bind, qan hu, Result.andThen_ok, hb, qbn hi', Sem.run_pure]
     split <;> simp_all
    ·simp only [VR, TR]
     have hlen : ((rows.take hh.toNat).drop l.toNat).length = hh.toNat - l.toNat := by simp; omega
     rw [hlen]
     by_cases hcl : c = l.toNat
     ·rw [if_pos hcl]
      have he : (rows.take hh.toNat).drop l.toNat = [] := by
       apply List.eq_nil_of_length_eq_zero; omega
      rw [he]
      exact ⟨a, _, 0, rfl, by omega, .inl rfl, by simp [TRrows]⟩
     ·rw [if_neg hcl]
      refine ⟨_, _, k, rfl, by omega, ?_⟩
      rcases hsp with rfl | hsp
      ·exact ⟨.inl (by simp), by simp [TRrows]⟩
      refine ⟨.inr ?_, ?_⟩
      ·rw [qbq a hsp, add_plain]
      ·rw [qbq a hsp, add_plain]
       refine TRrows.of_get fun i x hx => ?_
       rw [List.getElem?_drop, List.getElem?_take] at hx
       split at hx
       ·obtain ⟨cs, rfl, q1, q2⟩ := TRrows.get hr _ _ hx
        refine ⟨cs, rfl, q1, ?_⟩
        have := hk2 rows rfl e inf rfl hi' _ _ hx
        show TRcells g.fz a.block (a.off + l.toNat * inf.size + i * k) cs
        rw [← this, q1]
        rwa [show a.off + (l.toNat + i) * k = a.off + l.toNat * k + i * k by rw [Nat.add_mul]; omega] at q2
       ·cases hx
   ·cases h
  ·cases h
 ·simp only [VR, TR] at hx
  subst hx
  rcases hsh with rfl | ⟨e, inf, rfl, hi'⟩
  ·exact absurd rfl (hsl (by simp))
  split at h
  ·rename_i l hh hlo hhi
   split at h
   ·rename_i hc
    obtain ⟨rfl, rfl⟩ := hc
    cases h
    have hb := qgj (P := P) (w := w) true 0 0 hlo hhi rlo rlo' rhi rhi' (by omega) (by omega) (by omega) (by omega)
    refine ⟨.slice none 0 0, ?_, by simp only [VR, TR]⟩
    simp only [Instr.sliceAt, Instr.slice, Sem.run_bind, qan hu, Result.andThen_ok, hb, qbn hi', Sem.run_pure]
    simp
   ·cases h
  ·cases h
 ·rename_i loc gn off len k
  rcases hsh with rfl | ⟨e, inf, rfl, hi'⟩
  ·simp only [VR] at hx
   obtain ⟨_, _, _, a, c, rfl, _⟩ := hx
   exact absurd rfl (hsl (by simp))
  have hks := hk _ _ _ _ _ rfl _ _ rfl hi'
  simp only [VR] at hx
  obtain ⟨q1, q2, q3, a, c, rfl, hle, hsp, ha⟩ := hx
  split at h
  ·rename_i l hh hlo hhi
   split at h
   ·rename_i hc
    obtain ⟨h1, h2, h3⟩ := hc
    cases h
    have hb := qgj (P := P) (w := w) true len c hlo hhi rlo rlo' rhi rhi' h1 h2 h3 hle
    refine ⟨.slice ((if c = l.toNat then some a else some (a.add (l.toNat * inf.size)))) (hh.toNat - l.toNat) (c - l.toNat), ?_, ?_⟩
    ·simp only [Instr.sliceAt, Instr.slice, Sem.run_bind, qan hu, Result.andThen_ok, hb, qbn hi', Sem.run_pure]
     split <;> simp_all
    ·simp only [VR]
     refine ⟨q1, q2, q3, ?_⟩
     by_cases hcl : c = l.toNat
     ·rw [if_pos hcl]
      refine ⟨a, _, rfl, by omega, hsp, fun B hB => ?_⟩
      obtain ⟨p1, p2⟩ := ha B hB
      have hz : hh.toNat - l.toNat = 0 := by omega
      have hlk : l.toNat * k ≤ len * k := Nat.mul_le_mul_right _ (by omega)
      refine ⟨by rw [hz]; omega, fun hor => ?_⟩
      have hl0 : l.toNat = 0 := by
       rcases hor with h' | h'
       ·omega
       ·rcases Nat.eq_zero_or_pos l.toNat with h0 | h0
        ·exact h0
        ·have := Nat.mul_pos h0 q3; omega
      obtain ⟨b1, b2, b3⟩ := p2 (.inr (by rw [hl0] at hor; simp at hor; omega))
      rw [hl0]
      exact ⟨b1, by rw [b2]; omega, by simp; rw [hcl, hl0] at b3; omega⟩
     ·rw [if_neg hcl]
      refine ⟨_, _, rfl, by omega, by rw [qbq a hsp, add_plain], fun B hB => ?_⟩
      obtain ⟨p1, p2⟩ := ha B hB
      have hlk : (hh.toNat - l.toNat) * k + l.toNat * k ≤ len * k := by
       rw [← Nat.add_mul]; exact Nat.mul_le_mul_right _ (by omega)
      refine ⟨by omega, fun hor => ?_⟩
      obtain ⟨b1, b2, b3⟩ := p2 (by
       rcases hor with h' | h'
       ·left; omega
       ·right; omega)
      rw [qbq a hsp, add_plain, hks]
      refine ⟨b1, by simp [b2], ?_⟩
      have : (c - l.toNat) * k + l.toNat * k = c * k := by rw [← Nat.add_mul]; congr 1; omega
      omega
   ·cases h
  ·cases h
 ·cases h

/-! ### Struct and slice literals -/
theorem VRs.set {g : G} {xs : List V} {l : List Value} (h : VRs g xs l) (i : Nat) {x : V} {v : Value} (hx : VR g x v) : VRs g (xs.set i x) (l.set i v) := by
 refine VRs.of_get (by simp [VRs.length h]) fun j y hy => ?_
 rw [List.getElem?_set] at hy ⊢
 have hl := VRs.length h
 split at hy
 ·rename_i e
  rw [if_pos e]
  split at hy
  ·cases hy; exact ⟨v, by rw [if_pos (by omega)], hx⟩
  ·cases hy
 ·rename_i e
  rw [if_neg e]
  exact VRs.get h _ _ hy

theorem all_set {l : List Value} (h : l.all Value.oneCell' = true) (i : Nat) {v : Value} (hv : v.oneCell' = true) : (l.set i v).all Value.oneCell' = true := by
 rw [List.all_eq_true] at h ⊢
 intro x hx
 rcases List.mem_or_eq_of_mem_set hx with h' | rfl
 ·exact h x h'
 ·exact hv

theorem qqq {g : G} (off : Nat) : ∀ (vs : List V) (l : List Value) (k : Nat) (cells : List V) (arr : Array Value), VRs g vs l → l.all Value.oneCell' = true → VRs g cells arr.toList → arr.toList.all Value.oneCell' = true →
  VRs g (qac cells (off + k) vs) ((l.zipIdx k).foldl (fun cs (p : Value × Nat) => cs.setIfInBounds (off + p.2) p.1) arr).toList ∧
  (((l.zipIdx k).foldl (fun cs (p : Value × Nat) => cs.setIfInBounds (off + p.2) p.1) arr).toList.all Value.oneCell' = true)
 | [], l, k, cells, arr, h, _, h2, h3 => by
  simp only [VRs] at h; subst h
  exact ⟨h2, h3⟩
 | x :: vs, l, k, cells, arr, h, h1, h2, h3 => by
  simp only [VRs] at h
  obtain ⟨v, r, rfl, hx, hr⟩ := h
  simp only [List.all_cons, Bool.and_eq_true] at h1
  simp only [List.zipIdx_cons, List.foldl_cons, qac]
  exact qqq off vs r (k + 1) (cells.set (off + k) x) (arr.setIfInBounds (off + k) v) hr h1.2 (by simpa using h2.set _ hx) (by simpa using all_set h3 _ h1.1)

theorem qjc {g : G} (place : Nat → Option (Nat × Nat)) (fs : List (Nat × Nat)) (hp : ∀ i, place i = fs[i]?) : ∀ (parts : List (Nat × V)) (cparts : List (Nat × Value)) (cells out : List V) (arr : Array Value),
  cparts.map (·.1) = parts.map (·.1) → VRs g (parts.map (·.2)) (cparts.map (·.2)) → VRs g cells arr.toList → arr.toList.all Value.oneCell' = true → qao fs cells parts = some out →
  ∃ arr', Instr.fill place arr cparts = some arr' ∧ VRs g out arr'.toList ∧ arr'.toList.all Value.oneCell' = true
 | [], cparts, cells, out, arr, h0, _, h2, h3, h => by
  simp [qao] at h; subst h
  simp at h0; subst h0
  exact ⟨arr, rfl, h2, h3⟩
 | (i, x) :: parts, [], _, _, _, h0, _, _, _, _ => by simp at h0
 | (i, x) :: parts, (i', v) :: cparts, cells, out, arr, h0, h1, h2, h3, h => by
  simp only [List.map_cons, List.cons.injEq] at h0
  obtain ⟨rfl, h0⟩ := h0
  simp only [List.map_cons, VRs] at h1
  obtain ⟨v', r, e, hx, hr⟩ := h1
  cases e
  simp only [qao] at h
  split at h
  ·rename_i off size vs e1 e2
   split at h
   ·rename_i hc
    obtain ⟨k1, k2⟩ := qcv hx e2
    have kl := VRs.length k1
    have hl := VRs.length h2
    simp only [Array.length_toList] at kl hl
    obtain ⟨p1, p2⟩ := qqq off vs v.cells.toList 0 cells arr k1 k2 h2 h3
    obtain ⟨arr', f1, f2, f3⟩ := qjc place fs hp parts cparts _ _ _ h0 hr p1 p2 h
    refine ⟨arr', ?_, f2, f3⟩
    simp only [Instr.fill, hp, e1]
    rw [if_neg (by simp; omega)]
    rw [← f1]
    congr 1
    rw [← Array.foldl_toList, Array.toList_zipIdx]
   ·cases h
  ·cases h

end Go.V

/- Each operation of the interpreter is the model's. -/
namespace Go.V

theorem qnf {P : Program} {w : World} {ty : TypeId → Option TI} (hty : ∀ t x, ty t = some x → tiOf P t = some x) : ∀ (fs : List Field) (sz : List (Nat × Nat)), qar ty (fs.map fun f => (f.offset, f.type)) = some sz →
  (fs.mapM (m := Sem) fun f => do pure (f.offset, ← sizeOf f.type)).run P w = .ok sz w
 | [], sz, h => by simp [qar] at h; subst h; rfl
 | f :: fs, sz, h => by
  simp only [List.map_cons, qar] at h
  split at h
  ·rename_i x xs h1 h2
   cases h
   obtain ⟨inf, u, hi, hu, _, hsz, _⟩ := qah (hty _ _ h1)
   have ih := qnf (w := w) hty fs xs h2
   simp only [List.mapM_cons, Sem.run_bind, qbn hi, Result.andThen_ok, Sem.run_pure, ih, hsz]
  ·cases h

theorem qtu {P : Program} {ty : TypeId → Option TI} (hty : ∀ t x, ty t = some x → tiOf P t = some x) {g : G} {w : World} {t : TypeId} {parts : List (Nat × V)} {cparts : Array (Nat × Value)} {v : V}
  (h0 : cparts.toList.map (·.1) = parts.map (·.1)) (h1 : VRs g (parts.map (·.2)) (cparts.toList.map (·.2))) (h : qbz ty t parts = some v) :
  ∃ cv, (Instr.build t cparts).run P w = .ok cv w ∧ VR g v cv := by
 unfold qbz at h
 split at h
 rotate_left
 ·cases h
 rename_i i hti
 split at h
 rotate_left
 ·cases h
 rename_i fs hsh
 split at h
 rotate_left
 ·cases h
 rename_i sz z hsz hz
 obtain ⟨inf, u, hi, hu, _, _, _, _, hsh', _⟩ := qah (hty _ _ hti)
 rw [hsh'] at hsh
 obtain ⟨fa, rfl, rfl⟩ := qfx hsh
 obtain ⟨inf', zv, hi', hzv, z1, z2⟩ := qaz (hty _ _ hti) g hz
 rw [hi] at hi'; cases hi'
 cases hf : qao sz z parts with
 | none => simp [hf] at h
 | some out =>
  simp [hf] at h; subst h
  have hm : (fa.mapM (m := Sem) fun f => do pure (f.offset, ← sizeOf f.type)).run P w = .ok sz.toArray w := by
   rw [← Array.toArray_toList (xs := fa), List.mapM_toArray]
   simp only [Sem.run_map, qnf hty fa.toList sz hsz, Result.andThen_ok]
  obtain ⟨arr', f1, f2, f3⟩ := qjc (fun i => sz.toArray[i]?) sz (fun i => by simp) parts cparts.toList z out zv.cells h0 h1 z1 z2 hf
  refine ⟨.agg arr', ?_, qpd f2 f3⟩
  simp only [Instr.build, Sem.run_bind, qde hi hzv, Result.andThen_ok, qan hu, hm, f1, Sem.run_pure]

theorem qon (p q : Nat → Option (Nat × Nat)) : ∀ (parts : List (Nat × Value)) (cells : Array Value), (∀ x ∈ parts, p x.1 = q x.1) → Instr.fill p cells parts = Instr.fill q cells parts
 | [], cells, _ => rfl
 | (i, v) :: r, cells, h => by
  have h1 := h (i, v) (by simp)
  simp only at h1
  simp only [Instr.fill, h1]
  cases q i with
  | none => rfl
  | some x =>
   obtain ⟨off, size⟩ := x
   simp only
   rw [qon p q r _ (fun x hx => h x (by simp [hx]))]

theorem qkm {P : Program} {ty : TypeId → Option TI} (hty : ∀ t x, ty t = some x → tiOf P t = some x) {g : G} {w : World} {t : TypeId} {len k : Nat} {parts : List (Nat × V)} {cparts : Array (Nat × Value)} {cs : List V}
  (h0 : cparts.toList.map (·.1) = parts.map (·.1)) (h1 : VRs g (parts.map (·.2)) (cparts.toList.map (·.2))) (h : qaa ty t len parts = some (k, cs)) :
  ∃ e arr, 0 < k ∧ cs.length = len * k ∧ (Instr.buildSlice t len cparts).run P w = .ok (.slice (some ⟨w.heap.size, 0, none⟩) len len) { w with heap := w.heap.push (.cells arr e) } ∧ VRs g cs arr.toList ∧ arr.toList.all Value.oneCell' = true := by
 unfold qaa at h
 split at h
 rotate_left
 ·cases h
 rename_i i hti
 split at h
 rotate_left
 ·cases h
 rename_i e hsh
 split at h
 rotate_left
 ·cases h
 rename_i x hx
 split at h
 ·cases h
 rename_i hsize
 obtain ⟨inf, u, hi, hu, _, _, _, _, hsh', _⟩ := qah (hty _ _ hti)
 rw [hsh'] at hsh
 have hue := qba hsh
 subst hue
 obtain ⟨infe, ue, hie, hue, _, hsz, _⟩ := qah (hty _ _ hx)
 have hk : 0 < x.size := by omega
 split at h
 ·rename_i hlen
  subst hlen
  split at h
  ·rename_i hp
   cases h
   have hp' : parts = [] := by simpa using hp
   subst hp'
   have hc : cparts.toList = [] := by simpa using h0
   refine ⟨e, #[], hk, by simp, ?_, by simp [VRs], by simp⟩
   simp [Instr.buildSlice, qan hu, qbn hie, hc, Instr.fill, newRow]
   rw [Array.eq_empty_of_size_eq_zero (xs := Array.map (fun _ => default) (Array.range 0)) (by simp)]
  ·cases h
 ·rename_i hlen
  split at h
  rotate_left
  ·cases h
  rename_i z hz
  split at h
  rotate_left
  ·cases h
  rename_i hzl
  cases hf : qao ((List.range len).map fun i => (i * x.size, x.size)) (qab z len) parts with
  | none => simp [hf] at h
  | some out =>
   simp [hf] at h
   obtain ⟨rfl, rfl⟩ := h
   obtain ⟨inf', zv, hi', hzv, z1, z2⟩ := qaz (hty _ _ hx) g hz
   rw [hie] at hi'; cases hi'
   obtain ⟨r1, r2⟩ := qdb z1 z2 len
   have hzv' : zv.cells.toList.length = x.size := by rw [← VRs.length z1]; exact hzl
   rw [hzv'] at r1 r2
   have hzv2 : zv.cells.size = x.size := by simpa using hzv'
   have earr : ((Array.range (len * infe.size)).map (fun i => zv.cells[i % zv.cells.size]!)).toList = (List.range (len * x.size)).map fun i => zv.cells.toList[i % x.size]! := by
    rw [hzv2, ← hsz]
    simp
    intro a _
    rw [getElem!_def]
    cases zv.cells[a % x.size]? <;> rfl
   have hbound : ∀ p ∈ cparts.toList, p.1 < len := by
    have key : ∀ (ps : List (Nat × V)) (cells o : List V), qao ((List.range len).map fun i => (i * x.size, x.size)) cells ps = some o → ∀ i ∈ ps.map (·.1), i < len := by
     intro ps
     induction ps with
     | nil => intro _ _ _ i hi; simp at hi
     | cons p ps ih =>
      intro cells o hfl i hi
      obtain ⟨j, vv⟩ := p
      simp only [qao] at hfl
      split at hfl
      ·rename_i off size vs e1 e2
       split at hfl
       ·simp only [List.map_cons, List.mem_cons] at hi
        rcases hi with rfl | hi
        ·rcases Nat.lt_or_ge i len with h' | h'
         ·exact h'
         ·simp [h'] at e1
        ·exact ih _ _ hfl i hi
       ·cases hfl
      ·cases hfl
    intro p hp
    refine key parts _ _ hf p.1 ?_
    rw [← h0]
    exact List.mem_map_of_mem hp
   obtain ⟨arr', f1, f2, f3⟩ := qjc (fun i => ((List.range len).map fun i => (i * x.size, x.size))[i]?) _ (fun i => rfl) parts cparts.toList (qab z len) out ((Array.range (len * infe.size)).map (fun i => zv.cells[i % zv.cells.size]!)) h0 h1
    (by rw [earr]; exact r1) (by rw [earr]; exact r2) hf
   have hfl : ∀ (ps : List (Nat × V)) (cells o : List V), qao ((List.range len).map fun i => (i * x.size, x.size)) cells ps = some o → o.length = cells.length := by
    intro ps
    induction ps with
    | nil => intro cells o hh; simp [qao] at hh; rw [hh]
    | cons p ps ih =>
     intro cells o hh
     obtain ⟨j, vv⟩ := p
     simp only [qao] at hh
     split at hh
     ·split at hh
      ·rw [ih _ _ hh, qbw]
      ·cases hh
     ·cases hh
   refine ⟨e, arr', hk, ?_, ?_, f2, f3⟩
   ·rw [hfl _ _ _ hf, VRs.length r1]; simp
   ·have hlz : ¬ len * infe.size = 0 := by
     rw [← hsz]; exact Nat.mul_ne_zero hlen (by omega)
    have hcong : Instr.fill (fun i => some (i * infe.size, infe.size)) ((Array.range (len * infe.size)).map (fun i => zv.cells[i % zv.cells.size]!)) cparts.toList = some arr' := by
     rw [← f1]
     refine qon _ _ _ _ fun p hp => ?_
     have := hbound p hp
     simp [this, hsz]
    have hbig : ¬ len * infe.size > 2 ^ 24 := by rw [← hsz]; omega
    simp only [Instr.buildSlice, Sem.run_bind, qan hu, Result.andThen_ok, qbn hie, Sem.run_ite, hbig, if_false, hlz, qde hie hzv, Sem.run_pure, hcong, newRow, run_newObj]

end Go.V

/- Maps; numbers, strings, bools by operators. -/
namespace Go.V

theorem qot {kd : TypeDesc} {k : T} (h : qjs (shapeOf kd) k = true) : (∃ kk, kd = .int kk ∧ ∃ j n, k = .int j n) ∨ (kd = .string ∧ ∃ s, k = .str s) ∨ (kd = .bool ∧ ∃ b, k = .bool b) := by
 cases kd <;> simp only [shapeOf, qjs] at h <;> cases k <;> simp_all [qjs]

theorem qdv {kd : TypeDesc} {a b : T} {x y : Value} {r : Bool} {fz : Nat → Nat → Option Value} (h : qex (shapeOf kd) a b = some r) (ha : TR fz a x) (hb : TR fz b y) :
  Instr.sameNow kd x y = some r ∧ (r = true → Instr.sameBits 10000 y x = true) := by
 cases kd <;> simp only [shapeOf] at h <;> cases a <;> cases b <;> simp only [qex, Option.some.injEq, reduceCtorEq] at h <;> simp only [TR] at ha hb
 case int.int.int =>
  split at h
  ·cases h
   rename_i hkk
   subst ha hb hkk
   simp [Instr.sameNow, Instr.sameBits]
   intro h; exact h.symm
  ·cases h
 case string.str.str =>
  obtain ⟨s1, rfl, rfl⟩ := ha
  obtain ⟨s2, rfl, rfl⟩ := hb
  subst h
  refine ⟨by simp [Instr.sameNow, qjb], fun hh => ?_⟩
  rw [eqL_eq] at hh
  have : eqL (bytes s2) (bytes s1) = true := by rw [eqL_eq, hh]
  rw [qjb] at this
  simpa [Instr.sameBits] using this
 case bool.bool.bool =>
  subst ha hb h
  simp [Instr.sameNow, Instr.sameBits]
  intro h; exact h.symm

theorem qhz {kd : TypeDesc} {g : G} {k : T} {ck : Value} (hk : TR g.fz k ck) : ∀ (es : List (T × V)) (l : List MapEntry) (i : Nat) (r : Option V), EntsR g es l → findKey (shapeOf kd) k es = some r →
  ∃ cr, Instr.findNow kd ck l i = some cr ∧ (match r, cr with
    | some v, some (_, cv) => VR g v cv
    | none, none => True
    | _, _ => False)
 | [], l, i, r, h, hf => by
  simp only [EntsR] at h; subst h
  simp [findKey] at hf; subst hf
  exact ⟨none, rfl, trivial⟩
 | (k', v) :: es, l, i, r, h, hf => by
  simp only [EntsR] at h
  obtain ⟨e, rest, rfl, h1, h2, h3⟩ := h
  simp only [findKey] at hf
  split at hf
  ·rename_i hq
   cases hf
   have := (qdv hq hk h1).1
   exact ⟨some (i, e.val), by simp [Instr.findNow, this], h2⟩
  ·rename_i hq
   have := (qdv hq hk h1).1
   obtain ⟨cr, q1, q2⟩ := qhz hk es rest (i + 1) r h3 hf
   exact ⟨cr, by simp [Instr.findNow, this, q1], q2⟩
  ·cases hf

theorem qjy {kd : TypeDesc} {g : G} {k : T} {ck : Value} {v : V} {cv : Value} (hk : TR g.fz k ck) (hv : VR g v cv) : ∀ (es es' : List (T × V)) (l : List MapEntry) (i : Nat), EntsR g es l → qfp (shapeOf kd) k v es = some es' →
  (∃ j u, Instr.findNow kd ck l i = some (some (i + j, u)) ∧ (∃ e, l[j]? = some e ∧ Instr.sameBits 10000 e.key ck = true) ∧ EntsR g es' (l.modify j fun e => { e with key := ck, val := cv })) ∨
  (Instr.findNow kd ck l i = some none ∧ ∀ born, EntsR g es' (l ++ [{ key := ck, val := cv, born := born }]))
 | [], es', l, i, h, hf => by
  simp only [EntsR] at h; subst h
  simp [qfp] at hf; subst hf
  right
  refine ⟨rfl, fun born => ?_⟩
  simp only [EntsR, List.nil_append]
  exact ⟨_, _, rfl, hk, hv, rfl⟩
 | (k', u) :: es, es', l, i, h, hf => by
  simp only [EntsR] at h
  obtain ⟨e, rest, rfl, h1, h2, h3⟩ := h
  simp only [qfp] at hf
  split at hf
  ·rename_i hq
   cases hf
   have := qdv hq hk h1
   left
   refine ⟨0, e.val, by simp [Instr.findNow, this.1], ⟨e, rfl, this.2 rfl⟩, ?_⟩
   simp only [List.modify_cons, if_true, EntsR]
   exact ⟨_, _, rfl, hk, hv, h3⟩
  ·rename_i hq
   have hs := (qdv hq hk h1).1
   cases hr : qfp (shapeOf kd) k v es with
   | none => simp [hr] at hf
   | some es2 =>
    simp [hr] at hf; subst hf
    rcases qjy hk hv es es2 rest (i + 1) h3 hr with ⟨j, u', q1, ⟨e', q2, q3⟩, q4⟩ | ⟨q1, q2⟩
    ·left
     refine ⟨j + 1, u', by simp [Instr.findNow, hs, q1]; omega, ⟨e', by simpa using q2, q3⟩, ?_⟩
     simp only [List.modify_succ_cons, EntsR]
     exact ⟨_, _, rfl, h1, h2, q4⟩
    ·right
     refine ⟨by simp [Instr.findNow, hs, q1], fun born => ?_⟩
     simp only [List.cons_append, EntsR]
     exact ⟨_, _, rfl, h1, h2, q2 born⟩
  ·cases hf

theorem Inv.updateMap {g : G} {σ : Store} {w : World} (I : Inv g σ w) {loc B : Nat} {es es' : List (T × V)} {ents : Array MapEntry} (clock : Nat) (hx : σ[loc]? = some (.map es)) (hB : g.mp loc = some B) (hE : EntsR g es' ents.toList)
  {ents0 : Array MapEntry} {clock0 : Nat} (h0 : w.heap[B]? = some (.map ents0 clock0)) :
  Inv g (σ.set loc (.map es')) { w with heap := w.heap.setIfInBounds B (.map ents clock) } ∧ Step g w g { w with heap := w.heap.setIfInBounds B (.map ents clock) } := by
 have hBlt := lt_of_some h0
 have hloc : loc < σ.length := by
  rcases Nat.lt_or_ge loc σ.length with h | h
  ·exact h
  ·rw [List.getElem?_eq_none h] at hx; cases hx
 have other : ∀ l, l ≠ loc → (σ.set loc (.map es'))[l]? = σ[l]? := fun l h => by
  rw [List.getElem?_set]; rw [if_neg (Ne.symm h)]
 have here : (σ.set loc (.map es'))[loc]? = some (.map es') := by simp [hloc]
 have hold : ∀ b, b ≠ B → (w.heap.setIfInBounds B (.map ents clock))[b]? = w.heap[b]? := fun b hb => by
  rw [Array.getElem?_setIfInBounds]; rw [if_neg (Ne.symm hb)]
 have hnew : (w.heap.setIfInBounds B (.map ents clock))[B]? = some (.map ents clock) := by
  rw [Array.getElem?_setIfInBounds]; simp [hBlt]
 have cellsNe : ∀ b arr elem fr, w.heap[b]? = some (.cells arr elem fr) → b ≠ B := fun b arr elem fr h e => by subst e; rw [h0] at h; cases h
 have ne : ∀ (l : Nat) (c : List V × Nat × Nat), (σ.set loc (.map es'))[l]? = some (.cells c.1 c.2.1 c.2.2) → l ≠ loc := fun l c h e => by subst e; rw [here] at h; cases h
 refine ⟨⟨by rw [I.len]; simp, ?_, ?_, ?_, ?_, ?_, ?_, ?_, I.sep, I.sepm⟩, ?_⟩
 ·intro b o v hv
  have h1 := I.fz _ _ _ hv
  have hb : b ≠ B := fun e => by subst e; simp [World.cell?, h0] at h1
  rw [qjm (w' := { w with heap := w.heap.setIfInBounds B (.map ents clock) }) (hold b hb)]; exact h1
 ·intro l c1 g1 w1 hl
  have := ne l (c1, g1, w1) hl
  rw [other l this] at hl
  exact I.cur _ _ _ _ hl
 ·intro l c1 g1 w1 hl
  have := ne l (c1, g1, w1) hl
  rw [other l this] at hl
  obtain ⟨B', arr, elem, fr, h1, h2, h3, h4⟩ := I.tip _ _ _ _ hl
  exact ⟨B', arr, elem, fr, h1, h2, (hold B' (cellsNe _ _ _ _ h3)).trans h3, h4⟩
 ·intro l c1 g1 w1 h hl hw hg
  have := ne l (c1, g1, w1) hl
  rw [other l this] at hl
  obtain ⟨B', arr, elem, fr, h1, h2, h3⟩ := I.old _ _ _ _ _ hl hw hg
  exact ⟨B', arr, elem, fr, h1, (hold B' (cellsNe _ _ _ _ h2)).trans h2, h3⟩
 ·intro l h B' hl hm
  obtain ⟨c1, g1, w1, e, h1⟩ := I.muc _ _ _ hl hm
  have : l ≠ loc := fun ee => by subst ee; rw [hx] at e; cases e
  exact ⟨c1, g1, w1, by rw [other l this]; exact e, h1⟩
 ·intro l es2 hl
  by_cases e : l = loc
  ·subst e; rw [here] at hl; cases hl
   exact ⟨B, ents, clock, hB, hnew, hE⟩
  ·rw [other l e] at hl
   obtain ⟨B', ents', clock', h1, h2, h3⟩ := I.map _ _ hl
   refine ⟨B', ents', clock', h1, ?_, h3⟩
   have hl' : l < g.n := by
    rw [I.len]
    rcases Nat.lt_or_ge l σ.length with h | h
    ·exact h
    ·rw [List.getElem?_eq_none h] at hl; cases hl
   rw [← h2]
   exact hold B' (fun ee => by subst ee; exact e (I.sepm _ _ _ hl' (by rw [I.len]; exact hloc) h1 hB))
 ·intro l B' hl hm
  obtain ⟨es2, e⟩ := I.mpc _ _ hl hm
  by_cases ee : l = loc
  ·subst ee; exact ⟨es', here⟩
  ·exact ⟨es2, by rw [other l ee]; exact e⟩
 ·refine ⟨G.Le.refl g, ⟨by simp, fun b _ hn => hold b (fun e => ?_), rfl, rfl, rfl⟩, fun _ _ h1 h2 _ => ⟨h1, h2⟩, fun _ h _ h1 h2 _ => ⟨h1, h, h2⟩, fun _ _ _ h _ => h⟩
  have := (hn loc (by rw [I.len]; exact hloc)).2
  rw [hB] at this
  exact this (by rw [e])

theorem qis {u : TypeDesc} {k e : TypeId} (h : shapeOf u = .map k e) : u = .map k e := by
 cases u <;> simp [shapeOf] at h; obtain ⟨rfl, rfl⟩ := h; rfl

theorem qkj {P : Program} {w : World} {b : Bool} {kt : TypeId} {kd : TypeDesc} (hu : P.underlying kt = some kd) (hk : (∃ kk, kd = .int kk) ∨ kd = .string ∨ kd = .bool) (v : Value) (n : Nat) : (Instr.checkKey b (n + 1) kt v).run P w = .ok () w := by
 rcases hk with ⟨kk, rfl⟩ | rfl | rfl <;> simp [Instr.checkKey, qan hu]

theorem qhh {P : Program} {w : World} {kt : TypeId} {kd : TypeDesc} (hu : P.underlying kt = some kd) {ck : Value} {l : List MapEntry} {r : Option (Nat × Value)} (h : Instr.findNow kd ck l 0 = some r) :
  (Instr.findKey kt ck l).run P w = .ok r w := by
 simp [Instr.findKey, qan hu, h]

theorem qkf {P : Program} {t kt et : TypeId} {tk te : TI} (hu : P.underlying t = some (.map kt et)) (hk : tiOf P kt = some tk) (he : tiOf P et = some te) {g : G} {σ : Store} {w : World} (I : Inv g σ w) {loc : Nat} {es : List (T × V)} {cm ck : Value} {k : T} {r : Option V}
  (hm : VR g (.mp loc) cm) (hs : σ[loc]? = some (.map es)) (hkr : TR g.fz k ck) (hok : qjs tk.shape k = true) (hf : findKey tk.shape k es = some r) (ok : Bool) :
  (∀ v, r = some v → ∃ cv, (Instr.lookup t cm ck ok).run P w = .ok (if ok then .tuple #[cv, .bool true] else cv) w ∧ VR g v cv) ∧
  (r = none → ∀ z, te.zero = some z → ∃ cv, (Instr.lookup t cm ck ok).run P w = .ok (if ok then .tuple #[cv, .bool false] else cv) w ∧ TR g.fz z cv) := by
 obtain ⟨_, kd, _, hku, _, _, _, _, hsh, _⟩ := qah hk
 obtain ⟨inf, ud, hei, heu, _, _, _, hze, _⟩ := qah he
 rw [hsh] at hok hf
 obtain ⟨B, ents, clock, h1, h2, h3⟩ := I.map _ _ hs
 simp only [VR] at hm
 obtain ⟨_, B', rfl, hB⟩ := hm
 obtain rfl := hB B h1
 obtain ⟨cr, f1, f2⟩ := qhz hkr es ents.toList 0 r h3 hf
 have hkd : (∃ kk, kd = .int kk) ∨ kd = .string ∨ kd = .bool := by
  rcases qot hok with ⟨kk, h, _⟩ | ⟨h, _⟩ | ⟨h, _⟩
  ·exact .inl ⟨kk, h⟩
  ·exact .inr (.inl h)
  ·exact .inr (.inr h)
 have hget : (getObj B').run P w = .ok (.map ents clock) w := by simp [getObj, Sem.run, h2]
 have hck := fun b => qkj (P := P) (w := w) (b := b) hku hkd ck 9999
 have hfk := qhh (P := P) (w := w) hku f1
 constructor
 ·rintro v rfl
  cases cr with
  | none => simp at f2
  | some p =>
   obtain ⟨j, cv⟩ := p
   refine ⟨cv, ?_, f2⟩
   simp only [Instr.lookup, Sem.run_bind, qan hu, Result.andThen_ok, hget, Sem.run_pure, hck, hfk]
 ·rintro rfl z hz
  cases cr with
  | some p => simp at f2
  | none =>
   rw [hze] at hz
   cases hzv : inf.zero with
   | none => simp [hzv] at hz
   | some zv =>
    simp [hzv] at hz
    refine ⟨zv, ?_, qkx hz⟩
    simp only [Instr.lookup, Sem.run_bind, qan hu, Result.andThen_ok, hget, Sem.run_pure, hck, hfk, qde hei hzv]

theorem qms {P : Program} {t kt et : TypeId} {tk : TI} (hu : P.underlying t = some (.map kt et)) (hk : tiOf P kt = some tk) {g : G} {σ : Store} {w : World} (I : Inv g σ w) {loc : Nat} {es es' : List (T × V)} {cm ck cv : Value} {k : T} {v : V}
  (hm : VR g (.mp loc) cm) (hs : σ[loc]? = some (.map es)) (hkr : TR g.fz k ck) (hv : VR g v cv) (hok : qjs tk.shape k = true) (hf : qfp tk.shape k v es = some es') :
  ∃ w', (Instr.mapUpdate t cm ck cv).run P w = .ok () w' ∧ Inv g (σ.set loc (.map es')) w' ∧ Step g w g w' := by
 obtain ⟨_, kd, _, hku, _, _, _, _, hsh, _⟩ := qah hk
 rw [hsh] at hok hf
 obtain ⟨B, ents, clock, h1, h2, h3⟩ := I.map _ _ hs
 simp only [VR] at hm
 obtain ⟨_, B', rfl, hB⟩ := hm
 obtain rfl := hB B h1
 have hkd : (∃ kk, kd = .int kk) ∨ kd = .string ∨ kd = .bool := by
  rcases qot hok with ⟨kk, h, _⟩ | ⟨h, _⟩ | ⟨h, _⟩
  ·exact .inl ⟨kk, h⟩
  ·exact .inr (.inl h)
  ·exact .inr (.inr h)
 have hget : (getObj B').run P w = .ok (.map ents clock) w := by simp [getObj, Sem.run, h2]
 have hck := qkj (P := P) (w := w) (b := false) hku hkd ck 9999
 have hset : ∀ ents' clock', (setObj B' (.map ents' clock')).run P w = .ok () { w with heap := w.heap.setIfInBounds B' (.map ents' clock') } := fun ents' clock' => by simp [setObj, Sem.run, h2]
 rcases qjy hkr hv es es' ents.toList 0 h3 hf with ⟨j, u, q1, ⟨e, q2, q3⟩, q4⟩ | ⟨q1, q2⟩
 ·have hfk := qhh (P := P) (w := w) hku q1
  simp only [Nat.zero_add] at hfk
  refine ⟨_, ?_, I.updateMap (ents := ents.modify j fun e => { e with key := ck, val := cv }) clock hs h1 (by rw [Array.toList_modify]; exact q4) h2⟩
  simp only [Array.getElem?_toList] at q2
  simp only [Instr.mapUpdate, Sem.run_bind, qan hu, Result.andThen_ok, hget, hck, hfk, q2, Option.map_some, Option.getD_some, Instr.keyThatStays, q3, if_true, Sem.run_pure, hset]
 ·have hfk := qhh (P := P) (w := w) hku q1
  refine ⟨_, ?_, I.updateMap (ents := ents.push { key := ck, val := cv, born := clock }) (clock + 1) hs h1 (by rw [Array.toList_push]; exact q2 clock) h2⟩
  simp only [Instr.mapUpdate, Sem.run_bind, qan hu, Result.andThen_ok, hget, hck, hfk, hset]

end Go.V

/- Operators and conversions. -/
namespace Go.V

theorem qxn {u : TypeDesc} (h : shapeOf u = .bool) : u = .bool := by cases u <;> simp [shapeOf] at h; rfl
theorem qeg {u : TypeDesc} (h : shapeOf u = .str) : u = .string := by cases u <;> simp [shapeOf] at h; rfl
theorem qii {u : TypeDesc} {k : IntKind} (h : shapeOf u = .int k) : u = .int k := by cases u <;> simp [shapeOf] at h; subst h; rfl

/-- What a comparison's guard and comparison come to. -/
theorem qnz {P : Program} {ty : TypeId → Option TI} (hty : ∀ t x, ty t = some x → tiOf P t = some x) {g : G} {w : World} {t : TypeId} {x y : V} {cx cy : Value} {r : Bool} (hx : VR g x cx) (hy : VR g y cy) (h : eqOp ty t x y = some r) (ox oy : Operand) :
  (eqGuard .eql t ox oy cx cy).run P w = .ok () w ∧ (eqGuard .neq t ox oy cx cy).run P w = .ok () w ∧ (Op.equal t cx cy).run P w = .ok r w ∧
  (∀ k n, cx ≠ .int k n) ∧ (∀ s, cx ≠ .string s) ∧ (∀ k b, cx ≠ .float k b) ∧ (∀ k a b, cx ≠ .complex k a b) := by
 unfold eqOp at h
 split at h
 ·cases h
 rename_i ti hti
 obtain ⟨_, u, _, hu, _, _, _, _, hsh, heq⟩ := qah (hty _ _ hti)
 split at h
 ·rename_i a b hs
  simp only [Option.some.injEq] at h; subst h
  rw [hsh] at hs
  have := qxn hs
  subst this
  simp only [VR, TR] at hx hy
  subst hx hy
  refine ⟨by simp [eqGuard], by simp [eqGuard], ?_, by simp, by simp, by simp, by simp⟩
  exact run_equalIn_bool' w 9999 t a b hu
 ·rename_i fs xs ys hs
  split at h
  rotate_left
  ·cases h
  rename_i he
  rw [hsh] at hs
  obtain ⟨fa, rfl, rfl⟩ := qfx hs
  rw [heq] at he
  obtain ⟨e1, e2, e3⟩ := qyn he
  simp only [VR, TR] at hx hy
  obtain ⟨ax, rfl, hx1, _⟩ := hx
  obtain ⟨ay, rfl, hy1, _⟩ := hy
  have hf : P.fieldsOf t = fa := by simp [Program.fieldsOf, hu]
  have hq := qhb (P := P) (w := w) (d := 9998) hty hx1 hy1 fa.toList r h e3
  refine ⟨run_eqGuard_agg w _ _ _ _ _ _ e2, run_eqGuard_agg w _ _ _ _ _ _ e2, ?_, by simp, by simp, by simp, by simp⟩
  have := run_equalIn_struct (P := P) w 9999 t ax ay (by rw [hf]; exact hu) e1
  rw [hf] at this
  rw [Op.equal, Op.maxDepth, this]
  exact hq
 ·rename_i e hs
  rw [hsh] at hs
  have := qba hs
  subst this
  simp only [VR, TR] at hx
  subst hx
  obtain ⟨⟨b, n, c, rfl⟩, q1, q2⟩ := qlp (P := P) (w := w) (d := 9999) hu h hy
  exact ⟨by simp [eqGuard], by simp [eqGuard], q1, by simp, by simp, by simp, by simp⟩
 ·rename_i e hs _
  rw [hsh] at hs
  have := qba hs
  subst this
  simp only [VR, TR] at hy
  subst hy
  obtain ⟨⟨b, n, c, rfl⟩, q1, q2⟩ := qlp (P := P) (w := w) (d := 9999) hu h hx
  exact ⟨by simp [eqGuard], by simp [eqGuard], q2, by simp, by simp, by simp, by simp⟩
 ·cases h

theorem qhf {P : Program} {w : World} (op : BinOp) (t : TypeId) (ox oy : Operand) (k k' : IntKind) (a b : Int) : (eqGuard op t ox oy (.int k a) (.int k' b)).run P w = .ok () w := by
 cases op <;> simp [eqGuard]
theorem qur {P : Program} {w : World} (op : BinOp) (t : TypeId) (ox oy : Operand) (a b : ByteArray) : (eqGuard op t ox oy (.string a) (.string b)).run P w = .ok () w := by
 cases op <;> simp [eqGuard]

theorem q1h {P : Program} {w : World} (op : BinOp) (t : TypeId) (a b : ByteArray) : (binOp op t (.string a) (.string b)).run P w = (Op.stringOp op a b).run P w := by
 cases op <;> simp [binOp]

theorem q2i {P : Program} {ty : TypeId → Option TI} (hty : ∀ t x, ty t = some x → tiOf P t = some x) {g : G} {w : World} {op : BinOp} {t : TypeId} {x y : V} {cx cy : Value} {r : T} (hx : VR g x cx) (hy : VR g y cy) (h : binV ty op t x y = some r) (ox oy : Operand) :
  ∃ cv, (do eqGuard op t ox oy cx cy; binOp op t cx cy : Sem Value).run P w = .ok cv w ∧ TR g.fz r cv := by
 unfold binV at h
 split at h
 ·simp only [VR, TR] at hx hy
  subst hx hy
  split at h
  ·cases h
  ·rename_i hb
   cases h
   refine ⟨_, ?_, by simp only [TR]; rfl⟩
   simp only [Sem.run_bind, qhf, Result.andThen_ok, (qli (P := P) (w := w) t hb).1]
 ·simp only [VR, TR] at hx hy
  subst hx hy
  split at h
  ·cases h
  ·rename_i hb
   cases h
   refine ⟨_, ?_, by simp only [TR]; rfl⟩
   simp only [Sem.run_bind, qhf, Result.andThen_ok, (qli (P := P) (w := w) t hb).2]
 ·rename_i k a k' b hn1 hn2
  simp only [VR, TR] at hx hy
  subst hx hy
  split at h
  ·rename_i hk
   subst hk
   obtain ⟨cv, r1, r2⟩ := qrf (P := P) (w := w) t g.fz hn1 hn2 h
   exact ⟨cv, by simp only [Sem.run_bind, qhf, Result.andThen_ok, r1], r2⟩
  ·cases h
 ·simp only [VR, TR] at hx hy
  obtain ⟨a, rfl, rfl⟩ := hx
  obtain ⟨b, rfl, rfl⟩ := hy
  obtain ⟨cv, r1, r2⟩ := qqt (P := P) (w := w) g.fz h
  exact ⟨cv, by simp only [Sem.run_bind, qur, Result.andThen_ok, q1h, r1], r2⟩
 ·cases he : eqOp ty t x y with
  | none => simp [he] at h
  | some b =>
   simp [he] at h; subst h
   obtain ⟨q1, q2, q3, n1, n2, n3, n4⟩ := qnz (w := w) hty hx hy he ox oy
   refine ⟨.bool b, ?_, by simp only [TR]⟩
   simp only [Sem.run_bind, q1, Result.andThen_ok]
   have : (binOp .eql t cx cy) = (do pure (.bool (← Op.equal t cx cy))) := by
    unfold binOp
    split <;> simp_all
   rw [this]
   simp [q3]
 ·cases he : eqOp ty t x y with
  | none => simp [he] at h
  | some b =>
   simp [he] at h; subst h
   obtain ⟨q1, q2, q3, n1, n2, n3, n4⟩ := qnz (w := w) hty hx hy he ox oy
   refine ⟨.bool (!b), ?_, by simp only [TR]⟩
   simp only [Sem.run_bind, q2, Result.andThen_ok]
   have : (binOp .neq t cx cy) = (do pure (.bool (!(← Op.equal t cx cy)))) := by
    unfold binOp
    split <;> simp_all
   rw [this]
   simp [q3]
 ·cases h

theorem un_sound {P : Program} {g : G} {w : World} {op : UnOp} {x : V} {cx : Value} {r : T} (hx : VR g x cx) (h : unV op x = some r) : ∃ cv, (Op.unary op cx).run P w = .ok cv w ∧ TR g.fz r cv := by
 unfold unV at h
 split at h
 ·cases h
  simp only [VR, TR] at hx; subst hx
  exact ⟨_, rfl, by simp only [TR]⟩
 ·cases h
  simp only [VR, TR] at hx; subst hx
  refine ⟨_, rfl, by simp only [TR]⟩
 ·cases h

theorem qtx (a : Array Go.Obj) (x : Go.Obj) (f : Go.Obj → Go.Obj) : (a.push x).modify a.size f = a.push (f x) := by
 apply Array.ext
 ·simp
 ·intro i h1 h2
  simp only [Array.getElem_modify, Array.getElem_push]
  by_cases h : a.size = i
  ·subst h; simp
  ·have hi : i < a.size := by simp at h1; omega
   simp [h, hi]

theorem qox (w : World) (e : TypeId) (s : ByteArray) : Lib.bytesWorld w e s =
  { w with heap := w.heap.push (.cells (Lib.bytesCells w e s) e ((Lib.bytesCells w e s).size, (Lib.bytesCells w e s).size + 1)), drawn := w.drawn + 1 } := by
 unfold Lib.bytesWorld World.freeze
 rw [if_neg (by decide)]
 show ({ (w.drew.alloc (.cells (Lib.bytesCells w e s) e)) with heap := (w.heap.push (.cells (Lib.bytesCells w e s) e)).modify w.heap.size _ } : World) = _
 rw [qtx]
 rfl

theorem qie {g : G} : ∀ {cs : List V} {l : List Value} {bs : List Nat}, VRs g cs l → qfq cs = some bs → ∃ ns : List Int, l = ns.map (Value.int .u8) ∧ bs = ns.map fun n => n.toNat % 256
 | [], l, bs, h, hb => by
  simp only [VRs] at h; subst h
  simp [qfq] at hb; subst hb
  exact ⟨[], rfl, rfl⟩
 | c :: cs, l, bs, h, hb => by
  simp only [VRs] at h
  obtain ⟨v, r, rfl, h1, h2⟩ := h
  unfold qfq at hb
  split at hb
  ·rename_i e; cases e
  ·rename_i n r' e
   cases e
   cases hq : qfq cs with
   | none => simp [hq] at hb
   | some bs' =>
    simp [hq] at hb; subst hb
    obtain ⟨ns, rfl, rfl⟩ := qie h2 hq
    simp only [VR, TR] at h1; subst h1
    exact ⟨n :: ns, rfl, rfl⟩
  ·cases hb

theorem qfl : ∀ (ns : List Int) (s : ByteArray), bytes (ns.foldl (fun r n => r.push (UInt8.ofNat n.toNat)) s) = bytes s ++ ns.map fun n => n.toNat % 256
 | [], s => by simp
 | n :: ns, s => by
  rw [List.foldl_cons, qfl ns]
  have : bytes (s.push (UInt8.ofNat n.toNat)) = bytes s ++ [n.toNat % 256] := by
   simp [bytes, ByteArray.push]
  rw [this]
  simp

theorem q3k {g : G} {σ : Store} {x : V} {cx : Value} {k n : Nat} {cs : List V} (hx : VR g x cx) (h : qaf σ k x = some (n, cs)) (hs : isStr x = false) : (cx = .slice none 0 0 ∧ n = 0) ∨ ∃ a c, cx = .slice (some a) n c := by
 cases x with
 | t y =>
  cases y <;> simp only [qaf, reduceCtorEq] at h
  case nils =>
   simp only [VR, TR] at hx
   simp at h
   exact .inl ⟨hx, h.1.symm⟩
  case str => simp [isStr] at hs
  case list rows =>
   simp only [VR, TR] at hx
   obtain ⟨a, c, _, rfl, _⟩ := hx
   cases hr : qag k rows with
   | none => simp [hr] at h
   | some z => simp [hr] at h; exact .inr ⟨a, c, by rw [h.1]⟩
 | sl loc gn off len k' =>
  simp only [VR] at hx
  obtain ⟨_, _, _, a, c, rfl, _⟩ := hx
  simp only [qaf] at h
  split at h
  ·split at h
   ·simp at h; exact .inr ⟨a, c, by rw [h.1]⟩
   ·cases h
  ·cases h
 | _ => simp [qaf] at h

theorem qyg {P : Program} {ty : TypeId → Option TI} (hty : ∀ t x, ty t = some x → tiOf P t = some x) {g : G} {σ σ' : Store} {w : World} (I : Inv g σ w) {src dst : TypeId} {x v : V} {cx : Value} (hx : VR g x cx) (h : qkl ty σ src dst x = some (v, σ')) :
  ∃ cv w' g', (convert src dst cx).run P w = .ok cv w' ∧ VR g' v cv ∧ Inv g' σ' w' ∧ Step g w g' w' := by
 unfold qkl at h
 split at h
 rotate_left
 ·cases h
 rename_i s d hs hd
 obtain ⟨_, us, _, hus, _, _, _, _, hss, _⟩ := qah (hty _ _ hs)
 obtain ⟨_, ud, _, hud, _, _, _, _, hsd, _⟩ := qah (hty _ _ hd)
 split at h
 ·rename_i k1 k2 k3 n e1 e2
  cases h
  rw [hss] at e1; rw [hsd] at e2
  have a1 := qii e1
  have a2 := qii e2
  subst a1 a2
  simp only [VR, TR] at hx; subst hx
  refine ⟨_, w, g, ?_, by simp only [VR, TR]; rfl, I, Step.refl g w⟩
  simp [convert, qan hus, qan hud, Conv.intToInt]
 ·rename_i l e1 e2
  cases h
  rw [hss] at e1; rw [hsd] at e2
  have a1 := qeg e1
  have a2 := qeg e2
  subst a1 a2
  have hx0 := hx
  simp only [VR, TR] at hx; obtain ⟨b, rfl, rfl⟩ := hx
  refine ⟨_, w, g, ?_, hx0, I, Step.refl g w⟩
  simp [convert, qan hus, qan hud]
 ·rename_i e l e1 e2
  rw [hss] at e1; rw [hsd] at e2
  have a1 := qeg e1
  have a2 := qba e2
  subst a1 a2
  split at h
  rotate_left
  ·cases h
  rename_i ag by_ ze eq hte
  split at h
  ·cases h
  rename_i hlim
  cases h
  obtain ⟨_, ue, _, hue, _, _, _, _, hse, _⟩ := qah (hty _ _ hte)
  have a3 := qii hse.symm
  subst a3
  simp only [VR, TR] at hx; obtain ⟨b, rfl, rfl⟩ := hx
  have hlim2 : b.size ≤ 9223372036854775807 := by
   rw [Bool.not_eq_false] at hlim
   have := Nat.le_of_ble_eq_true hlim
   rwa [qbb] at this
  have hrun := Lib.run_convert_string_bytes (P := P) w src dst e b hus hud hue
  rw [qox] at hrun
  have hge : b.size ≤ grownCap w b.size 0 e := by simp [grownCap, Question.cut]
  have hsize : (Lib.bytesCells w e b).size = grownCap w b.size 0 e := by
   simp only [Lib.bytesCells, Array.size_append, Array.size_map, Array.size_replicate]
   have : b.data.size = b.size := rfl
   omega
  obtain ⟨I', S'⟩ := I.pushCells1 ((bytes b).map fun (n : Nat) => V.t (.int .u8 n)) (Lib.bytesCells w e b) e ((Lib.bytesCells w e b).size, (Lib.bytesCells w e b).size + 1) (w.drawn + 1)
   (by rw [hsize]; simp [qbb]; exact hge) (fun o ho => by omega) (fun i c hc => by
    rw [List.getElem?_map] at hc
    have hbd : (bytes b)[i]? = (b.data[i]?).map UInt8.toNat := by simp [bytes]
    rw [hbd] at hc
    cases hz : b.data[i]? with
    | none => simp [hz] at hc
    | some u =>
     simp [hz] at hc; subst hc
     have hi : i < b.data.size := lt_of_some hz
     refine ⟨.int .u8 u.toNat, ?_, rfl, by simp only [VR, TR]⟩
     simp only [Lib.bytesCells]
     rw [Array.getElem?_append_left (by simpa using hi)]
     simp [hz])
  refine ⟨_, _, _, hrun, ?_, I', S'⟩
  rw [← I.len, qbb]
  exact qyy (by omega) (by simp [qbb]) hge (by rw [hsize]; omega) (qsu _ _ _ _ hlim2).2
 ·rename_i e e1 e2
  rw [hss] at e1; rw [hsd] at e2
  have a1 := qba e1
  have a2 := qeg e2
  subst a1 a2
  split at h
  ·cases h
  rename_i hstr
  split at h
  rotate_left
  ·cases h
  rename_i ag by_ ze eq hte
  split at h
  rotate_left
  ·cases h
  rename_i n cs hsrc
  obtain ⟨_, ue, _, hue, _, _, _, _, hse, _⟩ := qah (hty _ _ hte)
  have a3 := qii hse.symm
  subst a3
  cases hq : qfq cs with
  | none => simp [hq] at h
  | some bs =>
   simp [hq] at h
   obtain ⟨rfl, rfl⟩ := h
   obtain ⟨k1, k2, arr, k3, k4, k5⟩ := qed (P := P) I hx hsrc
   obtain ⟨ns, hns, rfl⟩ := qie k4 hq
   have harr : arr = (ns.map (Value.int .u8)).toArray := by rw [← hns]
   subst harr
   -- the source is a slice
   have shp := q3k hx hsrc (by simpa using hstr)
   refine ⟨.string (ns.foldl (fun r n => r.push (UInt8.ofNat n.toNat)) ByteArray.empty), w, g, ?_, ?_, I, Step.refl g w⟩
   ·rcases shp with ⟨rfl, rfl⟩ | ⟨a, c, rfl⟩
    ·rw [run_convert_bytes_string w src dst e _ _ _ hus hue hud]
     have : ns = [] := by
      have := VRs.length k4
      simp [k2] at this
      exact List.eq_nil_of_length_eq_zero this.symm
     subst this
     simp [Conv.bytesToString]
    ·rw [run_convert_bytes_string w src dst e _ _ _ hus hue hud]
     exact run_bytesToString w a n c ns (by simpa [Builtin.firstCells] using k3)
   ·simp only [VR, TR]
    exact ⟨_, rfl, by rw [qfl]; simp [bytes]⟩
 ·cases h

end Go.V

/- Every operation that is no call of a function. -/
namespace Go.V

theorem qel (k : Nat) : ∀ (n : Nat) (ts : List T), (chunk k n ts).length = n
 | 0, _ => rfl
 | n + 1, ts => by simp [chunk, qel k n]

theorem qgt {fz : Nat → Nat → Option Value} {b k : Nat} : ∀ (n : Nat) (ts : List T) (off : Nat), ts.length = n * k → TRcells fz b off ts → TRrows fz b k off (chunk k n ts)
 | 0, _, _, _, _ => by simp [chunk, TRrows]
 | n + 1, ts, off, hl, h => by
  rw [Nat.succ_mul] at hl
  simp only [chunk, TRrows]
  refine ⟨by simp; omega, ?_, qgt n _ _ (by simp; omega) h.drop⟩
  refine TRcells.of_get fun i x hx => ?_
  rw [List.getElem?_take] at hx
  split at hx
  ·exact TRcells.get h i x hx
  ·cases hx

theorem OpOk.of {P : Program} {g : G} {w : World} {s : Sem Value} {v : V} {σ' : Store} (h : ∃ cv w' g', s.run P w = .ok cv w' ∧ VR g' v cv ∧ Inv g' σ' w' ∧ Step g w g' w') : OpOk P g w (do pure (.value (← s))) v σ' := by
 obtain ⟨cv, w', g', h1, h2, h3, h4⟩ := h
 exact ⟨cv, w', g', .inl (by simp [h1]), h2, h3, h4⟩

theorem OpOk.same {P : Program} {g : G} {σ : Store} {w : World} (I : Inv g σ w) {s : Sem Value} {v : V} (h : ∃ cv, s.run P w = .ok cv w ∧ VR g v cv) : OpOk P g w (do pure (.value (← s))) v σ := by
 obtain ⟨cv, h1, h2⟩ := h
 exact OpOk.of ⟨cv, w, g, h1, h2, I, Step.refl g w⟩

theorem OpOk.unit {P : Program} {g : G} {w : World} {s : Sem Unit} {σ' : Store} (h : ∃ w' g', s.run P w = .ok () w' ∧ Inv g' σ' w' ∧ Step g w g' w') : OpOk P g w (do s; pure .skip) (.t .undef) σ' := by
 obtain ⟨w', g', h1, h2, h3⟩ := h
 exact ⟨undef, w', g', .inr ⟨by simp [h1], rfl⟩, by simp [VR, TR], h2, h3⟩

/-- A new row of cells, kept by the store. -/
theorem qhx {g : G} {σ : Store} {w : World} (I : Inv g σ w) {cs : List V} {arr : Array Value} (e : TypeId) (h : VRs g cs arr.toList) (h1 : arr.toList.all Value.oneCell' = true) :
  ∃ g', Inv g' (σ ++ [.cells cs 0 0]) { w with heap := w.heap.push (.cells arr e) } ∧ Step g w g' { w with heap := w.heap.push (.cells arr e) } ∧ g' = g.pushCells w.heap.size cs.length arr.size ∧ cs.length = arr.size := by
 have hl := VRs.length h
 simp only [Array.length_toList] at hl
 obtain ⟨I', S'⟩ := I.pushCells cs arr e (0, 0) w.drawn (by omega) (fun o _ => by simp) (fun i c hc => by
  obtain ⟨v, r1, r2⟩ := VRs.get h i c hc
  exact ⟨v, by simpa using r1, List.all_eq_true.1 h1 v (List.mem_of_getElem? r1), r2⟩)
 exact ⟨_, I', S', rfl, hl⟩

theorem qjq {g : G} {B n size : Nat} : VR (g.pushCells B n size) (.ptr g.n 0 0 n) (.pointer (some ⟨B, 0, none⟩)) := by
 simp only [VR]
 refine ⟨by simp [G.pushCells], by simp [G.pushCells], _, rfl, rfl, fun B' hB' => ?_⟩
 simp [G.pushCells] at hB'
 subst hB'
 simp [G.pushCells]

/-- A new row of cells that no one will write. -/
theorem qni {g : G} {σ : Store} {w : World} (I : Inv g σ w) {ts : List T} {arr : Array Value} (e : TypeId) {k len : Nat} (h : VRs g (ts.map V.t) arr.toList) (h1 : arr.toList.all Value.oneCell' = true) (hl : ts.length = len * k) :
  ∃ g', Inv g' σ { w with heap := w.heap.push (.cells arr e) } ∧ Step g w g' { w with heap := w.heap.push (.cells arr e) } ∧ VR g' (.t (.list (chunk k len ts))) (.slice (some ⟨w.heap.size, 0, none⟩) len len) := by
 obtain ⟨I', S'⟩ := I.freezeNew (w' := { w with heap := w.heap.push (.cells arr e) }) (by simp) (fun b hb => qav _ _ _ hb) rfl rfl rfl
 refine ⟨_, I', S', ?_⟩
 simp only [VR, TR, qel]
 refine ⟨_, len, k, rfl, Nat.le_refl _, .inr rfl, qgt len ts _ hl (TRcells.of_get fun i x hx => ?_)⟩
 obtain ⟨v, r1, r2⟩ := VRs.get h i (.t x) (by simp [hx])
 refine ⟨v, ?_, List.all_eq_true.1 h1 v (List.mem_of_getElem? r1), TR.mono S'.le.fz _ _ (by simpa only [VR] using r2)⟩
 have hnone : g.fz w.heap.size i = none := by
  cases hz : g.fz w.heap.size i with
  | none => rfl
  | some v => have := qcu (I.fz _ _ _ hz); omega
 simp only [G.freezeNew, Nat.zero_add, hnone, Nat.le_refl, if_true]
 rw [cell_of_heap (w := { w with heap := w.heap.push (.cells arr e) }) (qbe _ _)]
 simpa using r1

theorem qmc {g : G} {ρ : Operand → V} {ρc : Operand → Value} (hρ : ∀ x, VR g (ρ x) (ρc x)) : ∀ (l : List Operand), VRs g (l.map ρ) (l.map ρc)
 | [] => by simp [VRs]
 | x :: l => by simp only [List.map_cons, VRs]; exact ⟨_, _, rfl, hρ x, qmc hρ l⟩

theorem qsd {g : G} {ρ : Operand → V} {ρc : Operand → Value} (hρ : ∀ x, VR g (ρ x) (ρc x)) (l : List (Nat × Operand)) :
  VRs g ((l.map fun p => (p.1, ρ p.2)).map (·.2)) ((l.map fun p => (p.1, ρc p.2)).map (·.2)) := by
 have := qmc hρ (l.map (·.2))
 simpa [Function.comp_def] using this

theorem q3h {P : Program} {t : TypeId} {i : TI} (ht : tiOf P t = some i) {g : G} {σ : Store} {w : World} (I : Inv g σ w) {x : V} {cx : Value} {n : Int} (rt : TypeId) (hx : VR g x cx) (h : lenV σ i.shape x = some n) :
  (Builtin.len_ #[t] rt #[cx]).run P w = .ok (.int .i64 n) w := by
 obtain ⟨inf, u, hi, hu, _, _, _, _, hsh, _⟩ := qah ht
 rw [hsh] at h
 unfold lenV at h
 split at h
 ·rename_i s e; have := qeg e; subst this
  simp only [VR, TR] at hx; obtain ⟨b, rfl, rfl⟩ := hx
  cases h
  simp [Builtin.len_, qan hu, goInt, qbb]
 ·rename_i e; have := qba e; subst this
  simp only [VR, TR] at hx; obtain ⟨a, c, k, rfl, _⟩ := hx
  cases h
  simp [Builtin.len_, qan hu, goInt]
 ·rename_i e; have := qba e; subst this
  simp only [VR, TR] at hx; subst hx
  cases h
  simp [Builtin.len_, qan hu, goInt]
 ·rename_i e; have := qba e; subst this
  simp only [VR] at hx; obtain ⟨_, _, _, a, c, rfl, _⟩ := hx
  cases h
  simp [Builtin.len_, qan hu, goInt]
 ·rename_i e; have := qis e; subst this
  simp only [VR, TR] at hx; subst hx
  cases h
  simp [Builtin.len_, qan hu, goInt]
 ·rename_i e; have := qis e; subst this
  split at h
  ·rename_i es hs
   cases h
   obtain ⟨B, ents, clock, h1, h2, h3⟩ := I.map _ _ hs
   simp only [VR] at hx
   obtain ⟨_, B', rfl, hB⟩ := hx
   obtain rfl := hB B h1
   have hget : (getObj B').run P w = .ok (.map ents clock) w := by simp [getObj, Sem.run, h2]
   have hlen : ∀ (es : List (T × V)) (l : List MapEntry), EntsR g es l → es.length = l.length := by
    intro es
    induction es with
    | nil => intro l h; simp only [EntsR] at h; subst h; rfl
    | cons p es ih => intro l h; obtain ⟨k, v⟩ := p; simp only [EntsR] at h; obtain ⟨e, r, rfl, _, _, h4⟩ := h; simp [ih r h4]
   have := hlen _ _ h3
   simp only [Array.length_toList] at this
   simp [Builtin.len_, qan hu, goInt, hget, this]
  ·cases h
 ·cases h

theorem qul {P : Program} {t : TypeId} (hu : P.underlying t = some .string) {g : G} {w : World} {s : List Nat} {cx : Value} {i : Int} {k : IntKind} {b : Nat} (hx : VR g (.t (.str s)) cx) (h0 : 0 ≤ i) (h : s[i.toNat]? = some b) :
  (Instr.index t cx (.int k i)).run P w = .ok (.int .u8 b) w := by
 simp only [VR, TR] at hx
 obtain ⟨bs, rfl, rfl⟩ := hx
 simp only [bytes, List.getElem?_map, Array.getElem?_toList] at h
 cases hz : bs.data[i.toNat]? with
 | none => simp [hz] at h
 | some u =>
  simp [hz] at h; subst h
  have hlt : i.toNat < bs.data.size := lt_of_some hz
  have hg : bs[i.toNat]? = some u := by
   rw [ByteArray.getElem?_lt' bs _ hlt]
   rw [Array.getElem?_eq_getElem hlt] at hz
   cases hz; rfl
  simp [Instr.index, asIntOf, qan hu, h0, hg]

theorem qnt {l : Int} (h0 : 0 ≤ l) (h : l ≤ 140737488355328) : IntKind.i64.wrap l = l := by
 simp [IntKind.wrap, IntKind.bits, IntKind.signed]
 omega

theorem qnc {P : Program} {ty : TypeId → Option TI} (hty : ∀ t x, ty t = some x → tiOf P t = some x) {t e : TypeId} (hu : P.underlying t = some (.slice e)) {x : TI} (he : ty e = some x) {z : List V} (hz : zeroCells x = some z) {g : G} {σ : Store} {w : World} (I : Inv g σ w) {l : Int}
  (h0 : 0 ≤ l) (hl : l * x.bytes ≤ 140737488355328) (hs : 0 < x.size) (hb : 0 < x.bytes) (hzl : z.length = x.size) :
  ∃ cv w' g', (Instr.makeSlice t (.int .i64 l) (.int .i64 l)).run P w = .ok cv w' ∧ VR g' (.sl σ.length 0 0 l.toNat x.size) cv ∧ Inv g' (σ ++ [.cells (qab z l.toNat) 0 0]) w' ∧ Step g w g' w' := by
 obtain ⟨inf, u, hi, hue, _, hsz, hby, _⟩ := qah (hty _ _ he)
 obtain ⟨inf', zv, hi', hzv, z1, z2⟩ := qaz (hty _ _ he) g hz
 rw [hi] at hi'; cases hi'
 have hlb : l ≤ 140737488355328 := by
  have : l * 1 ≤ l * x.bytes := Int.mul_le_mul_of_nonneg_left (by omega) h0
  omega
 have hw := qnt h0 hlb
 obtain ⟨r1, r2⟩ := qdb z1 z2 l.toNat
 have hzl' : zv.cells.toList.length = x.size := by rw [← VRs.length z1]; exact hzl
 have hzl2 : zv.cells.size = x.size := by simpa using hzl'
 rw [hzl'] at r1 r2
 have earr : ((Array.range (l.toNat * inf.size)).map (fun i => zv.cells[i % zv.cells.size]!)).toList = (List.range (l.toNat * x.size)).map fun i => zv.cells.toList[i % x.size]! := by
  rw [hzl2, ← hsz]
  simp
  intro a _
  rw [getElem!_def]
  cases zv.cells[a % x.size]? <;> rfl
 obtain ⟨g', I', S', hg', hlen⟩ := qhx I (arr := (Array.range (l.toNat * inf.size)).map (fun i => zv.cells[i % zv.cells.size]!)) e (by rw [earr]; exact r1) (by rw [earr]; exact r2)
 refine ⟨.slice (some ⟨w.heap.size, 0, none⟩) l.toNat l.toNat, _, g', ?_, ?_, I', S'⟩
 ·have t1 : ¬ (inf.bytes : Int) * l > 281474976710656 := by rw [← hby, Int.mul_comm]; omega
  have t2 : ¬ l < 0 := by omega
  simp only [Instr.makeSlice, Sem.run_bind, qan hu, Result.andThen_ok, asInt, asIntOf, Sem.run_pure, qgl hi, hw]
  simp only [Sem.run_ite, qbn hi, Sem.run_bind, Result.andThen_ok, qde hi hzv, Sem.run_pure, newRow, run_newObj, run_askRoom]
  have tl : (decide (l < 0) || decide ((inf.bytes : Int) * l > 2 ^ 48)) = false := by
   simp only [Bool.or_eq_false_iff, decide_eq_false_iff_not]
   exact ⟨t2, by simpa using t1⟩
  simp only [tl, t2, decide_false, Bool.or_self, Bool.false_eq_true, if_false, gt_iff_lt, Int.lt_irrefl]
  by_cases hz0 : l.toNat * inf.size = 0
  ·simp [hz0]
   rw [Array.eq_empty_of_size_eq_zero (xs := Array.map (fun _ => default) (Array.range 0)) (by simp)]
   rw [Array.eq_empty_of_size_eq_zero (xs := Array.map _ (Array.range 0)) (by simp)]
   rw [if_neg t1]
  ·simp [hz0]
   intro h
   exact absurd h t1
 ·rw [hg', ← I.len]
  have hrl : (qab z l.toNat).length = l.toNat * x.size := by rw [VRs.length r1]; simp
  exact qgg hs hrl.symm (Nat.le_refl _) (by rw [← hlen, hrl]; exact Nat.le_refl _) (by omega)

/-- the same, where it is never turned: it is trees at once -/
theorem qmr {P : Program} {ty : TypeId → Option TI} (hty : ∀ t x, ty t = some x → tiOf P t = some x) {t e : TypeId} (hu : P.underlying t = some (.slice e)) {x : TI} (he : ty e = some x) {z : List V} (hz : zeroCells x = some z) {g : G} {σ : Store} {w : World} (I : Inv g σ w) {l : Int}
  (h0 : 0 ≤ l) (hl : l * x.bytes ≤ 140737488355328) (hs : 0 < x.size) (hb : 0 < x.bytes) (hzl : z.length = x.size) {ts : List T} (hts : allT (qab z l.toNat) = some ts) :
  ∃ cv w' g', (Instr.makeSlice t (.int .i64 l) (.int .i64 l)).run P w = .ok cv w' ∧ VR g' (.t (.list (chunk x.size l.toNat ts))) cv ∧ Inv g' σ w' ∧ Step g w g' w' := by
 obtain ⟨inf, u, hi, hue, _, hsz, hby, _⟩ := qah (hty _ _ he)
 obtain ⟨inf', zv, hi', hzv, z1, z2⟩ := qaz (hty _ _ he) g hz
 rw [hi] at hi'; cases hi'
 have hlb : l ≤ 140737488355328 := by
  have : l * 1 ≤ l * x.bytes := Int.mul_le_mul_of_nonneg_left (by omega) h0
  omega
 have hw := qnt h0 hlb
 obtain ⟨r1, r2⟩ := qdb z1 z2 l.toNat
 have hzl' : zv.cells.toList.length = x.size := by rw [← VRs.length z1]; exact hzl
 have hzl2 : zv.cells.size = x.size := by simpa using hzl'
 rw [hzl'] at r1 r2
 have earr : ((Array.range (l.toNat * inf.size)).map (fun i => zv.cells[i % zv.cells.size]!)).toList = (List.range (l.toNat * x.size)).map fun i => zv.cells.toList[i % x.size]! := by
  rw [hzl2, ← hsz]
  simp
  intro a _
  rw [getElem!_def]
  cases zv.cells[a % x.size]? <;> rfl
 have hrl : (qab z l.toNat).length = l.toNat * x.size := by rw [VRs.length r1]; simp
 have hte := qcd hts
 rw [hte] at r1 hrl
 obtain ⟨g', I', S', hv⟩ := qni I (arr := (Array.range (l.toNat * inf.size)).map (fun i => zv.cells[i % zv.cells.size]!)) e (by rw [earr]; exact r1) (by rw [earr]; exact r2) (by simpa using hrl)
 refine ⟨.slice (some ⟨w.heap.size, 0, none⟩) l.toNat l.toNat, _, g', ?_, ?_, I', S'⟩
 ·have t1 : ¬ (inf.bytes : Int) * l > 281474976710656 := by rw [← hby, Int.mul_comm]; omega
  have t2 : ¬ l < 0 := by omega
  simp only [Instr.makeSlice, Sem.run_bind, qan hu, Result.andThen_ok, asInt, asIntOf, Sem.run_pure, qgl hi, hw]
  simp only [Sem.run_ite, qbn hi, Sem.run_bind, Result.andThen_ok, qde hi hzv, Sem.run_pure, newRow, run_newObj, run_askRoom]
  have tl : (decide (l < 0) || decide ((inf.bytes : Int) * l > 2 ^ 48)) = false := by
   simp only [Bool.or_eq_false_iff, decide_eq_false_iff_not]
   exact ⟨t2, by simpa using t1⟩
  simp only [tl, t2, decide_false, Bool.or_self, Bool.false_eq_true, if_false, gt_iff_lt, Int.lt_irrefl]
  by_cases hz0 : l.toNat * inf.size = 0
  ·simp [hz0]
   rw [Array.eq_empty_of_size_eq_zero (xs := Array.map (fun _ => default) (Array.range 0)) (by simp)]
   rw [Array.eq_empty_of_size_eq_zero (xs := Array.map _ (Array.range 0)) (by simp)]
   rw [if_neg t1]
  ·simp [hz0]
   intro h
   exact absurd h t1
 ·exact hv

end Go.V

/- Every operation that is no call of a function: the theorem. -/
namespace Go.V

theorem qnp {ty : TypeId → Option TI} {t : TypeId} {len : Nat} {parts : List (Nat × V)} {k : Nat} {cs : List V} (h : qaa ty t len parts = some (k, cs)) : len ≤ 9223372036854775807 := by
 unfold qaa at h
 split at h
 ·split at h
  ·split at h
   ·split at h
    ·cases h
    ·rename_i x _ hc
     have h1 : len * 1 ≤ len * x.size := Nat.mul_le_mul_left _ (by omega)
     omega
   ·cases h
  ·cases h
 ·cases h

theorem qpv {g : G} {ρ : Operand → V} {ρc : Operand → Value} (hρ : ∀ x, VR g (ρ x) (ρc x)) (lo : Option Operand) : (∀ v, lo.map ρ = some v → ∃ c, lo.map ρc = some c ∧ VR g v c) ∧ (lo.map ρ = none → lo.map ρc = none) := by
 cases lo with
 | none => simp
 | some x => simp; exact hρ x

theorem qyv {x : V} (h : isStr x = true) : ∃ s, x = .t (.str s) := by
 unfold isStr at h; split at h
 ·exact ⟨_, rfl⟩
 ·cases h

theorem qzh {P : Program} {g : G} {w : World} {xs : List V} {l : List Value} {r : T} (h : VRs g xs l) (hr : minV xs = some r) : ∃ cv, (Builtin.min_ #[] 0 l.toArray).run P w = .ok cv w ∧ TR g.fz r cv := by
 unfold minV at hr
 split at hr
 ·rename_i k a k' b
  split at hr
  ·rename_i hk; subst hk
   cases hr
   simp only [VRs, VR, TR] at h
   obtain ⟨v, r, rfl, rfl, v2, r2, rfl, rfl, rfl⟩ := h
   refine ⟨_, ?_, by simp only [TR]; rfl⟩
   simp [Builtin.min_, Builtin.min2]
  ·cases hr
 ·cases hr

theorem qze {P : Program} {g : G} {w : World} {xs : List V} {l : List Value} {r : T} (h : VRs g xs l) (hr : maxV xs = some r) : ∃ cv, (Builtin.max_ #[] 0 l.toArray).run P w = .ok cv w ∧ TR g.fz r cv := by
 unfold maxV at hr
 split at hr
 ·rename_i k a k' b
  split at hr
  ·rename_i hk; subst hk
   cases hr
   simp only [VRs, VR, TR] at h
   obtain ⟨v, r, rfl, rfl, v2, r2, rfl, rfl, rfl⟩ := h
   refine ⟨_, ?_, by simp only [TR]; rfl⟩
   simp [Builtin.max_, Builtin.max2]
  ·cases hr
 ·cases hr

theorem qtq {g : G} {ρ : Operand → V} {ρc : Operand → Value} (hρ : ∀ x, VR g (ρ x) (ρc x)) (l : Array Operand) : VRs g (l.toList.map ρ) ((l.map ρc).toList) := by
 rw [Array.toList_map]; exact qmc hρ _

theorem qnl {g : G} {x : V} {cx : Value} {cs : List V} (hx : VR g x cx) (h : qei x = some cs) : cellsOf x = some cs ∧ ∃ a, cx = .agg a := by
 unfold qei at h
 split at h
 ·cases h; simp only [VR, TR] at hx; obtain ⟨a, rfl, _⟩ := hx; exact ⟨rfl, a, rfl⟩
 ·cases h; simp only [VR] at hx; obtain ⟨a, rfl, _⟩ := hx; exact ⟨rfl, a, rfl⟩
 ·cases h

theorem qsv {P : Program} {ty : TypeId → Option TI} (hty : ∀ t x, ty t = some x → tiOf P t = some x) {owned : Bool} {g : G} {σ σ' : Store} {w : World} (I : Inv g σ w) {ρ : Operand → V} {ρc : Operand → Value} (hρ : ∀ x, VR g (ρ x) (ρc x)) {o : Oper} {v : V}
  (h : qae ty owned ρ σ o.op = some (v, σ')) : OpOk P g w (execOp ρc o) v σ' := by
 unfold execOp
 unfold qae at h
 split at h
 ·-- move
  rename_i hop; rw [hop]; cases h
  exact OpOk.val I rfl (hρ _)
 ·rename_i hop; rw [hop]; cases h
  exact OpOk.val I rfl (hρ _)
 ·-- pick
  rename_i c a b hop; rw [hop]
  have hc := hρ c
  split at h
  ·rename_i e; cases h
   rw [e] at hc; simp only [VR, TR] at hc
   exact OpOk.val I (by simp [hc, asBool]) (hρ a)
  ·rename_i e; cases h
   rw [e] at hc; simp only [VR, TR] at hc
   exact OpOk.val I (by simp [hc, asBool]) (hρ b)
  ·cases h
 ·-- alloc
  rename_i e hop; rw [hop]
  split at h
  ·rename_i i hi
   split at h
   ·rename_i z hz
    cases h
    obtain ⟨inf, zv, hi', hzv, z1, z2⟩ := qaz (hty _ _ hi) g hz
    obtain ⟨g', I', S', hg', _⟩ := qhx I (arr := zv.cells) e z1 z2
    refine OpOk.of ⟨.pointer (some ⟨w.heap.size, 0, none⟩), _, g', ?_, ?_, I', S'⟩
    ·simp only [Instr.alloc, Sem.run_bind, qde hi' hzv, Result.andThen_ok, newVar, newRow, run_newObj, Sem.run_pure]
    ·rw [hg', ← I.len]; exact qjq
   ·cases h
  ·cases h
 ·-- box
  rename_i t x hop; rw [hop]
  split at h
  ·rename_i cs hc
   cases h
   obtain ⟨z1, z2⟩ := qcv (hρ x) hc
   obtain ⟨g', I', S', hg', _⟩ := qhx I t z1 z2
   refine OpOk.of ⟨.pointer (some ⟨w.heap.size, 0, none⟩), _, g', ?_, ?_, I', S'⟩
   ·simp only [Instr.box, Sem.run_bind, newVar, newRow, run_newObj, Result.andThen_ok, Sem.run_pure]
   ·rw [hg', ← I.len]; exact qjq
  ·cases h
 ·-- build
  rename_i t parts hop; rw [hop]
  cases hb : qbz ty t (parts.toList.map fun p => (p.1, ρ p.2)) with
  | none => simp [hb] at h
  | some v' =>
   simp [hb] at h; obtain ⟨rfl, rfl⟩ := h
   refine OpOk.same I (qtu hty (parts := parts.toList.map fun p => (p.1, ρ p.2)) (cparts := parts.map fun (i, x) => (i, ρc x)) ?_ ?_ hb)
   ·simp [Function.comp_def]
   ·have := qsd hρ parts.toList
    simpa using this
 ·-- buildSlice
  rename_i t len parts hop; rw [hop]
  split at h
  rotate_left
  ·cases h
  rename_i k cs hcs
  obtain ⟨e, arr, hk, hlen, hrun, r1, r2⟩ := qkm (P := P) (w := w) hty (cparts := parts.map fun (i, x) => (i, ρc x)) (by simp [Function.comp_def]) (by
   have := qsd hρ parts.toList
   simpa using this) hcs
  have obj : OpOk P g w (do pure (.value (← Instr.buildSlice t len (parts.map fun (i, x) => (i, ρc x))))) (.sl σ.length 0 0 len k) (σ ++ [.cells cs 0 0]) := by
   obtain ⟨g', I', S', hg', hl⟩ := qhx I e r1 r2
   refine OpOk.of ⟨_, _, g', hrun, ?_, I', S'⟩
   rw [hg', ← I.len]
   exact qgg hk hlen.symm (Nat.le_refl _) (by rw [← hl, hlen]; exact Nat.le_refl _) (qnp hcs)
  split at h
  ·cases h; exact obj
  ·split at h
   ·rename_i ts hts
    cases h
    rw [qcd hts] at r1 hlen
    obtain ⟨g', I', S', hv⟩ := qni I e r1 r2 (by simpa using hlen)
    exact OpOk.of ⟨_, _, g', hrun, hv, I', S'⟩
   ·cases h; exact obj
 ·-- load
  rename_i t a hop; rw [hop]
  split at h
  ·rename_i i hi
   cases hl : qbx σ i (ρ a) with
   | none => simp [hl] at h
   | some v' =>
    simp [hl] at h; obtain ⟨rfl, rfl⟩ := h
    exact OpOk.same I (qns (hty _ _ hi) I (hρ a) hl)
  ·cases h
 ·-- store
  rename_i t a x hop; rw [hop]
  split at h
  ·rename_i i hi
   cases hl : qoa σ i (ρ a) (ρ x) with
   | none => simp [hl] at h
   | some v' =>
    simp [hl] at h; obtain ⟨rfl, rfl⟩ := h
    exact OpOk.unit (quq (hty _ _ hi) I (hρ a) (hρ x) hl)
  ·cases h
 ·-- nilCheck
  rename_i x hop; rw [hop]
  have hx := hρ x
  split at h
  ·rename_i e; cases h
   rw [e] at hx
   have hx0 := hx
   simp only [VR] at hx; obtain ⟨_, _, a, ha, _⟩ := hx
   rw [ha] at hx0
   exact OpOk.val I (by simp [ha]) hx0
  ·rename_i e; cases h
   rw [e] at hx
   have hx0 := hx
   simp only [VR, TR] at hx; obtain ⟨a, ha, _⟩ := hx
   rw [ha] at hx0
   exact OpOk.val I (by simp [ha]) hx0
  ·rename_i e; cases h
   rw [e] at hx
   have hx0 := hx
   simp only [VR] at hx; obtain ⟨a, ha, _⟩ := hx
   rw [ha] at hx0
   exact OpOk.val I (by simp [ha]) hx0
  ·cases h
 ·-- binOp
  rename_i op t x y yt hop; rw [hop]
  cases hb : binV ty op t (ρ x) (ρ y) with
  | none => simp [hb] at h
  | some r =>
   simp [hb] at h; obtain ⟨rfl, rfl⟩ := h
   obtain ⟨cv, r1, r2⟩ := q2i (P := P) (w := w) hty (hρ x) (hρ y) hb x y
   exact OpOk.same I ⟨cv, r1, by simpa only [VR] using r2⟩
 ·-- unOp
  rename_i op t x hop; rw [hop]
  cases hb : unV op (ρ x) with
  | none => simp [hb] at h
  | some r =>
   simp [hb] at h; obtain ⟨rfl, rfl⟩ := h
   obtain ⟨cv, r1, r2⟩ := un_sound (P := P) (w := w) (hρ x) hb
   exact OpOk.same I ⟨cv, r1, by simpa only [VR] using r2⟩
 ·-- convert
  rename_i s d x hop; rw [hop]
  exact OpOk.of (qyg hty I (hρ x) h)
 ·-- makeFunc
  rename_i f first caps hop; rw [hop]
  split at h
  ·rename_i he
   cases h
   have : first = #[] := by simpa using he
   subst this
   refine OpOk.same I ⟨_, rfl, ?_⟩
   simp only [VR]
   exact ⟨caps.map ρc, by simp, qtq hρ caps⟩
  ·split at h
   ·rename_i he
    cases h
    have : caps = #[] := by simpa using he
    subst this
    refine OpOk.same I ⟨_, rfl, ?_⟩
    simp only [VR]
    exact ⟨first.map ρc, by simp, qtq hρ first⟩
   ·cases h
 ·-- makeMap
  rename_i t hop; rw [hop]
  cases h
  obtain ⟨I', S'⟩ := I.pushMap
  refine OpOk.of ⟨.map (some w.heap.size), _, _, ?_, ?_, I', S'⟩
  ·simp only [Instr.makeMap, Option.map_none, Sem.run_bind, run_newObj, Result.andThen_ok, Sem.run_pure]
  ·rw [← I.len]
   simp only [VR]
   exact ⟨by simp [G.pushMap], _, rfl, fun B hB => by simp [G.pushMap] at hB; exact hB⟩
 ·-- makeSlice
  rename_i t l c hop; rw [hop]
  split at h
  rotate_left
  ·cases h
  rename_i ag sz by_ ze e eq l' c' hi hl hc
  split at h
  rotate_left
  ·cases h
  rename_i x hx
  split at h
  rotate_left
  ·cases h
  rename_i z hz
  split at h
  rotate_left
  ·cases h
  rename_i hcond
  obtain ⟨h0, rfl, h2, h3, h4, h5⟩ := hcond
  obtain ⟨_, u, _, hu, _, _, _, _, hsh, _⟩ := qah (hty _ _ hi)
  have := qba hsh.symm
  subst this
  have q1 := hρ l; have q2 := hρ c
  rw [hl] at q1; rw [hc] at q2
  simp only [VR, TR] at q1 q2
  split at h
  ·rename_i ts ho hts
   cases h
   have := qmr (P := P) hty hu hx hz I h0 h2 h3 h4 h5 hts
   rw [← q1] at this
   simp only [q2, ← q1] at this ⊢
   exact OpOk.of this
  ·cases h
   have := qnc (P := P) hty hu hx hz I h0 h2 h3 h4 h5
   rw [← q1] at this
   simp only [q2, ← q1] at this ⊢
   exact OpOk.of this
 ·-- slice
  rename_i t x lo hi hop; rw [hop]
  split at h
  ·rename_i ag sz by_ ze eq hi'
   obtain ⟨_, u, _, hu, _, _, _, _, hsh, _⟩ := qah (hty _ _ hi')
   have := qeg hsh.symm
   subst this
   split at h
   ·rename_i hs
    obtain ⟨s, hs⟩ := qyv hs
    cases hv : qez (ρ x) (lo.map ρ) (hi.map ρ) with
    | none => simp [hv] at h
    | some v' =>
     simp [hv] at h; obtain ⟨rfl, rfl⟩ := h
     have hx := hρ x
     obtain ⟨a1, a2⟩ := qpv hρ lo
     obtain ⟨b1, b2⟩ := qpv hρ hi
     refine OpOk.same I (qnh hu (.inl rfl) hx (fun _ _ _ _ _ e => by rw [hs] at e; cases e) (fun _ e => by rw [hs] at e; cases e) a1 a2 b1 b2 (fun _ _ => rfl) (fun hn => ?_) hv)
     rw [hs] at hx; simp only [VR, TR] at hx
     obtain ⟨b, hb, _⟩ := hx
     exact absurd hb (hn b)
   ·cases h
  ·rename_i ag sz by_ ze e eq hi'
   obtain ⟨_, u, _, hu, _, _, _, _, hsh, _⟩ := qah (hty _ _ hi')
   have := qba hsh.symm
   subst this
   split at h
   rotate_left
   ·cases h
   rename_i te hte
   obtain ⟨inf, ue, hie, hue, _, hsz, _⟩ := qah (hty _ _ hte)
   split at h
   ·rename_i hok
    cases hv : qez (ρ x) (lo.map ρ) (hi.map ρ) with
    | none => simp [hv] at h
    | some v' =>
     simp [hv] at h; obtain ⟨rfl, rfl⟩ := h
     have hx := hρ x
     obtain ⟨a1, a2⟩ := qpv hρ lo
     obtain ⟨b1, b2⟩ := qpv hρ hi
     refine OpOk.same I (qnh hu (.inr ⟨e, inf, rfl, hie⟩) hx (fun loc gn off len k ex e' inf' he' hinf' => ?_) (fun rows ex e' inf' he' hinf' i cs hcs => ?_) a1 a2 b1 b2 (fun s ex => ?_) (fun _ h => by cases h) hv)
     ·cases he'
      rw [hie] at hinf'; cases hinf'
      rw [ex] at hok
      simp only [qvc, beq_iff_eq] at hok
      omega
     ·cases he'
      rw [hie] at hinf'; cases hinf'
      rw [ex] at hok hx
      simp only [VR, TR] at hx
      obtain ⟨a, c, k0, _, _, _, hr⟩ := hx
      obtain ⟨cs', e1, e2, _⟩ := TRrows.get hr _ _ hcs
      cases e1
      cases rows with
      | nil => simp at hcs
      | cons r0 rr =>
       obtain ⟨cs0, e3, e4, _⟩ := TRrows.get hr 0 r0 rfl
       subst e3
       simp only [qvc, beq_iff_eq] at hok
       omega
     ·rw [ex] at hok; simp [qvc] at hok
   ·cases h
  ·cases h
 ·-- fieldAddr
  rename_i s x f hop; rw [hop]
  split at h
  rotate_left
  ·cases h
  rename_i off ft hf
  split at h
  ·cases h
  rename_i h0
  have hx := hρ x
  split at h
  ·rename_i loc gn o ext ex
   split at h
   ·rename_i hle
    cases h
    rw [ex] at hx; simp only [VR] at hx
    obtain ⟨q1, q2, a, ha, hsp, q3⟩ := hx
    dsimp only
    rw [ha]
    refine OpOk.same I ⟨_, qfy hty hf h0 a hsp, ?_⟩
    simp only [VR]
    refine ⟨q1, q2, _, rfl, rfl, fun B hB => ?_⟩
    obtain ⟨q4, rfl⟩ := q3 B hB
    exact ⟨by omega, rfl⟩
   ·cases h
  ·rename_i cs ex
   split at h
   ·rename_i hle
    cases h
    rw [ex] at hx; simp only [VR, TR] at hx
    obtain ⟨a, ha, hsp, hcs⟩ := hx
    dsimp only
    rw [ha]
    refine OpOk.same I ⟨_, qfy hty hf h0 a hsp, ?_⟩
    simp only [VR, TR]
    exact ⟨_, rfl, rfl, hcs.drop⟩
   ·cases h
  ·cases h
 ·-- field
  rename_i s x f hop; rw [hop]
  split at h
  rotate_left
  ·cases h
  rename_i off ft cs hf hc
  cases hv : qnq cs off ft with
  | none => simp [hv] at h
  | some v' =>
   simp [hv] at h; obtain ⟨rfl, rfl⟩ := h
   obtain ⟨c1, c2⟩ := qnl (hρ x) hc
   exact OpOk.same I (qtj hty hf (hρ x) c1 c2 hv)
 ·-- indexAddr
  rename_i t x i hop; rw [hop]
  split at h
  rotate_left
  ·cases h
  rename_i ag sz by_ ze e eq k iv hi' hidx
  obtain ⟨_, u, _, hu, _, _, _, _, hsh, _⟩ := qah (hty _ _ hi')
  have := qba hsh.symm
  subst this
  split at h
  rotate_left
  ·cases h
  rename_i te hte
  cases hv : idxV te.size (ρ x) iv with
  | none => simp [hv] at h
  | some v' =>
   simp [hv] at h; obtain ⟨rfl, rfl⟩ := h
   have hi2 := hρ i
   rw [hidx] at hi2; simp only [VR, TR] at hi2
   dsimp only
   rw [hi2]
   exact OpOk.same I (qmo hu (hty _ _ hte) k (hρ x) hv)
 ·-- index
  rename_i t x i hop; rw [hop]
  split at h
  rotate_left
  ·cases h
  rename_i ag sz by_ ze eq s k iv hi' hs hidx
  obtain ⟨_, u, _, hu, _, _, _, _, hsh, _⟩ := qah (hty _ _ hi')
  have := qeg hsh.symm
  subst this
  split at h
  rotate_left
  ·cases h
  rename_i h0
  split at h
  rotate_left
  ·cases h
  rename_i b hb
  cases h
  have hi2 := hρ i
  rw [hidx] at hi2; simp only [VR, TR] at hi2
  have hx := hρ x
  rw [hs] at hx
  dsimp only
  rw [hi2]
  exact OpOk.same I ⟨_, qul hu hx h0 hb, by simp only [VR, TR]⟩
 ·-- lookup
  rename_i t m k ok hop; rw [hop]
  split at h
  rotate_left
  ·cases h
  rename_i ag sz by_ ze kt et eq loc kk hi' hm hk
  obtain ⟨_, u, _, hu, _, _, _, _, hsh, _⟩ := qah (hty _ _ hi')
  have := qis hsh.symm
  subst this
  split at h
  rotate_left
  ·cases h
  rename_i es te tk hs hte htk
  split at h
  ·cases h
  rename_i hok
  have hmv := hρ m
  rw [hm] at hmv
  have hkv := hρ k
  rw [hk] at hkv; simp only [VR] at hkv
  split at h
  ·rename_i v' hf
   cases h
   obtain ⟨cv, r1, r2⟩ := (qkf (P := P) hu (hty _ _ htk) (hty _ _ hte) I hmv hs hkv (by simpa using hok) hf ok).1 _ rfl
   refine OpOk.same I ⟨_, r1, ?_⟩
   cases ok
   ·exact r2
   ·exact qvt (by simp only [VRs]; exact ⟨_, _, rfl, r2, _, _, rfl, by simp only [VR, TR], rfl⟩)
  ·rename_i hf
   split at h
   ·rename_i z hz
    cases h
    obtain ⟨cv, r1, r2⟩ := (qkf (P := P) hu (hty _ _ htk) (hty _ _ hte) I hmv hs hkv (by simpa using hok) hf ok).2 rfl z hz
    refine OpOk.same I ⟨_, r1, ?_⟩
    cases ok
    ·show VR g (.t z) cv
     simpa only [VR] using r2
    ·simp only [if_true, VR, TR, TRs]
     exact ⟨_, rfl, _, _, rfl, r2, _, _, rfl, rfl, rfl⟩
   ·cases h
  ·cases h
 ·-- mapUpdate
  rename_i t m k x hop; rw [hop]
  split at h
  rotate_left
  ·cases h
  rename_i ag sz by_ ze kt et eq loc kk hi' hm hk
  obtain ⟨_, u, _, hu, _, _, _, _, hsh, _⟩ := qah (hty _ _ hi')
  have := qis hsh.symm
  subst this
  split at h
  rotate_left
  ·cases h
  rename_i es tk hs htk
  split at h
  ·cases h
  rename_i hok
  have hmv := hρ m
  rw [hm] at hmv
  have hkv := hρ k
  rw [hk] at hkv; simp only [VR] at hkv
  cases hf : qfp tk.shape kk (ρ x) es with
  | none => simp [hf] at h
  | some es' =>
   simp [hf] at h; obtain ⟨rfl, rfl⟩ := h
   obtain ⟨w', r1, r2, r3⟩ := qms (P := P) hu (hty _ _ htk) I hmv hs hkv (hρ x) (by simpa using hok) hf
   exact OpOk.unit ⟨w', g, r1, r2, r3⟩
 ·-- extract
  rename_i x i hop; rw [hop]
  have hx := hρ x
  split at h
  ·rename_i vs ex
   rw [ex] at hx; simp only [VR, TR] at hx
   obtain ⟨a, ha, hr⟩ := hx
   cases hv : vs[i]? with
   | none => simp [hv] at h
   | some v' =>
    simp [hv] at h; obtain ⟨rfl, rfl⟩ := h
    obtain ⟨cv, e1, e2⟩ := TRs.get hr _ _ hv
    simp only [Array.getElem?_toList] at e1
    dsimp only
    rw [ha]
    exact OpOk.same I ⟨cv, by simp [Instr.extract, e1], by simpa only [VR] using e2⟩
  ·rename_i vs ex
   rw [ex] at hx; simp only [VR] at hx
   obtain ⟨a, ha, hr⟩ := hx
   cases hv : vs[i]? with
   | none => simp [hv] at h
   | some v' =>
    simp [hv] at h; obtain ⟨rfl, rfl⟩ := h
    obtain ⟨cv, e1, e2⟩ := VRs.get hr _ _ hv
    simp only [Array.getElem?_toList] at e1
    dsimp only
    rw [ha]
    exact OpOk.same I ⟨cv, by simp [Instr.extract, e1], e2⟩
  ·cases h
 ·-- a builtin
  rename_i b args ats hop; rw [hop]
  have hargs := qtq hρ args
  simp only [resolve, pure_bind, invoke]
  split at h
  ·rename_i s x e
   rw [e] at hargs
   simp only [VRs] at hargs
   obtain ⟨v1, r1, e1, h1, v2, r2, e2, h2, rfl⟩ := hargs
   subst e2
   have ea : args.map ρc = #[v1, v2] := by apply Array.ext'; rw [e1]
   rw [ea]
   have := qqu (P := P) hty I o.type h1 h2 h
   rw [show ats.toList.toArray = ats by simp] at this
   exact OpOk.of this
  ·rename_i x e
   rw [e] at hargs
   simp only [VRs] at hargs
   obtain ⟨v1, r1, e1, h1, rfl⟩ := hargs
   have ea : args.map ρc = #[v1] := by apply Array.ext'; rw [e1]
   rw [ea]
   split at h
   rotate_left
   ·cases h
   rename_i t ht
   split at h
   rotate_left
   ·cases h
   rename_i i hi
   cases hl : lenV σ i.shape x with
   | none => simp [hl] at h
   | some n =>
    simp [hl] at h; obtain ⟨rfl, rfl⟩ := h
    have et : ats = #[t] := by apply Array.ext'; rw [ht]
    rw [et]
    exact OpOk.same I ⟨_, q3h (hty _ _ hi) I o.type h1 hl, by simp only [VR, TR]⟩
  ·-- cap
   rename_i x e
   rw [e] at hargs
   simp only [VRs] at hargs
   obtain ⟨v1, r1, e1, h1, rfl⟩ := hargs
   have ea : args.map ρc = #[v1] := by apply Array.ext'; rw [e1]
   rw [ea]
   split at h
   rotate_left
   ·cases h
   rename_i t ht
   split at h
   rotate_left
   ·cases h
   rename_i i hi
   split at h
   ·rename_i e' hsh
    cases h
    have et : ats = #[t] := by apply Array.ext'; rw [ht]
    rw [et]
    obtain ⟨_, u, _, hu, _, _, _, _, hs, _⟩ := qah (hty _ _ hi)
    rw [hs] at hsh
    have := qba hsh
    subst this
    simp only [VR, TR] at h1
    subst h1
    refine OpOk.same I ⟨.int .i64 0, ?_, by simp only [VR, TR]⟩
    simp [Builtin.cap_, qan hu, goInt]
   ·cases h
  ·-- clear
   rename_i x e
   rw [e] at hargs
   simp only [VRs] at hargs
   obtain ⟨v1, r1, e1, h1, rfl⟩ := hargs
   have ea : args.map ρc = #[v1] := by apply Array.ext'; rw [e1]
   rw [ea]
   split at h
   rotate_left
   ·cases h
   rename_i t ht
   split at h
   rotate_left
   ·cases h
   rename_i i hi
   split at h
   rotate_left
   ·cases h
   rename_i e' hsh
   split at h
   rotate_left
   ·cases h
   rename_i te hte
   rw [Option.map_eq_some_iff] at h
   obtain ⟨σ1, hcl, hh⟩ := h
   simp only [Prod.mk.injEq] at hh
   obtain ⟨rfl, rfl⟩ := hh
   have et : ats = #[t] := by apply Array.ext'; rw [ht]
   rw [et]
   obtain ⟨_, u, _, hu, _, _, _, _, hs, _⟩ := qah (hty _ _ hi)
   rw [hs] at hsh
   have := qba hsh
   subst this
   unfold qrr at hcl
   have unit : VR g (.t (.tup [])) (.tuple #[]) := by simp only [VR, TR]; exact ⟨#[], rfl, by simp [TRs]⟩
   split at hcl
   ·cases hcl
    simp only [VR, TR] at h1
    subst h1
    exact OpOk.same I ⟨.tuple #[], by simp [Builtin.clear_, qan hu], unit⟩
   ·rename_i loc gn off len k
    split at hcl
    ·rename_i h0
     cases hcl
     subst h0
     simp only [VR] at h1
     obtain ⟨_, _, _, a, c, rfl, _⟩ := h1
     exact OpOk.same I ⟨.tuple #[], by simp [Builtin.clear_, qan hu], unit⟩
    ·rename_i h0
     split at hcl
     rotate_left
     ·cases hcl
     rename_i cs gen wgen z hst hz
     split at hcl
     rotate_left
     ·cases hcl
     rename_i hcond
     obtain ⟨rfl, rfl, hzk, hk, hfit⟩ := hcond
     cases hcl
     simp only [VR] at h1
     obtain ⟨hln, _, _, a, c, rfl, hlc, hsp, ha⟩ := h1
     obtain ⟨inf, zv, hi', hzv, z1, z2⟩ := qaz (hty _ _ hte) g hz
     have zl := VRs.length z1
     simp only [Array.length_toList] at zl
     obtain ⟨y1, y2⟩ := qdb z1 z2 len
     have hzl : (Builtin.zeroCells zv.cells len).toList = (List.range (len * zv.cells.toList.length)).map fun i => zv.cells.toList[i % zv.cells.toList.length]! := by
      simp only [Builtin.zeroCells, Array.toList_map, Array.toList_range, Array.length_toList]
      refine List.map_congr_left fun a _ => ?_
      simp [Array.getElem!_eq_getD, Array.getD_eq_getD_getElem?]
     rw [← hzl] at y1 y2
     have hrl : (qab z len).length = len * te.size := by
      have := VRs.length y1
      simp only [Array.length_toList] at this
      rw [this]
      simp [Builtin.zeroCells, ← zl, hzk]
     obtain ⟨B, b1, b2, b3, b4⟩ := que (P := P) I hst (by rw [hrl]; exact hfit) y1 y2
     obtain ⟨p1, p2⟩ := ha B b1
     obtain ⟨p3, p4, _⟩ := p2 (.inl (by omega))
     have haddr : a = ⟨B, off, none⟩ := by rw [qbq a hsp, p3, p4]
     subst haddr
     refine OpOk.of ⟨.tuple #[], _, _, ?_, ?_, b3, b4⟩
     ·obtain ⟨m, rfl⟩ : ∃ m, len = m + 1 := ⟨len - 1, by omega⟩
      simp [Builtin.clear_, qan hu, qde hi' hzv, b2]
     ·simp only [VR, TR]; exact ⟨#[], rfl, by simp [TRs]⟩
   ·cases hcl
  ·cases hm : minV (args.toList.map ρ) with
   | none => simp [hm] at h
   | some r =>
    simp [hm] at h; obtain ⟨rfl, rfl⟩ := h
    obtain ⟨cv, r1, r2⟩ := qzh (P := P) (w := w) hargs hm
    exact OpOk.same I ⟨cv, by simpa [Builtin.min_] using r1, by simpa only [VR] using r2⟩
  ·cases hm : maxV (args.toList.map ρ) with
   | none => simp [hm] at h
   | some r =>
    simp [hm] at h; obtain ⟨rfl, rfl⟩ := h
    obtain ⟨cv, r1, r2⟩ := qze (P := P) (w := w) hargs hm
    exact OpOk.same I ⟨cv, by simpa [Builtin.max_] using r1, by simpa only [VR] using r2⟩
  ·cases h
 ·cases h

end Go.V
