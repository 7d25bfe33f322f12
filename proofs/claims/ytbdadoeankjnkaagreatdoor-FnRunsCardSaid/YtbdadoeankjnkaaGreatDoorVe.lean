/- A part of the proof. No statement of the claim is in it. -/
import Derived.Test.YtbdadoeankjnkaaGreatDoorVd
import Derived.Shelf.Spec.SlicesInsertGrow
import Derived.Shelf.Sort.Plain
import Derived.Shelf.Slices.In.SortNone
set_option linter.all false
set_option linter.deprecated false
/- slices.Insert of one int, met by a contract: an extern that turns the store. -/
namespace Go.V

/-- Insert(s, i, x): 's' a whole slice of ints, or nil; the literal [x] an object of its own that was never written. -/
def insV (args : List V) (σ : Store) : Option (V × Store) := match args with
 | [s, .t (.int .i64 (.ofNat i)), .sl q 0 0 1 1] => match σ[q]? with
  | some (.cells [.t (.int .i64 x)] 0 _) => match s with
   | .t .nils => if i = 0 then some (.sl σ.length 0 0 1 1, σ ++ [.cells [.t (.int .i64 x)] 0 0]) else none
   | .sl loc g 0 len 1 => match σ[loc]? with
    | some (.cells old gen _) => if g = gen ∧ len = old.length ∧ i ≤ len ∧ loc ≠ q ∧ 0 < len ∧ (len + 1) * 8 ≤ 140737488355328 then
      some (.sl loc (gen + 1) 0 (len + 1) 1, σ.set loc (.cells (old.take i ++ [.t (.int .i64 x)] ++ old.drop i) (gen + 1) (gen + 1))) else none
    | _ => none
   | _ => none
  | _ => none
 | _ => none

/-- What the call leaves: a slice over the old block, or a new one; all else as it was. -/
def InsPost (w : World) (b i : Nat) (x : Value) (cs : List Value) (n : Nat) (e : Ending) (w' : World) : Prop :=
 ∃ B' arr elem fr cap, e = .returned (.slice (some ⟨B', 0, none⟩) (n + 1) cap) ∧ (n + 1 ≤ cap ∧ cap ≤ 9223372036854775807) ∧ (B' = b ∨ w.heap.size ≤ B') ∧ w'.heap[B']? = some (.cells arr elem fr) ∧ cap ≤ arr.size ∧
   (∀ o, o < arr.size → ¬ (fr.1 ≤ o ∧ o < fr.2)) ∧ (∀ (j : Nat) (v : Value), (cs.take i ++ [x] ++ cs.drop i)[j]? = some v → arr[j]? = some v) ∧ w.heap.size ≤ w'.heap.size ∧
   (∀ b', b' < w.heap.size → b' ≠ b → w'.heap[b']? = w.heap[b']?) ∧ w'.tape = w.tape ∧ w'.os = w.os ∧ w'.output = w.output

/-- What the contract says (to be had from the shelf's Any2.slices_Insert_int_*). -/
structure InsOk (P : Program) (f : FuncId) : Prop where
 some_ : ∀ (w : World) (b n c i vb vc : Nat) (x : Int) (cs : List Value) (arr varr : Array Value) (tB tA : TypeId) (fr vfr : Nat × Nat), i ≤ n → 0 < n → n ≤ c → c ≤ arr.size → c ≤ 9223372036854775807 → (n + 1) * 8 ≤ 140737488355328 → vb ≠ b → cs.length = n →
  w.heap[b]? = some (.cells arr tB fr) → w.heap[vb]? = some (.cells varr tA vfr) → (∀ o, o < arr.size → ¬ (fr.1 ≤ o ∧ o < fr.2)) → (∀ o, o ≤ varr.size → ¬ (vfr.1 ≤ o ∧ o < vfr.2)) → varr[0]? = some (.int .i64 x) →
  (∀ (j : Nat) (v : Value), cs[j]? = some v → arr[j]? = some v) → (∀ v ∈ cs, v.oneCell' = true) →
  Calls P f #[.slice (some ⟨b, 0, none⟩) n c, .int .i64 i, .slice (some ⟨vb, 0, none⟩) 1 vc] w (InsPost w b i (.int .i64 x) cs n)
 nil_ : ∀ (w : World) (vb vc : Nat) (x : Int) (varr : Array Value) (tA : TypeId) (vfr : Nat × Nat), w.heap[vb]? = some (.cells varr tA vfr) → varr[0]? = some (.int .i64 x) →
  Calls P f #[.slice none 0 0, .int .i64 0, .slice (some ⟨vb, 0, none⟩) 1 vc] w fun e w' => ∃ arr elem cap, e = .returned (.slice (some ⟨w.heap.size, 0, none⟩) 1 cap) ∧ (1 ≤ cap ∧ cap ≤ 9223372036854775807) ∧ cap ≤ arr.size ∧ arr[0]? = some (.int .i64 x) ∧
   w'.heap = w.heap.push (.cells arr elem (0, 0)) ∧ w'.tape = w.tape ∧ w'.os = w.os ∧ w'.output = w.output

theorem q1y {P : Program} {f : FuncId} (hf : InsOk P f) {args : List V} {v : V} {σ σ' : Store} (h : insV args σ = some (v, σ')) (g : G) (w : World) (cargs : Array Value) (I : Inv g σ w) (hr : VRs g args cargs.toList) :
  Calls P f cargs w fun e w' => ∃ cv g', e = .returned cv ∧ VR g' v cv ∧ Inv g' σ' w' ∧ Step g w g' w' := by
 unfold insV at h
 split at h
 rotate_left
 ·cases h
 rename_i s i q
 split at h
 rotate_left
 ·cases h
 rename_i x wq hq
 obtain ⟨VB, varr, vE, vfr, vt1, vt2, vt3, vt4⟩ := I.tip _ _ _ _ hq
 obtain ⟨VB', varr', vE', vfr', vo1, vo2, vo3, vo4, vo5, vo6⟩ := I.old _ _ _ _ _ hq (by have := (I.cur _ _ _ _ hq).2.1; omega) (Nat.le_refl _)
 rw [vt1] at vo1; cases vo1
 rw [vt3] at vo2; cases vo2
 obtain ⟨xv, vg1, vg2, vg3⟩ := vo6 0 _ (by rw [(I.cur _ _ _ _ hq).2.2]; simp) rfl
 simp only [VR, TR] at vg3
 subst vg3
 simp only [VRs] at hr
 obtain ⟨sv, r1, er1, hs, iv, r2, rfl, hi, lv, r3, rfl, hlit, rfl⟩ := hr
 simp only [VR, TR] at hi
 subst hi
 simp only [VR] at hlit
 obtain ⟨hqn, _, _, la, lc, rfl, hlc, hlsp, hla⟩ := hlit
 obtain ⟨_, hl2⟩ := hla VB vt1
 obtain ⟨lb1, lb2, _⟩ := hl2 (.inl (by omega))
 have hlad : la = ⟨VB, 0, none⟩ := by rw [qbq la hlsp, lb1, lb2]
 subst hlad
 have hcargs : cargs = #[sv, .int .i64 (Int.ofNat i), .slice (some ⟨VB, 0, none⟩) 1 lc] := Array.toList_inj.1 (by rw [er1])
 subst hcargs
 have vt5 : ∀ o, o ≤ varr.size → ¬ (vfr.1 ≤ o ∧ o < vfr.2) := fun o ho => vt4 o (by omega)
 split at h
 ·-- nil
  split at h
  rotate_left
  ·cases h
  rename_i hi0
  subst hi0
  cases h
  simp only [VR, TR] at hs
  subst hs
  refine (hf.nil_ w VB lc x varr vE vfr vt3 vg1).mono fun e w' hh => ?_
  obtain ⟨arr, elem, cap, rfl, k1, k2, k3, k4, k5, k6, k7⟩ := hh
  obtain ⟨I', S'⟩ := I.pushCells [.t (.int .i64 x)] arr elem (0, 0) w.drawn (by simp; omega) (fun o _ => by simp) (fun j c hc => by
   cases j with
   | zero => simp only [List.getElem?_cons_zero, Option.some.injEq] at hc; subst hc; exact ⟨_, k3, rfl, by simp only [VR, TR]⟩
   | succ j => simp at hc)
  refine ⟨_, _, rfl, ?_, I'.sameHeap k4, ⟨S'.le, ⟨by rw [k4]; exact S'.ext.size, fun b hb hn => by rw [k4]; exact S'.ext.keep b hb hn, k5, k6, k7⟩, S'.tips, S'.own, S'.cold⟩⟩
  rw [← I.len]
  exact qgg (by omega) (by simp) k1.1 (by simpa using k2) k1.2
 ·-- a slice
  rename_i loc gn len
  split at h
  rotate_left
  ·cases h
  rename_i old gen wgen hst
  split at h
  rotate_left
  ·cases h
  rename_i hc
  obtain ⟨rfl, hlen, hil, hne, hpos, hbig⟩ := hc
  cases h
  simp only [VR] at hs
  obtain ⟨hln, _, hk, a, c, rfl, hlec, hsp, ha⟩ := hs
  obtain ⟨q1, q2, q3⟩ := I.cur _ _ _ _ hst
  obtain ⟨B, arr, elem, fr, t1, t2, t3, t4⟩ := I.tip _ _ _ _ hst
  obtain ⟨B', arr', elem', fr', o1, o2, o3, o4, o5, o6⟩ := I.old _ _ _ _ _ hst q2 (Nat.le_refl _)
  rw [t1] at o1; cases o1
  rw [t3] at o2; cases o2
  obtain ⟨hb1, hb2⟩ := ha B t1
  obtain ⟨b1, b2, b3⟩ := hb2 (.inl hpos)
  have haddr : a = ⟨B, 0, none⟩ := by rw [qbq a hsp, b1, b2]
  subst haddr
  have hvb : VB ≠ B := fun e => hne (I.sep _ _ _ _ _ hln hqn t1 (e ▸ vt1))
  -- the values that stand there
  have each : ∀ j, j < len → ∃ v, arr[j]? = some v ∧ v.oneCell' = true ∧ ∀ c, old[j]? = some c → VR g c v := fun j hj => by
   obtain ⟨v, r1, r2, r3⟩ := o6 j (old[j]'(by omega)) (by rw [q3]; omega) (List.getElem?_eq_getElem _)
   exact ⟨v, r1, r2, fun c hc => by rw [List.getElem?_eq_getElem (by omega)] at hc; cases hc; exact r3⟩
  obtain ⟨cs, hcl, hcs⟩ : ∃ cs : List Value, cs.length = len ∧ ∀ j v, cs[j]? = some v → arr[j]? = some v := ⟨arr.toList.take len, by rw [List.length_take, Array.length_toList]; omega, fun j v hj => by
   rw [List.getElem?_take] at hj
   split at hj
   ·simpa using hj
   ·cases hj⟩
  have hone : ∀ v ∈ cs, v.oneCell' = true := fun v hv => by
   obtain ⟨j, hj, rfl⟩ := List.mem_iff_getElem.1 hv
   obtain ⟨v, r1, r2, _⟩ := each j (by omega)
   have := hcs j _ (List.getElem?_eq_getElem hj)
   rw [r1] at this
   cases this
   exact r2
  refine (hf.some_ w B len c i VB lc x cs arr varr elem vE fr vfr hil hpos hlec (by omega) b3.2 hbig hvb hcl t3 vt3 (fun o ho => t4 o (.inl ho)) vt5 vg1 hcs hone).mono fun e w' hh => ?_
  obtain ⟨B2, arr2, elem2, fr2, cap, rfl, p1, p2, p3, p4, p5, p6, p7, p8, p9, p10, p11⟩ := hh
  have hl3 : (old.take i ++ [V.t (.int .i64 x)] ++ old.drop i).length = len + 1 := by
   simp only [List.length_append, List.length_take, List.length_drop, List.length_cons, List.length_nil]; omega
  obtain ⟨I', S'⟩ := I.cutAt (cs := old.take i ++ [.t (.int .i64 x)] ++ old.drop i) (w' := w') hst t1 p3 p2
   (fun o => by
    rcases p2 with rfl | p2
    ·exact t2 o
    ·cases hz : g.fz B2 o with
     | none => rfl
     | some v => have := qcu (I.fz _ _ _ hz); omega)
   p5 (by rw [hl3]; omega) (fun j c' hc => by
    have hj : j < len + 1 := by
     rcases Nat.lt_or_ge j (len + 1) with h | h
     ·exact h
     ·rw [List.getElem?_eq_none (by rw [hl3]; exact h)] at hc; cases hc
    have tl : (cs.take i).length = i := by rw [List.length_take]; omega
    have tl2 : (old.take i).length = i := by rw [List.length_take]; omega
    rcases Nat.lt_trichotomy j i with h | h | h
    ·rw [List.append_assoc, List.getElem?_append_left (by omega), List.getElem?_take, if_pos h] at hc
     obtain ⟨v, r1, r2, r3⟩ := each j (by omega)
     refine ⟨v, p6 j v ?_, r2, r3 _ hc⟩
     have hcj : cs[j]? = some v := by
      have := hcs j (cs[j]'(by omega)) (List.getElem?_eq_getElem _)
      rw [r1] at this; cases this; exact List.getElem?_eq_getElem _
     rw [List.append_assoc, List.getElem?_append_left (by omega), List.getElem?_take, if_pos h]; exact hcj
    ·subst h
     rw [List.append_assoc, List.getElem?_append_right (by omega), tl2, Nat.sub_self] at hc
     simp only [List.cons_append, List.nil_append, List.getElem?_cons_zero, Option.some.injEq] at hc
     subst hc
     refine ⟨.int .i64 x, p6 j _ ?_, rfl, by simp only [VR, TR]⟩
     rw [List.append_assoc, List.getElem?_append_right (by omega), tl, Nat.sub_self]; rfl
    ·obtain ⟨m, rfl⟩ : ∃ m, j = i + 1 + m := ⟨j - (i + 1), by omega⟩
     rw [List.getElem?_append_right (by simp only [List.length_append, tl2, List.length_cons, List.length_nil]; omega)] at hc
     simp only [List.length_append, tl2, List.length_cons, List.length_nil, List.getElem?_drop] at hc
     rw [show i + (i + 1 + m - (i + (0 + 1))) = i + m by omega] at hc
     obtain ⟨v, r1, r2, r3⟩ := each (i + m) (by omega)
     refine ⟨v, p6 _ v ?_, r2, r3 _ hc⟩
     have hcj : cs[i + m]? = some v := by
      have := hcs (i + m) (cs[i + m]'(by omega)) (List.getElem?_eq_getElem _)
      rw [r1] at this; cases this; exact List.getElem?_eq_getElem _
     rw [List.getElem?_append_right (by simp only [List.length_append, tl, List.length_cons, List.length_nil]; omega)]
     simp only [List.length_append, tl, List.length_cons, List.length_nil, List.getElem?_drop]
     rw [show i + (i + 1 + m - (i + (0 + 1))) = i + m by omega]
     exact hcj)
   p7 p8 p9 p10 p11
  refine ⟨_, _, rfl, ?_, I', S'⟩
  simp only [VR]
  refine ⟨by simp [G.cut, hln], by simp [G.cut], by omega, _, cap, rfl, p1.1, rfl, fun B' hB' => ?_⟩
  simp [G.cut] at hB'
  subst hB'
  simp only [G.cut, and_self, if_true, Nat.zero_add]
  refine ⟨by rw [hl3]; omega, fun _ => ⟨trivial, trivial, by omega, p1.2⟩⟩
 ·cases h

end Go.V

/- The contract of slices.Insert at []int, from the shelf's. -/
namespace Go.V
open Go.Shelf Go.Proofs

theorem get_lt' {α : Type} {l : List α} {i : Nat} {x : α} (h : l[i]? = some x) : i < l.length := by
 rcases Nat.lt_or_ge i l.length with h1 | h1
 ·exact h1
 ·rw [List.getElem?_eq_none h1] at h; cases h
theorem quv {cs : List Value} {i n : Nat} {x : Value} (hcl : cs.length = n) (hi : i ≤ n) {j : Nat} {v : Value} (h : (cs.take i ++ [x] ++ cs.drop i)[j]? = some v) :
  (j < i ∧ cs[j]? = some v) ∨ (j = i ∧ v = x) ∨ (i < j ∧ j < n + 1 ∧ (cs.drop i)[j - (i + 1)]? = some v) := by
 have tl : (cs.take i).length = i := by rw [List.length_take]; omega
 rcases Nat.lt_trichotomy j i with hj | hj | hj
 ·rw [List.append_assoc, List.getElem?_append_left (by omega), List.getElem?_take, if_pos hj] at h
  exact .inl ⟨hj, h⟩
 ·subst hj
  rw [List.append_assoc, List.getElem?_append_right (by omega), tl, Nat.sub_self] at h
  simp only [List.cons_append, List.nil_append, List.getElem?_cons_zero, Option.some.injEq] at h
  exact .inr (.inl ⟨rfl, h.symm⟩)
 ·rw [List.getElem?_append_right (by simp only [List.length_append, tl, List.length_cons, List.length_nil]; omega)] at h
  simp only [List.length_append, tl, List.length_cons, List.length_nil, Nat.zero_add] at h
  refine .inr (.inr ⟨hj, ?_, h⟩)
  rcases Nat.lt_or_ge (j - (i + 1)) (cs.drop i).length with h1 | h1
  ·rw [List.length_drop] at h1; omega
  ·rw [List.getElem?_eq_none h1] at h; cases h

theorem insOk {P : Program} {ρ : Ren} (L : Lays2.n21 P ρ) : InsOk P (ρ.f 21) where
 some_ := by
  intro w b n c i vb vc x cs arr varr tB tA fr vfr hi hn hnc hca hc63 hbig hvb hcl hb hv hfr hvfr hvx hcs hone
  have cellb : ∀ j, w.cell? ⟨b, j, none⟩ = arr[j]? := fun j => cell_of_heap hb
  have h1v : ∀ v ∈ [Value.int .i64 x], v.oneCell' = true := by simp [Value.oneCell']
  have hvs : ∀ (j : Nat) (v : Value), [Value.int .i64 x][j]? = some v → w.cell? ⟨vb, 0 + j, none⟩ = some v := fun j v hj => by
   cases j with
   | zero => simp at hj; subst hj; rw [cell_of_heap hv]; exact hvx
   | succ j => simp at hj
  have hcs0 : ∀ (j : Nat) (v : Value), cs[j]? = some v → w.cell? ⟨b, 0 + j, none⟩ = some v := fun j v hj => by rw [Nat.zero_add, cellb]; exact hcs j v hj
  have hsz : n ≤ arr.size := by omega
  by_cases hroom : n + 1 ≤ c
  ·have hsp : ∀ j, j < n + 1 → (w.cell? ⟨b, 0 + j, none⟩).isSome = true := fun j hj => by
    rw [Nat.zero_add, cellb, Array.getElem?_eq_getElem (by omega)]; rfl
   have hfz : ∀ j, j < n + 1 → w.frozen? ⟨b, 0 + j, none⟩ = false := fun j hj => by
    have := hfr j (by omega)
    simp only [World.frozen?, hb, Nat.zero_add]
    simpa using this
   rcases Nat.lt_or_ge i n with hin | hin
   ·refine (Any2.slices_Insert_int_shift L b 0 n c i vb 0 1 vc cs [.int .i64 x] w hin (by omega) hroom hc63 hvb hcl rfl hcs0 hsp hfz hvs hone h1v tA tB varr.size arr.size (by simp [World.shape?, hv]) (by simp [World.shape?, hb]) (by omega) ?_ ?_).mono fun e w' hh => ?_
    ·have := hvfr 0 (by omega)
     simp only [World.frozen?, hv]
     simpa using this
    ·have := hvfr varr.size (by omega)
     simp only [World.frozen?, hv]
     simpa using this
    ·obtain ⟨rfl, rfl⟩ := hh
     obtain ⟨a1, p1, p2, p3, p4, p5, p6, p7, p8⟩ := qbi b (cs.drop i) (0 + (i + 1)) w.drew arr tB fr hb (by rw [List.length_drop]; omega)
     obtain ⟨a2, q1, q2, q3, q4, q5, q6, q7, q8⟩ := qbi b [Value.int .i64 x] (0 + i) _ a1 tB fr p1 (by simp; omega)
     refine ⟨b, a2, tB, fr, c, rfl, ⟨hroom, hc63⟩, .inl rfl, q1, by omega, fun o ho => hfr o (by omega), fun j v hj => ?_, by rw [q4, p4]; exact Nat.le_refl _, fun b' _ hne => by rw [q5 b' hne, p5 b' hne]; rfl, by rw [q6, p6]; rfl, by rw [q7, p7]; rfl, by rw [q8, p8]; rfl⟩
     rw [q3]
     rcases quv hcl hi hj with ⟨h1, h2⟩ | ⟨rfl, rfl⟩ | ⟨h1, h2, h3⟩
     ·rw [if_neg (by simp; omega), p3, if_neg (by omega)]; exact hcs j v h2
     ·rw [if_pos (by simp)]; simp
     ·rw [if_neg (by simp; omega), p3, if_pos (by rw [List.length_drop]; omega)]
      rw [Nat.zero_add]; exact h3
   ·obtain rfl : i = n := by omega
    have hsp0 : ∀ j, j < 1 → (w.cell? ⟨b, 0 + i + j, none⟩).isSome = true := fun j hj => by
     obtain rfl : j = 0 := by omega
     exact hsp i (by omega)
    have hfz0 : ∀ j, j < 1 → w.frozen? ⟨b, 0 + i + j, none⟩ = false := fun j hj => by
     obtain rfl : j = 0 := by omega
     exact hfz i (by omega)
    refine (Any2.slices_Insert_int_end_room L b 0 i c vb 0 1 vc [.int .i64 x] w (by omega) hroom hc63 rfl hsp0 hfz0 hvs h1v).mono fun e w' hh => ?_
    obtain ⟨rfl, rfl⟩ := hh
    obtain ⟨a2, q1, q2, q3, q4, q5, q6, q7, q8⟩ := qbi b [Value.int .i64 x] (0 + i) w arr tB fr hb (by simp; omega)
    refine ⟨b, a2, tB, fr, c, rfl, ⟨hroom, hc63⟩, .inl rfl, q1, by omega, fun o ho => hfr o (by omega), fun j v hj => ?_, by rw [q4]; exact Nat.le_refl _, fun b' _ hne => q5 b' hne, q6, q7, q8⟩
    rw [q3]
    rcases quv hcl hi hj with ⟨h1, h2⟩ | ⟨rfl, rfl⟩ | ⟨h1, h2, h3⟩
    ·rw [if_neg (by simp; omega)]; exact hcs j v h2
    ·rw [if_pos (by simp)]; simp
    ·omega
  ·have hcut := qsu (n + 1) c (ρ.t 3) (w.tape w.drawn (.appendCap (n + 1) c (ρ.t 3))) (by omega)
   have hG : n + 1 ≤ grownCap w (n + 1) c (ρ.t 3) ∧ grownCap w (n + 1) c (ρ.t 3) ≤ 9223372036854775807 := hcut
   rcases Nat.lt_or_ge i n with hin | hin
   ·refine (Any2.slices_Insert_int_grow L b 0 n c i vb 0 1 vc cs [.int .i64 x] w hin (by omega) hnc (by omega) hbig hcl rfl hcs0 hvs hone h1v).mono fun e w' hh => ?_
    obtain ⟨rfl, rfl⟩ := hh
    revert hG
    generalize grownCap w (n + 1) c (ρ.t 3) = G
    intro hG
    obtain ⟨BASE, hBASE⟩ : ∃ BASE : Array Value, BASE = (cs.take i).toArray ++ Builtin.zeroCells (Value.int .i64 0).cells (n + 1 - i) ++ Builtin.zeroCells (Value.int .i64 0).cells (G - (n + 1)) := ⟨_, rfl⟩
    rw [← hBASE]
    have hBs : BASE.size = G := by
     rw [hBASE]
     simp [Builtin.zeroCells, Value.cells, List.length_take]
     omega
    have hBg : ∀ j v, j < i → cs[j]? = some v → BASE[j]? = some v := fun j v hj hc => by
     rw [hBASE, Array.append_assoc, Array.getElem?_append_left (by simp; omega)]
     simp [hj, hc]
    have hnew : (w.alloc (.cells BASE (ρ.t 3))).drew.heap[w.heap.size]? = some (.cells BASE (ρ.t 3) (0, 0)) := qbe _ _
    have hold : ∀ b', b' < w.heap.size → (w.alloc (.cells BASE (ρ.t 3))).drew.heap[b']? = w.heap[b']? := fun b' hb' => qav _ _ _ hb'
    obtain ⟨a1, p1, p2, p3, p4, p5, p6, p7, p8⟩ := qbi w.heap.size [Value.int .i64 x] i _ BASE (ρ.t 3) (0, 0) hnew (by simp; omega)
    obtain ⟨a2, q1, q2, q3, q4, q5, q6, q7, q8⟩ := qbi w.heap.size (cs.drop i) (i + 1) ((w.alloc (.cells BASE (ρ.t 3))).drew.setCells w.heap.size i [Value.int .i64 x]).drew a1 (ρ.t 3) (0, 0) p1 (by rw [List.length_drop]; omega)
    refine ⟨w.heap.size, a2, ρ.t 3, (0, 0), G, rfl, hG, .inr (Nat.le_refl _), q1, by omega, fun o _ => by simp, fun j v hj => ?_, ?_, fun b' hb' hne => ?_, by rw [q6]; exact p6, by rw [q7]; exact p7, by rw [q8]; exact p8⟩
    ·rw [q3]
     rcases quv hcl hi hj with ⟨h1, h2⟩ | ⟨rfl, rfl⟩ | ⟨h1, h2, h3⟩
     ·rw [if_neg (by omega), p3, if_neg (by simp; omega)]; exact hBg j v h1 h2
     ·rw [if_neg (by omega), p3, if_pos (by simp)]; simp
     ·rw [if_pos (by rw [List.length_drop]; omega)]; exact h3
    ·rw [q4]
     show _ ≤ ((w.alloc (.cells BASE (ρ.t 3))).drew.setCells w.heap.size i [Value.int .i64 x]).heap.size
     rw [p4]
     show _ ≤ (w.heap.push _).size
     simp
    ·rw [q5 b' (by omega)]
     show ((w.alloc (.cells BASE (ρ.t 3))).drew.setCells w.heap.size i [Value.int .i64 x]).heap[b']? = _
     rw [p5 b' (by omega)]
     exact hold b' hb'
   ·obtain rfl : i = n := by omega
    refine (Any2.slices_Insert_int_end_grow L (some ⟨b, 0, none⟩) i c vb 0 1 vc cs [.int .i64 x] w (by omega) hnc (by omega) hbig hcl rfl (fun h => by cases h) (fun a ha j v hj => by
     cases ha
     rw [add_plain]
     exact hcs0 j v hj) hvs h1v).mono fun e w' hh => ?_
    obtain ⟨rfl, rfl⟩ := hh
    revert hG
    generalize grownCap w (i + 1) c (ρ.t 3) = G
    intro hG
    refine ⟨w.heap.size, _, ρ.t 3, (0, 0), G, rfl, hG, .inr (Nat.le_refl _), qbe _ _, ?_, fun o _ => by simp, fun j v hj => ?_, (by show _ ≤ (w.heap.push _).size; simp), fun b' hb' _ => qav _ _ _ hb', rfl, rfl, rfl⟩
    ·simp [Builtin.zeroCells, Value.cells]
     omega
    ·have hl : (cs.take i ++ [Value.int .i64 x] ++ cs.drop i) = cs ++ [Value.int .i64 x] := by
      rw [List.take_of_length_le (by omega), List.drop_eq_nil_of_le (by omega), List.append_nil]
     rw [hl] at hj
     rw [Array.getElem?_append_left (by have := get_lt' hj; simpa using this)]
     simpa using hj
 nil_ := by
  intro w vb vc x varr tA vfr hv hvx
  have h1v : ∀ v ∈ [Value.int .i64 x], v.oneCell' = true := by simp [Value.oneCell']
  have hvs : ∀ (j : Nat) (v : Value), [Value.int .i64 x][j]? = some v → w.cell? ⟨vb, 0 + j, none⟩ = some v := fun j v hj => by
   cases j with
   | zero => simp at hj; subst hj; rw [cell_of_heap hv]; exact hvx
   | succ j => simp at hj
  refine (Any2.slices_Insert_int_end_grow L none 0 0 vb 0 1 vc [] [.int .i64 x] w (by omega) (by omega) (by omega) (by omega) rfl rfl (fun _ => rfl) (fun _ h => by cases h) hvs h1v).mono fun e w' hh => ?_
  obtain ⟨rfl, rfl⟩ := hh
  have hcut := qsu (0 + 1) 0 (ρ.t 3) (w.tape w.drawn (.appendCap (0 + 1) 0 (ρ.t 3))) (by omega)
  refine ⟨_, ρ.t 3, grownCap w (0 + 1) 0 (ρ.t 3), rfl, hcut, ?_, ?_, rfl, rfl, rfl, rfl⟩
  ·have : 0 + 1 ≤ grownCap w (0 + 1) 0 (ρ.t 3) := hcut.1
   simp [Builtin.zeroCells, Value.cells]
   omega
  ·simp only [List.nil_append]
   rw [Array.getElem?_append_left (by simp)]
   simp
end Go.V

/- slices.Sort of ints, met by a contract: an extern that turns the store. -/
namespace Go.V

def qmt : List V → Option (List Int)
 | [] => some []
 | .t (.int .i64 z) :: r => (qmt r).map (z :: ·)
 | _ => none
theorem qrs : ∀ {l : List V} {zs : List Int}, qmt l = some zs → l = zs.map fun z => .t (.int .i64 z)
 | [], zs, h => by cases h; rfl
 | x :: r, zs, h => by
  unfold qmt at h
  split at h
  ·rename_i e; cases e
  ·rename_i z r' e
   cases e
   cases hr : qmt r with
   | none => rw [hr] at h; cases h
   | some l => rw [hr] at h; cases h; rw [qrs hr]; rfl
  ·cases h
def qpi (zs : List Int) : List Int := zs.mergeSort fun x y => decide (x ≤ y)
/-- Sort(s): 's' a whole slice of ints, or nil. -/
def srtV (args : List V) (σ : Store) : Option (V × Store) := match args with
 | [.t .nils] => some (.t (.tup []), σ)
 | [.sl loc g 0 len 1] => match σ[loc]? with
  | some (.cells old gen _) => match qmt old with
   | some zs => if g = gen ∧ len = old.length ∧ 0 < len ∧ len ≤ 1000000 then some (.t (.tup []), σ.set loc (.cells ((qpi zs).map fun z => .t (.int .i64 z)) gen gen)) else none
   | none => none
  | _ => none
 | _ => none

/-- What the contract says (to be had from the shelf's Any.slices_Sort_int). -/
structure SrtOk (P : Program) (f : FuncId) : Prop where
 some_ : ∀ (w : World) (b c : Nat) (zs : List Int) (arr : Array Value) (tB : TypeId) (fr : Nat × Nat), w.heap[b]? = some (.cells arr tB fr) → zs.length ≤ arr.size → zs.length ≤ 1000000 → (∀ o, o < arr.size → ¬ (fr.1 ≤ o ∧ o < fr.2)) → (∀ (j : Nat) (z : Int), zs[j]? = some z → arr[j]? = some (.int .i64 z)) →
  Calls P f #[.slice (some ⟨b, 0, none⟩) zs.length c] w fun e w' => e = .returned (.tuple #[]) ∧ ∃ arr', w'.heap[b]? = some (.cells arr' tB fr) ∧ arr'.size = arr.size ∧ (∀ (j : Nat) (z : Int), (qpi zs)[j]? = some z → arr'[j]? = some (.int .i64 z)) ∧
   w.heap.size ≤ w'.heap.size ∧ (∀ b', b' < w.heap.size → b' ≠ b → w'.heap[b']? = w.heap[b']?) ∧ w'.tape = w.tape ∧ w'.os = w.os ∧ w'.output = w.output
 nil_ : ∀ (w : World), Calls P f #[.slice none 0 0] w fun e w' => e = .returned (.tuple #[]) ∧ w' = w

theorem qzu {P : Program} {f : FuncId} (hf : SrtOk P f) {args : List V} {v : V} {σ σ' : Store} (h : srtV args σ = some (v, σ')) (g : G) (w : World) (cargs : Array Value) (I : Inv g σ w) (hr : VRs g args cargs.toList) :
  Calls P f cargs w fun e w' => ∃ cv g', e = .returned cv ∧ VR g' v cv ∧ Inv g' σ' w' ∧ Step g w g' w' := by
 unfold srtV at h
 split at h
 ·cases h
  simp only [VRs] at hr
  obtain ⟨sv, r1, er1, hs, rfl⟩ := hr
  simp only [VR, TR] at hs
  subst hs
  have hcargs : cargs = #[.slice none 0 0] := Array.toList_inj.1 (by rw [er1])
  subst hcargs
  refine (hf.nil_ w).mono fun e w' hh => ?_
  obtain ⟨rfl, rfl⟩ := hh
  exact ⟨_, g, rfl, by simp [VR, TR, TRs], I, Step.refl g _⟩
 ·rename_i loc gn len
  split at h
  rotate_left
  ·cases h
  rename_i old gen wgen hst
  split at h
  rotate_left
  ·cases h
  rename_i zs hzs
  split at h
  rotate_left
  ·cases h
  rename_i hc
  obtain ⟨rfl, hlen, hpos, hbig⟩ := hc
  cases h
  have hold := qrs hzs
  have hzl : zs.length = old.length := by rw [hold, List.length_map]
  have hml : (qpi zs).length = zs.length := by simp [qpi]
  simp only [VRs] at hr
  obtain ⟨sv, r1, er1, hs, rfl⟩ := hr
  simp only [VR] at hs
  obtain ⟨hln, _, hk, a, c, rfl, hlec, hsp, ha⟩ := hs
  obtain ⟨q1, q2, q3⟩ := I.cur _ _ _ _ hst
  obtain ⟨B, arr, elem, fr, t1, t2, t3, t4⟩ := I.tip _ _ _ _ hst
  obtain ⟨B', arr', elem', fr', o1, o2, o3, o4, o5, o6⟩ := I.old _ _ _ _ _ hst q2 (Nat.le_refl _)
  rw [t1] at o1; cases o1
  rw [t3] at o2; cases o2
  obtain ⟨hb1, hb2⟩ := ha B t1
  obtain ⟨b1, b2, b3⟩ := hb2 (.inl hpos)
  have haddr : a = ⟨B, 0, none⟩ := by rw [qbq a hsp, b1, b2]
  subst haddr
  have hcargs : cargs = #[.slice (some ⟨B, 0, none⟩) zs.length c] := Array.toList_inj.1 (by rw [er1, hzl, hlen])
  subst hcargs
  have hvals : ∀ (j : Nat) (z : Int), zs[j]? = some z → arr[j]? = some (.int .i64 z) := fun j z hj => by
   have hjl : j < zs.length := by
    rcases Nat.lt_or_ge j zs.length with h | h
    ·exact h
    ·rw [List.getElem?_eq_none h] at hj; cases hj
   obtain ⟨v, p1, _, p3⟩ := o6 j (.t (.int .i64 z)) (by rw [q3]; omega) (by rw [hold, List.getElem?_map, hj]; rfl)
   simp only [VR, TR] at p3
   rw [p1, p3]
  refine (hf.some_ w B c zs arr elem fr t3 (by omega) (by omega) (fun o ho => t4 o (.inl ho)) hvals).mono fun e w' hh => ?_
  obtain ⟨rfl, arr2, e1, e2, e3, e4, e5, e6, e7, e8⟩ := hh
  have hle : g.Le (g.wrote loc gn) := {
   fz := fun _ _ _ h => h
   n := Nat.le_refl _
   gn := fun _ _ => Nat.le_refl _
   mu := fun l h B' _ _ hB => by
    simp only [G.wrote] at hB
    split at hB
    ·split at hB
     ·exact hB
     ·cases hB
    ·exact hB
   sz := fun _ _ _ _ => rfl
   bs := fun _ _ _ _ => rfl
   mp := fun _ _ _ h => h }
  refine ⟨_, g.wrote loc gn, rfl, by simp [VR, TR, TRs], ?_, ?_⟩
  ·refine I.update hst t1 hle rfl rfl (fun l _ hne => ⟨rfl, fun h => ?_, fun _ => rfl, fun _ => rfl⟩) (fun _ => rfl) (fun b hb hne => e5 b hb hne) ?_ ?_ ?_ ?_
   ·simp only [G.wrote]; rw [if_neg hne]
   ·exact ⟨q1, Nat.le_refl _, by rw [List.length_map, hml]; rw [hzl]; exact q3⟩
   ·exact ⟨B, arr2, elem, fr, by simp [G.wrote, t1], t2, e1, by rw [e2]; exact t4⟩
   ·intro h hh1 hh2
    obtain rfl : h = gn := by omega
    refine ⟨B, arr2, elem, fr, by simp [G.wrote, t1], e1, by rw [e2]; exact o3, by rw [e2]; exact o4, by rw [List.length_map, hml, hzl]; exact o5, ?_⟩
    intro j c hj hc
    rw [List.getElem?_map] at hc
    cases hz : (qpi zs)[j]? with
    | none => rw [hz] at hc; cases hc
    | some z =>
     rw [hz] at hc
     simp only [Option.map_some, Option.some.injEq] at hc
     subst hc
     exact ⟨_, e3 j z hz, rfl, by simp only [VR, TR]⟩
   ·intro h B' hm
    simp only [G.wrote, if_true] at hm
    split at hm
    ·rename_i e; subst e; exact ⟨Nat.le_refl _, Nat.le_refl _, .inl ⟨h, hm⟩⟩
    ·cases hm
  ·refine ⟨hle, ⟨e4, fun b hb hn => e5 b hb (fun e => ?_), e6, e7, e8⟩, ?_, ?_, fun _ _ _ h _ => h⟩
   ·have := (hn loc hln).1
    rw [q1, t1] at this
    exact this (by rw [e])
   ·intro l b hl hm _
    refine ⟨hl, ?_⟩
    rcases hm with hm | hm
    ·left
     simp only [G.wrote] at hm
     split at hm
     ·split at hm
      ·exact hm
      ·cases hm
     ·exact hm
    ·exact .inr hm
   ·intro l h b hl hm _
    refine ⟨hl, h, ?_⟩
    simp only [G.wrote] at hm
    split at hm
    ·split at hm
     ·exact hm
     ·cases hm
    ·exact hm
 ·cases h
end Go.V

/- The shelf's contract of slices.Sort at []int, as VSrt wants it. -/
namespace Go.V
open Go.Shelf Go.Sort Go.Proofs
theorem srtOk {P : Program} {ρ : Ren} (L : Lays.n189 P ρ) : SrtOk P (ρ.f 189) where
 some_ := fun w b c zs arr tB fr h1 h2 h3 h4 h5 => by
  have hb : b < w.heap.size := (Array.getElem?_eq_some_iff.1 h1).1
  have hH : Holds (Value.int .i64) w b 0 zs.toArray := by
   intro j hj
   have hj' : j < zs.length := by simpa using hj
   refine ⟨?_, ?_⟩
   ·simp only [World.cell?, h1, Nat.zero_add]
    simp only [Option.isSome_none, Bool.false_eq_true, if_false]
    rw [h5 j zs[j] (List.getElem?_eq_getElem hj')]
    simp [hj']
   ·have := h4 (0 + j) (by omega)
    simp only [World.frozen?, h1]
    simpa using this
  refine (Any.slices_Sort_int L b 0 c zs w hH hb (by omega)).mono fun e w' hh => ?_
  obtain ⟨rfl, n, os, rfl⟩ := hh
  refine ⟨rfl, putCells (Value.int .i64) 0 (zs.mergeSort fun x y => decide (x ≤ y)).toArray arr, ?_, by simp [putCells], fun j z hj => ?_, ?_, fun b' hb' hne => ?_, rfl, rfl, rfl⟩
  ·rw [heap_grow_old _ _ (by simpa using hb)]
   simp [putRow, mapBlock, Sort.ahead, Array.getElem?_modify, h1, Go.Sort.onCells]
  ·have hl : (zs.mergeSort fun x y => decide (x ≤ y)).length = zs.length := by simp
   have hj' : j < zs.length := by
    rcases Nat.lt_or_ge j zs.length with h | h
    ·exact h
    ·rw [qpi, List.getElem?_eq_none (by omega)] at hj; cases hj
   simp only [qpi] at hj
   have hja : j < arr.size := by omega
   obtain ⟨h, e⟩ := List.getElem?_eq_some_iff.1 hj
   simp [putCells, hj', hja, e]
  ·simp
  ·rw [heap_grow_old _ _ (by simpa using hb')]
   simp [putRow, mapBlock, Sort.ahead, Array.getElem?_modify, Ne.symm hne]
 nil_ := fun w => Any.slices_Sort_int_none L none 0 w
end Go.V
