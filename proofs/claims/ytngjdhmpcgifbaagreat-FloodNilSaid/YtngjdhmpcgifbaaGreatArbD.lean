/-
  ONE OPERATION, the rest: clear; rows of zeros.
-/
import Derived.WideKeyRuns
import Derived.Laws.LoneSync
import Derived.Lib.Builder
import Derived.Lib.UnsafeStr
import Derived.Laws.BytesArg
import Derived.Test.YtngjdhmpcgifbaaGreatArbA
import Derived.Test.YtngjdhmpcgifbaaGreatArbB
import Derived.Test.YtngjdhmpcgifbaaGreatArbC
namespace Arx
open Go Go.RowKit Arb

section
variable {ν : Nat → Nat} {P : Program} {k : Cx} {g : Gh}

def clrK (P : Program) (t : TypeId) (e : Nat) (z : List AV) : Bool :=
  match P.underlying t with
  | some (.slice el) => sizeB P el e && zeroK P el z
  | _ => false
theorem clr_ok (r : Rel ν k g) {t ty : TypeId} {e : Nat} {z : List AV} (ht : clrK P t e z = true) {v : Value} {x y : AV} (hv : RA ν g v x) {h' : Hp} (e' : (clr e z x).run g.h = some (y, h')) :
    Done ν k g h' y ((Builtin.clear_ #[t] ty #[v]).run P g.w) := by
  unfold clrK at ht
  split at ht
  case h_2 => cases ht
  rename_i el hu
  simp only [Bool.and_eq_true] at ht
  obtain ⟨hsz, hz⟩ := ht
  obtain ⟨i, hi, rfl⟩ := sizeB_spec hsz
  obtain ⟨i', zv, hi', hzv, hcv⟩ := zeroK_spec hz
  rw [hi] at hi'; cases hi'
  have hu0 : ∀ g : Gh, RA ν g (.tuple #[]) (.tup []) := fun g => .tup rfl fun j v c h => by simp at h
  cases hv with
  | undef => exact (M.fail_some e').elim
  | nul => exact (M.fail_some e').elim
  | agg => exact (M.fail_some e').elim
  | tup => exact (M.fail_some e').elim
  | ref => exact (M.fail_some e').elim
  | clo => exact (M.fail_some e').elim
  | iv hr =>
    cases hr with
    | nsl a _ =>
      obtain ⟨rfl, rfl⟩ := M.ret_some e'
      exact .same r (v := .tuple #[]) (by cases a <;> simp [Builtin.clear_, run_underlying hu]) (hu0 g)
    | _ => exact (M.fail_some e').elim
  | @own _ id o n ver ho1 ho =>
    obtain ⟨ob, h2, e3, e4⟩ := M.bind_some e'
    obtain ⟨hg, rfl⟩ := M.look_some e3
    unfold OwnAt at ho
    rw [hg] at ho
    cases ob with
    | cells _ => exact (M.fail_some e4).elim
    | icl _ => exact (M.fail_some e4).elim
    | imm _ _ _ => exact (M.fail_some e4).elim
    | map _ => exact (M.fail_some e4).elim
    | buf v' e'' es =>
      obtain ⟨_, h3, e5, e6⟩ := M.bind_some e4
      obtain ⟨hok, rfl⟩ := M.ok_some e5
      simp only [Bool.and_eq_true, beq_iff_eq] at hok
      obtain ⟨⟨rfl, rfl⟩, hzl⟩ := hok
      obtain ⟨_, h4, e7, e8⟩ := M.bind_some e6
      obtain rfl := M.write_some e7
      obtain ⟨rfl, rfl⟩ := M.ret_some e8
      have hs := ho.2 rfl
      have hzs : zv.cells.size = i.size := by have := (kVals_ok hcv).1; simp at this; omega
      obtain ⟨b, hφ, hnI, hsoft, hrow⟩ := r.ob id _ hg
      rw [hφ] at hs
      obtain ⟨x, cap, rfl, q2, qL, q3, q4, q5⟩ := hs
      generalize hvs : (Builtin.zeroCells zv.cells n).toList = vs
      have hvl : vs.length = n * i.size := by rw [← hvs]; simp [size_zeroCells, hzs]
      obtain ⟨hkl, hall⟩ := kVals_ok hcv
      have hat : ∀ (p : Nat), p < zv.cells.size → ∃ y, z[p]? = some y ∧ kVal zv.cells[p]! y = true := by
        intro p hp
        have hpz : p < z.length := by simp at hkl; omega
        obtain ⟨w, hw, hc⟩ := hall p _ (List.getElem?_eq_getElem hpz)
        refine ⟨_, List.getElem?_eq_getElem hpz, ?_⟩
        have : w = zv.cells[p]! := by
          have h' : zv.cells[p]? = some w := by simpa using hw
          rw [Array.getElem?_eq_getElem hp] at h'
          rw [getElem!_pos zv.cells p hp]; exact (Option.some.inj h').symm
        rw [← this]; exact hc
      have hone : ∀ u ∈ vs, u.oneCell' = true := by
        intro u hu'
        rw [← hvs] at hu'
        simp only [Builtin.zeroCells, Array.toList_map, List.mem_map] at hu'
        obtain ⟨p, hp, rfl⟩ := hu'
        simp only [Array.toList_range, List.mem_range] at hp
        have hlt : p % zv.cells.size < zv.cells.size := Nat.mod_lt _ (by
          rcases Nat.eq_zero_or_pos zv.cells.size with h0 | h0
          · rw [h0] at hp; simp at hp
          · exact h0)
        obtain ⟨y, -, hc⟩ := hat _ hlt
        exact (kVal_ok (ν := ν) hc g).1
      have hex : ∀ j, j < vs.length → (g.w.cell? ⟨b, o * i.size + j, none⟩).isSome = true := by
        intro j hj
        have hn0 : n ≠ 0 := fun h => by rw [hvl, h] at hj; simp at hj
        have hx : x = o * i.size := q4.resolve_right fun h => hn0 h.1
        refine q5 hx _ ?_
        have : n * i.size ≤ cap * i.size := Nat.mul_le_mul_right _ q3
        rw [Nat.add_mul]; omega
      have hrun : (Builtin.clear_ #[t] ty #[.slice (some ⟨b, x, none⟩) n cap]).run P g.w = .ok (.tuple #[]) (g.w.setCells b (o * i.size) vs) := by
        by_cases hn0 : n = 0
        · subst hn0
          have : vs = [] := List.eq_nil_of_length_eq_zero (by simpa using hvl)
          subst this
          simp [Builtin.clear_, run_underlying hu, World.setCells]
        · have hx : x = o * i.size := q4.resolve_right fun h => hn0 h.1
          subst hx
          have hst := run_storeCells_cells (P := P) b (o * i.size) vs 0 g.w (by simpa using hex) (fun _ _ => hsoft.2 _) hone
          simp only [Nat.add_zero] at hst
          have hmk : ∀ m, n = m + 1 → (Builtin.clear_ #[t] ty #[.slice (some ⟨b, o * i.size, none⟩) n cap]).run P g.w = .ok (.tuple #[]) (g.w.setCells b (o * i.size) vs) := by
            intro m hm
            subst hm
            simp [Builtin.clear_, run_underlying hu, zeroValue, typeInfo, hi, hzv, hvs, hst]
          exact hmk (n - 1) (by omega)
      have hput := r.put (id := id) (v := v') (e := i.size) (b := b) (off := o * i.size) (v' := v') (es := es) (es' := es.take o ++ List.replicate n z ++ es.drop (o + n)) (vs := vs) hg hφ hex (.inl ⟨rfl, by simp; omega⟩) (fun g' hw hm => by
        have hto : (es.take o).length = o := by simp; omega
        refine ⟨fun c hc => ?_, fun a j c y ha hj => ?_⟩
        · simp only [List.mem_append] at hc
          rcases hc with (h | h) | h
          · exact hrow.1 c (List.mem_of_mem_take h)
          · rw [List.eq_of_mem_replicate h]; exact hzl
          · exact hrow.1 c (List.mem_of_mem_drop h)
        · rw [hw, setCells_cell _ _ _ _ hex, hvl]
          rw [List.getElem?_append, List.getElem?_append] at ha
          simp only [List.length_append, List.length_replicate, hto] at ha
          have mul1 : ∀ {p q : Nat}, p < q → p * i.size + i.size ≤ q * i.size := fun h => by rw [← Nat.succ_mul]; exact Nat.mul_le_mul_right _ h
          split at ha
          · rename_i h1
            split at ha
            · rename_i h2
              rw [List.getElem?_take, if_pos h2] at ha
              have hj' := hrow.len ha hj
              have := mul1 h2
              rw [if_neg (by omega)]
              obtain ⟨w, hw, h5, hR⟩ := hrow.2 a j c y ha hj
              exact ⟨w, hw, h5, hm _ _ hR⟩
            · rename_i h2
              rw [List.getElem?_replicate, if_pos (by omega)] at ha
              cases ha
              have hj' : j < i.size := by have := lt_of_some hj; omega
              have e1 : o * i.size + (a - o) * i.size = a * i.size := by rw [← Nat.add_mul]; congr 1; omega
              have e2 : (a - o) * i.size + i.size ≤ n * i.size := mul1 (by omega)
              rw [if_pos (by omega), show a * i.size + j - o * i.size = (a - o) * i.size + j by omega]
              obtain ⟨y', hy', hc⟩ := hat j (by omega)
              rw [hj] at hy'; cases hy'
              obtain ⟨k1, k2⟩ := kVal_ok (ν := ν) hc g'
              refine ⟨zv.cells[j]!, ?_, k1, k2⟩
              rw [← hvs]
              have hp : (a - o) * i.size + j < n * i.size := by omega
              have hmod : ((a - o) * i.size + j) % i.size = j := by rw [Nat.add_comm, Nat.add_mul_mod_self_right, Nat.mod_eq_of_lt hj']
              simp only [Builtin.zeroCells, Array.getElem?_toList, Array.getElem?_map, Array.getElem?_range, if_pos hp, Option.map_some, hzs, hmod]
          · rename_i h1
            rw [List.getElem?_drop, show o + n + (a - (o + n)) = a by omega] at ha
            have hj' := hrow.len ha hj
            have : o * i.size + n * i.size ≤ a * i.size := by rw [← Nat.add_mul]; exact Nat.mul_le_mul_right _ (by omega)
            rw [if_neg (by omega)]
            obtain ⟨w, hw, h5, hR⟩ := hrow.2 a j c y ha hj
            exact ⟨w, hw, h5, hm _ _ hR⟩)
      exact ⟨_, _, hrun, rfl, hput.1, hput.2, hu0 _⟩

theorem capn_ok (r : Rel ν k g) {t ty : TypeId} {e : Nat} (ht : sliceB P t e = true) {v : Value} {x y : AV} {h' : Hp} (hv : RA ν g v x) (e' : (capn x).run g.h = some (y, h')) : Done ν k g h' y ((Builtin.cap_ #[t] ty #[v]).run P g.w) := by
  obtain ⟨el, i, hu, hi, rfl⟩ := sliceB_spec ht
  unfold capn at e'
  split at e'
  · obtain ⟨rfl, rfl⟩ := M.ret_some e'
    cases hv with
    | iv hr =>
      cases hr with
      | nsl a _ => exact .same r (v := .int .i64 0) (by simp [Builtin.cap_, run_underlying hu, goInt]) mkInt
  · exact (M.fail_some e').elim

theorem zeroCells_at (z : Array Value) (n i j : Nat) (v : Value) (hi : i < n) (hj : z[j]? = some v) : (Builtin.zeroCells z n)[i * z.size + j]? = some v := by
  have hjl : j < z.size := (Array.getElem?_eq_some_iff.1 hj).1
  have hlt : i * z.size + j < n * z.size := by
    have : (i + 1) * z.size ≤ n * z.size := Nat.mul_le_mul_right _ hi
    rw [Nat.add_mul, Nat.one_mul] at this
    omega
  unfold Builtin.zeroCells
  rw [Array.getElem?_map, Array.getElem?_eq_getElem (by simpa using hlt)]
  simp only [Array.getElem_range, Option.map_some]
  have : (i * z.size + j) % z.size = j := by rw [Nat.add_comm, Nat.add_mul_mod_self_right, Nat.mod_eq_of_lt hjl]
  rw [this]
  simp [hjl, (Array.getElem?_eq_some_iff.1 hj).2]

def zrowB (P : Program) (t : TypeId) (e : Nat) (z : List AV) : Bool :=
  match P.underlying t with
  | some (.slice el) => Nat.blt 0 e && (match P.info? el with
    | some i => i.size == e && Nat.ble i.bytes 4096 && (match i.zero with | some z => z.cells.size == e | none => false)
    | none => false) && zeroK P el z
  | _ => false
theorem zrowB_spec {t : TypeId} {e : Nat} {z : List AV} (h : zrowB P t e z = true) : ∃ el i z0, P.underlying t = some (.slice el) ∧ P.info? el = some i ∧ i.size = e ∧ i.bytes ≤ 4096 ∧ i.zero = some z0 ∧ z0.cells.size = e ∧ 0 < e ∧ kVals z0.cells.toList z = true := by
  unfold zrowB at h
  split at h
  case h_2 => cases h
  rename_i el hu
  simp only [Bool.and_eq_true, Nat.blt_eq] at h
  obtain ⟨⟨he0, h3⟩, hz⟩ := h
  split at h3
  case h_2 => cases h3
  rename_i i hi
  simp only [Bool.and_eq_true, beq_iff_eq, Nat.ble_eq] at h3
  obtain ⟨⟨h4, hb⟩, h6⟩ := h3
  split at h6
  case h_2 => cases h6
  rename_i z0 hz0
  obtain ⟨i', z1, hi', hz1, hcz⟩ := zeroK_spec hz
  rw [hi] at hi'; cases hi'
  rw [hz0] at hz1; cases hz1
  exact ⟨el, i, z0, hu, hi, h4, hb, hz0, by simpa using h6, he0, hcz⟩

theorem wrap_small {m : Int} (h0 : 0 ≤ m) (h1 : m.toNat ≤ 1073741824) : IntKind.i64.wrap m = m := by
  have : m ≤ 1073741824 := by omega
  unfold IntKind.wrap
  simp [IntKind.bits, IntKind.signed]
  omega

theorem appn_ok (r : Rel ν k g) {slot : Nat} {t u ty : TypeId} {e : Nat} {z : List AV} {kd : IntKind} (ht : zrowB P t e z = true) (hd : P.underlying u = some (.int kd)) {v yv : Value} {x n y : AV} (hv : RA ν g v x) (hyv : RA ν g yv n) {h' : Hp}
    (e' : (appn e slot z x n).run g.h = some (y, h')) : Done ν k g h' y ((Builtin.append_ #[t, u] ty #[v, yv]).run P g.w) := by
  obtain ⟨el, i, z0, hu, hi, rfl, hb, hz0, hzs, he0, hcz⟩ := zrowB_spec ht
  unfold appn at e'
  split at e'
  case h_2 => exact (M.fail_some e').elim
  rename_i ee
  obtain ⟨m, h1, e1, e2⟩ := M.bind_some e'
  obtain ⟨rfl, kk, rfl⟩ := idx_some e1
  obtain ⟨_, h2, e3, e4⟩ := M.bind_some e2
  obtain ⟨hok, rfl⟩ := M.ok_some e3
  simp only [Bool.and_eq_true, decide_eq_true_eq, beq_iff_eq] at hok
  obtain ⟨⟨h0, hroom⟩, hzl⟩ := hok
  have hroom' : m.toNat ≤ 1073741824 := by simpa [roomy] using hroom
  obtain rfl := hyv.int
  have hw := wrap_small h0 hroom'
  obtain ⟨a, rfl⟩ : ∃ a, v = .slice a 0 0 := by
    cases hv with
    | iv hr => cases hr with | nsl a _ => exact ⟨a, rfl⟩
  have h48 : ¬ (281474976710656 < m * (i.bytes : Int)) := by
    have h1 : m * (i.bytes : Int) ≤ 1073741824 * 4096 := Int.mul_le_mul (by omega) (by omega) (by omega) (by omega)
    omega
  split at e4
  · rename_i hm0
    subst hm0
    obtain ⟨rfl, rfl⟩ := M.ret_some e4
    refine .same r (v := .slice a 0 0) ?_ (.iv (.nsl _ _))
    cases a <;> simp [Builtin.append_, run_underlying hu, run_underlying hd, run_sizeOf hi, asInt, asIntOf, typeInfo, hi, hw, storeCells]
  · rename_i hm0
    obtain ⟨_, h4, e5, e6⟩ := M.bind_some e4
    obtain ⟨hf, rfl⟩ := M.fresh_some e5
    obtain ⟨_, h5, e7, e8⟩ := M.bind_some e6
    obtain rfl := M.write_some e7
    obtain ⟨rfl, rfl⟩ := M.ret_some e8
    have hpos : 0 < m.toNat := by omega
    have hcap := nextcap_fits (need := m.toNat) (cap := 0) (bytes := i.bytes) hpos hroom' hb
    have h48' : ¬ (281474976710656 < Builtin.nextslicecap m.toNat 0 * i.bytes) := by omega
    have hne : ¬ (m.toNat * i.size = 0) := by
      intro h
      rcases Nat.mul_eq_zero.1 h with h | h <;> omega
    have hgc : m.toNat ≤ grownCap g.w m.toNat 0 el := grownCap_ge _ _ _ _
    have hold : (Builtin.firstCells i.size 0 (.slice a 0 0)).run P g.w.drew = .ok #[] g.w.drew := by
      cases a <;> simp [Builtin.firstCells, loadCells, loadCellsFrom]
    have hrun : (Builtin.append_ #[t, u] ty #[.slice a 0 0, .int kk m]).run P g.w = .ok (.slice (some ⟨g.w.heap.size, 0, none⟩) m.toNat (grownCap g.w m.toNat 0 el))
        (g.w.drew.alloc (.cells ((#[] : Array Value) ++ Builtin.zeroCells z0.cells m.toNat ++ Builtin.zeroCells z0.cells (grownCap g.w m.toNat 0 el - m.toNat)) el)) := by
      have hm1 : ¬ m < 0 := by omega
      have hmle : ¬ m ≤ 0 := by omega
      have hmx : ¬ ((9223372036854775807 : Int) < max m 0) := by omega
      simp [Builtin.append_, run_underlying hu, run_underlying hd, run_sizeOf hi, asInt, asIntOf, typeInfo, hi, hw, hm1, hmle, h48, hmx, h48', Question.forced, hold, hne, zeroValue, hz0, newRow, grownCap]
    rw [hrun]
    refine newRow_ok r (.inr rfl) hf (.inl (by omega)) (by simp) (fun c hc => by rw [List.eq_of_mem_replicate hc]; exact hzl) hgc ?_ fun a b c x ha hb' => ?_
    · simp only [Array.size_append, List.size_toArray, List.length_nil, size_zeroCells, hzs]
      rw [Nat.zero_add, ← Nat.add_mul]
      congr 1
      omega
    · rw [List.getElem?_replicate] at ha
      split at ha
      · rename_i ha'
        cases ha
        obtain ⟨-, hall⟩ := kVals_ok hcz
        obtain ⟨v, hv1, hv2⟩ := hall b x hb'
        have hv1 : z0.cells[b]? = some v := by simpa using hv1
        obtain ⟨k1, k2⟩ := kVal_ok (ν := ν) hv2 g
        have hat := zeroCells_at z0.cells m.toNat a b v ha' hv1
        rw [hzs] at hat
        refine ⟨v, ?_, k1, k2⟩
        rw [Array.empty_append, Array.getElem?_append_left]
        · exact hat
        · exact (Array.getElem?_eq_some_iff.1 hat).1
      · cases ha

theorem mks_ok (r : Rel ν k g) {slot : Nat} {t : TypeId} {e : Nat} {z : List AV} (ht : zrowB P t e z = true) {nv : Value} {n y : AV} (hn : RA ν g nv n) {h' : Hp}
    (e' : (mks e slot z n).run g.h = some (y, h')) : Done ν k g h' y ((Instr.makeSlice t nv nv).run P g.w) := by
  obtain ⟨el, i, z0, hu, hi, rfl, hb, hz0, hzs, he0, hcz⟩ := zrowB_spec ht
  obtain ⟨m, h1, e1, e2⟩ := M.bind_some e'
  obtain ⟨rfl, kk, rfl⟩ := idx_some e1
  obtain ⟨_, h2, e3, e4⟩ := M.bind_some e2
  obtain ⟨hok, rfl⟩ := M.ok_some e3
  simp only [Bool.and_eq_true, decide_eq_true_eq, beq_iff_eq] at hok
  obtain ⟨⟨h0, hroom⟩, hzl⟩ := hok
  have hroom' : m.toNat ≤ 1073741824 := by simpa [roomy] using hroom
  obtain rfl := hn.int
  have hw := wrap_small h0 hroom'
  have h48 : ¬ (281474976710656 < (i.bytes : Int) * m) := by
    have h1 : (i.bytes : Int) * m ≤ 4096 * 1073741824 := Int.mul_le_mul (by omega) (by omega) (by omega) (by omega)
    omega
  obtain ⟨_, h4, e5, e6⟩ := M.bind_some e4
  obtain ⟨hf, rfl⟩ := M.fresh_some e5
  obtain ⟨_, h5, e7, e8⟩ := M.bind_some e6
  obtain rfl := M.write_some e7
  obtain ⟨rfl, rfl⟩ := M.ret_some e8
  have hm1 : ¬ m < 0 := by omega
  have hrow := zeros_row (ν := ν) (g := g) hcz m.toNat
  rw [hzs] at hrow
  have hrun : (Instr.makeSlice t (.int kk m) (.int kk m)).run P g.w = .ok (.slice (some ⟨g.w.heap.size, 0, none⟩) m.toNat m.toNat)
      (g.w.alloc (.cells ((Array.range (m.toNat * i.size)).map (z0.cells[· % i.size]!)) el)) := by
    by_cases hm0 : m.toNat * i.size = 0
    · have hmz : m.toNat = 0 := by rcases Nat.mul_eq_zero.1 hm0 with h | h <;> omega
      have hmz' : m = 0 := by omega
      subst hmz'
      simp [Instr.makeSlice, run_underlying hu, asInt, asIntOf, typeInfo, hi, hw, run_sizeOf hi, newRow, Array.range_zero']
    · simp [Instr.makeSlice, run_underlying hu, asInt, asIntOf, typeInfo, hi, hw, hm1, h48, run_sizeOf hi, hm0, zeroValue, hz0, newRow, hzs]
  rw [hrun]
  exact newRow_ok r (.inl rfl) hf (.inl (by omega)) (by simp) hrow.2.1 (Nat.le_refl _) (by simp) hrow.2.2
end
end Arx

/-
  MAPS of the call's own.
-/
namespace Arx
open Go Go.RowKit Arb

section
variable {ν : Nat → Nat} {P : Program} {k : Cx} {g : Gh}

theorem keyB_one {t : TypeId} {qs : List Nat} (h : keyB P t qs = true) : (∃ n e, P.underlying t = some (.array n e) ∧ qs.length = n ∧ qs.length ≠ 1 ∧ tyB P e 1 false = true ∧ ∀ q ∈ qs, qtyB q (P.underlying e) = true) ∨ ∃ q, qs = [q] ∧ qtyB q (P.underlying t) = true := by
  unfold keyB at h
  split at h
  · rename_i n e hu
    simp only [Bool.and_eq_true, beq_iff_eq, bne_iff_ne, ne_eq, List.all_eq_true] at h
    exact .inl ⟨n, e, hu, h.1.1.1, h.1.1.2, h.1.2, h.2⟩
  · split at h
    · rename_i q; exact .inr ⟨q, rfl, h⟩
    · cases h

theorem items_ok {e : TypeId} (he : tyB P e 1 false = true) {xs ys : Array Value} (d : Nat) (w : World) : ∀ (qs : List Nat) (i : Nat) (cs ds : List AV) (b : Bool), (∀ q ∈ qs, qtyB q (P.underlying e) = true) → eqs qs cs ds = some b →
    (∀ (j : Nat) (c : AV), cs[j]? = some c → ∃ v, xs[i + j]? = some v ∧ RA ν g v c) → (∀ (j : Nat) (c : AV), ds[j]? = some c → ∃ v, ys[i + j]? = some v ∧ RA ν g v c) →
    (Op.eqItems (d + 1) e 1 xs ys (List.range' i qs.length)).run P w = .ok b w := by
  intro qs
  induction qs with
  | nil =>
    intro i cs ds b _ h2 _ _
    cases cs <;> cases ds <;> simp [eqs] at h2
    subst h2
    simp [Op.eqItems]
  | cons q qs ih =>
    intro i cs ds b h1 h2 hx hy
    cases cs with
    | nil => simp [eqs] at h2
    | cons c cs =>
      cases ds with
      | nil => simp [eqs] at h2
      | cons d' ds =>
        simp only [eqs, Option.bind_eq_some_iff] at h2
        obtain ⟨b1, e1, b2, e2, e3⟩ := h2
        cases e3
        obtain ⟨v, hv, hvR⟩ := hx 0 c rfl
        obtain ⟨u, hu, huR⟩ := hy 0 d' rfl
        obtain ⟨dd, ii, h3, h4, h5, h6, _⟩ := tyB_spec he
        have hp1 : (part e xs (i * 1)).run P w = .ok v w := by simp [part, run_isAgg h3, h5, show xs[i]? = some v from hv]
        have hp2 : (part e ys (i * 1)).run P w = .ok u w := by simp [part, run_isAgg h3, h5, show ys[i]? = some u from hu]
        have he0 := eq0_ok (P := P) e1 (h1 q (by simp)) hvR huR d w
        have hr := ih (i + 1) cs ds b2 (fun q hq => h1 q (by simp [hq])) e2 (fun j c hc => by have := hx (j + 1) c (by simpa using hc); rwa [show i + 1 + j = i + (j + 1) by omega]) (fun j c hc => by
          have := hy (j + 1) c (by simpa using hc); rwa [show i + 1 + j = i + (j + 1) by omega])
        simp only [List.length_cons, List.range'_succ, Op.eqItems, Sem.run_bind, hp1, hp2, he0, Result.andThen_ok, Sem.run_ite]
        cases b1
        · simp
        · simp [hr]

theorem cellsOf_tyB {e : TypeId} (he : tyB P e 1 false = true) : P.cellsOf e = 1 ∧ ∃ i, P.info? e = some i ∧ i.size = 1 := by
  obtain ⟨dd, ii, h3, h4, h5, h6, _⟩ := tyB_spec he
  exact ⟨by simp [Program.cellsOf, h4, h6], ii, h4, h6⟩

theorem key_eq {t : TypeId} {qs : List Nat} (h : keyB P t qs = true) {x y : AV} {b : Bool} (e : eqk qs x y = some b) {v u : Value} (hv : RA ν g v x) (hu : RA ν g u y) (w : World) : (Op.equal t v u).run P w = .ok b w := by
  unfold eqk at e
  split at e
  · split at e
    · cases e
    rename_i cs ds h1
    rcases keyB_one h with ⟨n, el, hut, rfl, _, he, hq⟩ | ⟨q, rfl, _⟩
    · obtain ⟨xs, rfl⟩ := hv.aggv
      obtain ⟨ys, rfl⟩ := hu.aggv
      obtain ⟨hc, i, hi, _⟩ := cellsOf_tyB he
      show (Op.equalIn (9999 + 1) t (.agg xs) (.agg ys)).run P w = _
      rw [run_equalIn_array w 9999 xs ys hut hi, hc, List.range_eq_range']
      exact items_ok he 9998 w qs 0 cs ds b hq e (fun j c hc => by simpa using hv.agg_get j c hc) (fun j c hc => by simpa using hu.agg_get j c hc)
    · simp at h1
  · split at e
    case isFalse => cases e
    rename_i x y h1
    rcases keyB_one h with ⟨n, el, hut, rfl, hne, _⟩ | ⟨q, rfl, hq⟩
    · exact absurd h1 hne
    · simp only [eqs, Option.bind_eq_some_iff] at e
      obtain ⟨b1, e1, b2, e2, e3⟩ := e
      cases e2; cases e3
      have := eq0_ok (P := P) e1 hq hv hu 9999 w
      simpa [Op.equal, Op.maxDepth] using this
  · cases e

/-- what was found stands for what was found -/
def FindR (es : List MapEntry) (i : Nat) : Option (Nat × AV) → Option (Nat × Value) → Prop
  | none, r => r = none
  | some p, r => ∃ e, i ≤ p.1 ∧ es[p.1 - i]? = some e ∧ r = some (p.1, e.val)
theorem FindR.up {es : List MapEntry} {e : MapEntry} {i : Nat} {a : Option (Nat × AV)} {r : Option (Nat × Value)} (h : FindR es (i + 1) a r) : FindR (e :: es) i a r := by
  cases a with
  | none => exact h
  | some p =>
    obtain ⟨e', h1, h2, h3⟩ := h
    refine ⟨e', by omega, ?_, h3⟩
    rw [show p.1 - i = (p.1 - (i + 1)) + 1 by omega]
    simpa using h2
/-- where it was found -/
theorem mfind_at {qs : List Nat} {kk : AV} : ∀ {kvs : List (AV × AV)} {i : Nat} {p : Nat × AV}, mfind qs kk kvs i = some (some p) → ∃ y, i ≤ p.1 ∧ kvs[p.1 - i]? = some (y, p.2) ∧ eqk qs kk y = some true
  | [], i, p, h => by simp [mfind] at h
  | kv :: kvs, i, p, h => by
    unfold mfind at h
    split at h
    · rename_i hk
      cases h
      exact ⟨kv.1, Nat.le_refl _, by simp, hk⟩
    · obtain ⟨y, h1, h2, h3⟩ := mfind_at h
      refine ⟨y, by omega, ?_, h3⟩
      rw [show p.1 - i = (p.1 - (i + 1)) + 1 by omega]
      simpa using h2
    · cases h

def KeysR (ν : Nat → Nat) (g : Gh) (es : List MapEntry) (kvs : List (AV × AV)) : Prop := es.length = kvs.length ∧ ∀ (j : Nat) (e : MapEntry) (p : AV × AV), es[j]? = some e → kvs[j]? = some p → RA ν g e.key p.1
theorem KeysR.cons {e : MapEntry} {es : List MapEntry} {p : AV × AV} {kvs : List (AV × AV)} (h : KeysR ν g (e :: es) (p :: kvs)) : RA ν g e.key p.1 ∧ KeysR ν g es kvs :=
  ⟨h.2 0 e p rfl rfl, by have := h.1; simpa using this, fun j e p h1 h2 => h.2 (j + 1) e p (by simpa using h1) (by simpa using h2)⟩

theorem findAsking_ok {t : TypeId} {qs : List Nat} (h : keyB P t qs = true) {x : AV} {v : Value} (hv : RA ν g v x) (w : World) : ∀ (es : List MapEntry) (kvs : List (AV × AV)) (i : Nat) (a : Option (Nat × AV)), KeysR ν g es kvs → mfind qs x kvs i = some a →
    ∃ r, (Instr.findAsking t v es i).run P w = .ok r w ∧ FindR es i a r := by
  intro es
  induction es with
  | nil =>
    intro kvs i a hR hf
    obtain rfl : kvs = [] := List.eq_nil_of_length_eq_zero hR.1.symm
    simp [mfind] at hf
    subst hf
    exact ⟨none, by simp [Instr.findAsking], rfl⟩
  | cons e es ih =>
    intro kvs i a hR hf
    cases kvs with
    | nil => have := hR.1; simp at this
    | cons p kvs =>
      obtain ⟨h0, hR'⟩ := hR.cons
      unfold mfind at hf
      split at hf
      · rename_i hk
        cases hf
        have := key_eq h hk hv h0 w
        exact ⟨some (i, e.val), by simp [Instr.findAsking, this], e, Nat.le_refl _, by simp, rfl⟩
      · rename_i hk
        have := key_eq h hk hv h0 w
        obtain ⟨r, h1, h2⟩ := ih kvs (i + 1) a hR' hf
        exact ⟨r, by simp [Instr.findAsking, this, h1], h2.up⟩
      · cases hf

theorem now_eq {q : Nat} {d : TypeDesc} (hq : qtyB q (some d) = true) {x y : AV} {b : Bool} (e : eq0 q x y = some b) {v u : Value} (hv : RA ν g v x) (hu : RA ν g u y) : Instr.sameNow d v u = some b := by
  unfold eq0 at e
  split at e
  · obtain rfl := hv.int
    obtain rfl := hu.int
    obtain ⟨kk, h1⟩ := qtyB_int hq
    cases h1
    simp only [Option.ite_none_right_eq_some, Option.some.injEq] at e
    obtain ⟨hk, rfl⟩ := e
    simp [Instr.sameNow, hk]
  · cases e
    obtain rfl := hv.bool
    obtain rfl := hu.bool
    have := qtyB_bool hq
    cases this
    rfl
  · cases e
    obtain rfl := hv.str
    obtain rfl := hu.str
    have := qtyB_str hq
    cases this
    rfl
  · cases e

theorem findNow_ok {q : Nat} {d : TypeDesc} (hq : qtyB q (some d) = true) {x : AV} {v : Value} (hv : RA ν g v x) : ∀ (es : List MapEntry) (kvs : List (AV × AV)) (i : Nat) (a : Option (Nat × AV)), KeysR ν g es kvs → mfind [q] x kvs i = some a →
    ∃ r, Instr.findNow d v es i = some r ∧ FindR es i a r := by
  intro es
  induction es with
  | nil =>
    intro kvs i a hR hf
    obtain rfl : kvs = [] := List.eq_nil_of_length_eq_zero hR.1.symm
    simp [mfind] at hf
    subst hf
    exact ⟨none, by simp [Instr.findNow], rfl⟩
  | cons e es ih =>
    intro kvs i a hR hf
    cases kvs with
    | nil => have := hR.1; simp at this
    | cons p kvs =>
      obtain ⟨h0, hR'⟩ := hR.cons
      have key : ∀ {b : Bool}, eqk [q] x p.1 = some b → Instr.sameNow d v e.key = some b := by
        intro b hk
        unfold eqk at hk
        split at hk
        · simp at hk
        · simp only [List.length_singleton, if_true, eqs, Option.bind_eq_some_iff] at hk
          obtain ⟨b1, e1, b2, e2, e3⟩ := hk
          rename_i hp
          cases e2; cases e3
          rw [← hp] at e1
          simpa using now_eq hq e1 hv h0
        · cases hk
      unfold mfind at hf
      split at hf
      · rename_i hk
        cases hf
        exact ⟨some (i, e.val), by simp [Instr.findNow, key hk], e, Nat.le_refl _, by simp, rfl⟩
      · rename_i hk
        obtain ⟨r, h1, h2⟩ := ih kvs (i + 1) a hR' hf
        exact ⟨r, by simp [Instr.findNow, key hk, h1], h2.up⟩
      · cases hf

theorem find_ok {t : TypeId} {qs : List Nat} (h : keyB P t qs = true) {x : AV} {v : Value} (hv : RA ν g v x) (w : World) {es : List MapEntry} {kvs : List (AV × AV)} {a : Option (Nat × AV)} (hR : KeysR ν g es kvs) (hf : mfind qs x kvs 0 = some a) :
    ∃ r, (Instr.findKey t v es).run P w = .ok r w ∧ FindR es 0 a r := by
  rcases keyB_one h with ⟨n, el, hut, _⟩ | ⟨q, rfl, hq⟩
  · rw [run_findKey_eq w (by rw [hut])]
    exact findAsking_ok h hv w es kvs 0 a hR hf
  · cases hd : P.underlying t with
    | none => rw [hd] at hq; simp [qtyB] at hq
    | some d =>
      rw [hd] at hq
      obtain ⟨r, h1, h2⟩ := findNow_ok hq hv es kvs 0 a hR hf
      exact ⟨r, Go.MapKept.run_findKey hd h1, h2⟩

theorem basic_check {q : Nat} {e : TypeId} (hq : qtyB q (P.underlying e) = true) (em : Bool) (n : Nat) (v : Value) (w : World) : (Instr.checkKey em (n + 1) e v).run P w = .ok () w := by
  cases hd : P.underlying e with
  | none => rw [hd] at hq; simp [qtyB] at hq
  | some d =>
    rw [hd] at hq
    unfold Instr.checkKey
    simp only [Sem.run_bind, run_underlying hd, Result.andThen_ok]
    cases d <;> first | (simp [qtyB] at hq; done) | (cases v <;> rfl)

theorem check_ok {t : TypeId} {qs : List Nat} (h : keyB P t qs = true) {x : AV} (hx : keyOk qs x = true) {v : Value} (hv : RA ν g v x) (em : Bool) (w : World) : (Instr.checkKey em 10000 t v).run P w = .ok () w := by
  rcases keyB_one h with ⟨n, el, hut, hn, hne, he, hq⟩ | ⟨q, rfl, hq⟩
  · cases x with
    | agg cs =>
      simp only [keyOk, Bool.and_eq_true, beq_iff_eq] at hx
      obtain ⟨xs, rfl⟩ := hv.aggv
      obtain ⟨hc, i, hi, hi1⟩ := cellsOf_tyB he
      show (Instr.checkKey em (9999 + 1) t (.agg xs)).run P w = _
      rw [Instr.checkKey]
      simp only [Sem.run_bind, run_underlying hut, Result.andThen_ok]
      simp only [Std.Legacy.Range.forIn_eq_forIn_range', Std.Legacy.Range.size, Nat.sub_zero, Nat.add_one_sub_one, Nat.div_one]
      have all : ∀ j ∈ List.range' 0 n, ∃ c, xs[j]? = some c := by
        intro j hj
        simp only [List.mem_range'_1] at hj
        obtain ⟨v, hv', _⟩ := hv.agg_get j cs[j] (List.getElem?_eq_getElem (by omega))
        exact ⟨v, hv'⟩
      cases qs with
      | nil => simp only [List.length_nil] at hn; subst hn; simp
      | cons q qs =>
      have hq0 : ∀ v, (Instr.checkKey em 9999 el v).run P w = .ok () w := fun v => basic_check (hq q (by simp)) em 9998 v w
      clear hn hx hv
      generalize List.range' 0 n = is at all
      induction is with
      | nil => simp
      | cons j is ih =>
        obtain ⟨c, hcj⟩ := all j (by simp)
        obtain ⟨dd, ii, h3, h4, h5, h6, _⟩ := tyB_spec he
        have hp : (part el xs (j * 1)).run P w = .ok c w := by simp [part, run_isAgg h3, h5, hcj]
        simp only [List.forIn_cons, Sem.run_bind, run_sizeOf hi, hi1, Result.andThen_ok, hp, hq0, Sem.run_pure]
        exact ih fun y hy => all y (by simp [hy])
    | iv y => simp only [keyOk, beq_iff_eq] at hx; exact absurd hx hne
    | _ => simp [keyOk] at hx
  · exact basic_check hq em 9999 v w
end
end Arx

/-
  MAPS of the call's own: what the operations on them do.
-/
namespace Arx
open Go Go.RowKit Arb

def zvK (P : Program) (t : TypeId) (agg : Bool) (z : List AV) : Bool := match P.underlying t with
  | some (.map _ et) => (match P.info? et with
    | some i => (match i.zero with
      | some (.agg cs) => agg && kVals cs.toList z
      | some (.tuple _) => false
      | some v => !agg && kVals [v] z
      | none => false)
    | none => false)
  | _ => false

section
variable {ν : Nat → Nat} {P : Program} {k : Cx} {g : Gh}

theorem lookMap_ok {x : AV} {q : Nat × List (AV × AV)} {h' : Hp} (r : Rel ν k g) (e : (lookMap x).run g.h = some (q, h')) {v : Value} (hv : RA ν g v x) :
    h' = g.h ∧ ∃ b es clock, x = .ref q.1 0 0 0 ∧ get g.h q.1 = some (.map q.2) ∧ g.φ q.1 = some b ∧ v = .map (some b) ∧ ¬ g.I b ∧ b < g.w.heap.size ∧ g.w.heap[b]? = some (.map es clock) ∧ es.size = q.2.length ∧ MapOK es clock ∧
      ∀ (j : Nat) (e : MapEntry) (p : AV × AV), es[j]? = some e → q.2[j]? = some p → RA ν g e.key p.1 ∧ RA ν g e.val p.2 := by
  unfold lookMap at e
  split at e
  case h_2 => exact (M.fail_some e).elim
  rename_i id
  obtain ⟨ob, h1, e1, e2⟩ := M.bind_some e
  obtain ⟨hg, rfl⟩ := M.look_some e1
  cases ob with
  | cells _ => exact (M.fail_some e2).elim
  | buf _ _ _ => exact (M.fail_some e2).elim
  | imm _ _ _ => exact (M.fail_some e2).elim
  | icl _ => exact (M.fail_some e2).elim
  | map kvs =>
    obtain ⟨rfl, rfl⟩ := M.ret_some e2
    refine ⟨rfl, ?_⟩
    cases hv with
    | ref h1 h =>
      unfold RefAt at h
      simp only [hg] at h
      obtain ⟨-, -, -, b, hφ, rfl⟩ := h
      obtain ⟨b', es, clock, e1, e2, e3, e4, e5, e7, e6⟩ := r.ob id _ hg
      rw [hφ] at e1; cases e1
      exact ⟨b, es, clock, rfl, hg, hφ, rfl, e2, e3, e4, e5, e7, e6⟩

theorem mmk_ok (r : Rel ν k g) {slot : Nat} {t : TypeId} {y : AV} {h' : Hp} (e : ((M.fresh (4 * slot)).bind fun _ => (M.write (4 * slot) (.map [])).bind fun _ => M.ret (.ref (4 * slot) 0 0 0)).run g.h = some (y, h')) : Done ν k g h' y ((Instr.makeMap t none).run P g.w) := by
  obtain ⟨_, h1, e1, e2⟩ := M.bind_some e
  obtain ⟨hf, rfl⟩ := M.fresh_some e1
  obtain ⟨_, h2, e3, e4⟩ := M.bind_some e2
  obtain rfl := M.write_some e3
  obtain ⟨rfl, rfl⟩ := M.ret_some e4
  have hnew : (g.w.heap.push (.map #[] 0))[g.w.heap.size]? = some (.map #[] 0) := by simp
  have hold : ∀ b, b < g.w.heap.size → (g.w.heap.push (.map #[] 0))[b]? = g.w.heap[b]? := fun b h => by simp [Array.getElem?_push, Nat.ne_of_lt h]
  have hn := r.new (s := 4 * slot) (ob := .map []) (p := some g.w.heap.size) (w' := { g.w with heap := g.w.heap.push (.map #[] 0) }) hf (by simp) rfl rfl rfl hold (fun b h => by cases h; exact Nat.le_refl _) (fun b h => .zero (by omega))
    fun _ => ⟨g.w.heap.size, #[], 0, updφ_same _ _ _, fun hi => absurd (r.small _ hi) (Nat.lt_irrefl _), by simp, hnew, rfl, ⟨by simp, fun x hx => by simp at hx⟩, fun j e p h => by simp at h⟩
  refine ⟨_, .map (some g.w.heap.size), rfl, rfl, hn.1, hn.2, .ref rfl ?_⟩
  unfold RefAt
  simp only [get_set_same, updφ_same]
  exact ⟨trivial, trivial, trivial, _, rfl, rfl⟩

theorem keysR {es : Array MapEntry} {kvs : List (AV × AV)} (h : es.size = kvs.length) (hr : ∀ (j : Nat) (e : MapEntry) (p : AV × AV), es[j]? = some e → kvs[j]? = some p → RA ν g e.key p.1 ∧ RA ν g e.val p.2) : KeysR ν g es.toList kvs :=
  ⟨by simpa using h, fun j e p h1 h2 => (hr j e p (by simpa using h1) h2).1⟩

theorem mget_ok (r : Rel ν k g) {t : TypeId} {ok agg : Bool} {qs : List Nat} {z : List AV} (hq : mapB P t qs = true) (hz : zvK P t agg z = true) {m kk y : AV} {vm vk : Value} {h' : Hp} (hm : RA ν g vm m) (hk : RA ν g vk kk)
    (e : (mget ok agg qs z m kk).run g.h = some (y, h')) : Done ν k g h' y ((Instr.lookup t vm vk ok).run P g.w) := by
  obtain ⟨_, h1, e1, e2⟩ := M.bind_some e
  obtain ⟨hok, rfl⟩ := M.ok_some e1
  obtain ⟨⟨id, kvs⟩, h2, e3, e4⟩ := M.bind_some e2
  obtain ⟨rfl, b, es, clock, -, hg, hφ, rfl, hnI, hlt, hb, hsz, hst0, hr⟩ := lookMap_ok r e3 hm
  obtain ⟨a, h3, e5, e6⟩ := M.bind_some e4
  obtain ⟨hf, rfl⟩ := M.lift_some e5
  obtain ⟨kt, et, hu, hkb⟩ := mapB_spec hq
  obtain ⟨rr, hfind, hFR⟩ := find_ok hkb hk g.w (keysR hsz hr) hf
  have hchk := check_ok hkb hok hk es.isEmpty g.w
  have hget := MapKept.run_getObj_map (P := P) hb
  cases a with
  | some p =>
    obtain ⟨e0, -, he0, rfl⟩ := hFR
    obtain ⟨yk, -, hp, -⟩ := mfind_at hf
    simp only [Nat.sub_zero] at he0 hp
    have hval := (hr p.1 e0 _ (by simpa using he0) hp).2
    cases ok with
    | true =>
      simp only [if_true] at e6
      obtain ⟨rfl, rfl⟩ := M.ret_some e6
      refine .same r (v := .tuple #[e0.val, .bool true]) (by simp [Instr.lookup, run_underlying hu, hget, hchk, hfind]) ?_
      refine .tup rfl fun j v c h1 h2 => ?_
      match j with
      | 0 => simp at h1 h2; subst h1 h2; exact hval
      | 1 => simp at h1 h2; subst h1 h2; exact mkBool
      | j + 2 => simp at h1
    | false =>
      simp only [Bool.false_eq_true, if_false] at e6
      obtain ⟨rfl, rfl⟩ := M.ret_some e6
      exact .same r (v := e0.val) (by simp [Instr.lookup, run_underlying hu, hget, hchk, hfind]) hval
  | none =>
    have hrr : rr = none := hFR
    subst hrr
    obtain ⟨zv, h4, e7, e8⟩ := M.bind_some e6
    have key : ∃ v0, (zeroValue et).run P g.w = .ok v0 g.w ∧ h4 = g.h ∧ RA ν g v0 zv := by
      unfold zvK at hz
      rw [hu] at hz
      simp only at hz
      cases hi : P.info? et with
      | none => rw [hi] at hz; cases hz
      | some i =>
        rw [hi] at hz
        simp only at hz
        cases hz0 : i.zero with
        | none => rw [hz0] at hz; cases hz
        | some v0 =>
          rw [hz0] at hz
          have hrun : (zeroValue et).run P g.w = .ok v0 g.w := by simp [zeroValue, typeInfo, hi, hz0]
          have one : ∀ {v : Value}, kVals [v] z = true → agg = false → (mk agg z).run g.h = some (zv, h4) → h4 = g.h ∧ RA ν g v zv := by
            intro v hc ha em
            subst ha
            unfold mk at em
            simp only [Bool.false_eq_true, if_false] at em
            cases z with
            | nil => exact (M.fail_some em).elim
            | cons z0 zr =>
              cases zr with
              | cons _ _ => exact (M.fail_some em).elim
              | nil =>
                obtain ⟨rfl, rfl⟩ := M.ret_some em
                simp only [kVals, Bool.and_true] at hc
                exact ⟨rfl, (kVal_ok hc g).2⟩
          cases v0 with
          | agg cs =>
            simp only [Bool.and_eq_true] at hz
            obtain ⟨ha, hc⟩ := hz
            subst ha
            unfold mk at e7
            simp only [if_true] at e7
            obtain ⟨rfl, rfl⟩ := M.ret_some e7
            exact ⟨_, hrun, rfl, (kVals_RC hc).agg⟩
          | tuple vs => cases hz
          | _ =>
            simp only [Bool.and_eq_true, Bool.not_eq_true'] at hz
            exact ⟨_, hrun, one hz.2 hz.1 e7⟩
    obtain ⟨v0, hrun, rfl, hR0⟩ := key
    cases ok with
    | true =>
      simp only [if_true] at e8
      obtain ⟨rfl, rfl⟩ := M.ret_some e8
      refine .same r (v := .tuple #[v0, .bool false]) (by simp [Instr.lookup, run_underlying hu, hget, hchk, hfind, hrun]) ?_
      refine .tup rfl fun j v c h1 h2 => ?_
      match j with
      | 0 => simp at h1 h2; subst h1 h2; exact hR0
      | 1 => simp at h1 h2; subst h1 h2; exact mkBool
      | j + 2 => simp at h1
    | false =>
      simp only [Bool.false_eq_true, if_false] at e8
      obtain ⟨rfl, rfl⟩ := M.ret_some e8
      exact .same r (v := v0) (by simp [Instr.lookup, run_underlying hu, hget, hchk, hfind, hrun]) hR0

theorem mlen_ok (r : Rel ν k g) {t ty : TypeId} (ht : isMap P t = true) {m y : AV} {vm : Value} {h' : Hp} (hm : RA ν g vm m) (e : ((lookMap m).bind fun x => M.ret (.iv (.int .i64 x.2.length))).run g.h = some (y, h')) :
    Done ν k g h' y ((Builtin.len_ #[t] ty #[vm]).run P g.w) := by
  obtain ⟨⟨id, kvs⟩, h2, e3, e4⟩ := M.bind_some e
  obtain ⟨rfl, b, es, clock, -, hg, hφ, rfl, hnI, hlt, hb, hsz, hst0, hr⟩ := lookMap_ok r e3 hm
  obtain ⟨rfl, rfl⟩ := M.ret_some e4
  obtain ⟨kt, et, hu⟩ := isMap_spec ht
  exact .same r (v := .int .i64 kvs.length) (by simp [Builtin.len_, run_underlying hu, MapKept.run_getObj_map (P := P) hb, goInt, hsz]) mkInt

theorem MapOK.modify {es : Array MapEntry} {clock : Nat} (h : MapOK es clock) (i : Nat) (f : MapEntry → MapEntry) (hf : ∀ e, (f e).born = e.born) : MapOK (es.modify i f) clock := by
  have hb : (es.modify i f).toList.map (·.born) = es.toList.map (·.born) := by
    apply List.ext_getElem?
    intro j
    simp only [List.getElem?_map, Array.getElem?_toList, Array.getElem?_modify]
    split
    · cases es[j]? <;> simp [hf]
    · rfl
  refine ⟨by rw [hb]; exact h.1, fun x hx => ?_⟩
  have : x.born ∈ es.toList.map (·.born) := by rw [← hb]; exact List.mem_map_of_mem hx
  obtain ⟨y, hy, hxy⟩ := List.mem_map.1 this
  rw [← hxy]; exact h.2 y hy
theorem MapOK.push {es : Array MapEntry} {clock : Nat} (h : MapOK es clock) (e : MapEntry) (he : e.born = clock) : MapOK (es.push e) (clock + 1) := by
  refine ⟨?_, fun x hx => ?_⟩
  · simp only [Array.toList_push, List.map_append, List.map_cons, List.map_nil]
    refine List.nodup_append.2 ⟨h.1, by simp, fun a ha b hb => ?_⟩
    obtain ⟨y, hy, rfl⟩ := List.mem_map.1 ha
    simp at hb
    have := h.2 y hy
    omega
  · simp only [Array.toList_push, List.mem_append, List.mem_singleton] at hx
    rcases hx with hx | rfl
    · exact Nat.lt_succ_of_lt (h.2 x hx)
    · omega
theorem MapOK.erase {es : Array MapEntry} {clock : Nat} (h : MapOK es clock) (i : Nat) : MapOK (es.eraseIdxIfInBounds i) clock := by
  by_cases hi : i < es.size
  · have he : es.eraseIdxIfInBounds i = es.eraseIdx i hi := by simp [Array.eraseIdxIfInBounds, hi]
    rw [he]
    have hl : (es.eraseIdx i hi).toList = es.toList.eraseIdx i := by simp
    have hsub : (es.toList.eraseIdx i).Sublist es.toList := List.eraseIdx_sublist ..
    refine ⟨by rw [hl]; exact h.1.sublist (hsub.map _), fun x hx => h.2 x (by rw [hl] at hx; exact hsub.subset hx)⟩
  · have he : es.eraseIdxIfInBounds i = es := by simp [Array.eraseIdxIfInBounds, hi]
    rw [he]; exact h

/-- a map turns -/
theorem map_turn (r : Rel ν k g) {id b : Nat} {kvs kvs' : List (AV × AV)} {es' : Array MapEntry} {clock' : Nat} (hg : get g.h id = some (.map kvs)) (hφ : g.φ id = some b) (hnI : ¬ g.I b) (hlt : b < g.w.heap.size) (hid : id % 4 = 0) (hsz : es'.size = kvs'.length) (hst0 : MapOK es' clock')
    (hr : ∀ (g' : Gh), Mono ν g g' → ∀ (j : Nat) (e : MapEntry) (p : AV × AV), es'[j]? = some e → kvs'[j]? = some p → RA ν g' e.key p.1 ∧ RA ν g' e.val p.2) :
    ∃ g', g'.w = { g.w with heap := g.w.heap.setIfInBounds b (.map es' clock') } ∧ g'.h = set g.h id (.map kvs') ∧ Rel ν k g' ∧ Mono ν g g' := by
  have ht := r.turn (s := id) (ob := .map kvs') (p := g.φ id) (w' := { g.w with heap := g.w.heap.setIfInBounds b (.map es' clock') }) (I' := g.I) hg (fun b' h => by rw [hφ] at h; cases h; exact hnI) (by simp) rfl rfl rfl
    (fun b' _ hne => by
      have : b ≠ b' := fun e => hne (by rw [hφ, e])
      simp [this])
    (fun _ h => h) (fun _ h => .inl h) (.inl rfl) (fun _ _ => .zero hid)
    (fun v o n ver ho => by unfold OwnAt at ho; rw [hg] at ho; exact ho.elim)
    (fun v ver i j h => by
      unfold RefAt at h ⊢
      rw [hg] at h
      simp only [get_set_same, updφ_same]
      exact h)
    (fun _ hm => ⟨b, es', clock', (updφ_same _ _ _).trans hφ, hnI, by simpa using hlt, by simp [hlt], hsz, hst0, hr _ hm⟩)
  exact ⟨_, rfl, rfl, ht.1, ht.2⟩

theorem same_one {q : Nat} {x y : AV} (e : eq0 q x y = some true) {v u : Value} (hv : RA ν g v x) (hu : RA ν g u y) (n : Nat) : Instr.sameBits n u v = true := by
  unfold eq0 at e
  split at e
  · obtain rfl := hv.int
    obtain rfl := hu.int
    simp only [Option.ite_none_right_eq_some, Option.some.injEq, beq_iff_eq] at e
    obtain ⟨rfl, rfl⟩ := e
    simp [Instr.sameBits]
  · obtain rfl := hv.bool
    obtain rfl := hu.bool
    simp only [Option.some.injEq, beq_iff_eq] at e
    subst e
    simp [Instr.sameBits]
  · obtain rfl := hv.str
    obtain rfl := hu.str
    simp only [Option.some.injEq] at e
    simp only [Instr.sameBits]
    rw [beq_toListBytes] at e ⊢
    exact BEq.symm e
  · cases e

theorem same_cells : ∀ (qs : List Nat) (cs ds : List AV) (xs ys : List Value), eqs qs cs ds = some true → xs.length = cs.length → ys.length = ds.length → (∀ (j : Nat) (v : Value) (c : AV), xs[j]? = some v → cs[j]? = some c → RA ν g v c) →
    (∀ (j : Nat) (v : Value) (c : AV), ys[j]? = some v → ds[j]? = some c → RA ν g v c) → ((ys.zip xs).all fun (x, y) => Instr.sameBits 9999 x y) = true ∧ ys.length = xs.length
  | [], [], [], xs, ys, _, hx, hy, _, _ => by
    obtain rfl := List.eq_nil_of_length_eq_zero hx
    obtain rfl := List.eq_nil_of_length_eq_zero hy
    exact ⟨rfl, rfl⟩
  | q :: qs, c :: cs, d :: ds, xs, ys, e, hx, hy, h1, h2 => by
    cases xs with
    | nil => simp at hx
    | cons v xs =>
      cases ys with
      | nil => simp at hy
      | cons u ys =>
        simp only [eqs, Option.bind_eq_some_iff] at e
        obtain ⟨b1, e1, b2, e2, e3⟩ := e
        simp only [Option.some.injEq, Bool.and_eq_true] at e3
        obtain ⟨rfl, rfl⟩ := e3
        obtain ⟨i1, i2⟩ := same_cells qs cs ds xs ys e2 (by simpa using hx) (by simpa using hy) (fun j v c a b => h1 (j + 1) v c (by simpa using a) (by simpa using b)) fun j v c a b => h2 (j + 1) v c (by simpa using a) (by simpa using b)
        have hv := h1 0 v c rfl rfl
        have hu := h2 0 u d rfl rfl
        refine ⟨?_, by simp [i2]⟩
        simp only [List.zip_cons_cons, List.all_cons, Bool.and_eq_true]
        refine ⟨?_, i1⟩
        exact same_one e1 hv hu 9999
  | [], _ :: _, _, _, _, e, _, _, _, _ => by simp [eqs] at e
  | [], [], _ :: _, _, _, e, _, _, _, _ => by simp [eqs] at e
  | _ :: _, [], _, _, _, e, _, _, _, _ => by simp [eqs] at e
  | _ :: _, _ :: _, [], _, _, e, _, _, _, _ => by simp [eqs] at e

theorem stays_ok {qs : List Nat} {x y : AV} (e : eqk qs x y = some true) {v u : Value} (hv : RA ν g v x) (hu : RA ν g u y) (w : World) : (Instr.keyThatStays u v).run P w = .ok v w := by
  have hs : Instr.sameBits 10000 u v = true := by
    unfold eqk at e
    split at e
    · split at e
      · cases e
      rename_i cs ds _
      obtain ⟨xs, rfl⟩ := hv.aggv
      obtain ⟨ys, rfl⟩ := hu.aggv
      have n1 : xs.size = cs.length := by cases hv; assumption
      have n2 : ys.size = ds.length := by cases hu; assumption
      have r1 : ∀ (j : Nat) (v : Value) (c : AV), xs[j]? = some v → cs[j]? = some c → RA ν g v c := by cases hv; assumption
      have r2 : ∀ (j : Nat) (v : Value) (c : AV), ys[j]? = some v → ds[j]? = some c → RA ν g v c := by cases hu; assumption
      obtain ⟨i1, i2⟩ := same_cells qs cs ds xs.toList ys.toList e (by simpa using n1) (by simpa using n2) (fun j v c a b => r1 j v c (by simpa using a) b) fun j v c a b => r2 j v c (by simpa using a) b
      show Instr.sameBits (9999 + 1) (.agg ys) (.agg xs) = true
      simp only [Instr.sameBits, Bool.and_eq_true, beq_iff_eq]
      exact ⟨by simpa using i2, i1⟩
    · split at e
      case isFalse => cases e
      rename_i h1
      obtain ⟨q, rfl⟩ := List.length_eq_one_iff.1 h1
      simp only [eqs, Option.bind_eq_some_iff] at e
      obtain ⟨b1, e1, b2, e2, e3⟩ := e
      cases e2
      simp only [Bool.and_true, Option.some.injEq] at e3
      subst e3
      exact same_one e1 hv hu 10000
    · cases e
  simp [Instr.keyThatStays, hs]

theorem mput_ok (r : Rel ν k g) {t : TypeId} {qs : List Nat} (hq : mapB P t qs = true) {m kk x y : AV} {vm vk vx : Value} {h' : Hp} (hm : RA ν g vm m) (hk : RA ν g vk kk) (hx : RA ν g vx x) (e : (mput qs m kk x).run g.h = some (y, h')) :
    ∃ g', (Instr.mapUpdate t vm vk vx).run P g.w = .ok () g'.w ∧ y = .tup [] ∧ g'.h = h' ∧ Rel ν k g' ∧ Mono ν g g' := by
  obtain ⟨_, h1, e1, e2⟩ := M.bind_some e
  obtain ⟨hok, rfl⟩ := M.ok_some e1
  obtain ⟨⟨id, kvs⟩, h2, e3, e4⟩ := M.bind_some e2
  obtain ⟨rfl, b, es, clock, -, hg, hφ, rfl, hnI, hlt, hb, hsz, hst0, hr⟩ := lookMap_ok r e3 hm
  obtain ⟨_, h9, e40, e41⟩ := M.bind_some e4
  obtain ⟨hid, rfl⟩ := M.ok_some e40
  have hid : id % 4 = 0 := by simpa using hid
  obtain ⟨a, h3, e5, e6⟩ := M.bind_some e41
  obtain ⟨hf, rfl⟩ := M.lift_some e5
  obtain ⟨kt, et, hu, hkb⟩ := mapB_spec hq
  obtain ⟨rr, hfind, hFR⟩ := find_ok hkb hk g.w (keysR hsz hr) hf
  have hchk := check_ok hkb hok hk false g.w
  have hget := MapKept.run_getObj_map (P := P) hb
  simp only at hsz hr hg
  cases a with
  | some p =>
    obtain ⟨e0, -, he0, rfl⟩ := hFR
    obtain ⟨yk, -, hp, hkk⟩ := mfind_at hf
    simp only [Nat.sub_zero] at he0 hp
    simp only [Array.getElem?_toList] at he0
    have hst := stays_ok (P := P) hkk hk (hr p.1 e0 _ he0 hp).1 g.w
    obtain ⟨_, h4, e7, e8⟩ := M.bind_some e6
    obtain rfl := M.write_some e7
    obtain ⟨rfl, rfl⟩ := M.ret_some e8
    obtain ⟨g', q1, q2, q3, q4⟩ := map_turn (es' := es.modify p.1 fun e => { e with key := vk, val := vx }) (clock' := clock) (kvs' := kvs.set p.1 (kk, x)) r hg hφ hnI hlt hid (by simpa using hsz) (hst0.modify p.1 _ fun _ => rfl) fun g' hmn j e q h1 h2 => by
      by_cases hj : p.1 = j
      · subst hj
        rw [Array.getElem?_modify, if_pos rfl, he0] at h1
        have hl : p.1 < kvs.length := lt_of_some hp
        simp [hl] at h2
        cases h1
        rw [← h2]
        exact ⟨hmn _ _ hk, hmn _ _ hx⟩
      · rw [Array.getElem?_modify, if_neg hj] at h1
        rw [List.getElem?_set_ne hj] at h2
        obtain ⟨c1, c2⟩ := hr j e q h1 h2
        exact ⟨hmn _ _ c1, hmn _ _ c2⟩
    exact ⟨g', by simp [Instr.mapUpdate, run_underlying hu, hget, hchk, hfind, he0, hst, MapKept.run_setObj_map (P := P) _ hb, q1], rfl, q2, q3, q4⟩
  | none =>
    have hrr : rr = none := hFR
    subst hrr
    obtain ⟨_, h4, e7, e8⟩ := M.bind_some e6
    obtain rfl := M.write_some e7
    obtain ⟨rfl, rfl⟩ := M.ret_some e8
    obtain ⟨g', q1, q2, q3, q4⟩ := map_turn (es' := es.push { key := vk, val := vx, born := clock }) (clock' := clock + 1) (kvs' := kvs ++ [(kk, x)]) r hg hφ hnI hlt hid (by simpa using hsz) (hst0.push _ rfl) fun g' hmn j e q h1 h2 => by
      rw [Array.getElem?_push] at h1
      split at h1
      · rename_i hj
        cases h1
        rw [hj, hsz] at h2
        simp at h2
        rw [← h2]
        exact ⟨hmn _ _ hk, hmn _ _ hx⟩
      · have hl : j < es.size := (Array.getElem?_eq_some_iff.1 h1).1
        rw [List.getElem?_append_left (by omega)] at h2
        obtain ⟨c1, c2⟩ := hr j e q h1 h2
        exact ⟨hmn _ _ c1, hmn _ _ c2⟩
    exact ⟨g', by simp [Instr.mapUpdate, run_underlying hu, hget, hchk, hfind, MapKept.run_setObj_map (P := P) _ hb, q1], rfl, q2, q3, q4⟩

theorem mdel_ok (r : Rel ν k g) {t u ty : TypeId} {qs : List Nat} (hq : mapB P t qs = true) {m kk y : AV} {vm vk : Value} {h' : Hp} (hm : RA ν g vm m) (hk : RA ν g vk kk) (e : (mdel qs m kk).run g.h = some (y, h')) :
    Done ν k g h' y ((Builtin.delete_ #[t, u] ty #[vm, vk]).run P g.w) := by
  obtain ⟨_, h1, e1, e2⟩ := M.bind_some e
  obtain ⟨hok, rfl⟩ := M.ok_some e1
  obtain ⟨⟨id, kvs⟩, h2, e3, e4⟩ := M.bind_some e2
  obtain ⟨rfl, b, es, clock, -, hg, hφ, rfl, hnI, hlt, hb, hsz, hst0, hr⟩ := lookMap_ok r e3 hm
  obtain ⟨_, h9, e40, e41⟩ := M.bind_some e4
  obtain ⟨hid, rfl⟩ := M.ok_some e40
  have hid : id % 4 = 0 := by simpa using hid
  obtain ⟨a, h3, e5, e6⟩ := M.bind_some e41
  obtain ⟨hf, rfl⟩ := M.lift_some e5
  obtain ⟨kt, et, hu, hkb⟩ := mapB_spec hq
  obtain ⟨rr, hfind, hFR⟩ := find_ok hkb hk g.w (keysR hsz hr) hf
  have hchk := check_ok hkb hok hk es.isEmpty g.w
  have hget := MapKept.run_getObj_map (P := P) hb
  simp only at hsz hr hg
  cases a with
  | some p =>
    obtain ⟨e0, -, he0, rfl⟩ := hFR
    simp only [Nat.sub_zero] at he0
    simp only [Array.getElem?_toList] at he0
    have hpl : p.1 < es.size := (Array.getElem?_eq_some_iff.1 he0).1
    obtain ⟨_, h4, e7, e8⟩ := M.bind_some e6
    obtain rfl := M.write_some e7
    obtain ⟨rfl, rfl⟩ := M.ret_some e8
    have he' : es.eraseIdxIfInBounds p.1 = es.eraseIdx p.1 hpl := by simp [Array.eraseIdxIfInBounds, hpl]
    obtain ⟨g', q1, q2, q3, q4⟩ := map_turn (es' := es.eraseIdxIfInBounds p.1) (clock' := clock) (kvs' := kvs.eraseIdx p.1) r hg hφ hnI hlt hid (by rw [he', Array.size_eraseIdx, List.length_eraseIdx, if_pos (by omega)]; omega) (hst0.erase _) fun g' hmn j e q h1 h2 => by
      rw [he', Array.getElem?_eraseIdx] at h1
      rw [List.getElem?_eraseIdx] at h2
      split at h1
      · rename_i hj
        rw [if_pos hj] at h2
        obtain ⟨c1, c2⟩ := hr j e q h1 h2
        exact ⟨hmn _ _ c1, hmn _ _ c2⟩
      · rename_i hj
        rw [if_neg hj] at h2
        obtain ⟨c1, c2⟩ := hr (j + 1) e q h1 h2
        exact ⟨hmn _ _ c1, hmn _ _ c2⟩
    refine ⟨g', .tuple #[], ?_, q2, q3, q4, .tup rfl fun j v c h => by simp at h⟩
    simp [Builtin.delete_, run_underlying hu, hget, hchk, hfind, MapKept.run_setObj_map (P := P) _ hb, q1]
  | none =>
    have hrr : rr = none := hFR
    subst hrr
    obtain ⟨_, h4, e7, e8⟩ := M.bind_some e6
    obtain rfl := M.write_some e7
    obtain ⟨rfl, rfl⟩ := M.ret_some e8
    obtain ⟨g', q1, q2, q3, q4⟩ := map_turn (es' := es) (clock' := clock) (kvs' := kvs) r hg hφ hnI hlt hid hsz hst0 fun g' hmn j e q h1 h2 => by
      obtain ⟨c1, c2⟩ := hr j e q h1 h2
      exact ⟨hmn _ _ c1, hmn _ _ c2⟩
    refine ⟨g', .tuple #[], ?_, q2, q3, q4, .tup rfl fun j v c h => by simp at h⟩
    simp [Builtin.delete_, run_underlying hu, hget, hchk, hfind, MapKept.run_setObj_map (P := P) _ hb, q1]
end
end Arx

/-
  EQUAL, cell by cell.
-/
namespace Arx
open Go Go.RowKit Arb

def aggB (P : Program) (t : TypeId) : Bool := match P.underlying t with | some d => isAggD d | none => false
def qfieldsB (P : Program) (r : TypeId → List Nat → Bool) : List Field → List Nat → Nat → Bool
  | [], qs, _ => qs.isEmpty
  | f :: fs, qs, off => f.name != "_" && f.offset == off && Nat.blt 0 (P.cellsOf f.type) && Nat.ble (P.cellsOf f.type) qs.length && r f.type (qs.take (P.cellsOf f.type)) && qfieldsB P r fs (qs.drop (P.cellsOf f.type)) (off + P.cellsOf f.type)
def qtimesB (r : List Nat → Bool) (c : Nat) : Nat → List Nat → Bool
  | 0, qs => qs.isEmpty
  | n + 1, qs => Nat.blt 0 c && Nat.ble c qs.length && r (qs.take c) && qtimesB r c n (qs.drop c)
def qsB (P : Program) : Nat → TypeId → List Nat → Bool
  | 0, _, _ => false
  | d + 1, t, qs => tyB P t qs.length (aggB P t) && (match P.underlying t with
    | some (.struct fs) => !P.stoodInHeld t && qfieldsB P (qsB P d) fs.toList qs 0
    | some (.array n e) => Nat.blt 0 n && qtimesB (qsB P d e) (P.cellsOf e) n qs
    | dd => (match qs with | [q] => qtyB q dd | _ => false))

section
variable {ν : Nat → Nat} {P : Program} {k : Cx} {g : Gh}

theorem eqs_split : ∀ (m : Nat) (qs : List Nat) (cs ds : List AV) (b : Bool), eqs qs cs ds = some b → m ≤ qs.length →
    ∃ b1 b2, eqs (qs.take m) (cs.take m) (ds.take m) = some b1 ∧ eqs (qs.drop m) (cs.drop m) (ds.drop m) = some b2 ∧ b = (b1 && b2)
  | 0, qs, cs, ds, b, h, _ => ⟨true, b, by simp [eqs], by simpa using h, by simp⟩
  | m + 1, [], cs, ds, b, h, hm => by simp at hm
  | m + 1, q :: qs, [], ds, b, h, _ => by simp [eqs] at h
  | m + 1, q :: qs, c :: cs, [], b, h, _ => by simp [eqs] at h
  | m + 1, q :: qs, c :: cs, d :: ds, b, h, hm => by
    simp only [eqs, Option.bind_eq_some_iff] at h
    obtain ⟨b0, h0, b', h', hb⟩ := h
    cases hb
    obtain ⟨b1, b2, h1, h2, h3⟩ := eqs_split m qs cs ds b' h' (by simpa using hm)
    exact ⟨b0 && b1, b2, by simp [eqs, h0, h1], by simpa using h2, by rw [h3, Bool.and_assoc]⟩
theorem eqs_len : ∀ {qs : List Nat} {cs ds : List AV} {b : Bool}, eqs qs cs ds = some b → cs.length = qs.length ∧ ds.length = qs.length
  | [], [], [], b, _ => ⟨rfl, rfl⟩
  | [], _ :: _, _, b, h => by simp [eqs] at h
  | [], [], _ :: _, b, h => by simp [eqs] at h
  | q :: qs, [], ds, b, h => by simp [eqs] at h
  | q :: qs, c :: cs, [], b, h => by simp [eqs] at h
  | q :: qs, c :: cs, d :: ds, b, h => by
    simp only [eqs, Option.bind_eq_some_iff] at h
    obtain ⟨b0, h0, b', h', hb⟩ := h
    obtain ⟨h1, h2⟩ := eqs_len h'
    exact ⟨by simp [h1], by simp [h2]⟩

/-- the value, and its cells -/
def Is (agg : Bool) (x : AV) (cs : List AV) : Prop := agg = true ∧ x = .agg cs ∨ agg = false ∧ cs = [x]

theorem qsB_ty {d : Nat} {t : TypeId} {qs : List Nat} (h : qsB P d t qs = true) : tyB P t qs.length (aggB P t) = true := by
  cases d with
  | zero => cases h
  | succ d => simp only [qsB, Bool.and_eq_true] at h; exact h.1
def DeepAt (ν : Nat → Nat) (P : Program) (g : Gh) (d : Nat) : Prop :=
  ∀ (t : TypeId) (qs : List Nat), qsB P d t qs = true → ∀ (cs ds : List AV) (b : Bool), eqs qs cs ds = some b → ∀ (v u : Value) (x y : AV), Is (aggB P t) x cs → Is (aggB P t) y ds → RA ν g v x → RA ν g u y →
    ∀ D, d ≤ D → ∀ w : World, (Op.equalIn D t v u).run P w = .ok b w

/-- a part, and what it is -/
theorem part_is {t : TypeId} {sz off : Nat} (ht : tyB P t sz (aggB P t) = true) {vs : Array Value} {cs : List AV} (hv : RA ν g (.agg vs) (.agg cs)) (hl : off + sz ≤ cs.length) (w : World) :
    ∃ v x, (part t vs off).run P w = .ok v w ∧ RA ν g v x ∧ Is (aggB P t) x ((cs.drop off).take sz) := by
  have hlen : ((cs.drop off).take sz).length = sz := by simp; omega
  cases ha : aggB P t with
  | true =>
    rw [ha] at ht
    obtain ⟨v, h1, h2⟩ := part_ok ht hv hlen (r := .agg ((cs.drop off).take sz)) (.inl ⟨rfl, rfl⟩) w
    exact ⟨v, _, h1, h2, .inl ⟨rfl, rfl⟩⟩
  | false =>
    rw [ha] at ht
    obtain ⟨_, _, _, _, _, _, h1⟩ := tyB_spec ht
    have hsz := h1 rfl
    obtain ⟨x, hx⟩ : ∃ x, (cs.drop off).take sz = [x] := by
      match hc : (cs.drop off).take sz, hlen with
      | [x], _ => exact ⟨x, rfl⟩
      | [], h => simp at h; omega
      | _ :: _ :: _, h => simp at h; omega
    obtain ⟨v, h1, h2⟩ := part_ok ht hv hlen (r := x) (.inr ⟨rfl, hx⟩) w
    exact ⟨v, x, h1, h2, .inr ⟨rfl, hx⟩⟩

theorem deep_fields {d : Nat} (ih : DeepAt ν P g d) {D : Nat} (hD : d ≤ D) {vs us : Array Value} {as bs : List AV} (hv : RA ν g (.agg vs) (.agg as)) (hu : RA ν g (.agg us) (.agg bs)) : ∀ (fs : List Field) (qs : List Nat) (off : Nat) (b : Bool) (w : World),
    qfieldsB P (qsB P d) fs qs off = true → eqs qs (as.drop off) (bs.drop off) = some b → (Op.eqFields D vs us fs).run P w = .ok b w := by
  intro fs
  induction fs with
  | nil =>
    intro qs off b w h e
    simp only [qfieldsB, List.isEmpty_iff] at h
    subst h
    obtain ⟨h1, h2⟩ := eqs_len e
    rw [List.eq_nil_of_length_eq_zero h1, List.eq_nil_of_length_eq_zero h2] at e
    simp [eqs] at e
    subst e
    simp [Op.eqFields]
  | cons f fs ihf =>
    intro qs off b w h e
    simp only [qfieldsB, Bool.and_eq_true, beq_iff_eq, Nat.ble_eq, Nat.blt_eq] at h
    obtain ⟨⟨⟨⟨⟨hn, hoff⟩, hpos⟩, hfit⟩, hq⟩, hrest⟩ := h
    obtain ⟨b1, b2, e1, e2, rfl⟩ := eqs_split (P.cellsOf f.type) qs _ _ b e hfit
    obtain ⟨l1, l2⟩ := eqs_len e
    simp only [List.length_drop] at l1 l2
    have hty := qsB_ty hq
    have hsz : (qs.take (P.cellsOf f.type)).length = P.cellsOf f.type := by simp; omega
    rw [hsz] at hty
    obtain ⟨v1, x1, p1, r1, i1⟩ := part_is hty hv (off := off) (by omega) w
    obtain ⟨v2, x2, p2, r2, i2⟩ := part_is hty hu (off := off) (by omega) w
    have he := ih f.type _ hq _ _ b1 e1 v1 v2 x1 x2 i1 i2 r1 r2 D hD w
    rw [List.drop_drop, List.drop_drop] at e2
    have hr := ihf _ _ b2 w hrest e2
    have hn' : f.name ≠ "_" := by simpa using hn
    simp only [Op.eqFields, if_pos hn', Sem.run_bind, hoff, p1, p2, he, Result.andThen_ok, Sem.run_ite]
    cases b1
    · simp
    · simp [hr]

theorem deep_items {d : Nat} (ih : DeepAt ν P g d) {D : Nat} (hD : d ≤ D) {e : TypeId} {vs us : Array Value} {as bs : List AV} (hv : RA ν g (.agg vs) (.agg as)) (hu : RA ν g (.agg us) (.agg bs)) : ∀ (n i : Nat) (qs : List Nat) (b : Bool) (w : World),
    qtimesB (qsB P d e) (P.cellsOf e) n qs = true → eqs qs (as.drop (i * P.cellsOf e)) (bs.drop (i * P.cellsOf e)) = some b → (Op.eqItems D e (P.cellsOf e) vs us (List.range' i n)).run P w = .ok b w := by
  intro n
  induction n with
  | zero =>
    intro i qs b w h e'
    simp only [qtimesB, List.isEmpty_iff] at h
    subst h
    obtain ⟨h1, h2⟩ := eqs_len e'
    rw [List.eq_nil_of_length_eq_zero h1, List.eq_nil_of_length_eq_zero h2] at e'
    simp [eqs] at e'
    subst e'
    simp [Op.eqItems]
  | succ n ihn =>
    intro i qs b w h e'
    simp only [qtimesB, Bool.and_eq_true, Nat.ble_eq, Nat.blt_eq] at h
    obtain ⟨⟨⟨hpos, hfit⟩, hq⟩, hrest⟩ := h
    obtain ⟨b1, b2, e1, e2, rfl⟩ := eqs_split (P.cellsOf e) qs _ _ b e' hfit
    obtain ⟨l1, l2⟩ := eqs_len e'
    simp only [List.length_drop] at l1 l2
    have hty := qsB_ty hq
    have hsz : (qs.take (P.cellsOf e)).length = P.cellsOf e := by simp; omega
    rw [hsz] at hty
    obtain ⟨v1, x1, p1, r1, i1⟩ := part_is hty hv (off := i * P.cellsOf e) (by omega) w
    obtain ⟨v2, x2, p2, r2, i2⟩ := part_is hty hu (off := i * P.cellsOf e) (by omega) w
    have he := ih e _ hq _ _ b1 e1 v1 v2 x1 x2 i1 i2 r1 r2 D hD w
    rw [List.drop_drop, List.drop_drop, ← Nat.succ_mul] at e2
    have hr := ihn (i + 1) _ b2 w hrest e2
    simp only [List.range'_succ, Op.eqItems, Sem.run_bind, p1, p2, he, Result.andThen_ok, Sem.run_ite]
    cases b1
    · simp
    · simp [hr]

theorem deep_at (ν : Nat → Nat) (P : Program) (g : Gh) : ∀ d, DeepAt ν P g d
  | 0 => fun t qs h => by simp [qsB] at h
  | d + 1 => by
    intro t qs h cs ds b e v u x y hx hy hv hu D hD w
    obtain ⟨D, rfl⟩ : ∃ D', D = D' + 1 := ⟨D - 1, by omega⟩
    have hD : d ≤ D := by omega
    have hty := qsB_ty h
    obtain ⟨dd, i, hut, hi, ha, hs, h1⟩ := tyB_spec hty
    simp only [qsB, Bool.and_eq_true] at h
    have h := h.2
    split at h
    · rename_i fs hu'
      simp only [Bool.and_eq_true, Bool.not_eq_true'] at h
      have hagg : aggB P t = true := by simp [aggB, hu', isAggD]
      rcases hx with ⟨-, rfl⟩ | ⟨h0, _⟩
      case inr => rw [hagg] at h0; cases h0
      rcases hy with ⟨-, rfl⟩ | ⟨h0, _⟩
      case inr => rw [hagg] at h0; cases h0
      obtain ⟨vs, rfl⟩ := hv.aggv
      obtain ⟨us, rfl⟩ := hu.aggv
      have hfs : P.fieldsOf t = fs := by simp [Program.fieldsOf, hu']
      rw [run_equalIn_struct w D t vs us (by rw [hfs]; exact hu') h.1, hfs]
      exact deep_fields (deep_at ν P g d) hD hv hu fs.toList qs 0 b w h.2 (by simpa using e)
    · rename_i n el hu'
      have hagg : aggB P t = true := by simp [aggB, hu', isAggD]
      rcases hx with ⟨-, rfl⟩ | ⟨h0, _⟩
      case inr => rw [hagg] at h0; cases h0
      rcases hy with ⟨-, rfl⟩ | ⟨h0, _⟩
      case inr => rw [hagg] at h0; cases h0
      obtain ⟨vs, rfl⟩ := hv.aggv
      obtain ⟨us, rfl⟩ := hu.aggv
      cases n with
      | zero => simp [Nat.blt] at h
      | succ n =>
        have hinfo : ∃ ie, P.info? el = some ie := by
          simp only [qtimesB, Bool.and_eq_true] at h
          obtain ⟨_, ie, _, hie, _⟩ := tyB_spec (qsB_ty h.2.1.2)
          exact ⟨ie, hie⟩
        obtain ⟨ie, hie⟩ := hinfo
        rw [run_equalIn_array w D vs us hu' hie, List.range_eq_range']
        exact deep_items (deep_at ν P g d) hD hv hu (n + 1) 0 qs b w (by simp only [Bool.and_eq_true] at h; exact h.2) (by simpa using e)
    · rename_i hns hna
      split at h
      · rename_i q
        have hagg : aggB P t = false := by
          unfold aggB
          rw [hut]
          cases dd with
          | struct fs => exact absurd hut (hns fs)
          | array n el => exact absurd hut (hna n el)
          | _ => rfl
        rcases hx with ⟨h0, _⟩ | ⟨-, rfl⟩
        · rw [hagg] at h0; cases h0
        rcases hy with ⟨h0, _⟩ | ⟨-, rfl⟩
        · rw [hagg] at h0; cases h0
        simp only [eqs, Option.bind_eq_some_iff] at e
        obtain ⟨b1, e1, b2, e2, e3⟩ := e
        cases e2; cases e3
        have := eq0_ok (P := P) e1 h hv hu D w
        simpa using this
      · cases h

def eqdB (P : Program) (t : TypeId) (qs : List Nat) : Bool := qsB P 9 t qs && aggB P t && !P.eqGuardType P.depth t
theorem eqd_ok (r : Rel ν k g) {t : TypeId} {qs : List Nat} (ht : eqdB P t qs = true) {a b : Operand} {v u : Value} {cs ds : List AV} {z : Bool} (neg : Bool) (hv : RA ν g v (.agg cs)) (hu : RA ν g u (.agg ds)) (e : eqs qs cs ds = some z) :
    Done ν k g g.h (.iv (.bool (if neg then !z else z))) ((do eqGuard (if neg then .neq else .eql) t a b v u; binOp (if neg then .neq else .eql) t v u : Sem Value).run P g.w) := by
  simp only [eqdB, Bool.and_eq_true, Bool.not_eq_true'] at ht
  obtain ⟨⟨h1, h2⟩, h3⟩ := ht
  obtain ⟨xs, rfl⟩ := hv.aggv
  obtain ⟨ys, rfl⟩ := hu.aggv
  have hrun := deep_at ν P g 9 t qs h1 cs ds z e _ _ _ _ (.inl ⟨h2, rfl⟩) (.inl ⟨h2, rfl⟩) hv hu 10000 (by omega) g.w
  cases neg
  · refine .same r ?_ mkBool
    simp only [Bool.false_eq_true, if_false, Sem.run_bind, run_eqGuard_agg _ _ _ _ _ _ _ h3, Result.andThen_ok, run_eql_struct, hrun]
  · refine .same r ?_ mkBool
    simp only [if_true, Sem.run_bind, run_eqGuard_agg _ _ _ _ _ _ _ h3, Result.andThen_ok, run_neq_struct, hrun]
end
end Arx

/-
  SYNC/ATOMIC's functions, on a number.
-/
namespace Arx
open Go Go.RowKit Arb

/-- the function of that name, without a body -/
def atB (P : Program) (nm : String) (f : Nat) : Bool :=
  match P.funcs[f]? with
  | some fn => fn.name == nm && fn.origin == "" && fn.body.isNone
  | none => false
def kName : IntKind → String
  | .i32 => "Int32" | .i64 => "Int64" | .u32 => "Uint32" | .u64 => "Uint64" | _ => "?"
def okK : IntKind → Bool
  | .i32 | .i64 | .u32 | .u64 => true
  | _ => false
def atK (P : Program) (what : String) (k : IntKind) (f : Nat) : Bool := okK k && atB P (what ++ kName k) f

theorem findNext_of {fn : Func} {nm : String} (h : fn.name = nm) (h0 : fn.origin = "") (hl : (Extern.allNextRows.lookup nm).isNone = true) (hl0 : (Extern.allNextRows.lookup "").isNone = true) : Extern.findNext fn = none := by
  have h1 : Extern.allNextRows.lookup nm = none := by simpa using hl
  have h2 : Extern.allNextRows.lookup "" = none := by simpa using hl0
  simp [Extern.findNext, h, h0, h1, h2]
theorem find_of {fn : Func} {nm : String} {e : Array Value → Sem Value} (h : fn.name = nm) (hl1 : (Extern.allGenericRows.lookup nm).isNone = true) (hl2 : (Extern.allTypedRows.lookup nm).isNone = true)
    (hl : Extern.allRows.lookup nm = some e) : Extern.find fn = some e := by
  have h1 : Extern.allGenericRows.lookup nm = none := by simpa using hl1
  have h2 : Extern.allTypedRows.lookup nm = none := by simpa using hl2
  simp [Extern.find, h, h1, h2, hl]

section
variable {ν : Nat → Nat} {P : Program} {k : Cx} {g : Gh}

theorem atB_spec {nm : String} {f : Nat} (h : atB P nm f = true) : ∃ fn, P.funcs[f]? = some fn ∧ fn.name = nm ∧ fn.origin = "" ∧ fn.body.isNone = true := by
  unfold atB at h
  split at h
  · rename_i fn hfn
    simp only [Bool.and_eq_true, beq_iff_eq] at h
    exact ⟨fn, hfn, h.1.1, h.1.2, h.2⟩
  · cases h

theorem next0 : (Extern.allNextRows.lookup "").isNone = true := by kernel_rfl

theorem atK_spec {what : String} {k : IntKind} {f : Nat} (h : atK P what k f = true) : okK k = true ∧ ∃ fn, P.funcs[f]? = some fn ∧ fn.name = what ++ kName k ∧ fn.origin = "" ∧ fn.body.isNone = true := by
  simp only [atK, Bool.and_eq_true] at h
  exact ⟨h.1, atB_spec h.2⟩

theorem load_env {k : IntKind} {f : Nat} (h : atK P "sync/atomic.Load" k f = true) {a : Addr} {x : Int} {w : World} (hc : w.cell? a = some (.int k x)) :
    (callFunc f #[.pointer (some a)]).run P w = .ok (.value (.int k x)) w := by
  obtain ⟨hk, fn, hf, h1, h0, hb⟩ := atK_spec h
  cases k with
  | i32 => exact run_call_load hf (by rw [h1]; kernel_rfl) hb (findNext_of h1 h0 (by kernel_rfl) next0) _ (find_of h1 (by kernel_rfl) (by kernel_rfl) (by kernel_rfl)) hc
  | i64 => exact run_call_load hf (by rw [h1]; kernel_rfl) hb (findNext_of h1 h0 (by kernel_rfl) next0) _ (find_of h1 (by kernel_rfl) (by kernel_rfl) (by kernel_rfl)) hc
  | u32 => exact run_call_load hf (by rw [h1]; kernel_rfl) hb (findNext_of h1 h0 (by kernel_rfl) next0) _ (find_of h1 (by kernel_rfl) (by kernel_rfl) (by kernel_rfl)) hc
  | u64 => exact run_call_load hf (by rw [h1]; kernel_rfl) hb (findNext_of h1 h0 (by kernel_rfl) next0) _ (find_of h1 (by kernel_rfl) (by kernel_rfl) (by kernel_rfl)) hc
  | _ => cases hk
theorem store_env {k : IntKind} {f : Nat} (h : atK P "sync/atomic.Store" k f = true) {a : Addr} {j : IntKind} {y : Int} {u : Value} {w : World} (hc : w.cell? a = some u) (hz : w.frozen? a = false) :
    (callFunc f #[.pointer (some a), .int j y]).run P w = .ok (.value (.tuple #[])) (w.setCell a (.int j y)) := by
  obtain ⟨hk, fn, hf, h1, h0, hb⟩ := atK_spec h
  cases k with
  | i32 => exact run_call_store hf (by rw [h1]; kernel_rfl) hb (findNext_of h1 h0 (by kernel_rfl) next0) (find_of h1 (by kernel_rfl) (by kernel_rfl) (by kernel_rfl)) hc hz
  | i64 => exact run_call_store hf (by rw [h1]; kernel_rfl) hb (findNext_of h1 h0 (by kernel_rfl) next0) (find_of h1 (by kernel_rfl) (by kernel_rfl) (by kernel_rfl)) hc hz
  | u32 => exact run_call_store hf (by rw [h1]; kernel_rfl) hb (findNext_of h1 h0 (by kernel_rfl) next0) (find_of h1 (by kernel_rfl) (by kernel_rfl) (by kernel_rfl)) hc hz
  | u64 => exact run_call_store hf (by rw [h1]; kernel_rfl) hb (findNext_of h1 h0 (by kernel_rfl) next0) (find_of h1 (by kernel_rfl) (by kernel_rfl) (by kernel_rfl)) hc hz
  | _ => cases hk
theorem add_env {k : IntKind} {f : Nat} (h : atK P "sync/atomic.Add" k f = true) {a : Addr} {x y : Int} {w : World} (hc : w.cell? a = some (.int k x)) (hz : w.frozen? a = false) :
    (callFunc f #[.pointer (some a), .int k y]).run P w = .ok (.value (.int k (k.wrap (x + y)))) (w.setCell a (.int k (k.wrap (x + y)))) := by
  obtain ⟨hk, fn, hf, h1, h0, hb⟩ := atK_spec h
  have hs : ∀ k, (Op.intArith .add k x y).run P w = .ok (.int k (k.wrap (x + y))) w := fun k => by simp [Op.intArith]
  cases k with
  | i32 => exact run_call_add hf (by rw [h1]; kernel_rfl) hb (findNext_of h1 h0 (by kernel_rfl) next0) _ (find_of h1 (by kernel_rfl) (by kernel_rfl) (by kernel_rfl)) hc hz (hs _)
  | i64 => exact run_call_add hf (by rw [h1]; kernel_rfl) hb (findNext_of h1 h0 (by kernel_rfl) next0) _ (find_of h1 (by kernel_rfl) (by kernel_rfl) (by kernel_rfl)) hc hz (hs _)
  | u32 => exact run_call_add hf (by rw [h1]; kernel_rfl) hb (findNext_of h1 h0 (by kernel_rfl) next0) _ (find_of h1 (by kernel_rfl) (by kernel_rfl) (by kernel_rfl)) hc hz (hs _)
  | u64 => exact run_call_add hf (by rw [h1]; kernel_rfl) hb (findNext_of h1 h0 (by kernel_rfl) next0) _ (find_of h1 (by kernel_rfl) (by kernel_rfl) (by kernel_rfl)) hc hz (hs _)
  | _ => cases hk
theorem cas_hit {k : IntKind} {f : Nat} (h : atK P "sync/atomic.CompareAndSwap" k f = true) {a : Addr} {x y : Int} {w : World} (hc : w.cell? a = some (.int k x)) (hz : w.frozen? a = false) :
    (callFunc f #[.pointer (some a), .int k x, .int k y]).run P w = .ok (.value (.bool true)) (w.setCell a (.int k y)) := by
  obtain ⟨hk, fn, hf, h1, h0, hb⟩ := atK_spec h
  cases k with
  | i32 => exact run_call_cas_hit hf (by rw [h1]; kernel_rfl) hb (findNext_of h1 h0 (by kernel_rfl) next0) _ (find_of h1 (by kernel_rfl) (by kernel_rfl) (by kernel_rfl)) hc hz
  | i64 => exact run_call_cas_hit hf (by rw [h1]; kernel_rfl) hb (findNext_of h1 h0 (by kernel_rfl) next0) _ (find_of h1 (by kernel_rfl) (by kernel_rfl) (by kernel_rfl)) hc hz
  | u32 => exact run_call_cas_hit hf (by rw [h1]; kernel_rfl) hb (findNext_of h1 h0 (by kernel_rfl) next0) _ (find_of h1 (by kernel_rfl) (by kernel_rfl) (by kernel_rfl)) hc hz
  | u64 => exact run_call_cas_hit hf (by rw [h1]; kernel_rfl) hb (findNext_of h1 h0 (by kernel_rfl) next0) _ (find_of h1 (by kernel_rfl) (by kernel_rfl) (by kernel_rfl)) hc hz
  | _ => cases hk
theorem cas_miss {k : IntKind} {f : Nat} (h : atK P "sync/atomic.CompareAndSwap" k f = true) {a : Addr} {x o y : Int} {w : World} (hc : w.cell? a = some (.int k x)) (hz : w.frozen? a = false) (hne : ¬ x = o) :
    (callFunc f #[.pointer (some a), .int k o, .int k y]).run P w = .ok (.value (.bool false)) w := by
  obtain ⟨hk, fn, hf, h1, h0, hb⟩ := atK_spec h
  cases k with
  | i32 => exact run_call_cas_miss hf (by rw [h1]; kernel_rfl) hb (findNext_of h1 h0 (by kernel_rfl) next0) _ (find_of h1 (by kernel_rfl) (by kernel_rfl) (by kernel_rfl)) hc hz hne
  | i64 => exact run_call_cas_miss hf (by rw [h1]; kernel_rfl) hb (findNext_of h1 h0 (by kernel_rfl) next0) _ (find_of h1 (by kernel_rfl) (by kernel_rfl) (by kernel_rfl)) hc hz hne
  | u32 => exact run_call_cas_miss hf (by rw [h1]; kernel_rfl) hb (findNext_of h1 h0 (by kernel_rfl) next0) _ (find_of h1 (by kernel_rfl) (by kernel_rfl) (by kernel_rfl)) hc hz hne
  | u64 => exact run_call_cas_miss hf (by rw [h1]; kernel_rfl) hb (findNext_of h1 h0 (by kernel_rfl) next0) _ (find_of h1 (by kernel_rfl) (by kernel_rfl) (by kernel_rfl)) hc hz hne
  | _ => cases hk

/-! ### the operations -/
/-- a call that answers at once -/
def Here (ν : Nat → Nat) (P : Program) (k : Cx) (g : Gh) (h' : Hp) (r : AV) (f : Nat) (args : Array Value) : Prop :=
  ∃ g' v, (callFunc f args).run P g.w = .ok (.value v) g'.w ∧ g'.h = h' ∧ Rel ν k g' ∧ Mono ν g g' ∧ RA ν g' v r

theorem aload_at (r : Rel ν k g) {kk : IntKind} {va : Value} {a : AV} {n : Int} {h' : Hp} (hva : RA ν g va a) (e : (aload kk a).run g.h = some (n, h')) :
    h' = g.h ∧ ∃ b off, va = .pointer (some ⟨b, off, none⟩) ∧ g.w.cell? ⟨b, off, none⟩ = some (.int kk n) := by
  obtain ⟨x, h1, e1, e2⟩ := M.bind_some e
  split at e2
  case h_2 => exact (M.fail_some e2).elim
  rename_i k' n'
  obtain ⟨_, h2, e3, e4⟩ := M.bind_some e2
  obtain ⟨hk, rfl⟩ := M.ok_some e3
  obtain ⟨rfl, rfl⟩ := M.ret_some e4
  obtain rfl := beq_iff_eq.1 hk
  cases hva with
  | undef => exact (M.fail_some e1).elim
  | nul => exact (M.fail_some e1).elim
  | agg => exact (M.fail_some e1).elim
  | tup => exact (M.fail_some e1).elim
  | own => exact (M.fail_some e1).elim
  | clo => exact (M.fail_some e1).elim
  | iv hr =>
    cases hr with
    | ptr b off cs f hI hc hr =>
      obtain ⟨_, h1, e1, e2⟩ := M.bind_some e1
      obtain ⟨hl, rfl⟩ := M.ok_some e1
      obtain ⟨rfl, hm⟩ := mk_some e2
      rcases hm with ⟨h, _⟩ | ⟨_, hm⟩
      · cases h
      obtain ⟨c, rest, rfl⟩ : ∃ c rest, cs = c :: rest := by
        cases cs with
        | nil => simp at hm
        | cons c rest => exact ⟨c, rest, rfl⟩
      simp at hm; subst hm
      refine ⟨rfl, b, off, rfl, ?_⟩
      have h0 := hc 0 _ rfl
      have h2 := hr 0 _ rfl
      simp only [Nat.add_zero] at h0
      rw [h0]
      generalize f 0 = u at h2
      cases h2; rfl
    | _ => exact (M.fail_some e1).elim
  | ref hr1 hr =>
    obtain ⟨ob, h1, e1, e2⟩ := M.bind_some e1
    obtain ⟨hg, rfl⟩ := M.look_some e1
    obtain ⟨l, h2, e3, e4⟩ := M.bind_some e2
    obtain ⟨hl, rfl⟩ := M.lift_some e3
    obtain ⟨_, h3, e5, e6⟩ := M.bind_some e4
    obtain ⟨hl', rfl⟩ := M.ok_some e5
    obtain ⟨rfl, hm⟩ := mk_some e6
    rcases hm with ⟨h, _⟩ | ⟨_, rfl⟩
    · cases h
    obtain ⟨b, off, rfl, hc⟩ := obRead_ok r hg hl hr
    obtain ⟨v, h1, _, hR⟩ := hc 0 _ rfl
    refine ⟨rfl, b, off, rfl, ?_⟩
    rw [Nat.add_zero] at h1
    rw [h1, hR.int]

theorem setCell_same {w : World} {b off : Nat} {v : Value} (h : w.cell? ⟨b, off, none⟩ = some v) : w.setCell ⟨b, off, none⟩ v = w := by
  unfold World.cell? at h
  unfold World.setCell
  have : (w.heap.modify b fun
      | .cells c elem frozen => .cells (if ((none : Option Nat).isSome) = true then c else c.setIfInBounds off v) elem frozen
      | o => o) = w.heap := by
    refine Array.ext_getElem? fun i => ?_
    rw [Array.getElem?_modify]
    by_cases hi : b = i
    · subst hi
      simp only [if_true]
      cases hb : w.heap[b]? with
      | none => rfl
      | some ob =>
        simp only [hb] at h
        cases ob with
        | cells c el fr =>
          simp only [Option.isSome_none, Bool.false_eq_true, if_false] at h
          simp only [Option.map_some, Option.isSome_none, Bool.false_eq_true, if_false]
          congr 2
          refine Array.ext_getElem? fun m => ?_
          rw [Array.getElem?_setIfInBounds]
          by_cases hm : off = m
          · subst hm
            rw [h]
            have := (Array.getElem?_eq_some_iff.1 h).1
            simp [this]
          · simp [hm]
        | _ => rfl
    · simp [hi]
  exact congrArg (fun h => ({ w with heap := h } : World)) this
theorem store1 (r : Rel ν k g) {va : Value} {a x y : AV} {j : IntKind} {n : Int} (hva : RA ν g va a) (hx : x = .iv (.int j n)) {h' : Hp} (e : (store 1 a x).run g.h = some (y, h')) :
    ∃ b off g' u, va = .pointer (some ⟨b, off, none⟩) ∧ y = .tup [] ∧ g'.w = g.w.setCell ⟨b, off, none⟩ (.int j n) ∧ g.w.cell? ⟨b, off, none⟩ = some u ∧ g.w.frozen? ⟨b, off, none⟩ = false ∧ g'.h = h' ∧ Rel ν k g' ∧ Mono ν g g' := by
  subst hx
  obtain ⟨b, off, g', h1, h2, h3, _, h5, h6, h7, h8, h9, _⟩ := store_at r hva (mkInt (ν := ν) (g := g) (kk := j) (n := n)) e
  obtain ⟨u, hu⟩ := Option.isSome_iff_exists.1 (h6 0 (by omega))
  exact ⟨b, off, g', u, h1, h2, h3.trans rfl, by simpa using hu, h5 _, h7, h8, h9⟩

theorem aload_ok (r : Rel ν k g) {kk : IntKind} {f : Nat} (hf : atK P "sync/atomic.Load" kk f = true) {va : Value} {a y : AV} {h' : Hp} (hva : RA ν g va a)
    (e : ((aload kk a).bind fun n => M.ret (.iv (.int kk n))).run g.h = some (y, h')) : Here ν P k g h' y f #[va] := by
  obtain ⟨n, h1, e1, e2⟩ := M.bind_some e
  obtain ⟨rfl, rfl⟩ := M.ret_some e2
  obtain ⟨rfl, b, off, rfl, hc⟩ := aload_at r hva e1
  exact ⟨g, _, load_env hf hc, rfl, r, .refl ν g, mkInt⟩

theorem astore_ok (r : Rel ν k g) {kk : IntKind} {f : Nat} (hf : atK P "sync/atomic.Store" kk f = true) {va vx : Value} {a x y : AV} {h' : Hp} (hva : RA ν g va a) (hvx : RA ν g vx x)
    (e : ((M.ok (isInt1 x)).bind fun _ => store 1 a x).run g.h = some (y, h')) : Here ν P k g h' y f #[va, vx] := by
  obtain ⟨_, h1, e1, e2⟩ := M.bind_some e
  obtain ⟨hi, rfl⟩ := M.ok_some e1
  unfold isInt1 at hi
  split at hi
  case h_2 => cases hi
  rename_i j n
  obtain rfl := hvx.int
  obtain ⟨b, off, g', u, rfl, rfl, h3, h4, h5, h6, h7, h8⟩ := store1 r hva rfl e2
  exact ⟨g', _, by rw [h3]; exact store_env hf h4 h5, h6, h7, h8, .tup (by simp) fun j v c h => by simp at h⟩

theorem aadd_ok (r : Rel ν k g) {kk : IntKind} {f : Nat} (hf : atK P "sync/atomic.Add" kk f = true) {va vx : Value} {a x y : AV} {h' : Hp} (hva : RA ν g va a) (hvx : RA ν g vx x)
    (e : (aadd kk a x).run g.h = some (y, h')) : Here ν P k g h' y f #[va, vx] := by
  unfold aadd at e
  split at e
  case h_2 => exact (M.fail_some e).elim
  rename_i j m
  obtain ⟨_, h1, e1, e2⟩ := M.bind_some e
  obtain ⟨hk, rfl⟩ := M.ok_some e1
  obtain rfl := beq_iff_eq.1 hk
  obtain ⟨n, h2, e3, e4⟩ := M.bind_some e2
  obtain ⟨rfl, b, off, rfl, hc⟩ := aload_at r hva e3
  obtain ⟨_, h3, e5, e6⟩ := M.bind_some e4
  obtain ⟨rfl, rfl⟩ := M.ret_some e6
  obtain rfl := hvx.int
  obtain ⟨b', off', g', u, h0, _, h3, h4, h5, h6, h7, h8⟩ := store1 r hva rfl e5
  simp only [Value.pointer.injEq, Option.some.injEq, Addr.mk.injEq, and_true] at h0
  obtain ⟨rfl, rfl⟩ := h0
  exact ⟨g', _, by rw [h3]; exact add_env hf hc h5, h6, h7, h8, mkInt⟩

theorem acas_ok (r : Rel ν k g) {kk : IntKind} {f : Nat} (hf : atK P "sync/atomic.CompareAndSwap" kk f = true) {va vo vx : Value} {a o x y : AV} {h' : Hp} (hva : RA ν g va a) (hvo : RA ν g vo o) (hvx : RA ν g vx x)
    (e : (acas kk a o x).run g.h = some (y, h')) : Here ν P k g h' y f #[va, vo, vx] := by
  unfold acas at e
  split at e
  case h_2 => exact (M.fail_some e).elim
  rename_i j old j' m
  obtain ⟨_, h1, e1, e2⟩ := M.bind_some e
  obtain ⟨hk, rfl⟩ := M.ok_some e1
  simp only [Bool.and_eq_true, beq_iff_eq] at hk
  obtain ⟨rfl, rfl⟩ := hk
  obtain ⟨n, h2, e3, e4⟩ := M.bind_some e2
  obtain ⟨rfl, b, off, rfl, hc⟩ := aload_at r hva e3
  obtain rfl := hvx.int
  obtain rfl := hvo.int
  split at e4
  · rename_i hn
    subst hn
    obtain ⟨_, h3, e5, e6⟩ := M.bind_some e4
    obtain ⟨rfl, rfl⟩ := M.ret_some e6
    obtain ⟨b', off', g', u, h0, _, h3, h4, h5, h6, h7, h8⟩ := store1 r hva rfl e5
    simp only [Value.pointer.injEq, Option.some.injEq, Addr.mk.injEq, and_true] at h0
    obtain ⟨rfl, rfl⟩ := h0
    exact ⟨g', _, by rw [h3]; exact cas_hit hf hc h5, h6, h7, h8, mkBool⟩
  · rename_i hn
    obtain ⟨_, h3, e5, e6⟩ := M.bind_some e4
    obtain ⟨rfl, rfl⟩ := M.ret_some e6
    obtain ⟨b', off', g', u, h0, _, h3, h4, h5, h6, h7, h8⟩ := store1 r hva rfl e5
    simp only [Value.pointer.injEq, Option.some.injEq, Addr.mk.injEq, and_true] at h0
    obtain ⟨rfl, rfl⟩ := h0
    rw [setCell_same hc] at h3
    exact ⟨g', _, by rw [h3]; exact cas_miss hf hc h5 hn, h6, h7, h8, mkBool⟩
end
end Arx

/-
  POINTERS THROUGH UNSAFE, and bytes that a string shares.
-/
namespace Arx
open Go Go.RowKit Arb

def toUB (P : Program) (s d : TypeId) : Bool := match P.underlying s, P.underlying d with
  | some (.pointer t), some .unsafePointer => (match P.info? t with | some i => i.size != 0 | none => false)
  | _, _ => false
def ofUB (P : Program) (ν : Nat → Nat) (s d : TypeId) : Bool := match P.underlying s, P.underlying d with
  | some .unsafePointer, some (.pointer u) => u == ν tyBld && (P.info? u).isSome && liesAt P P.depth u (2 / P.cellsOf u) 0 u 1
  | _, _ => false
def ustrB (P : Program) (ν : Nat → Nat) (pt : TypeId) : Bool := match P.underlying pt with
  | some (.pointer e) => e == ν tyByte && P.cellsOf e == 1
  | _ => false

section
variable {ν : Nat → Nat} {P : Program} {k : Cx} {g : Gh}

theorem toU_ok (r : Rel ν k g) {s d : TypeId} (ht : toUB P s d = true) {v : Value} {x y : AV} {h' : Hp} (hv : RA ν g v x) (e : (toU x).run g.h = some (y, h')) : Done ν k g h' y ((convert s d v).run P g.w) := by
  unfold toU at e
  split at e
  case h_2 => exact (M.fail_some e).elim
  rename_i id ver i j
  obtain ⟨ob, h1, e1, e2⟩ := M.bind_some e
  obtain ⟨hg, rfl⟩ := M.look_some e1
  cases ob with
  | cells cs =>
    obtain ⟨_, h2, e3, e4⟩ := M.bind_some e2
    obtain ⟨hok, rfl⟩ := M.ok_some e3
    obtain ⟨rfl, rfl⟩ := M.ret_some e4
    simp only [Bool.and_eq_true, beq_iff_eq, Nat.blt_eq] at hok
    unfold toUB at ht
    split at ht
    case h_2 => cases ht
    rename_i t hs hd
    cases hi : P.info? t with
    | none => rw [hi] at ht; cases ht
    | some ti =>
      rw [hi] at ht
      cases hv with
      | ref h1 hr =>
        have hr' := hr
        unfold RefAt at hr'
        rw [hg] at hr'
        obtain ⟨-, -, b, hφ, rfl⟩ := hr'
        obtain ⟨b', hφ', _, _, hc⟩ := r.ob id _ hg
        rw [hφ] at hφ'; cases hφ'
        obtain ⟨u, hu, _⟩ := hc j _ (List.getElem?_eq_getElem hok.2)
        exact .same r (run_convert_to_unsafe hs hd (by rw [hi]; simpa using ht) hu) (.ref h1 hr)
  | buf => exact (M.fail_some e2).elim
  | imm => exact (M.fail_some e2).elim
  | icl => exact (M.fail_some e2).elim
  | map => exact (M.fail_some e2).elim

theorem ofU_ok (r : Rel ν k g) {s d : TypeId} (ht : ofUB P ν s d = true) {v : Value} {x y : AV} {h' : Hp} (hv : RA ν g v x) (e : (ofU x).run g.h = some (y, h')) : Done ν k g h' y ((convert s d v).run P g.w) := by
  unfold ofU at e
  split at e
  case h_2 => exact (M.fail_some e).elim
  rename_i id ver i j
  obtain ⟨ob, h1, e1, e2⟩ := M.bind_some e
  obtain ⟨hg, rfl⟩ := M.look_some e1
  cases ob with
  | cells cs =>
    obtain ⟨_, h2, e3, e4⟩ := M.bind_some e2
    obtain ⟨hok, rfl⟩ := M.ok_some e3
    obtain ⟨rfl, rfl⟩ := M.ret_some e4
    simp only [Bool.and_eq_true, beq_iff_eq] at hok
    obtain ⟨⟨⟨rfl, rfl⟩, rfl⟩, hid⟩ := hok
    unfold ofUB at ht
    split at ht
    case h_2 => cases ht
    rename_i u hs hd
    simp only [Bool.and_eq_true, beq_iff_eq] at ht
    obtain ⟨⟨rfl, hi⟩, hl⟩ := ht
    obtain ⟨ti, hi⟩ := Option.isSome_iff_exists.1 hi
    cases hv with
    | ref h1 hr =>
      have hr' := hr
      unfold RefAt at hr'
      rw [hg] at hr'
      obtain ⟨-, -, b, hφ, rfl⟩ := hr'
      have hsh := (r.ty id _ b hg hφ).1 hid
      exact .same r (Lib.run_from_unsafe g.w ⟨b, 0, none⟩ hs hd hi hsh hl) (.ref h1 hr)
  | buf => exact (M.fail_some e2).elim
  | imm => exact (M.fail_some e2).elim
  | icl => exact (M.fail_some e2).elim
  | map => exact (M.fail_some e2).elim

theorem usd_ok (r : Rel ν k g) {ts : Array TypeId} {ty : TypeId} {v : Value} {x y : AV} {h' : Hp} (hv : RA ν g v x) (e : (usd x).run g.h = some (y, h')) :
    Done ν k g h' y ((Builtin.unsafeSliceData_ ts ty #[v]).run P g.w) := by
  unfold usd at e
  split at e
  case h_2 => exact (M.fail_some e).elim
  rename_i id o n ver
  obtain ⟨ob, h1, e1, e2⟩ := M.bind_some e
  obtain ⟨hg, rfl⟩ := M.look_some e1
  cases ob with
  | buf v' e' es =>
    obtain ⟨_, h2, e3, e4⟩ := M.bind_some e2
    obtain ⟨hok, rfl⟩ := M.ok_some e3
    obtain ⟨rfl, rfl⟩ := M.ret_some e4
    simp only [Bool.and_eq_true, beq_iff_eq, Nat.blt_eq] at hok
    obtain ⟨⟨⟨rfl, rfl⟩, rfl⟩, hn⟩ := hok
    cases hv with
    | own h1 ho =>
      unfold OwnAt at ho
      rw [hg] at ho
      have hs := ho.2 rfl
      obtain ⟨b, hφ, hnI, hsoft, hrow⟩ := r.ob id _ hg
      rw [hφ] at hs
      obtain ⟨x, cap, rfl, h2, h3, h4, h5, h6⟩ := hs
      have hx : x = 0 := by rcases h5 with h | h <;> omega
      subst hx
      refine .same r (Lib.run_unsafeSliceData_row g.w _ _ _ _ _ (by omega)) (.ref h1 ?_)
      unfold RefAt
      rw [hg]
      exact ⟨Nat.le_refl _, fun _ => ⟨b, hφ, rfl⟩⟩
  | cells => exact (M.fail_some e2).elim
  | imm => exact (M.fail_some e2).elim
  | icl => exact (M.fail_some e2).elim
  | map => exact (M.fail_some e2).elim

theorem noesc_ok (r : Rel ν k g) {f : Nat} (hf : atB P "internal/abi.NoEscape" f = true) {v : Value} {x : AV} (hv : RA ν g v x) : Here ν P k g g.h x f #[v] := by
  obtain ⟨fn, hf, h1, h0, hb⟩ := atB_spec hf
  refine ⟨g, v, ?_, rfl, r, .refl ν g, hv⟩
  rw [run_callFunc_extern hf (by rw [h1]; kernel_rfl) hb (findNext_of h1 h0 (by kernel_rfl) next0) (find_of h1 (by kernel_rfl) (by kernel_rfl) (by kernel_rfl) : Extern.find fn = some Extern.AbiNoEscape.same)]
  simp [Lib.run_noEscape, Result.andThen]

theorem freeze_cell (w : World) (a : Addr) (n : Nat) (x : Addr) : (w.freeze a n).cell? x = w.cell? x := by
  unfold World.freeze
  split
  · rfl
  · simp only [World.cell?, Array.getElem?_modify]
    by_cases h : a.block = x.block
    · rw [h]
      cases hb : w.heap[x.block]? with
      | none => simp
      | some ob => cases ob <;> simp
    · simp [h]
theorem freeze_shape (w : World) (a : Addr) (n : Nat) (x : Nat) : (w.freeze a n).shape? x = w.shape? x := by
  unfold World.freeze
  split
  · rfl
  · simp only [World.shape?, Array.getElem?_modify]
    by_cases h : a.block = x
    · rw [h]
      cases hb : w.heap[x]? with
      | none => simp
      | some ob => cases ob <;> simp
    · simp [h]
theorem freeze_other (w : World) (a : Addr) (n x : Nat) (h : a.block ≠ x) : (w.freeze a n).heap[x]? = w.heap[x]? := by
  unfold World.freeze
  split
  · rfl
  · simp [Array.getElem?_modify, h]
theorem freeze_size (w : World) (a : Addr) (n : Nat) : (w.freeze a n).heap.size = w.heap.size := by
  unfold World.freeze
  split <;> simp
theorem freeze_rest (w : World) (a : Addr) (n : Nat) : (w.freeze a n).os = w.os ∧ (w.freeze a n).tape = w.tape ∧ (w.freeze a n).output = w.output := by
  unfold World.freeze
  split <;> simp

theorem bytesOf_at : ∀ {ys : List (List AV)} {b : List Int}, bytesOf ys = some b → b.length = ys.length ∧ ∀ i, i < ys.length → ys[i]? = some [.iv (.int .u8 (b.getD i 0))]
  | [], b, h => by simp [bytesOf] at h; subst h; exact ⟨rfl, fun i hi => absurd hi (Nat.not_lt_zero _)⟩
  | y :: ys, b, h => by
    unfold bytesOf at h
    split at h
    · rename_i heq; cases heq
    · rename_i n r heq
      cases heq
      simp only [Option.map_eq_some_iff] at h
      obtain ⟨b', hb, rfl⟩ := h
      obtain ⟨h1, h2⟩ := bytesOf_at hb
      refine ⟨by simp [h1], fun i hi => ?_⟩
      cases i with
      | zero => rfl
      | succ i => simpa using h2 i (by simpa using hi)
    · cases h
theorem ustr_ok (r : Rel ν k g) {pt it ty : TypeId} (ht : ustrB P ν pt = true) {vp vn : Value} {p n y : AV} {h' : Hp} (hvp : RA ν g vp p) (hvn : RA ν g vn n) (e : (ustr p n).run g.h = some (y, h')) :
    Done ν k g h' y ((Builtin.unsafeString_ #[pt, it] ty #[vp, vn]).run P g.w) := by
  unfold ustr at e
  split at e
  case h_2 => exact (M.fail_some e).elim
  rename_i id ver i j kk m
  obtain ⟨ob, h1, e1, e2⟩ := M.bind_some e
  obtain ⟨hg, rfl⟩ := M.look_some e1
  cases ob with
  | buf v' e' es =>
    obtain ⟨_, h2, e3, e4⟩ := M.bind_some e2
    obtain ⟨hok, rfl⟩ := M.ok_some e3
    obtain ⟨bs, h3, e5, e6⟩ := M.bind_some e4
    obtain ⟨hbs, rfl⟩ := M.lift_some e5
    obtain ⟨_, h4, e7, e8⟩ := M.bind_some e6
    obtain ⟨hall, rfl⟩ := M.ok_some e7
    obtain ⟨_, h5, e9, e10⟩ := M.bind_some e8
    obtain rfl := M.write_some e9
    obtain ⟨rfl, rfl⟩ := M.ret_some e10
    simp only [Bool.and_eq_true, beq_iff_eq, Nat.blt_eq] at hok
    obtain ⟨⟨⟨⟨⟨⟨⟨⟨rfl, rfl⟩, rfl⟩, rfl⟩, hid⟩, rfl⟩, rfl⟩, hpos⟩, hroom⟩ := hok
    simp only [List.all_eq_true, decide_eq_true_eq] at hall
    unfold ustrB at ht
    split at ht
    case h_2 => cases ht
    rename_i et hp
    simp only [Bool.and_eq_true, beq_iff_eq] at ht
    obtain ⟨rfl, hc1⟩ := ht
    obtain rfl := hvn.int
    obtain ⟨hbl, hbat⟩ := bytesOf_at hbs
    cases hvp with
    | ref hh1 hr =>
      unfold RefAt at hr
      rw [hg] at hr
      obtain ⟨b, hφ, rfl⟩ := hr.2 rfl
      obtain ⟨b', hφ', hnI, hsoft, hrow⟩ := r.ob id _ hg
      rw [hφ] at hφ'; cases hφ'
      obtain ⟨cells, hsh⟩ := (r.ty id _ b hg hφ).2.1 hid
      have hat : ∀ m, m < es.length → g.w.cell? ⟨b, m, none⟩ = some (.int .u8 (bs.getD m 0)) := by
        intro m hm
        obtain ⟨u, hu, _, hR⟩ := hrow.2 m 0 _ _ (hbat m hm) rfl
        rw [hR.int] at hu
        simpa using hu
      have hlen : es.length ≤ cells := by
        have := hat (es.length - 1) (by omega)
        obtain ⟨e2, n2, hs2, hlt, _⟩ := World.shape?_of_cell? this
        simp only [] at hs2 hlt
        rw [hsh] at hs2
        cases hs2
        omega
      have hsz : es.length < 9223372036854775807 := by
        simp only [roomy, Nat.ble_eq] at hroom
        omega
      have hl : (bs.map fun n => UInt8.ofNat n.toNat).length = es.length := by simp [hbl]
      have hrun := Lib.run_unsafeString_row (P := P) g.w pt it ty (ν tyByte) hp hc1 b cells hsh (bs.map fun n => UInt8.ofNat n.toNat) (by intro h; rw [h] at hl; simp at hl; omega) (by omega) (by omega) fun j x hx => by
        simp only [List.getElem?_map, Option.map_eq_some_iff] at hx
        obtain ⟨z, hz, rfl⟩ := hx
        have hj := lt_of_some hz
        have hz' : bs.getD j 0 = z := by simp [List.getD, hz]
        have hb := hall z (List.mem_of_getElem? hz)
        have := hat j (by omega)
        rw [hz'] at this
        have hz3 : ((UInt8.ofNat z.toNat).toNat : Int) = z := by
          simp only [UInt8.toNat_ofNat']
          omega
        have ha : (⟨b, 0, none⟩ : Addr).add j = ⟨b, j, none⟩ := by
          simp only [Addr.add, Nat.zero_add]
          split
          · rename_i h0; rw [h0]
          · rfl
        rw [ha, this, hz3]
      rw [hl] at hrun
      have hrest := freeze_rest g.w ⟨b, 0, none⟩ es.length
      have htn := r.turn (s := id) (ob := .imm v' 1 (u8s bs)) (p := g.φ id) (w' := g.w.freeze ⟨b, 0, none⟩ es.length) (I' := fun c => g.I c ∨ c = b) hg (fun b' h => by rw [hφ] at h; cases h; exact hnI)
        (by rw [freeze_size]; exact Nat.le_refl _) hrest.1 hrest.2.1 hrest.2.2 (fun b' _ hne => freeze_other _ _ _ _ fun he => hne (by rw [hφ]; exact congrArg some he)) (fun _ h => .inl h)
        (fun c h => h.elim .inl fun h => .inr (by rw [h]; exact hφ)) (.inl rfl) (fun b' h => (r.ty id _ b' hg h).same (freeze_shape _ _ _ _))
        (fun u o n ver ho => by
          unfold OwnAt at ho ⊢
          rw [hg] at ho
          simp only [get_set_same, updφ_same]
          refine ⟨ho.1, fun hv => ?_⟩
          have := ho.2 hv
          rw [show (u8s bs).length = es.length by simp [u8s, hbl]]
          exact this.same fun b' _ c hc => by rw [freeze_cell]; exact hc)
        (fun u ver i j hr => by
          unfold RefAt at hr ⊢
          rw [hg] at hr
          simp only [get_set_same, updφ_same]
          exact hr)
        (fun hRI hm => ⟨b, (updφ_same _ _ _).trans hφ, .inr rfl, fun c hc => by
            simp only [u8s, List.mem_map] at hc
            obtain ⟨z, _, rfl⟩ := hc
            rfl, fun i j c x h1 h2 => by
          simp only [u8s, List.getElem?_map, Option.map_eq_some_iff] at h1
          obtain ⟨z, hz, rfl⟩ := h1
          have hi := lt_of_some hz
          have hj := lt_of_some h2
          simp only [List.length_cons, List.length_nil, Nat.zero_add] at hj
          obtain rfl : j = 0 := by omega
          simp at h2; subst h2
          have := hat i (by omega)
          have hz' : bs.getD i 0 = z := by simp [List.getD, hz]
          rw [hz'] at this
          refine ⟨_, ?_, .int _ _⟩
          simp only [Nat.mul_one, Nat.add_zero]
          rw [freeze_cell]; exact this⟩)
      rw [updφ_self] at htn
      exact ⟨_, _, hrun, rfl, htn.1, htn.2, mkStr⟩
  | cells => exact (M.fail_some e2).elim
  | imm => exact (M.fail_some e2).elim
  | icl => exact (M.fail_some e2).elim
  | map => exact (M.fail_some e2).elim
end
end Arx

/-
  WHICH ABSTRACT OPERATION STANDS FOR AN OPERATION OF THE PROGRAM, and that it says what the model does.
-/
namespace Arx
open Go Go.RowKit Arb

def cOpd (ν : Nat → Nat) : Operand → Opd → Bool
  | .tmp t, .t n => t == n
  | .const v, .c x => kVal v x
  | .func f, .c (.iv (.fn h [])) => f == ν h
  | _, _ => false
def cOpds (ν : Nat → Nat) : List Operand → List Opd → Bool
  | [], [] => true
  | x :: xs, y :: ys => cOpd ν x y && cOpds ν xs ys
  | _, _ => false
def cOpt (ν : Nat → Nat) : Option Operand → Option Opd → Bool
  | none, none => true
  | some x, some y => cOpd ν x y
  | _, _ => false
def cParts (ν : Nat → Nat) : List (Nat × Operand) → List (Nat × Opd) → Bool
  | [], [] => true
  | x :: xs, y :: ys => x.1 == y.1 && cOpd ν x.2 y.2 && cParts ν xs ys
  | _, _ => false
def cPlaced (ν : Nat → Nat) (pl : Nat → Option (Nat × Nat)) : List (Nat × Operand) → List (Nat × Nat × Opd) → Bool
  | [], [] => true
  | x :: xs, y :: ys => pl x.1 == some (y.1, y.2.1) && cOpd ν x.2 y.2.2 && cPlaced ν pl xs ys
  | _, _ => false
def isInt (P : Program) (t : TypeId) : Bool := match P.underlying t with | some (.int _) => true | _ => false
theorem isInt_spec {P : Program} {t : TypeId} (h : isInt P t = true) : ∃ kd, P.underlying t = some (.int kd) := by
  unfold isInt at h; split at h <;> first | exact ⟨_, by assumption⟩ | cases h

def cOp (P : Program) (ν : Nat → Nat) (op : Op) (io : IOp) : Bool :=
  match io with
  | .mov y => (match op with | .move x | .assign x => cOpd ν x y | _ => false)
  | .pick c' a' b' => (match op with | .pick c a b => cOpd ν c c' && cOpd ν a a' && cOpd ν b b' | _ => false)
  | .alloc tag z => (match op with | .alloc t => zeroK P t z && tagB ν t tag z | _ => false)
  | .box tag y => (match op with | .box t x => (tag == 0 || tag == 1 && t == ν tyBld) && cOpd ν x y | _ => false)
  | .build z qs => (match op with | .build t ps => zeroK P t z && (match placesOf P t with | some pl => cPlaced ν pl ps.toList qs | none => false) | _ => false)
  | .bsl e z n' qs => (match op with | .buildSlice t n ps => n == n' && bslK P t n e z && cParts ν ps.toList qs | _ => false)
  | .load agg sz a' => (match op with | .load t a => tyB P t sz agg && cOpd ν a a' | _ => false)
  | .store sz a' x' => (match op with | .store t a x => sizeB P t sz && cOpd ν a a' && cOpd ν x x' | _ => false)
  | .fadr off x' => (match op with | .fieldAddr s x f => fadrB P s f off && cOpd ν x x' | _ => false)
  | .fld agg off sz x' => (match op with | .field s x f => fldB P s f agg off sz && cOpd ν x x' | _ => false)
  | .iarr len e x' i' => (match op with | .indexAddr t x i => iarrB P t len e && cOpd ν x x' && cOpd ν i i' | _ => false)
  | .isl e x' i' => (match op with | .indexAddr t x i => sliceB P t e && cOpd ν x x' && cOpd ν i i' | _ => false)
  | .xarr agg len e x' i' => (match op with | .index t x i => xarrB P t agg len e && cOpd ν x x' && cOpd ν i i' | _ => false)
  | .xstr x' i' => (match op with | .index t x i => isStr P t && cOpd ν x x' && cOpd ν i i' | _ => false)
  | .bin bo q x' y' => (match op with | .binOp b t x y _ => b == bo && qOf2 P t q && cOpd ν x x' && cOpd ν y y' | _ => false)
  | .eqc neg qs x' y' => (match op with | .binOp b t x y _ => b == (if neg then .neq else .eql) && eqdB P t qs && cOpd ν x x' && cOpd ν y y' | _ => false)
  | .un uo x' => (match op with | .unOp u _ x => u == uo && cOpd ν x x' | _ => false)
  | .cvi kk x' => (match op with | .convert s d x => cviB P s d kk && cOpd ν x x' | _ => false)
  | .cvs x' => (match op with | .convert s d x => isStr P s && isStr P d && cOpd ν x x' | _ => false)
  | .slc e x' lo' hi' => (match op with | .slice t x lo hi none => sliceB P t e && cOpd ν x x' && cOpt ν lo lo' && cOpt ν hi hi' | _ => false)
  | .slcs x' lo' hi' => (match op with | .slice t x lo hi none => isStr P t && cOpd ν x x' && cOpt ν lo lo' && cOpt ν hi hi' | _ => false)
  | .slz e x' => (match op with | .slice t x lo (some hi) (some mx) => sliceB P t e && cOpd ν x x' && (match lo with | none => true | some l => is0 l) && is0 hi && is0 mx | _ => false)
  | .sla n x' lo' hi' => (match op with | .slice t x lo hi none => slaB P t n && cOpd ν x x' && cOpt ν lo lo' && cOpt ν hi hi' | _ => false)
  | .clr e z x' => (match op with | .call { callee := .builtin .clear, args, argTypes } => (match args.toList, argTypes.toList with | [x], [t] => clrK P t e z && cOpd ν x x' | _, _ => false) | _ => false)
  | .len str x' => (match op with | .call { callee := .builtin .len, args, argTypes } => (match args.toList, argTypes.toList with | [x], [t] => lenB P t str && cOpd ν x x' | _, _ => false) | _ => false)
  | .app e byte x' y' => (match op with | .call { callee := .builtin .append, args, argTypes } => (match args.toList, argTypes.toList with | [x, y], [t, u] => appB P t u e && (!byte || (match P.underlying t with | some (.slice el) => el == ν tyByte | _ => false)) && cOpd ν x x' && cOpd ν y y' | _, _ => false) | _ => false)
  | .mn x' ys => (match op with | .call { callee := .builtin .min, args, .. } => cOpds ν args.toList (x' :: ys) | _ => false)
  | .mx x' ys => (match op with | .call { callee := .builtin .max, args, .. } => cOpds ν args.toList (x' :: ys) | _ => false)
  | .ext x' i' => (match op with | .extract x i => i == i' && cOpd ν x x' | _ => false)
  | .nchk x' => (match op with | .nilCheck x => cOpd ν x x' | _ => false)
  | .mkf f' fs' caps' => (match op with | .makeFunc (.func f) first caps => f == ν f' && cOpds ν first.toList fs' && cOpds ν caps.toList caps' | _ => false)
  | .call _ f' args' => (match op with | .call { callee := .value f, args, .. } => cOpd ν f f' && cOpds ν args.toList args' | _ => false)
  | .scall f' args' => (match op with | .call { callee := .value f, args, .. } => cOpd ν f f' && cOpds ν args.toList args' | _ => false)
  | .cvb x' => (match op with | .convert s d x => bytesB P s && isStr P d && cOpd ν x x' | _ => false)
  | .mmk => (match op with | .makeMap _ none => true | _ => false)
  | .mget ok agg qs z m' k' => (match op with | .lookup t m k o => o == ok && mapB P t qs && zvK P t agg z && cOpd ν m m' && cOpd ν k k' | _ => false)
  | .mput qs m' k' x' => (match op with | .mapUpdate t m k x | .insert t m k x => mapB P t qs && cOpd ν m m' && cOpd ν k k' && cOpd ν x x' | _ => false)
  | .mdel qs m' k' => (match op with | .call { callee := .builtin .delete, args, argTypes } => (match args.toList, argTypes.toList with | [m, k], [t, _] => mapB P t qs && cOpd ν m m' && cOpd ν k k' | _, _ => false) | _ => false)
  | .mlen m' => (match op with | .call { callee := .builtin .len, args, argTypes } => (match args.toList, argTypes.toList with | [m], [t] => isMap P t && cOpd ν m m' | _, _ => false) | _ => false)
  | .dead => true
  | .capn x' => (match op with | .call { callee := .builtin .cap, args, argTypes } => (match args.toList, argTypes.toList with | [x], [t] => (match P.underlying t with | some (.slice el) => (P.info? el).isSome | _ => false) && cOpd ν x x' | _, _ => false) | _ => false)
  | .appn e z x' y' => (match op with | .call { callee := .builtin .append, args, argTypes } => (match args.toList, argTypes.toList with | [x, y], [t, u] => zrowB P t e z && isInt P u && cOpd ν x x' && cOpd ν y y' | _, _ => false) | _ => false)
  | .aload kk x' => (match op with | .call { callee := .value (.func f), args, .. } => (match args.toList with | [x] => atK P "sync/atomic.Load" kk f && cOpd ν x x' | _ => false) | _ => false)
  | .astore x' y' => (match op with | .call { callee := .value (.func f), args, .. } => (match args.toList with | [x, y] => (atK P "sync/atomic.Store" .u32 f || atK P "sync/atomic.Store" .i64 f || atK P "sync/atomic.Store" .i32 f) && cOpd ν x x' && cOpd ν y y' | _ => false) | _ => false)
  | .aadd kk x' y' => (match op with | .call { callee := .value (.func f), args, .. } => (match args.toList with | [x, y] => atK P "sync/atomic.Add" kk f && cOpd ν x x' && cOpd ν y y' | _ => false) | _ => false)
  | .acas kk x' o' y' => (match op with | .call { callee := .value (.func f), args, .. } => (match args.toList with | [x, o, y] => atK P "sync/atomic.CompareAndSwap" kk f && cOpd ν x x' && cOpd ν o o' && cOpd ν y y' | _ => false) | _ => false)
  | .bs0 e => (match op with | .buildSlice t n ps => n == 0 && ps.isEmpty && sliceB P t e | _ => false)
  | .toU x' => (match op with | .convert s d x => toUB P s d && cOpd ν x x' | _ => false)
  | .noesc x' => (match op with | .call { callee := .value (.func f), args, .. } => (match args.toList with | [x] => atB P "internal/abi.NoEscape" f && cOpd ν x x' | _ => false) | _ => false)
  | .ofU x' => (match op with | .convert s d x => ofUB P ν s d && cOpd ν x x' | _ => false)
  | .usd x' => (match op with | .call { callee := .builtin .unsafeSliceData, args, .. } => (match args.toList with | [x] => cOpd ν x x' | _ => false) | _ => false)
  | .ustr p' n' => (match op with | .call { callee := .builtin .unsafeString, args, argTypes } => (match args.toList, argTypes.toList with | [p, n], [pt, _] => ustrB P ν pt && cOpd ν p p' && cOpd ν n n' | _, _ => false) | _ => false)
  | .mks e z n' => (match op with | .makeSlice t l c => zrowB P t e z && cOpd ν l n' && cOpd ν c n' | _ => false)

/-- what stands in the slots -/
def FrR (ν : Nat → Nat) (g : Gh) (tmps : Array Value) (fr : Fr) : Prop := ∀ (t : Nat) (x : AV), get fr t = some x → ∃ v, tmps[t]? = some v ∧ RA ν g v x
theorem FrR.mono {ν : Nat → Nat} {g g' : Gh} {tmps : Array Value} {fr : Fr} (h : FrR ν g tmps fr) (hm : Mono ν g g') : FrR ν g' tmps fr :=
  fun t x ht => let ⟨v, h1, h2⟩ := h t x ht; ⟨v, h1, hm _ _ h2⟩

section
variable {ν : Nat → Nat} {P : Program} {k : Cx} {g : Gh}

theorem eval_ok {a : Act} {fr : Fr} (hf : FrR ν g a.tmps fr) {x : Operand} {y : Opd} (h : cOpd ν x y = true) : RA ν g (a.eval x) (ev fr y) := by
  unfold cOpd at h
  split at h
  · rename_i t n
    have := beq_iff_eq.1 h; subst this
    simp only [ev]
    cases hg : get fr t with
    | none => exact .undef _
    | some z =>
      obtain ⟨v, hv, hR⟩ := hf t z hg
      have : a.eval (.tmp t) = v := by simp [Act.eval, Array.getD, (Array.getElem?_eq_some_iff.1 hv).1, (Array.getElem?_eq_some_iff.1 hv).2]
      rw [this]; exact hR
  · rename_i v x
    exact (kVal_ok h g).2
  · rename_i f h'
    have := beq_iff_eq.1 h; subst this
    exact .iv (.fn h' #[] [] rfl fun j v x h => by simp at h)
  · cases h

theorem evals_ok {a : Act} {fr : Fr} (hf : FrR ν g a.tmps fr) : ∀ {xs : List Operand} {ys : List Opd}, cOpds ν xs ys = true →
    (xs.map a.eval).length = (ys.map (ev fr)).length ∧ ∀ (j : Nat) (v : Value) (x : AV), (xs.map a.eval)[j]? = some v → (ys.map (ev fr))[j]? = some x → RA ν g v x
  | [], [], _ => ⟨rfl, fun j v x h => by simp at h⟩
  | x :: xs, y :: ys, h => by
    simp only [cOpds, Bool.and_eq_true] at h
    obtain ⟨h1, h2⟩ := evals_ok hf h.2
    refine ⟨by simpa using h1, fun j v z hv hz => ?_⟩
    cases j with
    | zero => simp at hv hz; subst hv hz; exact eval_ok hf h.1
    | succ j => exact h2 j v z (by simpa using hv) (by simpa using hz)
  | [], _ :: _, h => by simp [cOpds] at h
  | _ :: _, [], h => by simp [cOpds] at h
theorem evalo_ok {a : Act} {fr : Fr} (hf : FrR ν g a.tmps fr) {x : Option Operand} {y : Option Opd} (h : cOpt ν x y = true) : RO ν g (x.map a.eval) (y.map (ev fr)) := by
  cases x <;> cases y <;> simp [cOpt] at h
  · trivial
  · exact eval_ok hf h

theorem fill_placed {a : Act} {fr : Fr} (hf : FrR ν g a.tmps fr) {pl : Nat → Option (Nat × Nat)} : ∀ (ps : List (Nat × Operand)) (qs : List (Nat × Nat × Opd)) (cells : Array Value) (cs : List AV) (n : Nat) (l : List (Nat × List AV)) (h h' : Hp),
    cPlaced ν pl ps qs = true → RC ν g cells cs → cs.length = n →
    (M.mapL (fun p : Nat × Nat × Opd => (cellsM (ev fr p.2.2)).bind fun l => (M.ok (l.length == p.2.1 && Nat.ble (p.1 + p.2.1) n)).bind fun _ => M.ret (p.1, l)) qs).run h = some (l, h') →
    h' = h ∧ ∃ cells', Instr.fill pl cells (ps.map fun p => (p.1, a.eval p.2)) = some cells' ∧ RC ν g cells' (putAll cs l) := by
  intro ps
  induction ps with
  | nil =>
    intro qs cells cs n l h h' hc hr _ e
    cases qs with
    | cons => simp [cPlaced] at hc
    | nil =>
      obtain ⟨rfl, rfl⟩ := M.mapL_nil e
      exact ⟨rfl, cells, rfl, hr⟩
  | cons p ps ih =>
    intro qs cells cs n l h h' hc hr hn e
    cases qs with
    | nil => simp [cPlaced] at hc
    | cons q qs =>
      simp only [cPlaced, Bool.and_eq_true, beq_iff_eq] at hc
      obtain ⟨⟨hpl, hq⟩, hrest⟩ := hc
      obtain ⟨y, h1, zs, e1, e2, rfl⟩ := M.mapL_cons e
      obtain ⟨xs, h2, e3, e4⟩ := M.bind_some e1
      obtain ⟨rfl, hs, hcc⟩ := cells_run e3 (eval_ok hf hq)
      obtain ⟨_, h3, e5, e6⟩ := M.bind_some e4
      obtain ⟨hok, rfl⟩ := M.ok_some e5
      obtain ⟨rfl, rfl⟩ := M.ret_some e6
      simp only [Bool.and_eq_true, beq_iff_eq, Nat.ble_eq] at hok
      have hfit : q.1 + xs.length ≤ cs.length := by omega
      have hsp := hr.splice (us := (a.eval p.2).cells) (l := xs) (o := q.1) ⟨hs, hcc⟩ hfit
      obtain ⟨rfl, c', hfill, hR⟩ := ih qs _ _ n zs h1 h' hrest hsp (by rw [splice_length _ _ _ hfit]; exact hn) e2
      refine ⟨rfl, c', ?_, hR⟩
      rw [← hfill]
      simp only [List.map_cons, Instr.fill, hpl]
      have hfit' : ¬ (((a.eval p.2).cells.size ≠ q.2.1 || q.1 + (a.eval p.2).cells.size > cells.size) = true) := by
        have := hr.1
        simp; omega
      rw [if_neg hfit', ← Array.foldl_toList, Array.toList_zipIdx]

theorem build_ok (r : Rel ν k g) {a : Act} {fr : Fr} (hf : FrR ν g a.tmps fr) {t : TypeId} {z : List AV} {ps : Array (Nat × Operand)} {qs : List (Nat × Nat × Opd)} {pl : Nat → Option (Nat × Nat)}
    (hz : zeroK P t z = true) (hp : placesOf P t = some pl) (hc : cPlaced ν pl ps.toList qs = true) {y : AV} {h' : Hp}
    (e : ((M.mapL (fun p : Nat × Nat × Opd => (cellsM (ev fr p.2.2)).bind fun l => (M.ok (l.length == p.2.1 && Nat.ble (p.1 + p.2.1) z.length)).bind fun _ => M.ret (p.1, l)) qs).bind fun l => M.ret (.agg (putAll z l))).run g.h = some (y, h')) :
    Done ν k g h' y ((Instr.build t (ps.map fun (i, x) => (i, a.eval x))).run P g.w) := by
  obtain ⟨l, h1, e1, e2⟩ := M.bind_some e
  obtain ⟨rfl, rfl⟩ := M.ret_some e2
  obtain ⟨i, v, hi, hzv, hcv⟩ := zeroK_spec hz
  have hrc := kVals_RC (ν := ν) (g := g) hcv
  obtain ⟨rfl, cells', hfill, hR⟩ := fill_placed hf ps.toList qs v.cells z z.length l _ _ hc hrc rfl e1
  refine .same r (run_build g.w t _ cells' ?_) hR.agg
  rw [built_ok hp hi hzv rfl]
  simpa using hfill

theorem cvb_ok (r : Rel ν k g) {s d : TypeId} (hs : bytesB P s = true) (hd : isStr P d = true) {v : Value} {x y : AV} {h' : Hp} (hv : RA ν g v x)
    (e : ((elems 1 x).bind fun ys => (M.lift (bytesOf ys)).bind fun b => M.ret (.iv (.str (strB b)))).run g.h = some (y, h')) : Done ν k g h' y ((convert s d v).run P g.w) := by
  obtain ⟨ys, h1, e1, e2⟩ := M.bind_some e
  obtain ⟨rfl, news, ⟨a, c, hva, hlie⟩, hlen, hrows, hat⟩ := elems_ok r e1 hv
  obtain ⟨b, h2, e3, e4⟩ := M.bind_some e2
  obtain ⟨hb, rfl⟩ := M.lift_some e3
  obtain ⟨rfl, rfl⟩ := M.ret_some e4
  obtain ⟨hbl, hbat⟩ := bytesOf_at hb
  obtain ⟨el, hs1, hs2⟩ := bytesB_spec hs
  have hd' := isStr_spec hd
  subst hva
  refine .same r (v := .string (strB b)) ?_ mkStr
  rcases hlie with h0 | ⟨blk, off, rfl, hcells⟩
  · have : b = [] := List.eq_nil_of_length_eq_zero (by omega)
    subst this
    rw [h0]
    cases a with
    | none => rw [run_convert_bytes_nil g.w s el hs1 hs2 0 c d hd']; rfl
    | some a =>
      rw [run_convert_bytes_string g.w s d el _ 0 c hs1 hs2 hd', run_bytesToString g.w a 0 c [] (by simp [loadCells, loadCellsFrom])]
      rfl
  · refine run_convert_bytes_arg g.w s el hs1 hs2 blk off ys.length c b hbl (fun i hi => ?_) d hd'
    obtain ⟨u, hu, -, hR⟩ := hat i 0 _ _ (hbat i hi) rfl
    have := hcells (i * 1 + 0) u hu
    rw [Nat.mul_one, Nat.add_zero] at this
    rw [this, hR.int]
end
end Arx

/-
  A CALL of the first machine's functions, and of this one's own.
-/
namespace Arx
open Go Go.RowKit Arb

/-- lists of values, each read -/
def RL (ν : Nat → Nat) (g : Gh) (vs : List Value) (xs : List AV) : Prop := vs.length = xs.length ∧ ∀ (j : Nat) (v : Value) (x : AV), vs[j]? = some v → xs[j]? = some x → RA ν g v x

section
variable {ν : Nat → Nat} {P : Program} {k : Cx} {g : Gh}

theorem RL.nil : RL ν g [] [] := ⟨rfl, fun j v x h => by simp at h⟩
theorem RL.cons {v : Value} {x : AV} {vs : List Value} {xs : List AV} (h : RA ν g v x) (hl : RL ν g vs xs) : RL ν g (v :: vs) (x :: xs) :=
  ⟨by simp [hl.1], fun j v' x' h1 h2 => by
    cases j with
    | zero => simp at h1 h2; subst h1 h2; exact h
    | succ j => exact hl.2 j v' x' (by simpa using h1) (by simpa using h2)⟩
theorem RL.tail {v : Value} {x : AV} {vs : List Value} {xs : List AV} (h : RL ν g (v :: vs) (x :: xs)) : RA ν g v x ∧ RL ν g vs xs :=
  ⟨h.2 0 v x rfl rfl, by have := h.1; simpa using this, fun j v' x' h1 h2 => h.2 (j + 1) v' x' (by simpa using h1) (by simpa using h2)⟩
theorem RL.mono {g' : Gh} {vs : List Value} {xs : List AV} (h : RL ν g vs xs) (hm : ∀ v x, RA ν g v x → RA ν g' v x) : RL ν g' vs xs := ⟨h.1, fun j v x h1 h2 => hm _ _ (h.2 j v x h1 h2)⟩
theorem RL.append {vs us : List Value} {xs ys : List AV} (h : RL ν g vs xs) (h' : RL ν g us ys) : RL ν g (vs ++ us) (xs ++ ys) :=
  ⟨by simp [h.1, h'.1], fun j v x h1 h2 => by
    rw [List.getElem?_append] at h1 h2
    rw [← h.1] at h2
    split at h1
    · rename_i hj; rw [if_pos hj] at h2; exact h.2 j v x h1 h2
    · rename_i hj; rw [if_neg hj] at h2; exact h'.2 _ v x h1 h2⟩

theorem fz1T (r : Rel ν k g) {a : AV} {y : Arb.AV} {h' : Hp} (e : (fz1 true a).run g.h = some (y, h')) {v : Value} (hv : RA ν g v a) : ∃ I', Froze ν k g h' I' ∧ RC0 ν I' g.w v y := by
  have plain : ∀ {a : AV}, ((fz true 8 a).bind fun x => M.ret (Arb.AV.iv x)).run g.h = some (y, h') → RA ν g v a → ∃ I', Froze ν k g h' I' ∧ RC0 ν I' g.w v y := by
    intro a e hv
    obtain ⟨x, h1, e1, e2⟩ := M.bind_some e
    obtain ⟨rfl, rfl⟩ := M.ret_some e2
    obtain ⟨I', f, hR⟩ := fzT_spec ν 8 k g a x _ e1 r v hv
    exact ⟨I', f, .iv hR⟩
  cases a with
  | agg cs =>
    obtain ⟨xs, h1, e1, e2⟩ := M.bind_some e
    obtain ⟨rfl, rfl⟩ := M.ret_some e2
    obtain ⟨vs, rfl⟩ := hv.aggv
    obtain ⟨V, hV⟩ := pick fun j c hc => hv.agg_get j c hc
    obtain ⟨I', f, hl, hx⟩ := (fzT_spec ν 8).list cs k g xs _ e1 r V fun j c hc => (hV j c hc).2
    refine ⟨I', f, agg_plain ?_ fun j v x h1 h2 => ?_⟩
    · cases hv with
      | agg hn _ _ => omega
    · have hlt := lt_of_some h2
      have := (hV j _ (List.getElem?_eq_getElem (show j < cs.length by omega))).1
      rw [h1] at this; cases this
      exact hx j x h2
  | undef => exact plain e hv
  | nul q => exact plain e hv
  | iv x => exact plain e hv
  | tup vs => exact plain e hv
  | own id o n v => exact plain e hv
  | ref id v i j => exact plain e hv
  | clo f fs caps => exact plain e hv

theorem fz1F (r : Rel ν k g) {a : AV} {y : Arb.AV} {h' : Hp} (e : (fz1 false a).run g.h = some (y, h')) {v : Value} (hv : RA ν g v a) :
    h' = g.h ∧ ∀ J : Nat → Prop, (∀ b, g.I b → J b) → (∀ id o b, get g.h id = some o → g.φ id = some b → J b) → RC0 ν J g.w v y := by
  have plain : ∀ {a : AV}, ((fz false 8 a).bind fun x => M.ret (Arb.AV.iv x)).run g.h = some (y, h') → RA ν g v a →
      h' = g.h ∧ ∀ J : Nat → Prop, (∀ b, g.I b → J b) → (∀ id o b, get g.h id = some o → g.φ id = some b → J b) → RC0 ν J g.w v y := by
    intro a e hv
    obtain ⟨x, h1, e1, e2⟩ := M.bind_some e
    obtain ⟨rfl, rfl⟩ := M.ret_some e2
    obtain ⟨rfl, hR⟩ := fzF_spec ν 8 k g a x _ e1 r v hv
    exact ⟨rfl, fun J h1 h2 => .iv (hR J h1 h2)⟩
  cases a with
  | agg cs =>
    obtain ⟨xs, h1, e1, e2⟩ := M.bind_some e
    obtain ⟨rfl, rfl⟩ := M.ret_some e2
    obtain ⟨vs, rfl⟩ := hv.aggv
    obtain ⟨V, hV⟩ := pick fun j c hc => hv.agg_get j c hc
    obtain ⟨rfl, hl, hx⟩ := (fzF_spec ν 8).list k g r cs xs _ e1 V fun j c hc => (hV j c hc).2
    refine ⟨rfl, fun J h1 h2 => agg_plain ?_ fun j v x h3 h4 => ?_⟩
    · cases hv with
      | agg hn _ _ => omega
    · have hlt := lt_of_some h4
      have := (hV j _ (List.getElem?_eq_getElem (show j < cs.length by omega))).1
      rw [h3] at this; cases this
      exact hx J h1 h2 j x h4
  | undef => exact plain e hv
  | nul q => exact plain e hv
  | iv x => exact plain e hv
  | tup vs => exact plain e hv
  | own id o n v => exact plain e hv
  | ref id v i j => exact plain e hv
  | clo f fs caps => exact plain e hv

theorem fz1T_list : ∀ (as : List AV) (k : Cx) (g : Gh) (ys : List Arb.AV) (h' : Hp), (M.mapL (fz1 true) as).run g.h = some (ys, h') → Rel ν k g → ∀ vs : List Value, RL ν g vs as →
    ∃ I', Froze ν k g h' I' ∧ Arb.RL ν ⟨I', fun _ => none, g.w, []⟩ vs ys := by
  intro as
  induction as with
  | nil =>
    intro k g ys h' e r vs hv
    obtain ⟨rfl, rfl⟩ := M.mapL_nil e
    have : vs = [] := List.eq_nil_of_length_eq_zero hv.1
    subst this
    exact ⟨g.I, .refl r, Arb.RL.nil⟩
  | cons a as ih =>
    intro k g ys h' e r vs hv
    cases vs with
    | nil => have := hv.1; simp at this
    | cons v vs =>
      obtain ⟨y, h1, zs, e1, e2, rfl⟩ := M.mapL_cons e
      obtain ⟨I1, f1, hR⟩ := fz1T r e1 hv.tail.1
      obtain ⟨I2, f2, hRL⟩ := ih k _ zs h' e2 f1.rel vs (hv.tail.2.mono f1.mono)
      exact ⟨I2, f1.trans f2, Arb.RL.cons (hR.mono fun v x h => h.mono f2.sub fun _ _ _ _ h => h) hRL⟩

theorem fz1F_list (r : Rel ν k g) : ∀ (as : List AV) (ys : List Arb.AV) (h' : Hp), (M.mapL (fz1 false) as).run g.h = some (ys, h') → ∀ vs : List Value, RL ν g vs as →
    h' = g.h ∧ ∀ J : Nat → Prop, (∀ b, g.I b → J b) → (∀ id o b, get g.h id = some o → g.φ id = some b → J b) → Arb.RL ν ⟨J, fun _ => none, g.w, []⟩ vs ys := by
  intro as
  induction as with
  | nil =>
    intro ys h' e vs hv
    obtain ⟨rfl, rfl⟩ := M.mapL_nil e
    have : vs = [] := List.eq_nil_of_length_eq_zero hv.1
    subst this
    exact ⟨rfl, fun _ _ _ => Arb.RL.nil⟩
  | cons a as ih =>
    intro ys h' e vs hv
    cases vs with
    | nil => have := hv.1; simp at this
    | cons v vs =>
      obtain ⟨y, h1, zs, e1, e2, rfl⟩ := M.mapL_cons e
      obtain ⟨rfl, hR⟩ := fz1F r e1 hv.tail.1
      obtain ⟨rfl, hRL⟩ := ih zs h' e2 vs hv.tail.2
      exact ⟨rfl, fun J h1 h2 => Arb.RL.cons (hR J h1 h2) (hRL J h1 h2)⟩

/-! ### what the first machine answers -/
theorem allIv_ok : ∀ {cs : List Arb.AV} {xs : List IV}, allIv cs = some xs → cs = xs.map .iv
  | [], xs, h => by simp [allIv] at h; subst h; rfl
  | .iv x :: r, xs, h => by
    simp only [allIv, Option.map_eq_some_iff] at h
    obtain ⟨ys, h1, rfl⟩ := h
    rw [allIv_ok h1]; rfl
  | .undef :: _, _, h => by simp [allIv] at h
  | .agg _ :: _, _, h => by simp [allIv] at h
  | .tup _ :: _, _, h => by simp [allIv] at h
  | .own _ _ _ _ :: _, _, h => by simp [allIv] at h
  | .ref _ _ _ _ :: _, _, h => by simp [allIv] at h
  | .clo _ _ :: _, _, h => by simp [allIv] at h
theorem of1_ok {I : Nat → Prop} {w : World} {v : Value} {a : Arb.AV} {y : AV} (h : RC0 ν I w v a) (e : of1 a = some y) (hR : ∀ v x, RI ν I w v x → RI ν g.I g.w v x) : RA ν g v y := by
  cases a with
  | iv x =>
    simp [of1] at e; subst e
    cases h with
    | iv h => exact .iv (hR _ _ h)
  | agg cs =>
    simp only [of1, Option.map_eq_some_iff] at e
    obtain ⟨xs, h1, rfl⟩ := e
    obtain rfl := allIv_ok h1
    cases h with
    | agg hn h1 hr =>
      refine .agg (by simpa using hn) h1 fun j v c hv hc => ?_
      simp only [List.getElem?_map, Option.map_eq_some_iff] at hc
      obtain ⟨x, hx, rfl⟩ := hc
      have := hr j v (.iv x) hv (by simp [hx])
      cases this with
      | iv h => exact .iv (hR _ _ h)
  | undef => cases e
  | tup _ => cases e
  | own _ _ _ _ => cases e
  | ref _ _ _ _ => cases e
  | clo _ _ => cases e
theorem ofL_ok : ∀ {as : List Arb.AV} {ys : List AV}, ofL as = some ys → as.length = ys.length ∧ ∀ (j : Nat) (a : Arb.AV) (y : AV), as[j]? = some a → ys[j]? = some y → of1 a = some y
  | [], ys, h => by simp [ofL] at h; subst h; exact ⟨rfl, fun j a y h => by simp at h⟩
  | a :: as, ys, h => by
    simp only [ofL, Option.bind_eq_some_iff, Option.map_eq_some_iff] at h
    obtain ⟨y, h1, zs, h2, rfl⟩ := h
    obtain ⟨q1, q2⟩ := ofL_ok h2
    refine ⟨by simp [q1], fun j a' y' ha hy => ?_⟩
    cases j with
    | zero => simp at ha hy; subst ha hy; exact h1
    | succ j => exact q2 j a' y' (by simpa using ha) (by simpa using hy)
theorem ofA_ok {I : Nat → Prop} {w : World} {v : Value} {a : Arb.AV} {y : AV} (h : RC0 ν I w v a) (e : ofA a = some y) (hR : ∀ v x, RI ν I w v x → RI ν g.I g.w v x) : RA ν g v y := by
  cases a with
  | tup vs =>
    simp only [ofA, Option.map_eq_some_iff] at e
    obtain ⟨ys, h1, rfl⟩ := e
    obtain ⟨q1, q2⟩ := ofL_ok h1
    cases h with
    | tup hn hr =>
      refine .tup (by omega) fun j v c hv hc => ?_
      have hj : j < vs.length := by have := lt_of_some hc; omega
      exact of1_ok (hr j v _ hv (List.getElem?_eq_getElem hj)) (q2 j _ c (List.getElem?_eq_getElem hj) hc) hR
  | iv x => exact of1_ok h e hR
  | agg cs => exact of1_ok h e hR
  | undef => cases e
  | own _ _ _ _ => cases e
  | ref _ _ _ _ => cases e
  | clo _ _ => cases e

/-! ### the callee's contract -/
def CallOK (ν : Nat → Nat) (P : Program) (f : Nat) (args : List AV) (hp : Hp) (r : AV) (hp' : Hp) : Prop :=
  ∀ (k0 : Cx) (g0 : Gh) (cargs : Array Value), g0.h = hp → Rel ν k0 g0 → RL ν g0 cargs.toList args →
    Calls P (ν f) cargs g0.w fun e w' => ∃ v g', e = .returned v ∧ g'.w = w' ∧ g'.h = hp' ∧ Rel ν k0 g' ∧ Mono ν g0 g' ∧ RA ν g' v r
def CallSound (ν : Nat → Nat) (P : Program) (call : CallX) : Prop :=
  ∀ f args hp nx r hp' nx', call f args hp nx = some (r, hp', nx') → (∃ fn, P.funcs[ν f]? = some fn ∧ fn.body.isSome = true ∧ (fn.name == "runtime.NumGoroutine") = false) ∧ CallOK ν P f args hp r hp'

theorem callee_ok {x : AV} {q : Nat × List AV × List AV} (e : callee x = some q) {v : Value} (hv : RA ν g v x) : ∃ first caps, v = .func (.func (ν q.1)) first caps ∧ RL ν g first.toList q.2.1 ∧ RL ν g caps.toList q.2.2 := by
  unfold callee at e
  split at e
  · cases e
    cases hv with
    | iv h =>
      cases h with
      | fn f caps cs hn hr =>
        refine ⟨#[], caps, rfl, .nil, by simpa using hn, fun j v x h1 h2 => ?_⟩
        simp only [List.getElem?_map, Option.map_eq_some_iff] at h2
        obtain ⟨y, hy, rfl⟩ := h2
        exact .iv (hr j v y (by simpa using h1) hy)
  · cases e
    cases hv with
    | clo hm hs hn hr => exact ⟨_, _, rfl, ⟨by simpa using hm, fun j v x h1 h2 => hs j v x (by simpa using h1) h2⟩, by simpa using hn, fun j v x h1 h2 => hr j v x (by simpa using h1) h2⟩
  · cases e

/-- the operation enters the function -/
theorem enter_run {ρ : Operand → Value} {o : Oper} {fo : Operand} {cargs : Array Operand} {tys : Array TypeId} (ho : o.op = .call { callee := .value fo, args := cargs, argTypes := tys }) {f : Nat} {first caps : Array Value}
    (hf : ρ fo = .func (.func (ν f)) first caps) {fn : Func} (hfn : P.funcs[ν f]? = some fn) (hb : fn.body.isSome = true) (hn : (fn.name == "runtime.NumGoroutine") = false) (w : World) :
    (execOp ρ o).run P w = .ok (.enter (ν f) (first ++ cargs.map ρ ++ caps)) w := by
  have hb' : ¬ fn.body = none := fun h => by rw [h] at hb; cases hb
  have hn' : ¬ fn.name = "runtime.NumGoroutine" := by simpa using hn
  simp [execOp, ho, resolve, hf, Deferred.ofValue, invoke, callFunc, hfn, hb', hn']

/-- a call that the abstract machine makes: the function, and what is true behind it -/
def CallDone (ν : Nat → Nat) (P : Program) (k : Cx) (g : Gh) (h' : Hp) (y : AV) (fv : Value) (cargs : Array Value) : Prop :=
  ∃ q first caps fn, fv = .func (.func (ν q)) first caps ∧ P.funcs[ν q]? = some fn ∧ fn.body.isSome = true ∧ (fn.name == "runtime.NumGoroutine") = false ∧
    Calls P (ν q) (first ++ cargs ++ caps) g.w fun e w' => ∃ v g', e = .returned v ∧ g'.w = w' ∧ g'.h = h' ∧ Rel ν k g' ∧ Mono ν g g' ∧ RA ν g' v y

theorem args_all {q : Nat × List AV × List AV} {first caps cargs : Array Value} {args : List AV} (h1 : RL ν g first.toList q.2.1) (h2 : RL ν g caps.toList q.2.2) (ha : RL ν g cargs.toList args) :
    RL ν g (first ++ cargs ++ caps).toList (q.2.1 ++ (args ++ q.2.2)) := by
  have := h1.append (ha.append h2)
  simpa using this

/-- the world behind a callee that was lent nothing: the caller's next state -/
theorem world_next (r : Rel ν k g) {J : Nat → Prop} {g' : Arb.Gh} (r' : Arb.Rel ν ⟨g.w, J, fun _ => False⟩ g') : Rel ν k { g with w := g'.w } ∧ Mono ν g { g with w := g'.w } :=
  r.world (I' := g.I) (fun _ h => h) (fun _ h => .inl h) r'.size r'.os r'.tape r'.output fun b hb => r'.old b hb (.inl fun h => h)

theorem callM_ok {call : Call1} (hs : Arb.CallSound ν P call) (r : Rel ν k g) {f y : AV} {args : List AV} {h' : Hp} (e : (callM call f args).run g.h = some (y, h')) {fv : Value} {cargs : Array Value}
    (hf : RA ν g fv f) (ha : RL ν g cargs.toList args) : CallDone ν P k g h' y fv cargs := by
  obtain ⟨q, h1, e1, e2⟩ := M.bind_some e
  obtain ⟨hq, rfl⟩ := M.lift_some e1
  obtain ⟨first, caps, rfl, hfirst, hcaps⟩ := callee_ok hq hf
  obtain ⟨as, h2, e3, e4⟩ := M.bind_some e2
  obtain ⟨rfl, hJ⟩ := fz1F_list r _ _ _ e3 _ (args_all hfirst hcaps ha)
  obtain ⟨y', h3, e5, e6⟩ := M.bind_some e4
  obtain ⟨hc, rfl⟩ := M.lift_some e5
  obtain ⟨_, h4, e7, e8⟩ := M.bind_some e6
  obtain ⟨hfl, rfl⟩ := M.ok_some e7
  obtain ⟨hof, rfl⟩ := M.lift_some e8
  obtain ⟨⟨rr, hh⟩, hcall, hshut⟩ := Option.bind_eq_some_iff.1 hc
  obtain ⟨⟨fn, hfn, hb, hn⟩, hok⟩ := hs _ _ _ _ _ hcall
  have hsm : ∀ b, (g.I b ∨ ∃ id o, get g.h id = some o ∧ g.φ id = some b) → b < g.w.heap.size := by
    rintro b (h | ⟨id, o, ho, hφ⟩)
    · exact r.small b h
    · exact (r.ob id o ho).block hφ r.small
  have hRL := hJ (fun b => g.I b ∨ ∃ id o, get g.h id = some o ∧ g.φ id = some b) (fun _ h => .inl h) fun id o b h1 h2 => .inr ⟨id, o, h1, h2⟩
  refine ⟨q.1, first, caps, fn, rfl, hfn, hb, hn, (hok ⟨g.w, _, fun _ => False⟩ ⟨_, fun _ => none, g.w, []⟩ _ rfl rfl rfl (Arb.rel_none (g := ⟨fun _ => False, fun _ => none, g.w, []⟩) hsm) hRL).mono ?_⟩
  rintro e w' ⟨v, g', rfl, rfl, rfl, r', -, hR⟩
  obtain ⟨I', h'', -, hR'⟩ := shut_ok r' hshut hR
  obtain ⟨r2, m2⟩ := world_next r r'
  exact ⟨v, { g with w := g'.w }, rfl, rfl, rfl, r2, m2, ofA_ok (I := g.I) (w := g'.w) (flat_any hfl hR') hof fun _ _ h => h⟩

theorem fcallM_ok {call : Call1} (hs : Arb.CallSound ν P call) (r : Rel ν k g) {f y : AV} {args : List AV} {h' : Hp} (e : (fcallM call f args).run g.h = some (y, h')) {fv : Value} {cargs : Array Value}
    (hf : RA ν g fv f) (ha : RL ν g cargs.toList args) : CallDone ν P k g h' y fv cargs := by
  obtain ⟨q, h1, e1, e2⟩ := M.bind_some e
  obtain ⟨hq, rfl⟩ := M.lift_some e1
  obtain ⟨first, caps, rfl, hfirst, hcaps⟩ := callee_ok hq hf
  obtain ⟨as, h2, e3, e4⟩ := M.bind_some e2
  obtain ⟨I1, f1, hRL⟩ := fz1T_list _ k g as _ e3 r _ (args_all hfirst hcaps ha)
  obtain ⟨y', h3, e5, e6⟩ := M.bind_some e4
  obtain ⟨hc, rfl⟩ := M.lift_some e5
  obtain ⟨hof, rfl⟩ := M.lift_some e6
  obtain ⟨⟨rr, hh⟩, hcall, hshut⟩ := Option.bind_eq_some_iff.1 hc
  obtain ⟨⟨fn, hfn, hb, hn⟩, hok⟩ := hs _ _ _ _ _ hcall
  refine ⟨q.1, first, caps, fn, rfl, hfn, hb, hn, (hok ⟨g.w, _, fun _ => False⟩ ⟨_, fun _ => none, g.w, []⟩ _ rfl rfl rfl (Arb.rel_none (g := ⟨fun _ => False, fun _ => none, g.w, []⟩) f1.rel.small) hRL).mono ?_⟩
  rintro e w' ⟨v, g', rfl, rfl, rfl, r', -, hR⟩
  obtain ⟨I2, h'', f2, hR'⟩ := shut_ok r' hshut hR
  -- all that the callee left, and all that it made, is never written again
  have hup : ∀ b, I2 b → I1 b ∨ g.w.heap.size ≤ b ∧ b < g'.w.heap.size := by
    intro b hb
    have hlt := f2.rel.small b hb
    rcases f2.rel.i1 b hb with h | h | h
    · exact .inl h
    · exact h.elim
    · exact .inr ⟨h, hlt⟩
  have hw := f1.rel.world (w' := g'.w) (I' := I2) (fun b h => f2.sub b (r'.i0 b h)) hup r'.size r'.os r'.tape r'.output fun b hb => r'.old b hb (.inl fun h => h)
  exact ⟨v, ⟨I2, g.φ, g'.w, _⟩, rfl, rfl, rfl, hw.1, f1.mono.trans hw.2, ofA_ok hR' hof fun v x h => h⟩
end
end Arx

/-
  EVERY OPERATION: what the abstract machine does, the model does.
-/
namespace Arx
open Go Go.RowKit Arb

theorem M.mapL_map {α β γ : Type} (f : β → M γ) (h : α → β) : ∀ l : List α, M.mapL f (l.map h) = M.mapL (fun x => f (h x)) l
  | [] => rfl
  | x :: r => by simp only [List.map_cons, M.mapL, M.mapL_map f h r]

section
variable {ν : Nat → Nat} {P : Program} {k : Cx} {g : Gh}

theorem wp_done {o : Oper} {a : Act} {h' : Hp} {y : AV} {s : Sem Value} (hx : execOp a.eval o = (do pure (.value (← s)) : Sem Next)) (d : Done ν k g h' y (s.run P g.w)) {next : Act → World → Prop} {Q : Exit → Act → World → Prop}
    (hn : ∀ g' v, g'.h = h' → Rel ν k g' → Mono ν g g' → RA ν g' v y → next (a.put o.dst v) g'.w) : o.wp P a g.w next Q := by
  obtain ⟨g', v, hr, hh, r', m, hR⟩ := d
  unfold Oper.wp
  rw [hx]
  simp only [Sem.run_bind, hr, Result.andThen_ok, Sem.run_pure]
  exact hn g' v hh r' m hR

theorem wp_call {o : Oper} {a : Act} {h' : Hp} {y : AV} {fo : Operand} {cargs : Array Operand} {tys : Array TypeId} (ho : o.op = .call { callee := .value fo, args := cargs, argTypes := tys })
    (d : CallDone ν P k g h' y (a.eval fo) (cargs.map a.eval)) {next : Act → World → Prop} {Q : Exit → Act → World → Prop}
    (hn : ∀ g' v, g'.h = h' → Rel ν k g' → Mono ν g g' → RA ν g' v y → next (a.put o.dst v) g'.w) : o.wp P a g.w next Q := by
  obtain ⟨q, first, caps, fn, hf, hfn, hb, hnm, hc⟩ := d
  unfold Oper.wp
  rw [enter_run ho hf hfn hb hnm]
  rw [Oper.upon_enter]
  refine hc.mono ?_
  rintro e w' ⟨v, g', rfl, rfl, hh, r', m, hR⟩
  exact hn g' v hh r' m hR

theorem wp_here {o : Oper} {a : Act} {h' : Hp} {y : AV} {f : Nat} {cargs : Array Operand} {tys : Array TypeId} (ho : o.op = .call { callee := .value (.func f), args := cargs, argTypes := tys })
    (d : Here ν P k g h' y f (cargs.map a.eval)) {next : Act → World → Prop} {Q : Exit → Act → World → Prop}
    (hn : ∀ g' v, g'.h = h' → Rel ν k g' → Mono ν g g' → RA ν g' v y → next (a.put o.dst v) g'.w) : o.wp P a g.w next Q := by
  obtain ⟨g', v, hr, hh, r', m, hR⟩ := d
  have hx : (execOp a.eval o).run P g.w = .ok (.value v) g'.w := by
    have : a.eval (.func f) = .func (.func f) #[] #[] := rfl
    simp [execOp, ho, resolve, this, Deferred.ofValue, invoke, hr]
  unfold Oper.wp
  rw [hx]
  exact hn g' v hh r' m hR

theorem is0_eval' {a : Act} {x : Operand} (h : is0 x = true) : ∃ kk, a.eval x = .int kk 0 := by
  unfold is0 at h
  split at h
  · rename_i kk n
    have := beq_iff_eq.1 h; subst this
    exact ⟨kk, rfl⟩
  · cases h

theorem args_ok {a : Act} {fr : Fr} (hf : FrR ν g a.tmps fr) {xs : Array Operand} {ys : List Opd} (h : cOpds ν xs.toList ys = true) : RL ν g (xs.map a.eval).toList (ys.map (ev fr)) := by
  obtain ⟨h1, h2⟩ := evals_ok hf h
  exact ⟨by simpa using h1, fun j v x hv hx => h2 j v x (by simpa using hv) hx⟩

theorem parts_ok {a : Act} {fr : Fr} (hf : FrR ν g a.tmps fr) : ∀ {ps : List (Nat × Operand)} {qs : List (Nat × Opd)}, cParts ν ps qs = true →
    (ps.map fun p => (p.1, a.eval p.2)).length = (qs.map fun p => (p.1, ev fr p.2)).length ∧
    ∀ (j : Nat) (q : Nat × Value) (p : Nat × AV), (ps.map fun p => (p.1, a.eval p.2))[j]? = some q → (qs.map fun p => (p.1, ev fr p.2))[j]? = some p → q.1 = p.1 ∧ RA ν g q.2 p.2
  | [], [], _ => ⟨rfl, fun j v x h => by simp at h⟩
  | x :: xs, y :: ys, h => by
    simp only [cParts, Bool.and_eq_true, beq_iff_eq] at h
    obtain ⟨h1, h2⟩ := parts_ok hf h.2
    refine ⟨by simpa using h1, fun j v z hv hz => ?_⟩
    cases j with
    | zero => simp at hv hz; subst hv hz; exact ⟨h.1.1, eval_ok hf h.1.2⟩
    | succ j => exact h2 j v z (by simpa using hv) (by simpa using hz)
  | [], _ :: _, h => by simp [cParts] at h
  | _ :: _, [], h => by simp [cParts] at h

set_option maxHeartbeats 4000000 in
theorem op_wp {call : Call1} (hs : Arb.CallSound ν P call) {o : Oper} {a : Act} {fr : Fr} {io : IOp} {slot : Nat} (hc : cOp P ν o.op io = true) (r : Rel ν k g) (hf : FrR ν g a.tmps fr) {y : AV} {h' : Hp}
    (e : (osem call slot (ev fr) io).run g.h = some (y, h')) {next : Act → World → Prop} {Q : Exit → Act → World → Prop}
    (hn : ∀ g' v, g'.h = h' → Rel ν k g' → Mono ν g g' → RA ν g' v y → next (a.put o.dst v) g'.w) : o.wp P a g.w next Q := by
  unfold cOp at hc
  split at hc
  case h_1 y' =>   -- mov
    obtain ⟨rfl, rfl⟩ := M.ret_some e
    split at hc
    · rename_i x ho
      exact wp_done (s := pure (a.eval x)) (by simp [execOp, ho]) (.same r rfl (eval_ok hf hc)) hn
    · rename_i x ho
      exact wp_done (s := pure (a.eval x)) (by simp [execOp, ho]) (.same r rfl (eval_ok hf hc)) hn
    · cases hc
  case h_2 =>   -- pick
    split at hc
    case h_2 => cases hc
    rename_i c x z ho
    simp only [Bool.and_eq_true] at hc
    simp only [osem] at e
    split at e
    case h_2 => exact (M.fail_some e).elim
    rename_i t ht
    obtain ⟨rfl, rfl⟩ := M.ret_some e
    have h1 := eval_ok hf hc.1.1
    rw [ht] at h1
    have hb := h1.bool
    refine wp_done (s := do pure (if ← asBool (a.eval c) then a.eval x else a.eval z)) (by simp [execOp, ho]) (.same r (v := if t then a.eval x else a.eval z) (by simp [hb, asBool]) ?_) hn
    cases t
    · exact eval_ok hf hc.2
    · exact eval_ok hf hc.1.2
  case h_3 =>   -- alloc
    split at hc
    case h_2 => cases hc
    rename_i t ho
    simp only [Bool.and_eq_true] at hc
    exact wp_done (s := Instr.alloc t true (.tuple #[])) (by simp [execOp, ho]) (allocI_ok r hc.1 hc.2 e) hn
  case h_4 =>   -- box
    split at hc
    case h_2 => cases hc
    rename_i t x ho
    rw [Bool.and_eq_true] at hc
    exact wp_done (s := Instr.box t (a.eval x)) (by simp [execOp, ho]) (box_ok r hc.1 (eval_ok hf hc.2) e) hn
  case h_5 =>   -- build
    split at hc
    case h_2 => cases hc
    rename_i t ps ho
    simp only [Bool.and_eq_true] at hc
    obtain ⟨hz, hc⟩ := hc
    split at hc
    case h_2 => cases hc
    rename_i pl hpl
    exact wp_done (s := Instr.build t (ps.map fun (i, x) => (i, a.eval x))) (by simp [execOp, ho]) (build_ok r hf hz hpl hc e) hn
  case h_6 e0 z n' qs =>   -- bsl
    split at hc
    case h_2 => cases hc
    rename_i t n ps ho
    simp only [Bool.and_eq_true, beq_iff_eq] at hc
    obtain ⟨⟨rfl, hb⟩, hq⟩ := hc
    obtain ⟨hl, hp⟩ := parts_ok hf hq
    refine wp_done (s := Instr.buildSlice t n (ps.toList.map fun p => (p.1, a.eval p.2)).toArray) (by
      have : (ps.map fun (p : Nat × Operand) => (p.1, a.eval p.2)) = (ps.toList.map fun p => (p.1, a.eval p.2)).toArray := by apply Array.ext'; simp
      simp only [execOp, ho]
      rw [← this]) (bsl_ok (slot := slot) r hb hl hp ?_) hn
    rw [M.mapL_map]
    exact e
  case h_7 =>   -- load
    split at hc
    case h_2 => cases hc
    rename_i t x ho
    simp only [Bool.and_eq_true] at hc
    exact wp_done (s := Instr.loadAt t (a.eval x)) (by simp [execOp, ho]) (load_ok r hc.1 (eval_ok hf hc.2) e) hn
  case h_8 =>   -- store
    split at hc
    case h_2 => cases hc
    rename_i t x z ho
    simp only [Bool.and_eq_true] at hc
    obtain ⟨g', hrun, rfl, hh, r', m⟩ := store_ok r hc.1.1 (eval_ok hf hc.1.2) (eval_ok hf hc.2) e
    unfold Oper.wp
    have hx : (execOp a.eval o).run P g.w = .ok .skip g'.w := by simp [execOp, ho, hrun]
    rw [hx]
    exact hn g' undef hh r' m (.tup rfl fun j v c h => by simp at h)
  case h_9 =>   -- fadr
    split at hc
    case h_2 => cases hc
    rename_i t x f ho
    simp only [Bool.and_eq_true] at hc
    exact wp_done (s := Instr.fieldAt t (a.eval x) f) (by simp [execOp, ho]) (fadr_ok r hc.1 (eval_ok hf hc.2) e) hn
  case h_10 =>   -- fld
    split at hc
    case h_2 => cases hc
    rename_i t x f ho
    simp only [Bool.and_eq_true] at hc
    exact wp_done (s := Instr.field t (a.eval x) f) (by simp [execOp, ho]) (fld_ok r hc.1 (eval_ok hf hc.2) e) hn
  case h_11 =>   -- iarr
    split at hc
    case h_2 => cases hc
    rename_i t x z ho
    simp only [Bool.and_eq_true] at hc
    exact wp_done (s := Instr.indexAt t (a.eval x) (a.eval z)) (by simp [execOp, ho]) (iarr_ok r hc.1.1 (eval_ok hf hc.1.2) (eval_ok hf hc.2) e) hn
  case h_12 =>   -- isl
    split at hc
    case h_2 => cases hc
    rename_i t x z ho
    simp only [Bool.and_eq_true] at hc
    exact wp_done (s := Instr.indexAt t (a.eval x) (a.eval z)) (by simp [execOp, ho]) (isl_ok r hc.1.1 (eval_ok hf hc.1.2) (eval_ok hf hc.2) e) hn
  case h_13 =>   -- xarr
    split at hc
    case h_2 => cases hc
    rename_i t x z ho
    simp only [Bool.and_eq_true] at hc
    exact wp_done (s := Instr.index t (a.eval x) (a.eval z)) (by simp [execOp, ho]) (xarr_ok r hc.1.1 (eval_ok hf hc.1.2) (eval_ok hf hc.2) e) hn
  case h_14 =>   -- xstr
    split at hc
    case h_2 => cases hc
    rename_i t x z ho
    simp only [Bool.and_eq_true] at hc
    exact wp_done (s := Instr.index t (a.eval x) (a.eval z)) (by simp [execOp, ho]) (xstr_ok r (isStr_spec hc.1.1) (eval_ok hf hc.1.2) (eval_ok hf hc.2) e) hn
  case h_15 bo q x' y' =>   -- bin
    split at hc
    case h_2 => cases hc
    rename_i b t x z yt ho
    simp only [Bool.and_eq_true, beq_iff_eq] at hc
    obtain ⟨⟨⟨rfl, hq⟩, hx⟩, hz⟩ := hc
    exact wp_done (s := do eqGuard b t x z (a.eval x) (a.eval z); binOp b t (a.eval x) (a.eval z)) (by simp [execOp, ho]) (binM_ok r hq (eval_ok hf hx) (eval_ok hf hz) e) hn
  case h_16 neg qs x' y' =>   -- eqc
    split at hc
    case h_2 => cases hc
    rename_i b t x z yt ho
    simp only [Bool.and_eq_true, beq_iff_eq] at hc
    obtain ⟨⟨⟨rfl, hq⟩, hx⟩, hz⟩ := hc
    simp only [osem] at e
    split at e
    case h_2 => exact (M.fail_some e).elim
    rename_i xs ys hxs hys
    obtain ⟨w', h1, e1, e2⟩ := M.bind_some e
    obtain ⟨hb, rfl⟩ := M.lift_some e1
    obtain ⟨rfl, rfl⟩ := M.ret_some e2
    have h1 := eval_ok hf hx
    have h2 := eval_ok hf hz
    rw [hxs] at h1
    rw [hys] at h2
    exact wp_done (s := do eqGuard (if neg then .neq else .eql) t x z (a.eval x) (a.eval z); binOp (if neg then .neq else .eql) t (a.eval x) (a.eval z)) (by simp [execOp, ho]) (eqd_ok r hq neg h1 h2 hb) hn
  case h_17 uo x' =>   -- un
    split at hc
    case h_2 => cases hc
    rename_i u t x ho
    simp only [Bool.and_eq_true, beq_iff_eq] at hc
    obtain ⟨rfl, hx⟩ := hc
    obtain ⟨w', h1, e1, e2⟩ := M.bind_some e
    obtain ⟨hb, rfl⟩ := M.lift_some e1
    obtain ⟨rfl, rfl⟩ := M.ret_some e2
    exact wp_done (s := Op.unary u (a.eval x)) (by simp [execOp, ho]) (un_ok r (eval_ok hf hx) hb) hn
  case h_18 =>   -- cvi
    split at hc
    case h_2 => cases hc
    rename_i s d x ho
    simp only [Bool.and_eq_true] at hc
    obtain ⟨n, h1, e1, e2⟩ := M.bind_some e
    have hh := (idx_some e1).1
    subst hh
    obtain ⟨rfl, rfl⟩ := M.ret_some e2
    exact wp_done (s := convert s d (a.eval x)) (by simp [execOp, ho]) (cvi_ok r hc.1 (eval_ok hf hc.2) e1) hn
  case h_19 =>   -- cvs
    split at hc
    case h_2 => cases hc
    rename_i s d x ho
    simp only [Bool.and_eq_true] at hc
    simp only [osem] at e
    split at e
    case h_2 => exact (M.fail_some e).elim
    rename_i t ht
    obtain ⟨rfl, rfl⟩ := M.ret_some e
    have h1 := eval_ok hf hc.2
    rw [ht] at h1
    exact wp_done (s := convert s d (a.eval x)) (by simp [execOp, ho]) (cvs_ok r (isStr_spec hc.1.1) (isStr_spec hc.1.2) h1) hn
  case h_20 =>   -- slc
    split at hc
    case h_2 => cases hc
    rename_i t x lo hi ho
    simp only [Bool.and_eq_true] at hc
    exact wp_done (s := Instr.sliceAt t (a.eval x) (lo.map a.eval) (hi.map a.eval) none) (by simp [execOp, ho]) (slc_ok r hc.1.1.1 (eval_ok hf hc.1.1.2) (evalo_ok hf hc.1.2) (evalo_ok hf hc.2) e) hn
  case h_21 =>   -- slcs
    split at hc
    case h_2 => cases hc
    rename_i t x lo hi ho
    simp only [Bool.and_eq_true] at hc
    exact wp_done (s := Instr.sliceAt t (a.eval x) (lo.map a.eval) (hi.map a.eval) none) (by simp [execOp, ho]) (slcs_ok r (isStr_spec hc.1.1.1) (eval_ok hf hc.1.1.2) (evalo_ok hf hc.1.2) (evalo_ok hf hc.2) e) hn
  case h_22 =>   -- slz
    split at hc
    case h_2 => cases hc
    rename_i t x lo hi mx ho
    simp only [Bool.and_eq_true] at hc
    obtain ⟨⟨⟨⟨h1, h2⟩, h3⟩, h4⟩, h5⟩ := hc
    obtain ⟨k1, hk1⟩ := is0_eval' (a := a) h4
    obtain ⟨k2, hk2⟩ := is0_eval' (a := a) h5
    have hlo : lo.map a.eval = none ∨ ∃ k3, lo.map a.eval = some (.int k3 0) := by
      cases lo with
      | none => exact .inl rfl
      | some l =>
        obtain ⟨k3, hk3⟩ := is0_eval' (a := a) h3
        exact .inr ⟨k3, by simp [hk3]⟩
    exact wp_done (s := Instr.sliceAt t (a.eval x) (lo.map a.eval) (some (.int k1 0)) (some (.int k2 0))) (by simp [execOp, ho, hk1, hk2]) (slz_ok r h1 hlo (eval_ok hf h2) e) hn
  case h_23 =>   -- sla
    split at hc
    case h_2 => cases hc
    rename_i t x lo hi ho
    simp only [Bool.and_eq_true] at hc
    exact wp_done (s := Instr.sliceAt t (a.eval x) (lo.map a.eval) (hi.map a.eval) none) (by simp [execOp, ho]) (sla_ok r hc.1.1.1 (eval_ok hf hc.1.1.2) (evalo_ok hf hc.1.2) (evalo_ok hf hc.2) e) hn
  case h_24 =>   -- clr
    split at hc
    case h_2 => cases hc
    rename_i args tys ho
    split at hc
    case h_2 => cases hc
    rename_i x t hx ht
    obtain rfl : args = #[x] := Array.ext' hx
    obtain rfl : tys = #[t] := Array.ext' ht
    simp only [Bool.and_eq_true] at hc
    exact wp_done (s := Builtin.clear_ #[t] o.type #[a.eval x]) (by simp [execOp, ho, resolve, invoke, builtin]) (clr_ok r hc.1 (eval_ok hf hc.2) e) hn
  case h_25 =>   -- len
    split at hc
    case h_2 => cases hc
    rename_i args tys ho
    split at hc
    case h_2 => cases hc
    rename_i x t hx ht
    obtain rfl : args = #[x] := Array.ext' hx
    obtain rfl : tys = #[t] := Array.ext' ht
    simp only [Bool.and_eq_true] at hc
    exact wp_done (s := Builtin.len_ #[t] o.type #[a.eval x]) (by simp [execOp, ho, resolve, invoke, builtin]) (len_ok r hc.1 (eval_ok hf hc.2) e) hn
  case h_26 =>   -- app
    split at hc
    case h_2 => cases hc
    rename_i args tys ho
    split at hc
    case h_2 => cases hc
    rename_i x z t u hx ht
    obtain rfl : args = #[x, z] := Array.ext' hx
    obtain rfl : tys = #[t, u] := Array.ext' ht
    simp only [Bool.and_eq_true] at hc
    exact wp_done (s := Builtin.append_ #[t, u] o.type #[a.eval x, a.eval z]) (by simp [execOp, ho, resolve, invoke, builtin]) (app_ok r hc.1.1.1 (fun hb => by
      have := hc.1.1.2
      rw [hb] at this
      simp only [Bool.not_true, Bool.false_or] at this
      split at this
      · rw [beq_iff_eq] at this; rw [← this]; assumption
      · cases this) (eval_ok hf hc.1.2) (eval_ok hf hc.2) e) hn
  case h_27 x' ys =>   -- mn
    split at hc
    case h_2 => cases hc
    rename_i args tys ho
    have hR := args_ok hf hc
    simp only [osem] at e
    split at e
    case h_2 => exact (M.fail_some e).elim
    rename_i kk n hx
    obtain ⟨z, h1, e1, e2⟩ := M.bind_some e
    obtain ⟨hz, rfl⟩ := M.lift_some e1
    obtain ⟨rfl, rfl⟩ := M.ret_some e2
    simp only [List.map_cons] at hR
    generalize hvs : (args.map a.eval).toList = vs at hR
    cases vs with
    | nil => have := hR.1; simp at this
    | cons v vs =>
      have h0 := hR.tail.1
      rw [hx] at h0
      obtain rfl := h0.int
      have hrun := mn_ok P g.w (ys.map (ev fr)) vs n kk z hz hR.tail.2.1 hR.tail.2.2
      exact wp_done (s := Builtin.min_ tys o.type (args.map a.eval)) (by simp [execOp, ho, resolve, invoke, builtin]) (.same r (v := .int kk z) (by simp only [Builtin.min_, hvs]; exact hrun) mkInt) hn
  case h_28 x' ys =>   -- mx
    split at hc
    case h_2 => cases hc
    rename_i args tys ho
    have hR := args_ok hf hc
    simp only [osem] at e
    split at e
    case h_2 => exact (M.fail_some e).elim
    rename_i kk n hx
    obtain ⟨z, h1, e1, e2⟩ := M.bind_some e
    obtain ⟨hz, rfl⟩ := M.lift_some e1
    obtain ⟨rfl, rfl⟩ := M.ret_some e2
    simp only [List.map_cons] at hR
    generalize hvs : (args.map a.eval).toList = vs at hR
    cases vs with
    | nil => have := hR.1; simp at this
    | cons v vs =>
      have h0 := hR.tail.1
      rw [hx] at h0
      obtain rfl := h0.int
      have hrun := mx_ok P g.w (ys.map (ev fr)) vs n kk z hz hR.tail.2.1 hR.tail.2.2
      exact wp_done (s := Builtin.max_ tys o.type (args.map a.eval)) (by simp [execOp, ho, resolve, invoke, builtin]) (.same r (v := .int kk z) (by simp only [Builtin.max_, hvs]; exact hrun) mkInt) hn
  case h_29 x' i' =>   -- ext
    split at hc
    case h_2 => cases hc
    rename_i x i ho
    simp only [Bool.and_eq_true, beq_iff_eq] at hc
    obtain ⟨rfl, hx⟩ := hc
    simp only [osem] at e
    split at e
    case h_2 => exact (M.fail_some e).elim
    rename_i vs hvs
    obtain ⟨hy, rfl⟩ := M.lift_some e
    have h1 := eval_ok hf hx
    rw [hvs] at h1
    obtain ⟨us, hav, hn', hr'⟩ : ∃ us, a.eval x = .tuple us ∧ us.size = vs.length ∧ ∀ (j : Nat) (v : Value) (c : AV), us[j]? = some v → vs[j]? = some c → RA ν g v c := by
      generalize a.eval x = vv at h1
      cases h1 with | tup h1 h2 => exact ⟨_, rfl, h1, h2⟩
    have hlt := lt_of_some hy
    have hu : us[i]? = some us[i] := Array.getElem?_eq_getElem (by omega)
    exact wp_done (s := Instr.extract (a.eval x) i) (by simp [execOp, ho]) (.same r (v := us[i]) (by simp [hav, Instr.extract, hu]) (hr' i _ _ hu hy)) hn
  case h_30 =>   -- nchk
    split at hc
    case h_2 => cases hc
    rename_i x ho
    have h1 := eval_ok hf hc
    simp only [osem] at e
    split at e
    · rename_i id ver i j hx
      rw [hx] at h1
      obtain ⟨ob, h2, e1, e2⟩ := M.bind_some e
      obtain ⟨hg, rfl⟩ := M.look_some e1
      obtain ⟨_, h3, e3, e4⟩ := M.bind_some e2
      obtain ⟨hva, rfl⟩ := M.ok_some e3
      obtain ⟨rfl, rfl⟩ := M.ret_some e4
      have hr : RefAt g (a.eval x) id ver i j := by
        generalize a.eval x = vv at h1
        cases h1 with | ref _ hr => exact hr
      obtain ⟨b, off, hv, -⟩ := hr.move hg hva 0
      refine wp_done (s := pure (a.eval x)) ?_ (.same r rfl h1) hn
      simp [execOp, ho, hv]
    · rename_i cs hx
      rw [hx] at h1
      obtain ⟨rfl, rfl⟩ := M.ret_some e
      obtain ⟨b, off, hv⟩ := h1.ptr
      refine wp_done (s := pure (a.eval x)) ?_ (.same r rfl h1) hn
      simp [execOp, ho, hv]
    · rename_i f cs hx
      rw [hx] at h1
      obtain ⟨rfl, rfl⟩ := M.ret_some e
      have hv : ∃ caps, a.eval x = .func (.func (ν f)) #[] caps := by
        generalize a.eval x = v at h1
        cases h1 with | iv h => cases h with | fn f caps cs h1 h2 => exact ⟨caps, rfl⟩
      obtain ⟨caps, hv⟩ := hv
      refine wp_done (s := pure (a.eval x)) ?_ (.same r rfl h1) hn
      simp [execOp, ho, hv]
    · rename_i f fs cs hx
      rw [hx] at h1
      obtain ⟨rfl, rfl⟩ := M.ret_some e
      have hv : ∃ first caps, a.eval x = .func (.func (ν f)) first caps := by
        generalize a.eval x = v at h1
        cases h1 with | clo h1 h2 => exact ⟨_, _, rfl⟩
      obtain ⟨first, caps, hv⟩ := hv
      refine wp_done (s := pure (a.eval x)) ?_ (.same r rfl h1) hn
      simp [execOp, ho, hv]
    · exact (M.fail_some e).elim
  case h_31 f' fs' caps' =>   -- mkf
    split at hc
    case h_2 => cases hc
    rename_i f first caps ho
    simp only [Bool.and_eq_true, beq_iff_eq] at hc
    obtain ⟨⟨rfl, hfirst⟩, hcaps⟩ := hc
    obtain ⟨rfl, rfl⟩ := M.ret_some e
    have hR := args_ok hf hcaps
    have hS := args_ok hf hfirst
    refine wp_done (s := Instr.makeFunc (.func (ν f')) (first.map a.eval) (caps.map a.eval)) (by simp [execOp, ho]) (.same r (v := .func (.func (ν f')) (first.map a.eval) (caps.map a.eval)) (by simp [Instr.makeFunc]) ?_) hn
    exact .clo (by have := hS.1; simpa using this) (fun j v c h1 h2 => hS.2 j v c (by simpa using h1) h2) (by have := hR.1; simpa using this) fun j v c h1 h2 => hR.2 j v c (by simpa using h1) h2
  case h_32 mode f' args' =>   -- call
    split at hc
    case h_2 => cases hc
    rename_i fo cargs tys ho
    simp only [Bool.and_eq_true] at hc
    have hfv := eval_ok hf hc.1
    have hR := args_ok hf hc.2
    simp only [osem] at e
    split at e
    · exact wp_call ho (callM_ok hs r e hfv hR) hn
    · exact wp_call ho (fcallM_ok hs r e hfv hR) hn
  case h_33 =>   -- scall
    exact (M.fail_some e).elim
  case h_34 x' =>   -- cvb
    split at hc
    case h_2 => cases hc
    rename_i s d x ho
    simp only [Bool.and_eq_true] at hc
    exact wp_done (s := convert s d (a.eval x)) (by simp [execOp, ho]) (cvb_ok r hc.1.1 hc.1.2 (eval_ok hf hc.2) e) hn
  case h_35 =>   -- mmk
    split at hc
    case h_2 => cases hc
    rename_i t ho
    exact wp_done (s := Instr.makeMap t none) (by simp [execOp, ho]) (mmk_ok r e) hn
  case h_36 ok agg qs z m' k' =>   -- mget
    split at hc
    case h_2 => cases hc
    rename_i t m kk o ho
    simp only [Bool.and_eq_true, beq_iff_eq] at hc
    obtain ⟨⟨⟨⟨rfl, h1⟩, h2⟩, h3⟩, h4⟩ := hc
    exact wp_done (s := Instr.lookup t (a.eval m) (a.eval kk) o) (by simp [execOp, ho]) (mget_ok r h1 h2 (eval_ok hf h3) (eval_ok hf h4) e) hn
  case h_37 qs m' k' x' =>   -- mput
    have key : ∀ {t : TypeId} {m kk x : Operand}, (o.op = .mapUpdate t m kk x ∨ o.op = .insert t m kk x) → (mapB P t qs && cOpd ν m m' && cOpd ν kk k' && cOpd ν x x') = true → o.wp P a g.w next Q := by
      intro t m kk x ho hc
      simp only [Bool.and_eq_true] at hc
      obtain ⟨g', hrun, rfl, hh, r', mm⟩ := mput_ok r hc.1.1.1 (eval_ok hf hc.1.1.2) (eval_ok hf hc.1.2) (eval_ok hf hc.2) e
      unfold Oper.wp
      have hx : (execOp a.eval o).run P g.w = .ok .skip g'.w := by rcases ho with ho | ho <;> simp [execOp, ho, hrun]
      rw [hx]
      exact hn g' undef hh r' mm (.tup rfl fun j v c h => by simp at h)
    split at hc
    · rename_i ho; exact key (.inl ho) hc
    · rename_i ho; exact key (.inr ho) hc
    · cases hc
  case h_38 qs m' k' =>   -- mdel
    split at hc
    case h_2 => cases hc
    rename_i args tys ho
    split at hc
    case h_2 => cases hc
    rename_i x z t u hx ht
    obtain rfl : args = #[x, z] := Array.ext' hx
    obtain rfl : tys = #[t, u] := Array.ext' ht
    simp only [Bool.and_eq_true] at hc
    exact wp_done (s := Builtin.delete_ #[t, u] o.type #[a.eval x, a.eval z]) (by simp [execOp, ho, resolve, invoke, builtin]) (mdel_ok r hc.1.1 (eval_ok hf hc.1.2) (eval_ok hf hc.2) e) hn
  case h_39 m' =>   -- mlen
    split at hc
    case h_2 => cases hc
    rename_i args tys ho
    split at hc
    case h_2 => cases hc
    rename_i x t hx ht
    obtain rfl : args = #[x] := Array.ext' hx
    obtain rfl : tys = #[t] := Array.ext' ht
    simp only [Bool.and_eq_true] at hc
    exact wp_done (s := Builtin.len_ #[t] o.type #[a.eval x]) (by simp [execOp, ho, resolve, invoke, builtin]) (mlen_ok r hc.1 (eval_ok hf hc.2) e) hn
  case h_40 =>   -- dead
    exact (M.fail_some e).elim
  case h_41 =>   -- capn
    split at hc
    case h_2 => cases hc
    rename_i args tys ho
    split at hc
    case h_2 => cases hc
    rename_i x t hx ht
    obtain rfl : args = #[x] := Array.ext' hx
    obtain rfl : tys = #[t] := Array.ext' ht
    simp only [Bool.and_eq_true] at hc
    obtain ⟨hc, hq⟩ := hc
    split at hc
    case h_2 => cases hc
    rename_i el hu
    obtain ⟨i, hi⟩ := Option.isSome_iff_exists.1 hc
    exact wp_done (s := Builtin.cap_ #[t] o.type #[a.eval x]) (by simp [execOp, ho, resolve, invoke, builtin]) (capn_ok (e := i.size) r (by simp [sliceB, hu, hi]) (eval_ok hf hq) e) hn
  case h_42 =>   -- appn
    split at hc
    case h_2 => cases hc
    rename_i args tys ho
    split at hc
    case h_2 => cases hc
    rename_i x z t u hx ht
    obtain rfl : args = #[x, z] := Array.ext' hx
    obtain rfl : tys = #[t, u] := Array.ext' ht
    simp only [Bool.and_eq_true] at hc
    obtain ⟨kd, hd⟩ := isInt_spec hc.1.1.2
    exact wp_done (s := Builtin.append_ #[t, u] o.type #[a.eval x, a.eval z]) (by simp [execOp, ho, resolve, invoke, builtin]) (appn_ok r hc.1.1.1 hd (eval_ok hf hc.1.2) (eval_ok hf hc.2) e) hn
  case h_43 =>   -- aload
    split at hc
    case h_2 => cases hc
    rename_i f args tys ho
    split at hc
    case h_2 => cases hc
    rename_i x hx
    obtain rfl : args = #[x] := Array.ext' hx
    simp only [Bool.and_eq_true, Bool.or_eq_true] at hc
    exact wp_here ho (by simpa using aload_ok r hc.1 (eval_ok hf hc.2) e) hn
  case h_44 =>   -- astore
    split at hc
    case h_2 => cases hc
    rename_i f args tys ho
    split at hc
    case h_2 => cases hc
    rename_i x z hx
    obtain rfl : args = #[x, z] := Array.ext' hx
    simp only [Bool.and_eq_true, Bool.or_eq_true] at hc
    rcases hc.1.1 with (h | h) | h
    all_goals exact wp_here ho (by simpa using astore_ok r h (eval_ok hf hc.1.2) (eval_ok hf hc.2) e) hn
  case h_45 =>   -- aadd
    split at hc
    case h_2 => cases hc
    rename_i f args tys ho
    split at hc
    case h_2 => cases hc
    rename_i x z hx
    obtain rfl : args = #[x, z] := Array.ext' hx
    simp only [Bool.and_eq_true, Bool.or_eq_true] at hc
    exact wp_here ho (by simpa using aadd_ok r hc.1.1 (eval_ok hf hc.1.2) (eval_ok hf hc.2) e) hn
  case h_46 =>   -- acas
    split at hc
    case h_2 => cases hc
    rename_i f args tys ho
    split at hc
    case h_2 => cases hc
    rename_i x u z hx
    obtain rfl : args = #[x, u, z] := Array.ext' hx
    simp only [Bool.and_eq_true, Bool.or_eq_true] at hc
    exact wp_here ho (by simpa using acas_ok r hc.1.1.1 (eval_ok hf hc.1.1.2) (eval_ok hf hc.1.2) (eval_ok hf hc.2) e) hn
  case h_47 =>   -- bs0
    split at hc
    case h_2 => cases hc
    rename_i t n ps ho
    simp only [Bool.and_eq_true, beq_iff_eq, Array.isEmpty_iff] at hc
    obtain ⟨⟨rfl, rfl⟩, ht⟩ := hc
    obtain ⟨rfl, rfl⟩ := M.ret_some e
    exact wp_done (s := Instr.buildSlice t 0 #[]) (by simp [execOp, ho]) (bs0_ok r ht) hn
  case h_48 =>   -- toU
    split at hc
    case h_2 => cases hc
    rename_i s d x ho
    simp only [Bool.and_eq_true] at hc
    exact wp_done (s := convert s d (a.eval x)) (by simp [execOp, ho]) (toU_ok r hc.1 (eval_ok hf hc.2) e) hn
  case h_49 =>   -- noesc
    split at hc
    case h_2 => cases hc
    rename_i f args tys ho
    split at hc
    case h_2 => cases hc
    rename_i x hx
    obtain rfl : args = #[x] := Array.ext' hx
    simp only [Bool.and_eq_true] at hc
    obtain ⟨rfl, rfl⟩ := M.ret_some e
    exact wp_here ho (by simpa using noesc_ok r hc.1 (eval_ok hf hc.2)) hn
  case h_50 =>   -- ofU
    split at hc
    case h_2 => cases hc
    rename_i s d x ho
    simp only [Bool.and_eq_true] at hc
    exact wp_done (s := convert s d (a.eval x)) (by simp [execOp, ho]) (ofU_ok r hc.1 (eval_ok hf hc.2) e) hn
  case h_51 =>   -- usd
    split at hc
    case h_2 => cases hc
    rename_i args tys ho
    split at hc
    case h_2 => cases hc
    rename_i x hx
    obtain rfl : args = #[x] := Array.ext' hx
    exact wp_done (s := Builtin.unsafeSliceData_ tys o.type #[a.eval x]) (by simp [execOp, ho, resolve, invoke, builtin]) (usd_ok r (eval_ok hf hc) e) hn
  case h_52 =>   -- ustr
    split at hc
    case h_2 => cases hc
    rename_i args tys ho
    split at hc
    case h_2 => cases hc
    rename_i p n pt it hx ht
    obtain rfl : args = #[p, n] := Array.ext' hx
    obtain rfl : tys = #[pt, it] := Array.ext' ht
    simp only [Bool.and_eq_true] at hc
    exact wp_done (s := Builtin.unsafeString_ #[pt, it] o.type #[a.eval p, a.eval n]) (by simp [execOp, ho, resolve, invoke, builtin]) (ustr_ok r hc.1.1 (eval_ok hf hc.1.2) (eval_ok hf hc.2) e) hn
  case h_53 =>   -- mks
    split at hc
    case h_2 => cases hc
    rename_i t l c ho
    simp only [Bool.and_eq_true] at hc
    have h1 := eval_ok hf hc.1.2
    have h2 := eval_ok hf hc.2
    have hsame : a.eval c = a.eval l := by
      obtain ⟨m, h3, e1, e2⟩ := M.bind_some e
      obtain ⟨-, kk, hz⟩ := idx_some e1
      rw [hz] at h1 h2
      rw [h1.int, h2.int]
    exact wp_done (s := Instr.makeSlice t (a.eval l) (a.eval l)) (by simp [execOp, ho, hsame]) (mks_ok r hc.1.1 h1 e) hn
end
end Arx

/-
  WHAT A STEP LOOKS AT IS THERE BEHIND IT; so what it never met may be there, too.
-/
namespace Arx
open Go Arb

theorem Tr.put_comm {α : Type} (x y : α) : ∀ (f n : Nat) (f' m : Nat) (t : Tr α), n < f → m < f' → n ≠ m → Tr.put f n x (Tr.put f' m y t) = Tr.put f' m y (Tr.put f n x t) := by
  intro f
  induction f with
  | zero => intro n f' m t h; omega
  | succ f ih =>
    intro n f' m t h h' hne
    obtain ⟨f', rfl⟩ : ∃ k, f' = k + 1 := ⟨f' - 1, by omega⟩
    cases n with
    | zero =>
      cases m with
      | zero => exact absurd rfl hne
      | succ m => cases t <;> by_cases h1 : m % 2 = 0 <;> simp [Tr.put, h1]
    | succ n =>
      cases m with
      | zero => cases t <;> by_cases h1 : n % 2 = 0 <;> simp [Tr.put, h1]
      | succ m =>
        by_cases h1 : n % 2 = 0 <;> by_cases h2 : m % 2 = 0 <;> cases t <;> simp only [Tr.put, h1, h2, if_true, if_false]
        all_goals rw [ih _ _ _ _ (by omega) (by omega) (by omega)]
theorem hp_comm (h : Hp) {n m : Nat} (x y : Ob) (hne : n ≠ m) : set (set h m y) n x = set (set h n x) m y := Tr.put_comm x y _ _ _ _ h (Nat.lt_succ_self n) (Nat.lt_succ_self m) hne

/-- what a step writes, one after another -/
def app_ (ps : List (Nat × Ob)) (h : Hp) : Hp := ps.foldl (fun h p => set h p.1 p.2) h
theorem app_get {ps : List (Nat × Ob)} {n : Nat} (hn : ∀ p ∈ ps, p.1 ≠ n) : ∀ h : Hp, get (app_ ps h) n = get h n := by
  induction ps with
  | nil => intro h; rfl
  | cons p ps ih =>
    intro h
    show get (app_ ps (set h p.1 p.2)) n = _
    rw [ih (fun q hq => hn q (List.mem_cons_of_mem _ hq)), get_set_ne _ _ (hn p (List.mem_cons_self ..))]
theorem app_set {ps : List (Nat × Ob)} {n : Nat} (x : Ob) (hn : ∀ p ∈ ps, p.1 ≠ n) : ∀ h : Hp, app_ ps (set h n x) = set (app_ ps h) n x := by
  induction ps with
  | nil => intro h; rfl
  | cons p ps ih =>
    intro h
    show app_ ps (set (set h n x) p.1 p.2) = set (app_ ps (set h p.1 p.2)) n x
    rw [hp_comm _ _ _ (hn p (List.mem_cons_self ..)), ih fun q hq => hn q (List.mem_cons_of_mem _ hq)]
theorem app_comm {ps qs : List (Nat × Ob)} (hd : ∀ p ∈ ps, ∀ q ∈ qs, p.1 ≠ q.1) : ∀ h : Hp, app_ qs (app_ ps h) = app_ ps (app_ qs h) := by
  induction ps with
  | nil => intro h; rfl
  | cons p ps ih =>
    intro h
    show app_ qs (app_ ps (set h p.1 p.2)) = app_ ps (set (app_ qs h) p.1 p.2)
    rw [ih fun a ha => hd a (List.mem_cons_of_mem _ ha), app_set _ fun q hq => (hd p (List.mem_cons_self ..) q hq).symm]

theorem M.frame {α : Type} : ∀ (m : M α) (h h' h1 : Hp) (a : α), m.run h = some (a, h1) → (∀ n ∈ (m.foot h).1, Arx.get h n = Arx.get h' n) →
    ∃ ps, h1 = app_ ps h ∧ m.run h' = some (a, app_ ps h') ∧ m.foot h' = m.foot h ∧ ∀ p ∈ ps, p.1 ∈ (m.foot h).2
  | .ret x, h, h', h1, a, e, _ => by
    simp only [M.run, Option.some.injEq, Prod.mk.injEq] at e
    obtain ⟨rfl, rfl⟩ := e
    exact ⟨[], rfl, rfl, rfl, fun p hp => by simp at hp⟩
  | .fail, h, h', h1, a, e, _ => by simp [M.run] at e
  | .get id k, h, h', h1, a, e, hr => by
    simp only [M.run] at e
    simp only [M.foot, List.mem_cons] at hr ⊢
    have hid := hr id (.inl rfl)
    obtain ⟨ps, e1, e2, e3, e4⟩ := M.frame (k (Arx.get h id)) h h' h1 a e fun n hn => hr n (.inr hn)
    refine ⟨ps, e1, ?_, ?_, e4⟩
    · simp only [M.run, ← hid]; exact e2
    · simp only [← hid]; rw [e3]
  | .put id o k, h, h', h1, a, e, hr => by
    simp only [M.run] at e
    simp only [M.foot, List.mem_append, List.mem_singleton] at hr ⊢
    obtain ⟨ps, e1, e2, e3, e4⟩ := M.frame k (Arx.set h id o) (Arx.set h' id o) h1 a e fun n hn => by simp [get_set, hr n hn]
    refine ⟨(id, o) :: ps, e1, e2, by rw [e3], fun p hp => ?_⟩
    rcases List.mem_cons.1 hp with rfl | hp
    · exact .inr rfl
    · exact .inl (e4 p hp)


/-! ### what is there stays there -/
def On (h : Hp) (n : Nat) : Prop := (get h n).isSome = true
theorem On.set {h : Hp} {n m : Nat} {x : Ob} (hn : On h n) : On (set h m x) n := by
  unfold On at *
  rw [get_set]; split <;> simp_all
theorem On.same {h : Hp} {n : Nat} {x : Ob} : On (Arx.set h n x) n := by
  show (Arx.get (Arx.set h n x) n).isSome = true
  rw [get_set_same]; rfl
theorem M.stay {α : Type} : ∀ (m : M α) (h h' : Hp) (a : α) (n : Nat), m.run h = some (a, h') → On h n → On h' n
  | .ret x, h, h', a, n, e, hn => by
    simp only [M.run, Option.some.injEq, Prod.mk.injEq] at e
    rw [← e.2]; exact hn
  | .fail, h, h', a, n, e, _ => by simp [M.run] at e
  | .get id k, h, h', a, n, e, hn => M.stay (k (Arx.get h id)) h h' a n e hn
  | .put id o k, h, h', a, n, e, hn => M.stay k (Arx.set h id o) h' a n e hn.set

/-- all that it looks at is there in the end -/
def NR {α : Type} (m : M α) : Prop := ∀ h a h', m.run h = some (a, h') → ∀ n ∈ (m.foot h).1, On h' n
theorem NR.ret {α : Type} (a : α) : NR (M.ret a) := fun h b h' _ n hn => by simp [M.foot] at hn
theorem NR.fail {α : Type} : NR (M.fail : M α) := fun h b h' e => by simp [M.run] at e
theorem M.foot_bind {α β : Type} (f : α → M β) : ∀ (m : M α) (h h1 : Hp) (a : α), m.run h = some (a, h1) → ((m.bind f).foot h).1 = (m.foot h).1 ++ ((f a).foot h1).1
  | .ret x, h, h1, a, e => by
    simp only [M.run, Option.some.injEq, Prod.mk.injEq] at e
    obtain ⟨rfl, rfl⟩ := e
    simp [M.bind, M.foot]
  | .fail, h, h1, a, e => by simp [M.run] at e
  | .get id k, h, h1, a, e => by
    simp only [M.run] at e
    simp [M.bind, M.foot, M.foot_bind f (k (Arx.get h id)) h h1 a e]
  | .put id o k, h, h1, a, e => by
    simp only [M.run] at e
    simp [M.bind, M.foot, M.foot_bind f k (Arx.set h id o) h1 a e]
theorem NR.bind {α β : Type} {m : M α} {f : α → M β} (hm : NR m) (hf : ∀ a, NR (f a)) : NR (m.bind f) := by
  intro h b h' e n hn
  obtain ⟨a, h1, e1, e2⟩ := M.bind_some e
  rw [M.foot_bind f m h h1 a e1] at hn
  rcases List.mem_append.1 hn with hn | hn
  · exact M.stay _ _ _ _ _ e2 (hm h a h1 e1 n hn)
  · exact hf a h1 b h' e2 n hn
theorem NR.look (id : Nat) : NR (M.look id) := by
  intro h a h' e n hn
  simp only [M.look, M.run] at e
  simp only [M.look, M.foot] at hn
  cases hg : Arx.get h id with
  | none => rw [hg] at e; simp [M.run] at e
  | some o =>
    rw [hg] at e hn
    simp only [M.run, Option.some.injEq, Prod.mk.injEq] at e
    simp [M.foot] at hn
    rw [← e.2, hn]
    unfold On; rw [hg]; rfl
theorem NR.ok (b : Bool) : NR (M.ok b) := by unfold M.ok; split; exact NR.ret _; exact NR.fail
theorem NR.lift {α : Type} (o : Option α) : NR (M.lift o) := by cases o; exact NR.fail; exact NR.ret _
theorem NR.write (id : Nat) (o : Ob) : NR (M.write id o) := fun h a h' e n hn => by simp [M.write, M.foot] at hn
theorem NR.new {α : Type} {id : Nat} {o : Ob} {f : Unit → M α} (hf : NR (f ())) : NR ((M.fresh id).bind fun _ => (M.write id o).bind f) := by
  intro h b h' e n hn
  obtain ⟨_, h1, e1, e2⟩ := M.bind_some e
  obtain ⟨_, h2, e3, e4⟩ := M.bind_some e2
  rw [M.foot_bind _ (M.fresh id) h h1 _ e1] at hn
  obtain ⟨_, rfl⟩ := M.fresh_some e1
  rw [M.foot_bind _ (M.write id o) h1 h2 _ e3] at hn
  obtain rfl := M.write_some e3
  rcases List.mem_append.1 hn with hn | hn
  · simp only [M.fresh, M.foot] at hn
    have : n = id := by
      rcases List.mem_cons.1 hn with h | h
      · exact h
      · cases hg : Arx.get h1 id <;> rw [hg] at h <;> simp [M.foot] at h
    subst this
    exact M.stay _ _ _ _ _ e4 On.same
  · rcases List.mem_append.1 hn with hn | hn
    · simp [M.write, M.foot] at hn
    · exact hf _ b h' e4 n hn
theorem NR.mapL {α β : Type} {f : α → M β} (hf : ∀ x, NR (f x)) : ∀ l : List α, NR (M.mapL f l)
  | [] => NR.ret _
  | x :: r => NR.bind (hf x) fun _ => NR.bind (NR.mapL hf r) fun _ => NR.ret _
theorem NR.idx_ (a : AV) : NR (Arx.idx a) := by
  unfold Arx.idx
  repeat' first | exact NR.ret _ | exact NR.fail | exact NR.ok _ | exact NR.lift _ | exact NR.look _ | exact NR.write _ _ | apply NR.new | (refine NR.bind ?_ fun _ => ?_) | split
theorem NR.cellsM_ (a : AV) : NR (Arx.cellsM a) := by
  unfold Arx.cellsM
  repeat' first | exact NR.ret _ | exact NR.fail | exact NR.ok _ | exact NR.lift _ | exact NR.look _ | exact NR.write _ _ | apply NR.new | (refine NR.bind ?_ fun _ => ?_) | split
theorem NR.mk_ (agg : Bool) (l : List AV) : NR (Arx.mk agg l) := by
  unfold Arx.mk
  repeat' first | exact NR.ret _ | exact NR.fail | exact NR.ok _ | exact NR.lift _ | exact NR.look _ | exact NR.write _ _ | apply NR.new | (refine NR.bind ?_ fun _ => ?_) | split
theorem NR.bound_ (y : Nat) (o : Option AV) : NR (Arx.bound y o) := by
  unfold Arx.bound
  repeat' first | exact NR.ret _ | exact NR.fail | exact NR.ok _ | exact NR.lift _ | exact NR.look _ | exact NR.write _ _ | apply NR.new | (refine NR.bind ?_ fun _ => ?_) | split
theorem NR.load_ (agg : Bool) (sz : Nat) (a : AV) : NR (Arx.load agg sz a) := by
  unfold Arx.load
  repeat' first | exact NR.mk_ _ _ | exact NR.ret _ | exact NR.fail | exact NR.ok _ | exact NR.lift _ | exact NR.look _ | exact NR.write _ _ | apply NR.new | (refine NR.bind ?_ fun _ => ?_) | split
theorem NR.store_ (sz : Nat) (a x : AV) : NR (Arx.store sz a x) := by
  unfold Arx.store
  repeat' first | exact NR.cellsM_ _ | exact NR.ret _ | exact NR.fail | exact NR.ok _ | exact NR.lift _ | exact NR.look _ | exact NR.write _ _ | apply NR.new | (refine NR.bind ?_ fun _ => ?_) | split
theorem NR.fadr_ (off : Nat) (x : AV) : NR (Arx.fadr off x) := by
  unfold Arx.fadr
  repeat' first | exact NR.ret _ | exact NR.fail | exact NR.ok _ | exact NR.lift _ | exact NR.look _ | exact NR.write _ _ | apply NR.new | (refine NR.bind ?_ fun _ => ?_) | split
theorem NR.fld_ (agg : Bool) (off sz : Nat) (x : AV) : NR (Arx.fld agg off sz x) := by
  unfold Arx.fld
  repeat' first | exact NR.mk_ _ _ | exact NR.ret _ | exact NR.fail | exact NR.ok _ | exact NR.lift _ | exact NR.look _ | exact NR.write _ _ | apply NR.new | (refine NR.bind ?_ fun _ => ?_) | split
theorem NR.iarr_ (len e : Nat) (x i : AV) : NR (Arx.iarr len e x i) := by
  unfold Arx.iarr
  repeat' first | exact NR.idx_ _ | exact NR.ret _ | exact NR.fail | exact NR.ok _ | exact NR.lift _ | exact NR.look _ | exact NR.write _ _ | apply NR.new | (refine NR.bind ?_ fun _ => ?_) | split
theorem NR.isl_ (e : Nat) (x i : AV) : NR (Arx.isl e x i) := by
  unfold Arx.isl
  repeat' first | exact NR.idx_ _ | exact NR.ret _ | exact NR.fail | exact NR.ok _ | exact NR.lift _ | exact NR.look _ | exact NR.write _ _ | apply NR.new | (refine NR.bind ?_ fun _ => ?_) | split
theorem NR.xarr_ (agg : Bool) (len e : Nat) (x i : AV) : NR (Arx.xarr agg len e x i) := by
  unfold Arx.xarr
  repeat' first | exact NR.idx_ _ | exact NR.fld_ _ _ _ _ | exact NR.ret _ | exact NR.fail | exact NR.ok _ | exact NR.lift _ | exact NR.look _ | exact NR.write _ _ | apply NR.new | (refine NR.bind ?_ fun _ => ?_) | split
theorem NR.xstr_ (x i : AV) : NR (Arx.xstr x i) := by
  unfold Arx.xstr
  repeat' first | exact NR.ret _ | exact NR.fail | exact NR.ok _ | exact NR.lift _ | exact NR.look _ | exact NR.write _ _ | apply NR.new | (refine NR.bind ?_ fun _ => ?_) | split
theorem NR.binM_ (op : BinOp) (q : Nat) (x y : AV) : NR (Arx.binM op q x y) := by
  unfold Arx.binM
  repeat' first | exact NR.ret _ | exact NR.fail | exact NR.ok _ | exact NR.lift _ | exact NR.look _ | exact NR.write _ _ | apply NR.new | (refine NR.bind ?_ fun _ => ?_) | split
theorem NR.slc_ (e : Nat) (x : AV) (lo hi : Option AV) : NR (Arx.slc e x lo hi) := by
  unfold Arx.slc
  repeat' first | exact NR.bound_ _ _ | exact NR.ret _ | exact NR.fail | exact NR.ok _ | exact NR.lift _ | exact NR.look _ | exact NR.write _ _ | apply NR.new | (refine NR.bind ?_ fun _ => ?_) | split
theorem NR.slcs_ (x : AV) (lo hi : Option AV) : NR (Arx.slcs x lo hi) := by
  unfold Arx.slcs
  repeat' first | exact NR.bound_ _ _ | exact NR.ret _ | exact NR.fail | exact NR.ok _ | exact NR.lift _ | exact NR.look _ | exact NR.write _ _ | apply NR.new | (refine NR.bind ?_ fun _ => ?_) | split
theorem NR.slz_ (e : Nat) (x : AV) : NR (Arx.slz e x) := by
  unfold Arx.slz
  repeat' first | exact NR.ret _ | exact NR.fail | exact NR.ok _ | exact NR.lift _ | exact NR.look _ | exact NR.write _ _ | apply NR.new | (refine NR.bind ?_ fun _ => ?_) | split
theorem NR.sla_ (n : Nat) (x : AV) (lo hi : Option AV) : NR (Arx.sla n x lo hi) := by
  unfold Arx.sla
  repeat' first | exact NR.bound_ _ _ | exact NR.ret _ | exact NR.fail | exact NR.ok _ | exact NR.lift _ | exact NR.look _ | exact NR.write _ _ | apply NR.new | (refine NR.bind ?_ fun _ => ?_) | split
theorem NR.clr_ (e : Nat) (z : List AV) (x : AV) : NR (Arx.clr e z x) := by
  unfold Arx.clr
  repeat' first | exact NR.ret _ | exact NR.fail | exact NR.ok _ | exact NR.lift _ | exact NR.look _ | exact NR.write _ _ | apply NR.new | (refine NR.bind ?_ fun _ => ?_) | split
theorem NR.len_ (str : Bool) (x : AV) : NR (Arx.len str x) := by
  unfold Arx.len
  repeat' first | exact NR.ret _ | exact NR.fail | exact NR.ok _ | exact NR.lift _ | exact NR.look _ | exact NR.write _ _ | apply NR.new | (refine NR.bind ?_ fun _ => ?_) | split
theorem NR.elems_ (e : Nat) (x : AV) : NR (Arx.elems e x) := by
  unfold Arx.elems
  repeat' first | exact NR.ret _ | exact NR.fail | exact NR.ok _ | exact NR.lift _ | exact NR.look _ | exact NR.write _ _ | apply NR.new | (refine NR.bind ?_ fun _ => ?_) | split
theorem NR.elemsS_ (e : Nat) (x : AV) : NR (Arx.elemsS e x) := by
  unfold Arx.elemsS
  repeat' first | exact NR.elems_ _ _ | exact NR.ret _ | exact NR.fail | exact NR.ok _ | exact NR.lift _ | exact NR.look _ | exact NR.write _ _ | apply NR.new | (refine NR.bind ?_ fun _ => ?_) | split
theorem NR.app_ (e slot : Nat) (byte : Bool) (x y : AV) : NR (Arx.app e slot byte x y) := by
  unfold Arx.app
  repeat' first | exact NR.elemsS_ _ _ | exact NR.ret _ | exact NR.fail | exact NR.ok _ | exact NR.lift _ | exact NR.look _ | exact NR.write _ _ | apply NR.new | (refine NR.bind ?_ fun _ => ?_) | split
theorem NR.capn_ (x : AV) : NR (Arx.capn x) := by
  unfold Arx.capn
  repeat' first | exact NR.ret _ | exact NR.fail | exact NR.ok _ | exact NR.lift _ | exact NR.look _ | exact NR.write _ _ | apply NR.new | (refine NR.bind ?_ fun _ => ?_) | split
theorem NR.appn_ (e slot : Nat) (z : List AV) (x n : AV) : NR (Arx.appn e slot z x n) := by
  unfold Arx.appn
  repeat' first | exact NR.idx_ _ | exact NR.ret _ | exact NR.fail | exact NR.ok _ | exact NR.lift _ | exact NR.look _ | exact NR.write _ _ | apply NR.new | (refine NR.bind ?_ fun _ => ?_) | split
theorem NR.mks_ (e slot : Nat) (z : List AV) (n : AV) : NR (Arx.mks e slot z n) := by
  unfold Arx.mks
  repeat' first | exact NR.idx_ _ | exact NR.ret _ | exact NR.fail | exact NR.ok _ | exact NR.lift _ | exact NR.look _ | exact NR.write _ _ | apply NR.new | (refine NR.bind ?_ fun _ => ?_) | split
theorem NR.lookMap_ (m : AV) : NR (Arx.lookMap m) := by
  unfold Arx.lookMap
  repeat' first | exact NR.ret _ | exact NR.fail | exact NR.ok _ | exact NR.lift _ | exact NR.look _ | exact NR.write _ _ | apply NR.new | (refine NR.bind ?_ fun _ => ?_) | split
theorem NR.mget_ (ok agg : Bool) (qs : List Nat) (z : List AV) (m k : AV) : NR (Arx.mget ok agg qs z m k) := by
  unfold Arx.mget
  repeat' first | exact NR.lookMap_ _ | exact NR.mk_ _ _ | exact NR.ret _ | exact NR.fail | exact NR.ok _ | exact NR.lift _ | exact NR.look _ | exact NR.write _ _ | apply NR.new | (refine NR.bind ?_ fun _ => ?_) | split
theorem NR.mput_ (qs : List Nat) (m k v : AV) : NR (Arx.mput qs m k v) := by
  unfold Arx.mput
  repeat' first | exact NR.lookMap_ _ | exact NR.ret _ | exact NR.fail | exact NR.ok _ | exact NR.lift _ | exact NR.look _ | exact NR.write _ _ | apply NR.new | (refine NR.bind ?_ fun _ => ?_) | split
theorem NR.mdel_ (qs : List Nat) (m k : AV) : NR (Arx.mdel qs m k) := by
  unfold Arx.mdel
  repeat' first | exact NR.lookMap_ _ | exact NR.ret _ | exact NR.fail | exact NR.ok _ | exact NR.lift _ | exact NR.look _ | exact NR.write _ _ | apply NR.new | (refine NR.bind ?_ fun _ => ?_) | split
theorem NR.aload_ (k : IntKind) (a : AV) : NR (Arx.aload k a) := by
  unfold Arx.aload
  repeat' first | exact NR.load_ _ _ _ | exact NR.ret _ | exact NR.fail | exact NR.ok _ | exact NR.lift _ | exact NR.look _ | exact NR.write _ _ | apply NR.new | (refine NR.bind ?_ fun _ => ?_) | split
theorem NR.aadd_ (k : IntKind) (a d : AV) : NR (Arx.aadd k a d) := by
  unfold Arx.aadd
  repeat' first | exact NR.aload_ _ _ | exact NR.store_ _ _ _ | exact NR.ret _ | exact NR.fail | exact NR.ok _ | exact NR.lift _ | exact NR.look _ | exact NR.write _ _ | apply NR.new | (refine NR.bind ?_ fun _ => ?_) | split
theorem NR.acas_ (k : IntKind) (a o y : AV) : NR (Arx.acas k a o y) := by
  unfold Arx.acas
  repeat' first | exact NR.aload_ _ _ | exact NR.store_ _ _ _ | exact NR.ret _ | exact NR.fail | exact NR.ok _ | exact NR.lift _ | exact NR.look _ | exact NR.write _ _ | apply NR.new | (refine NR.bind ?_ fun _ => ?_) | split
theorem NR.toU_ (x : AV) : NR (Arx.toU x) := by
  unfold Arx.toU
  repeat' first | exact NR.ret _ | exact NR.fail | exact NR.ok _ | exact NR.lift _ | exact NR.look _ | exact NR.write _ _ | apply NR.new | (refine NR.bind ?_ fun _ => ?_) | split
theorem NR.ofU_ (x : AV) : NR (Arx.ofU x) := by
  unfold Arx.ofU
  repeat' first | exact NR.ret _ | exact NR.fail | exact NR.ok _ | exact NR.lift _ | exact NR.look _ | exact NR.write _ _ | apply NR.new | (refine NR.bind ?_ fun _ => ?_) | split
theorem NR.usd_ (x : AV) : NR (Arx.usd x) := by
  unfold Arx.usd
  repeat' first | exact NR.ret _ | exact NR.fail | exact NR.ok _ | exact NR.lift _ | exact NR.look _ | exact NR.write _ _ | apply NR.new | (refine NR.bind ?_ fun _ => ?_) | split
theorem NR.ustr_ (p n : AV) : NR (Arx.ustr p n) := by
  unfold Arx.ustr
  repeat' first | exact NR.ret _ | exact NR.fail | exact NR.ok _ | exact NR.lift _ | exact NR.look _ | exact NR.write _ _ | apply NR.new | (refine NR.bind ?_ fun _ => ?_) | split
theorem NR.fz_ (w : Bool) : ∀ (n : Nat) (a : AV), NR (fz w n a)
  | 0, _ => NR.fail
  | n + 1, a => by
    have ih := NR.fz_ w n
    unfold fz
    repeat' first | exact NR.mapL (fun _ => NR.mapL ih _) _ | exact NR.mapL ih _ | exact NR.ret _ | exact NR.fail | exact NR.ok _ | exact NR.lift _ | exact NR.look _ | exact NR.write _ _ | apply NR.new | (refine NR.bind ?_ fun _ => ?_) | split
theorem NR.fz1_ (w : Bool) (a : AV) : NR (fz1 w a) := by
  unfold fz1
  repeat' first | exact NR.mapL (NR.fz_ w 8) _ | exact NR.fz_ w 8 _ | exact NR.ret _ | exact NR.fail | exact NR.ok _ | exact NR.lift _ | exact NR.look _ | exact NR.write _ _ | apply NR.new | (refine NR.bind ?_ fun _ => ?_) | split
theorem NR.callM_ (call : Call1) (f : AV) (args : List AV) : NR (callM call f args) := by
  unfold callM
  repeat' first | exact NR.mapL (NR.fz1_ false) _ | exact NR.ret _ | exact NR.fail | exact NR.ok _ | exact NR.lift _ | exact NR.look _ | exact NR.write _ _ | apply NR.new | (refine NR.bind ?_ fun _ => ?_) | split
theorem NR.fcallM_ (call : Call1) (f : AV) (args : List AV) : NR (fcallM call f args) := by
  unfold fcallM
  repeat' first | exact NR.mapL (NR.fz1_ true) _ | exact NR.ret _ | exact NR.fail | exact NR.ok _ | exact NR.lift _ | exact NR.look _ | exact NR.write _ _ | apply NR.new | (refine NR.bind ?_ fun _ => ?_) | split
theorem nr_osem (call : Call1) (slot : Nat) (ρ : Opd → AV) (op : IOp) : NR (osem call slot ρ op) := by
  cases op <;> simp only [osem]
  all_goals repeat' first | exact NR.load_ _ _ _ | exact NR.store_ _ _ _ | exact NR.fadr_ _ _ | exact NR.fld_ _ _ _ _ | exact NR.iarr_ _ _ _ _ | exact NR.isl_ _ _ _ | exact NR.xarr_ _ _ _ _ _ | exact NR.xstr_ _ _ | exact NR.binM_ _ _ _ _ | exact NR.slc_ _ _ _ _ | exact NR.slcs_ _ _ _ | exact NR.slz_ _ _ | exact NR.sla_ _ _ _ _ | exact NR.clr_ _ _ _ | exact NR.len_ _ _ | exact NR.app_ _ _ _ _ _ | exact NR.capn_ _ | exact NR.appn_ _ _ _ _ _ | exact NR.mks_ _ _ _ _ | exact NR.mget_ _ _ _ _ _ _ | exact NR.mput_ _ _ _ _ | exact NR.mdel_ _ _ _ | exact NR.lookMap_ _ | exact NR.aload_ _ _ | exact NR.aadd_ _ _ _ | exact NR.acas_ _ _ _ _ | exact NR.toU_ _ | exact NR.ofU_ _ | exact NR.usd_ _ | exact NR.ustr_ _ _ | exact NR.callM_ _ _ _ | exact NR.fcallM_ _ _ _ | exact NR.idx_ _ | exact NR.cellsM_ _ | exact NR.elems_ _ _ | (refine NR.mapL (fun _ => ?_) _) | exact NR.ret _ | exact NR.fail | exact NR.ok _ | exact NR.lift _ | exact NR.look _ | exact NR.write _ _ | apply NR.new | (refine NR.bind ?_ fun _ => ?_) | split
theorem nr_resM (fr : Fr) (x : IRes) : NR (resM fr x) := by
  cases x with
  | t n => exact NR.ret _
  | cell n agg sz => exact NR.load_ _ _ _
theorem nr_resAll (fr : Fr) (xs : List IRes) : NR (resAll fr xs) := by
  unfold resAll
  split
  · exact nr_resM _ _
  · exact NR.bind (NR.mapL (nr_resM fr) _) fun _ => NR.ret _

/-! ### more objects, that it never met -/
theorem M.wrote {α : Type} : ∀ (m : M α) (h h' : Hp) (a : α), m.run h = some (a, h') → ∀ n ∈ (m.foot h).2, On h' n
  | .ret x, h, h', a, e, n, hn => by simp [M.foot] at hn
  | .fail, h, h', a, e, n, hn => by simp [M.foot] at hn
  | .get id k, h, h', a, e, n, hn => M.wrote (k (Arx.get h id)) h h' a e n hn
  | .put id o k, h, h', a, e, n, hn => by
    simp only [M.foot, List.mem_append, List.mem_singleton] at hn
    rcases hn with hn | rfl
    · exact M.wrote k _ h' a e n hn
    · exact M.stay k _ h' a _ e On.same
theorem app_on {qs : List (Nat × Ob)} {p : Nat × Ob} (hp : p ∈ qs) : ∀ h : Hp, On (app_ qs h) p.1 := by
  induction qs with
  | nil => simp at hp
  | cons q qs ih =>
    intro h
    have stay : ∀ (l : List (Nat × Ob)) (h : Hp) (n : Nat), On h n → On (app_ l h) n := by
      intro l
      induction l with
      | nil => intro h n hn; exact hn
      | cons a l ih => intro h n hn; exact ih _ n hn.set
    rcases List.mem_cons.1 hp with rfl | hp
    · exact stay qs _ _ On.same
    · exact ih hp _
/-- none of them is there -/
def Off (qs : List (Nat × Ob)) (h : Hp) : Prop := ∀ p ∈ qs, get h p.1 = none
theorem Off.not {qs : List (Nat × Ob)} {h : Hp} {n : Nat} (hq : Off qs h) (hn : On h n) : ∀ p ∈ qs, p.1 ≠ n := by
  intro p hp e
  have := hq p hp
  unfold On at hn
  rw [← e, this] at hn; cases hn
theorem Off.back {qs : List (Nat × Ob)} {h h' : Hp} (hq : Off qs h') (hs : ∀ n, On h n → On h' n) : Off qs h := by
  intro p hp
  cases hg : get h p.1 with
  | none => rfl
  | some o =>
    have := hs p.1 (by unfold On; rw [hg]; rfl)
    exact absurd rfl (hq.not this p hp)

theorem M.more {α : Type} {m : M α} (hm : NR m) {h h' : Hp} {a : α} (e : m.run h = some (a, h')) {qs : List (Nat × Ob)} (hq : Off qs h') :
    m.run (app_ qs h) = some (a, app_ qs h') ∧ m.foot (app_ qs h) = m.foot h := by
  obtain ⟨ps, e1, e2, e3, e4⟩ := M.frame m h (app_ qs h) h' a e fun n hn => (app_get (fun p hp => hq.not (hm h a h' e n hn) p hp) h).symm
  refine ⟨?_, e3⟩
  rw [e2, e1]
  rw [app_comm fun p hp q hq' he => hq.not (by rw [e1]; exact app_on hq' h) p hp he]

theorem all_mem {l : List Nat} {p q : Nat → Bool} (h : ∀ n ∈ l, p n = q n) : l.all p = l.all q := by
  induction l with
  | nil => rfl
  | cons a l ih => simp only [List.all_cons, h a (List.mem_cons_self ..), ih fun n hn => h n (List.mem_cons_of_mem _ hn)]

def Feet.plus (qs : List (Nat × Ob)) : Feet → Feet
  | .m x => .m x
  | .c h0 h1 => .c (app_ qs h0) (app_ qs h1)
/-- what a step touched is there in the end -/
def Feet.on (h : Hp) : Feet → Prop
  | .m x => (∀ n ∈ x.1, On h n) ∧ ∀ n ∈ x.2, On h n
  | .c _ _ => True
theorem Feet.on.mono {h h' : Hp} {f : Feet} (hf : f.on h) (hs : ∀ n, On h n → On h' n) : f.on h' := by
  cases f with
  | m x => exact ⟨fun n hn => hs n (hf.1 n hn), fun n hn => hs n (hf.2 n hn)⟩
  | c => trivial
theorem clash_plus {qs : List (Nat × Ob)} {h : Hp} (hq : Off qs h) {f g : Feet} (hf : f.on h) (hg : g.on h) : clash (f.plus qs) (g.plus qs) = clash f g := by
  have ne : ∀ {n : Nat}, On h n → ∀ x : Hp, get (app_ qs x) n = get x n := fun hn x => app_get (hq.not hn) x
  cases f with
  | m x =>
    cases g with
    | m y => rfl
    | c h0 h1 =>
      simp only [Feet.plus, clash]
      congr 2
      refine all_mem fun n hn => ?_
      rw [ne (hf.1 n hn), ne (hf.1 n hn)]
  | c h0 h1 =>
    cases g with
    | m y =>
      simp only [Feet.plus, clash]
      congr 2
      · congr 1
        refine all_mem fun n hn => ?_
        rw [ne (hg.1 n hn), ne (hg.1 n hn)]
      · refine all_mem fun n hn => ?_
        rcases List.mem_append.1 hn with hn | hn
        · rw [ne (hg.1 n hn)]
        · rw [ne (hg.2 n hn)]
    | c k0 k1 => rfl

def St.plus (qs : List (Nat × Ob)) (s : St) : St := { s with hp := app_ qs s.hp }
/-- what a call never met may be there -/
def MoreX (cx : CallX) : Prop := ∀ f args h nx r h' nx', cx f args h nx = some (r, h', nx') → (∀ n, On h n → On h' n) ∧ ∀ qs, Off qs h' → cx f args (app_ qs h) nx = some (r, app_ qs h', nx')

section
variable {c1 : Call1} {cx : CallX}

theorem step_more (hx : MoreX cx) {slot : Nat} {o : IOper} {s s1 : St} (e : step c1 cx slot o s = some s1) :
    (∀ n, On s.hp n → On s1.hp n) ∧ (footOf c1 slot o s s1.hp).on s1.hp ∧ ∀ qs, Off qs s1.hp → step c1 cx slot o (s.plus qs) = some (s1.plus qs) ∧ footOf c1 slot o (s.plus qs) (s1.plus qs).hp = (footOf c1 slot o s s1.hp).plus qs := by
  unfold step at e ⊢
  unfold footOf
  simp only [St.plus]
  cases hw : wants s.fr o.gd with
  | none => rw [hw] at e; cases e
  | some b =>
    rw [hw] at e
    cases b with
    | false =>
      simp only [Option.some.injEq] at e
      subst e
      exact ⟨fun _ h => h, ⟨fun n hn => by simp at hn, fun n hn => by simp at hn⟩, fun qs _ => ⟨rfl, rfl⟩⟩
    | true =>
      simp only [] at e ⊢
      cases hs : isS o.op with
      | some fa =>
        rw [hs] at e
        simp only [] at e ⊢
        cases hcl : callee (ev s.fr fa.1) with
        | none => rw [hcl] at e; cases e
        | some q =>
          rw [hcl] at e
          simp only [] at e ⊢
          cases hr : cx q.1 (q.2.1 ++ (fa.2.map (ev s.fr) ++ q.2.2)) s.hp s.nx with
          | none => rw [hr] at e; cases e
          | some p =>
            obtain ⟨v, h1, n1⟩ := p
            rw [hr] at e
            simp only [Option.some.injEq] at e
            subst e
            obtain ⟨q1, q2⟩ := hx _ _ _ _ _ _ _ hr
            refine ⟨q1, trivial, fun qs hq => ⟨?_, rfl⟩⟩
            rw [q2 qs hq]
      | none =>
        rw [hs] at e
        simp only [] at e ⊢
        cases hr : (osem c1 slot (ev s.fr) o.op).run s.hp with
        | none => rw [hr] at e; cases e
        | some p =>
          obtain ⟨v, h1⟩ := p
          rw [hr] at e
          simp only [Option.some.injEq] at e
          subst e
          have hn := nr_osem c1 slot (ev s.fr) o.op
          refine ⟨fun n h => M.stay _ _ _ _ n hr h, ⟨hn _ _ _ hr, M.wrote _ _ _ _ hr⟩, fun qs hq => ?_⟩
          obtain ⟨q1, q2⟩ := M.more hn hr hq
          rw [q1, q2]
          exact ⟨rfl, rfl⟩

theorem evalOps_more (hx : MoreX cx) : ∀ (ops : List IOper) (slot : Nat) (s s1 : St), evalOps c1 cx ops slot s = some s1 →
    (∀ n, On s.hp n → On s1.hp n) ∧ ∀ qs, Off qs s1.hp → evalOps c1 cx ops slot (s.plus qs) = some (s1.plus qs)
  | [], slot, s, s1, e => by
    simp only [evalOps, Option.some.injEq] at e
    subst e
    exact ⟨fun _ h => h, fun qs _ => rfl⟩
  | o :: r, slot, s, s1, e => by
    simp only [evalOps] at e ⊢
    cases h1 : step c1 cx slot o s with
    | none => rw [h1] at e; cases e
    | some t =>
      rw [h1] at e
      obtain ⟨a1, -, a2⟩ := step_more hx h1
      obtain ⟨b1, b2⟩ := evalOps_more hx r (slot + 1) t s1 e
      refine ⟨fun n h => b1 n (a1 n h), fun qs hq => ?_⟩
      rw [(a2 qs (hq.back b1)).1]
      exact b2 qs hq
theorem evalFeet_more (hx : MoreX cx) : ∀ (ops : List IOper) (slot : Nat) (s s1 : St) (fs : List Feet), evalFeet c1 cx ops slot s = some (s1, fs) →
    (∀ n, On s.hp n → On s1.hp n) ∧ (∀ f ∈ fs, f.on s1.hp) ∧ ∀ qs, Off qs s1.hp → evalFeet c1 cx ops slot (s.plus qs) = some (s1.plus qs, fs.map (Feet.plus qs))
  | [], slot, s, s1, fs, e => by
    simp only [evalFeet, Option.some.injEq, Prod.mk.injEq] at e
    obtain ⟨rfl, rfl⟩ := e
    exact ⟨fun _ h => h, fun f hf => by simp at hf, fun qs _ => rfl⟩
  | o :: r, slot, s, s1, fs, e => by
    simp only [evalFeet] at e ⊢
    cases h1 : step c1 cx slot o s with
    | none => rw [h1] at e; cases e
    | some t =>
      rw [h1] at e
      simp only [] at e
      cases h2 : evalFeet c1 cx r (slot + 1) t with
      | none => rw [h2] at e; cases e
      | some p =>
        rw [h2] at e
        simp only [Option.some.injEq, Prod.mk.injEq] at e
        obtain ⟨rfl, rfl⟩ := e
        obtain ⟨a1, a0, a2⟩ := step_more hx h1
        obtain ⟨b1, b0, b2⟩ := evalFeet_more hx r (slot + 1) t p.1 p.2 h2
        refine ⟨fun n h => b1 n (a1 n h), fun f hf => ?_, fun qs hq => ?_⟩
        · rcases List.mem_cons.1 hf with rfl | hf
          · exact a0.mono b1
          · exact b0 f hf
        · obtain ⟨c1', c2'⟩ := a2 qs (hq.back b1)
          rw [c1']
          simp only []
          rw [b2 qs hq]
          simp only [List.map_cons]
          rw [← c2']

theorem apart1_plus {qs : List (Nat × Ob)} {h : Hp} (hq : Off qs h) {x : Feet} (hx : x.on h) (i : Nat) : ∀ (fs : List Feet) (cs : List (List Nat)), (∀ f ∈ fs, f.on h) → apart1 (x.plus qs) i (fs.map (Feet.plus qs)) cs = apart1 x i fs cs
  | [], cs, _ => by cases cs <;> rfl
  | f :: fs, [], _ => rfl
  | f :: fs, c :: cs, hf => by
    simp only [List.map_cons, apart1]
    rw [clash_plus hq hx (hf f (List.mem_cons_self ..)), apart1_plus hq hx i fs cs fun g hg => hf g (List.mem_cons_of_mem _ hg)]
theorem apartAll_plus {qs : List (Nat × Ob)} {h : Hp} (hq : Off qs h) : ∀ (fs : List Feet) (i : Nat) (cs : List (List Nat)), (∀ f ∈ fs, f.on h) → apartAll (fs.map (Feet.plus qs)) i cs = apartAll fs i cs
  | [], i, cs, _ => by cases cs <;> rfl
  | f :: fs, i, [], _ => rfl
  | f :: fs, i, c :: cs, hf => by
    simp only [List.map_cons, apartAll]
    rw [apart1_plus hq (hf f (List.mem_cons_self ..)) i fs cs fun g hg => hf g (List.mem_cons_of_mem _ hg), apartAll_plus hq fs (i + 1) cs fun g hg => hf g (List.mem_cons_of_mem _ hg)]
theorem quiet_plus (qs : List (Nat × Ob)) : ∀ fs : List Feet, (fs.map (Feet.plus qs)).all quietF = fs.all quietF
  | [] => rfl
  | f :: fs => by
    simp only [List.map_cons, List.all_cons, quiet_plus qs fs]
    cases f <;> rfl

theorem evalRgn_more (hx : MoreX cx) {draw : Bool} {ops : List IOper} {keep : List Nat} {s s1 : St} (e : evalRgn c1 cx draw ops keep s = some s1) :
    (∀ n, On s.hp n → On s1.hp n) ∧ ∀ qs, Off qs s1.hp → evalRgn c1 cx draw ops keep (s.plus qs) = some (s1.plus qs) := by
  unfold evalRgn at e ⊢
  cases draw with
  | false =>
    simp only [Bool.false_eq_true, if_false] at e ⊢
    cases h1 : evalOps c1 cx ops s.nx { s with nx := s.nx + ops.length } with
    | none => rw [h1] at e; cases e
    | some t =>
      rw [h1] at e
      simp only [Option.some.injEq] at e
      subst e
      obtain ⟨a1, a2⟩ := evalOps_more hx _ _ _ _ h1
      refine ⟨a1, fun qs hq => ?_⟩
      have := a2 qs hq
      simp only [St.plus] at this ⊢
      rw [this]
  | true =>
    simp only [if_true] at e ⊢
    cases h1 : evalFeet c1 cx ops s.nx { s with nx := s.nx + ops.length } with
    | none => rw [h1] at e; cases e
    | some p =>
      rw [h1] at e
      simp only [] at e
      split at e
      case isFalse => cases e
      rename_i ho
      simp only [Option.some.injEq] at e
      subst e
      obtain ⟨a1, a0, a2⟩ := evalFeet_more hx _ _ _ p.1 p.2 h1
      refine ⟨a1, fun qs hq => ?_⟩
      have := a2 qs hq
      simp only [St.plus] at this ⊢
      rw [this]
      simp only []
      rw [if_pos]
      unfold orderOk at ho ⊢
      rw [quiet_plus, apartAll_plus hq p.2 0 _ a0]
      exact ho

theorem iter_more {f : St → Option (Ex × St)} (hf : ∀ s r s1, f s = some (r, s1) → (∀ n, On s.hp n → On s1.hp n) ∧ ∀ qs, Off qs s1.hp → f (s.plus qs) = some (r, s1.plus qs)) (keep : List Nat) : ∀ (m : Nat) (s : St) (r : Ex) (s1 : St), iter f keep m s = some (r, s1) →
    (∀ n, On s.hp n → On s1.hp n) ∧ ∀ qs, Off qs s1.hp → iter f keep m (s.plus qs) = some (r, s1.plus qs)
  | 0, s, r, s1, e => by simp [iter] at e
  | m + 1, s, r, s1, e => by
    simp only [iter] at e ⊢
    cases h1 : f s with
    | none => rw [h1] at e; cases e
    | some p =>
      obtain ⟨r1, t⟩ := p
      rw [h1] at e
      obtain ⟨a1, a2⟩ := hf s r1 t h1
      cases r1 with
      | norm =>
        obtain ⟨b1, b2⟩ := iter_more hf keep m _ r s1 e
        refine ⟨fun n h => b1 n (a1 n h), fun qs hq => ?_⟩
        rw [a2 qs (hq.back b1)]
        exact b2 qs hq
      | exit i =>
        simp only [Option.some.injEq, Prod.mk.injEq] at e
        obtain ⟨rfl, rfl⟩ := e
        exact ⟨a1, fun qs hq => by rw [a2 qs hq]⟩
      | ret =>
        simp only [Option.some.injEq, Prod.mk.injEq] at e
        obtain ⟨rfl, rfl⟩ := e
        exact ⟨a1, fun qs hq => by rw [a2 qs hq]⟩

theorem evalC_more (hx : MoreX cx) (k : Nat) : ∀ (ic : IC) (s : St) (r : Ex) (s1 : St), evalC c1 cx k ic s = some (r, s1) →
    (∀ n, On s.hp n → On s1.hp n) ∧ ∀ qs, Off qs s1.hp → evalC c1 cx k ic (s.plus qs) = some (r, s1.plus qs) := by
  intro ic
  induction ic with
  | skip =>
    intro s r s1 e
    simp only [evalC, Option.some.injEq, Prod.mk.injEq] at e ⊢
    obtain ⟨rfl, rfl⟩ := e
    exact ⟨fun _ h => h, fun qs _ => ⟨rfl, rfl⟩⟩
  | rgn draw ops keep =>
    intro s r s1 e
    simp only [evalC, Option.map_eq_some_iff, Prod.mk.injEq] at e ⊢
    obtain ⟨t, e1, rfl, rfl⟩ := e
    obtain ⟨a1, a2⟩ := evalRgn_more hx e1
    exact ⟨a1, fun qs hq => ⟨_, a2 qs hq, rfl, rfl⟩⟩
  | seq a b iha ihb =>
    intro s r s1 e
    simp only [evalC] at e ⊢
    cases h1 : evalC c1 cx k a s with
    | none => rw [h1] at e; cases e
    | some p =>
      obtain ⟨r1, t⟩ := p
      rw [h1] at e
      obtain ⟨a1, a2⟩ := iha s r1 t h1
      cases r1 with
      | norm =>
        obtain ⟨b1, b2⟩ := ihb t r s1 e
        refine ⟨fun n h => b1 n (a1 n h), fun qs hq => ?_⟩
        rw [a2 qs (hq.back b1)]
        exact b2 qs hq
      | exit i =>
        simp only [Option.some.injEq, Prod.mk.injEq] at e
        obtain ⟨rfl, rfl⟩ := e
        exact ⟨a1, fun qs hq => by rw [a2 qs hq]⟩
      | ret =>
        simp only [Option.some.injEq, Prod.mk.injEq] at e
        obtain ⟨rfl, rfl⟩ := e
        exact ⟨a1, fun qs hq => by rw [a2 qs hq]⟩
  | cond c a b iha ihb =>
    intro s r s1 e
    simp only [evalC] at e ⊢
    have hfr : ∀ qs, (s.plus qs).fr = s.fr := fun _ => rfl
    simp only [hfr]
    split at e
    · rename_i t ht
      cases t with
      | true => simpa [ht] using iha s r s1 e
      | false => simpa [ht] using ihb s r s1 e
    · cases e
  | block id b ih =>
    intro s r s1 e
    simp only [evalC] at e ⊢
    cases h1 : evalC c1 cx k b s with
    | none => rw [h1] at e; cases e
    | some p =>
      obtain ⟨r1, t⟩ := p
      rw [h1] at e
      obtain ⟨a1, a2⟩ := ih s r1 t h1
      cases r1 with
      | norm =>
        simp only [Option.some.injEq, Prod.mk.injEq] at e
        obtain ⟨rfl, rfl⟩ := e
        exact ⟨a1, fun qs hq => by rw [a2 qs hq]⟩
      | ret =>
        simp only [Option.some.injEq, Prod.mk.injEq] at e
        obtain ⟨rfl, rfl⟩ := e
        exact ⟨a1, fun qs hq => by rw [a2 qs hq]⟩
      | exit i =>
        simp only [] at e
        split at e
        · rename_i hi
          simp only [Option.some.injEq, Prod.mk.injEq] at e
          obtain ⟨rfl, rfl⟩ := e
          exact ⟨a1, fun qs hq => by rw [a2 qs hq]; simp [hi]⟩
        · rename_i hi
          simp only [Option.some.injEq, Prod.mk.injEq] at e
          obtain ⟨rfl, rfl⟩ := e
          exact ⟨a1, fun qs hq => by rw [a2 qs hq]; simp [hi]⟩
  | loop keep b ih =>
    intro s r s1 e
    simp only [evalC] at e ⊢
    exact iter_more ih keep k _ r s1 e
  | exit id =>
    intro s r s1 e
    simp only [evalC, Option.some.injEq, Prod.mk.injEq] at e ⊢
    obtain ⟨rfl, rfl⟩ := e
    exact ⟨fun _ h => h, fun qs _ => ⟨rfl, rfl⟩⟩
  | ret =>
    intro s r s1 e
    simp only [evalC, Option.some.injEq, Prod.mk.injEq] at e ⊢
    obtain ⟨rfl, rfl⟩ := e
    exact ⟨fun _ h => h, fun qs _ => ⟨rfl, rfl⟩⟩
  | scope b ih =>
    intro s r s1 e
    simp only [evalC] at e ⊢
    exact ih s r s1 e
  | stop =>
    intro s r s1 e
    simp [evalC] at e

/-- a primitive's part of it -/
def PrimMore (p : Call1 → CallX → List AV → Hp → Nat → Option (AV × Hp × Nat)) : Prop :=
  ∀ c1 cx, MoreX cx → ∀ args h nx r h' nx', p c1 cx args h nx = some (r, h', nx') → (∀ n, On h n → On h' n) ∧ ∀ qs, Off qs h' → p c1 cx args (app_ qs h) nx = some (r, app_ qs h', nx')

theorem evalF_more {prog : Nat → Option IFn} (hp : ∀ f ir p, prog f = some ir → ir.prim = some p → PrimMore p) : ∀ k, MoreX (evalF c1 prog k) := by
  intro k
  induction k with
  | zero => intro f args h nx r h' nx' e; simp [evalF] at e
  | succ k ih =>
    intro f args h nx r h' nx' e
    simp only [evalF] at e ⊢
    cases hf : prog f with
    | none => rw [hf] at e; cases e
    | some ir =>
      rw [hf] at e
      simp only [] at e ⊢
      cases hpr : ir.prim with
      | some p =>
        rw [hpr] at e
        exact hp f ir p hf hpr c1 _ ih args h nx r h' nx' e
      | none =>
        rw [hpr] at e
        simp only [] at e ⊢
        split at e
        case isFalse => cases e
        rename_i hl
        have fin : ∀ (t : St) (ex : Ex), (ex = .norm ∨ ex = .ret) → evalC c1 (evalF c1 prog k) k ir.body ⟨params args 0, h, nx⟩ = some (ex, t) → (match (resAll t.fr ir.res).run t.hp with | some (v, h) => some (v, h, t.nx) | none => none) = some (r, h', nx') →
            (∀ n, On h n → On h' n) ∧ ∀ qs, Off qs h' → evalC c1 (evalF c1 prog k) k ir.body ⟨params args 0, app_ qs h, nx⟩ = some (ex, t.plus qs) ∧
              (match (resAll t.fr ir.res).run (app_ qs t.hp) with | some (v, h) => some (v, h, t.nx) | none => none) = some (r, app_ qs h', nx') := by
          intro t ex _ h1 h2
          obtain ⟨a1, a2⟩ := evalC_more ih k _ _ _ _ h1
          cases h3 : (resAll t.fr ir.res).run t.hp with
          | none => rw [h3] at h2; cases h2
          | some q =>
            obtain ⟨v, h4⟩ := q
            rw [h3] at h2
            simp only [Option.some.injEq, Prod.mk.injEq] at h2
            obtain ⟨rfl, rfl, rfl⟩ := h2
            have b1 := fun n => M.stay _ _ _ _ n h3
            refine ⟨fun n hn => b1 n (a1 n hn), fun qs hq => ⟨a2 qs (hq.back b1), ?_⟩⟩
            rw [(M.more (nr_resAll _ _) h3 hq).1]
        cases h1 : evalC c1 (evalF c1 prog k) k ir.body ⟨params args 0, h, nx⟩ with
        | none => rw [h1] at e; cases e
        | some q =>
          obtain ⟨ex, t⟩ := q
          rw [h1] at e
          cases ex with
          | norm =>
            obtain ⟨b1, b2⟩ := fin t _ (.inl rfl) h1 e
            refine ⟨b1, fun qs hq => ?_⟩
            rw [if_pos hl, (b2 qs hq).1]
            exact (b2 qs hq).2
          | ret =>
            obtain ⟨b1, b2⟩ := fin t _ (.inr rfl) h1 e
            refine ⟨b1, fun qs hq => ?_⟩
            rw [if_pos hl, (b2 qs hq).1]
            exact (b2 qs hq).2
          | exit i => cases e
end
end Arx

/-
  OPERATIONS THAT MEET NOWHERE MAY CHANGE PLACES.
-/
namespace Arx
open Go Arb

def GE (h h' : Fr) : Prop := ∀ n, get h n = get h' n
theorem GE.refl (h : Fr) : GE h h := fun _ => rfl
theorem GE.symm {h h' : Fr} (e : GE h h') : GE h' h := fun n => (e n).symm
theorem GE.trans {a b c : Fr} (e : GE a b) (f : GE b c) : GE a c := fun n => (e n).trans (f n)
theorem GE.set {h h' : Fr} (e : GE h h') (n : Nat) (x : AV) : GE (set h n x) (set h' n x) := fun m => by simp [get_set, e m]

def oneR : Opd → List Nat
  | .t n => [n]
  | .c _ => []
def optR : Option Opd → List Nat
  | some x => oneR x
  | none => []
def manyR : List Opd → List Nat
  | [] => []
  | x :: r => oneR x ++ manyR r
def partR {α : Type} (f : α → Opd) : List α → List Nat
  | [] => []
  | x :: r => oneR (f x) ++ partR f r

/-- the slots that an operation looks at -/
def readsOf : IOp → List Nat
  | .mov x | .box _ x | .fadr _ x | .fld _ _ _ x | .un _ x | .cvi _ x | .cvs x | .cvb x | .slz _ x | .clr _ _ x | .len _ x | .ext x _ | .nchk x | .load _ _ x | .capn x | .mks _ _ x | .aload _ x | .toU x | .noesc x | .ofU x | .usd x => oneR x
  | .alloc _ _ | .mmk | .dead | .bs0 _ => []
  | .mlen x => oneR x
  | .mget _ _ _ _ x y | .mdel _ x y => oneR x ++ oneR y
  | .mput _ x y z | .acas _ x y z => oneR x ++ (oneR y ++ oneR z)
  | .pick c a b => oneR c ++ (oneR a ++ oneR b)
  | .build _ ps => partR (fun p => p.2.2) ps
  | .bsl _ _ _ ps => partR (fun p => p.2) ps
  | .store _ x y | .iarr _ _ x y | .isl _ x y | .xarr _ _ _ x y | .xstr x y | .bin _ _ x y | .eqc _ _ x y | .app _ _ x y | .appn _ _ x y | .astore x y | .aadd _ x y | .ustr x y => oneR x ++ oneR y
  | .slc _ x lo hi | .sla _ x lo hi | .slcs x lo hi => oneR x ++ (optR lo ++ optR hi)
  | .mn x ys | .mx x ys => oneR x ++ manyR ys
  | .mkf _ fs cs => manyR fs ++ manyR cs
  | .call _ f as | .scall f as => oneR f ++ manyR as
def readsO (o : IOper) : List Nat := readsOf o.op ++ (match o.gd with | some (t, _) => [t] | none => [])

theorem manyR_map {ρ ρ' : Opd → AV} : ∀ {l : List Opd}, (∀ x : Opd, (∀ n ∈ oneR x, n ∈ manyR l) → ρ x = ρ' x) → l.map ρ = l.map ρ'
  | [], _ => rfl
  | x :: r, h => by
    simp only [List.map_cons, h x fun n hn => by simp [manyR, hn]]
    rw [manyR_map (l := r) fun y hy => h y fun n hn => by simp [manyR, hy n hn]]
theorem partR_map {α β : Type} {f : α → Opd} {ρ ρ' : Opd → AV} {F : α → AV → M β} : ∀ {l : List α}, (∀ x : Opd, (∀ n ∈ oneR x, n ∈ partR f l) → ρ x = ρ' x) →
    M.mapL (fun p => F p (ρ (f p))) l = M.mapL (fun p => F p (ρ' (f p))) l
  | [], _ => rfl
  | x :: r, h => by
    simp only [M.mapL]
    rw [h (f x) fun n hn => by simp [partR, hn], partR_map (l := r) fun y hy => h y fun n hn => by simp [partR, hy n hn]]

theorem osem_congr {call : Call1} {slot : Nat} {ρ ρ' : Opd → AV} {op : IOp} (h : ∀ x : Opd, (∀ n ∈ oneR x, n ∈ readsOf op) → ρ x = ρ' x) : osem call slot ρ op = osem call slot ρ' op := by
  cases op <;> simp only [readsOf] at h <;> simp only [osem]
  case pick c a b => rw [h c fun n hn => by simp [hn], h a fun n hn => by simp [hn], h b fun n hn => by simp [hn]]
  case build z ps => rw [partR_map (F := fun p v => (cellsM v).bind fun l => (M.ok (l.length == p.2.1 && Nat.ble (p.1 + p.2.1) z.length)).bind fun _ => .ret (p.1, l)) h]
  case bsl e z n ps => rw [partR_map (F := fun p v => (cellsM v).bind fun xs => (M.ok (xs.length == e && Nat.blt p.1 n)).bind fun _ => M.ret (p.1, xs)) h]
  case slc e x lo hi =>
    rw [h x fun n hn => by simp [hn]]
    have h1 : lo.map ρ = lo.map ρ' := by cases lo with | none => rfl | some l => simp [h l fun n hn => by simp [optR, hn]]
    have h2 : hi.map ρ = hi.map ρ' := by cases hi with | none => rfl | some l => simp [h l fun n hn => by simp [optR, hn]]
    rw [h1, h2]
  case sla n' x lo hi =>
    rw [h x fun n hn => by simp [hn]]
    have h1 : lo.map ρ = lo.map ρ' := by cases lo with | none => rfl | some l => simp [h l fun n hn => by simp [optR, hn]]
    have h2 : hi.map ρ = hi.map ρ' := by cases hi with | none => rfl | some l => simp [h l fun n hn => by simp [optR, hn]]
    rw [h1, h2]
  case slcs x lo hi =>
    rw [h x fun n hn => by simp [hn]]
    have h1 : lo.map ρ = lo.map ρ' := by cases lo with | none => rfl | some l => simp [h l fun n hn => by simp [optR, hn]]
    have h2 : hi.map ρ = hi.map ρ' := by cases hi with | none => rfl | some l => simp [h l fun n hn => by simp [optR, hn]]
    rw [h1, h2]
  case mn x ys => rw [h x fun n hn => by simp [hn], manyR_map (l := ys) fun y hy => h y fun n hn => by simp [hy n hn]]
  case mx x ys => rw [h x fun n hn => by simp [hn], manyR_map (l := ys) fun y hy => h y fun n hn => by simp [hy n hn]]
  case mkf f fs ys => rw [manyR_map (l := fs) fun y hy => h y fun n hn => by simp [hy n hn], manyR_map (l := ys) fun y hy => h y fun n hn => by simp [hy n hn]]
  case call mode f ys => rw [h f fun n hn => by simp [hn], manyR_map (l := ys) fun y hy => h y fun n hn => by simp [hy n hn]]
  case acas qs x y z => rw [h x fun n hn => by simp [hn], h y fun n hn => by simp [hn], h z fun n hn => by simp [hn]]
  case mput qs x y z => rw [h x fun n hn => by simp [hn], h y fun n hn => by simp [hn], h z fun n hn => by simp [hn]]
  case mget ok agg qs z x y => rw [h x fun n hn => by simp [hn], h y fun n hn => by simp [hn]]
  case mdel qs x y => rw [h x fun n hn => by simp [hn], h y fun n hn => by simp [hn]]
  case store sz x y => rw [h x fun n hn => by simp [hn], h y fun n hn => by simp [hn]]
  case iarr len e x y => rw [h x fun n hn => by simp [hn], h y fun n hn => by simp [hn]]
  case isl e x y => rw [h x fun n hn => by simp [hn], h y fun n hn => by simp [hn]]
  case xarr a len e x y => rw [h x fun n hn => by simp [hn], h y fun n hn => by simp [hn]]
  case xstr x y => rw [h x fun n hn => by simp [hn], h y fun n hn => by simp [hn]]
  case bin op q x y => rw [h x fun n hn => by simp [hn], h y fun n hn => by simp [hn]]
  case eqc neg qs x y => rw [h x fun n hn => by simp [hn], h y fun n hn => by simp [hn]]
  case appn e z x y => rw [h x fun n hn => by simp [hn], h y fun n hn => by simp [hn]]
  case ustr x y => rw [h x fun n hn => by simp [hn], h y fun n hn => by simp [hn]]
  case astore x y => rw [h x fun n hn => by simp [hn], h y fun n hn => by simp [hn]]
  case aadd kk x y => rw [h x fun n hn => by simp [hn], h y fun n hn => by simp [hn]]
  case app e byte x y => rw [h x fun n hn => by simp [hn], h y fun n hn => by simp [hn]]
  all_goals first | rfl | (rename_i x; rw [h x fun n hn => hn]) | (rename_i x _; rw [h x fun n hn => hn])


def SE (s s' : St) : Prop := GE s.fr s'.fr ∧ s.hp = s'.hp ∧ s.nx = s'.nx
theorem SE.refl (s : St) : SE s s := ⟨.refl _, rfl, rfl⟩
theorem SE.symm {s s' : St} (h : SE s s') : SE s' s := ⟨h.1.symm, h.2.1.symm, h.2.2.symm⟩
theorem SE.trans {a b c : St} (h : SE a b) (h' : SE b c) : SE a c := ⟨h.1.trans h'.1, h.2.1.trans h'.2.1, h.2.2.trans h'.2.2⟩
theorem GE.putD {fr fr' : Fr} (e : GE fr fr') (d : Option Nat) (v : AV) : GE (putD fr d v) (putD fr' d v) := by
  cases d with
  | none => exact e
  | some d => exact e.set d v
theorem putD_ne {fr : Fr} {d : Option Nat} {v : AV} {n : Nat} (h : d ≠ some n) : get (putD fr d v) n = get fr n := by
  cases d with
  | none => rfl
  | some d => simp [putD, get_set, show d ≠ n from fun e => h (by rw [e])]
theorem putD_comm {fr : Fr} {d d' : Option Nat} {v v' : AV} (h : d ≠ d' ∨ d = none) : GE (putD (putD fr d v) d' v') (putD (putD fr d' v') d v) := by
  intro n
  cases d with
  | none => rfl
  | some d =>
    cases d' with
    | none => rfl
    | some d' =>
      have hne : d ≠ d' := fun e => by rcases h with h | h; exact h (by rw [e]); cases h
      simp only [putD, get_set]
      by_cases h1 : d' = n
      · have : d ≠ n := fun e => hne (e.trans h1.symm)
        simp [h1, this]
      · simp [h1]

theorem ev_same {fr fr' : Fr} {l : List Nat} (h : ∀ n ∈ l, get fr n = get fr' n) (x : Opd) (hx : ∀ n ∈ oneR x, n ∈ l) : ev fr x = ev fr' x := by
  cases x with
  | c v => rfl
  | t n => simp only [ev]; rw [h n (hx n (by simp [oneR]))]

section
variable {c1 : Call1} {cx : CallX}

/-- what a step did -/
inductive Did where
  | m (ps : List (Nat × Ob))
  | c (h0 h1 : Hp) (n0 n1 : Nat)
def Did.ok : Did → Feet → St → St → Prop
  | .m ps, .m f, s, s1 => s1.hp = app_ ps s.hp ∧ s1.nx = s.nx ∧ ∀ p ∈ ps, p.1 ∈ f.2
  | .c h0 h1 n0 n1, .c k0 k1, s, s1 => s.hp = h0 ∧ s1.hp = h1 ∧ s.nx = n0 ∧ s1.nx = n1 ∧ k0 = h0 ∧ k1 = h1
  | _, _, _, _ => False

/-- a step from a state that looks alike to it -/
theorem step_like {slot : Nat} {o : IOper} {s s' s1 : St} (e : step c1 cx slot o s = some s1) (hf : ∀ n ∈ readsO o, get s.fr n = get s'.fr n)
    (hh : match footOf c1 slot o s s1.hp with | .m f => ∀ n ∈ f.1, get s.hp n = get s'.hp n | .c _ _ => s.hp = s'.hp ∧ s.nx = s'.nx) :
    ∃ s1' v d, step c1 cx slot o s' = some s1' ∧ footOf c1 slot o s' s1'.hp = footOf c1 slot o s s1.hp ∧ s1.fr = putD s.fr o.dst v ∧ s1'.fr = putD s'.fr o.dst v ∧ Did.ok d (footOf c1 slot o s s1.hp) s s1 ∧ Did.ok d (footOf c1 slot o s s1.hp) s' s1' := by
  have hw : wants s'.fr o.gd = wants s.fr o.gd := by
    cases hg : o.gd with
    | none => rfl
    | some g =>
      simp only [wants]
      rw [hf g.1 (by simp [readsO, hg])]
  have hev : ∀ x : Opd, (∀ n ∈ oneR x, n ∈ readsOf o.op) → ev s'.fr x = ev s.fr x := fun x hx => (ev_same hf x fun n hn => by simp [readsO, hx n hn]).symm
  have ho : osem c1 slot (ev s'.fr) o.op = osem c1 slot (ev s.fr) o.op := osem_congr hev
  unfold step at e ⊢
  unfold footOf at hh ⊢
  rw [hw, ho]
  cases hwv : wants s.fr o.gd with
  | none => rw [hwv] at e; cases e
  | some b =>
    rw [hwv] at e hh
    cases b with
    | false =>
      simp only [Option.some.injEq] at e
      subst e
      exact ⟨_, .tup [], .m [], rfl, rfl, rfl, rfl, ⟨rfl, rfl, fun p hp => by simp at hp⟩, ⟨rfl, rfl, fun p hp => by simp at hp⟩⟩
    | true =>
      simp only [] at e hh ⊢
      cases hs : isS o.op with
      | some fa =>
        rw [hs] at e hh
        simp only [] at e hh ⊢
        obtain ⟨f, as⟩ := fa
        obtain ⟨q1, q2⟩ := hh
        have hop : o.op = .scall f as := by
          generalize o.op = op at hs
          cases op <;> simp [isS] at hs
          obtain ⟨rfl, rfl⟩ := hs; rfl
        have hfe : ev s'.fr f = ev s.fr f := hev f fun n hn => by rw [hop]; simp [readsOf, hn]
        have hae : as.map (ev s'.fr) = as.map (ev s.fr) := manyR_map (l := as) fun x hx => hev x fun n hn => by rw [hop]; simp [readsOf, hx n hn]
        rw [hfe, hae, ← q1, ← q2]
        cases hcl : callee (ev s.fr f) with
        | none => rw [hcl] at e; cases e
        | some q =>
          rw [hcl] at e
          simp only [] at e ⊢
          cases hr : cx q.1 (q.2.1 ++ (as.map (ev s.fr) ++ q.2.2)) s.hp s.nx with
          | none => rw [hr] at e; cases e
          | some p =>
            obtain ⟨v, h1, n1⟩ := p
            rw [hr] at e
            simp only [Option.some.injEq] at e
            subst e
            exact ⟨_, v, .c s.hp h1 s.nx n1, rfl, rfl, rfl, rfl, ⟨rfl, rfl, rfl, rfl, rfl, rfl⟩, ⟨q1.symm, rfl, q2.symm, rfl, rfl, rfl⟩⟩
      | none =>
        rw [hs] at e hh
        simp only [] at e hh ⊢
        cases hr : (osem c1 slot (ev s.fr) o.op).run s.hp with
        | none => rw [hr] at e; cases e
        | some p =>
          obtain ⟨v, h1⟩ := p
          rw [hr] at e
          simp only [Option.some.injEq] at e
          subst e
          obtain ⟨ps, e1, e2, e3, e4⟩ := M.frame _ _ s'.hp _ _ hr hh
          rw [e2]
          exact ⟨_, v, .m ps, rfl, by rw [e3], rfl, rfl, ⟨e1, rfl, e4⟩, ⟨rfl, rfl, e4⟩⟩

theorem foot_self (f : Feet) (s : St) : match f with | .m f => ∀ n ∈ f.1, get s.hp n = get s.hp n | .c _ _ => s.hp = s.hp ∧ s.nx = s.nx := by cases f <;> simp

theorem step_ext {slot : Nat} {o : IOper} {s s' s1 : St} (e : step c1 cx slot o s = some s1) (h : SE s s') :
    ∃ s1', step c1 cx slot o s' = some s1' ∧ footOf c1 slot o s' s1'.hp = footOf c1 slot o s s1.hp ∧ SE s1 s1' := by
  obtain ⟨h1, h2, h3⟩ := h
  obtain ⟨s1', v, d, e1, e2, e3, e4, e5, e6⟩ := step_like e (fun n _ => h1 n) (by rw [← h2, ← h3]; exact foot_self _ _)
  refine ⟨s1', e1, e2, ?_, ?_, ?_⟩
  · rw [e3, e4]; exact h1.putD _ _
  · generalize footOf c1 slot o s s1.hp = f at e5 e6
    cases d <;> cases f <;> simp only [Did.ok] at e5 e6
    · rw [e5.1, e6.1, h2]
    · rw [e5.2.1, e6.2.1]
  · generalize footOf c1 slot o s s1.hp = f at e5 e6
    cases d <;> cases f <;> simp only [Did.ok] at e5 e6
    · rw [e5.2.1, e6.2.1, h3]
    · rw [e5.2.2.2.1, e6.2.2.2.1]

/-- they meet in no slot -/
def apartT (x y : IOper) : Bool :=
  (match x.dst with | some d => !(readsO y).contains d && y.dst != some d | none => true) && (match y.dst with | some d => !(readsO x).contains d | none => true)
theorem apartT_spec {x y : IOper} (h : apartT x y = true) : (∀ d, x.dst = some d → d ∉ readsO y) ∧ (x.dst ≠ y.dst ∨ x.dst = none) ∧ ∀ d, y.dst = some d → d ∉ readsO x := by
  unfold apartT at h
  simp only [Bool.and_eq_true] at h
  obtain ⟨h1, h2⟩ := h
  refine ⟨fun d hd => ?_, ?_, fun d hd => ?_⟩
  · rw [hd] at h1; simp at h1; exact h1.1
  · cases hx : x.dst with
    | none => exact .inr rfl
    | some d =>
      rw [hx] at h1; simp at h1
      exact .inl fun e => h1.2 e.symm
  · rw [hd] at h2; simpa using h2

theorem meets_spec {a b : List Nat} (h : meets a b = false) : ∀ n ∈ a, n ∉ b := by
  intro n hn hb
  have : meets a b = true := by simp only [meets, List.any_eq_true, List.contains_iff_mem]; exact ⟨n, hn, hb⟩
  rw [h] at this; cases this

theorem nil_of {ps : List (Nat × Ob)} {l : List Nat} (h : l = []) (q : ∀ p ∈ ps, p.1 ∈ l) : ps = [] := List.eq_nil_iff_forall_not_mem.2 fun p hp => by have := q p hp; simp [h] at this
theorem clash_cm {h0 h1 : Hp} {y : List Nat × List Nat} (h : clash (.c h0 h1) (.m y) = false) : (y.2 = [] ∧ ∀ n ∈ y.1, get h0 n = get h1 n) ∨ ∀ n ∈ y.1 ++ y.2, get h1 n = none := by
  simp only [clash, Bool.not_eq_false', Bool.or_eq_true, Bool.and_eq_true, List.isEmpty_iff, List.all_eq_true, Option.isNone_iff_eq_none] at h
  rcases h with h | h
  · exact .inl ⟨h.1, fun n hn => obB_eq (h.2 n hn)⟩
  · exact .inr h
theorem clash_mc {h0 h1 : Hp} {y : List Nat × List Nat} (h : clash (.m y) (.c h0 h1) = false) : y.2 = [] ∧ ∀ n ∈ y.1, get h0 n = get h1 n := by
  simp only [clash, Bool.not_eq_false', Bool.and_eq_true, List.isEmpty_iff, List.all_eq_true] at h
  exact ⟨h.1, fun n hn => obB_eq (h.2 n hn)⟩
theorem app_same {n : Nat} : ∀ (qs : List (Nat × Ob)) {a b : Hp}, get a n = get b n → get (app_ qs a) n = get (app_ qs b) n
  | [], a, b, h => h
  | q :: qs, a, b, h => app_same qs (by simp only [get_set, h])
theorem app_app (qs ps : List (Nat × Ob)) (h : Hp) : app_ (qs ++ ps) h = app_ ps (app_ qs h) := List.foldl_append

/-- a step that did that; a call: as it would be without the objects qs, that it never met -/
def Stp (c1 : Call1) (cx : CallX) (slot : Nat) (o : IOper) (f : Feet) (s s1 : St) : Prop :=
  match f with
  | .m x => step c1 cx slot o s = some s1 ∧ footOf c1 slot o s s1.hp = .m x
  | .c h0 h1 => ∃ qs t, Off qs h1 ∧ t.hp = h1 ∧ s.hp = app_ qs h0 ∧ step c1 cx slot o { s with hp := h0 } = some t ∧ footOf c1 slot o { s with hp := h0 } h1 = .c h0 h1 ∧ s1 = t.plus qs
theorem Stp.of {slot : Nat} {o : IOper} {s s1 : St} (e : step c1 cx slot o s = some s1) : Stp c1 cx slot o (footOf c1 slot o s s1.hp) s s1 := by
  cases hf : footOf c1 slot o s s1.hp with
  | m x => exact ⟨e, hf⟩
  | c h0 h1 =>
    have hh : h0 = s.hp ∧ h1 = s1.hp := by
      unfold footOf at hf
      split at hf
      · split at hf
        · cases hf; exact ⟨rfl, rfl⟩
        · cases hf
      · cases hf
    obtain ⟨rfl, rfl⟩ := hh
    exact ⟨[], s1, fun p hp => by simp at hp, rfl, rfl, e, hf, rfl⟩
theorem Stp.step (hm : MoreX cx) {slot : Nat} {o : IOper} {f : Feet} {s s1 : St} (h : Stp c1 cx slot o f s s1) : step c1 cx slot o s = some s1 := by
  cases f with
  | m x => exact h.1
  | c h0 h1 =>
    obtain ⟨qs, t, h1, h2, h3, h4, h5, rfl⟩ := h
    have := (step_more hm h4).2.2 qs (by rw [h2]; exact h1)
    rw [← this.1]
    simp only [St.plus, ← h3]

/-- what two runs of one step have in common -/
def Alike (qs' : List (Nat × Ob)) (s s1 s' s1' : St) : Feet → Prop
  | .m x => ∃ ps, s1.hp = app_ ps s.hp ∧ s1'.hp = app_ ps s'.hp ∧ s1.nx = s.nx ∧ s1'.nx = s'.nx ∧ ∀ p ∈ ps, p.1 ∈ x.2
  | .c _ h1 => s1.nx = s1'.nx ∧ s1'.hp = app_ qs' h1
/-- the same step from another state -/
theorem Stp.like {slot : Nat} {o : IOper} {f : Feet} {s s' s1 : St} (qs' : List (Nat × Ob)) (h : Stp c1 cx slot o f s s1) (hf : ∀ n ∈ readsO o, get s.fr n = get s'.fr n)
    (hh : match f with | .m x => ∀ n ∈ x.1, get s.hp n = get s'.hp n | .c h0 h1 => s.nx = s'.nx ∧ Off qs' h1 ∧ s'.hp = app_ qs' h0) :
    ∃ s1' v, Stp c1 cx slot o f s' s1' ∧ s1.fr = putD s.fr o.dst v ∧ s1'.fr = putD s'.fr o.dst v ∧
      Alike qs' s s1 s' s1' f := by
  cases f with
  | m x =>
    obtain ⟨e, hx⟩ := h
    obtain ⟨s1', v, d, q1, q2, q3, q4, q5, q6⟩ := step_like e hf (by rw [hx]; exact hh)
    rw [hx] at q5 q6 q2
    cases d <;> simp only [Did.ok] at q5 q6
    exact ⟨s1', v, ⟨q1, q2⟩, q3, q4, _, q5.1, q6.1, q5.2.1, q6.2.1, q5.2.2⟩
  | c h0 h1 =>
    obtain ⟨qs, t, a1, a2, a3, a4, a5, rfl⟩ := h
    obtain ⟨hn, b1, b2⟩ := hh
    obtain ⟨t', v, d, q1, q2, q3, q4, q5, q6⟩ := step_like (s' := { s' with hp := h0 }) a4 hf (by rw [a2, a5]; exact ⟨rfl, hn⟩)
    rw [a2, a5] at q5 q6 q2
    cases d <;> simp only [Did.ok] at q5 q6
    have ht' : t'.hp = h1 := q6.2.1.trans q6.2.2.2.2.2.symm
    refine ⟨t'.plus qs', v, ⟨qs', t', b1, ht', b2, q1, by rw [← ht'] at q2 ⊢; exact q2, rfl⟩, q3, q4, ?_, ?_⟩
    · show t.nx = t'.nx
      rw [q5.2.2.2.1, q6.2.2.2.1]
    · show app_ qs' t'.hp = app_ qs' h1
      rw [ht']

theorem Stp.ext {slot : Nat} {o : IOper} {f : Feet} {s s' s1 : St} (h : Stp c1 cx slot o f s s1) (e : SE s s') : ∃ s1', Stp c1 cx slot o f s' s1' ∧ SE s1 s1' := by
  obtain ⟨h1, h2, h3⟩ := e
  cases f with
  | m x =>
    obtain ⟨s1', v, q1, q2, q3, ps, q4, q5, q6, q7, -⟩ := h.like [] (fun n _ => h1 n) (fun n _ => by rw [h2])
    exact ⟨s1', q1, by rw [q2, q3]; exact h1.putD _ _, by rw [q4, q5, h2], by rw [q6, q7, h3]⟩
  | c h0 h1' =>
    have h' := h
    obtain ⟨qs, t, a1, a2, a3, a4, a5, a6⟩ := h'
    obtain ⟨s1', v, q1, q2, q3, q4, q5⟩ := h.like qs (s' := s') (fun n _ => h1 n) ⟨h3, a1, by rw [← h2]; exact a3⟩
    refine ⟨s1', q1, by rw [q2, q3]; exact h1.putD _ _, ?_, q4⟩
    rw [q5, a6]
    show app_ qs t.hp = _
    rw [a2]

theorem swap (hm : MoreX cx) {sx sy : Nat} {x y : IOper} {fx fy : Feet} {s s1 s2 : St} (e1 : Stp c1 cx sx x fx s s1) (e2 : Stp c1 cx sy y fy s1 s2) (hT : apartT x y = true) (hc : clash fx fy = false) :
    ∃ t1 t2, Stp c1 cx sy y fy s t1 ∧ Stp c1 cx sx x fx t1 t2 ∧ SE s2 t2 := by
  obtain ⟨a1, a2, a3⟩ := apartT_spec hT
  -- what is put where, in both orders
  have fin : ∀ {v u v' : AV} {t1 t2 : St}, s1.fr = putD s.fr x.dst v → s2.fr = putD s1.fr y.dst u → t1.fr = putD s.fr y.dst u → t2.fr = putD t1.fr x.dst v' → s1.fr = putD s.fr x.dst v' → GE s2.fr t2.fr := by
    intro v u v' t1 t2 p1 p2 p3 p4 p5
    rw [p2, p5, p4, p3]
    exact putD_comm a2
  cases fx with
  | m x' =>
    cases fy with
    | m y' =>
      obtain ⟨_, v, _, f1, _, ps, n1, _, n2, _, n3⟩ := e1.like (s' := s) [] (fun n _ => rfl) (fun n _ => rfl)
      simp only [clash, Bool.or_eq_false_iff] at hc
      have c1' := meets_spec hc.1
      have c2' := meets_spec hc.2
      obtain ⟨t1, u, q1, f2, f3, qs, m1, m2, m3, m4, m5⟩ := e2.like (s' := s) [] (fun n hn => by rw [f1]; exact putD_ne fun h => a1 n h hn) (fun n hn => by
        rw [n1]
        exact app_get (fun p hp h => c1' _ (n3 p hp) (by rw [h]; simp [hn])) _)
      obtain ⟨t2, v', r1, f4, f5, ps', k1, k2, k3, k4, k5⟩ := e1.like (s' := t1) [] (fun n hn => by rw [f3]; exact (putD_ne fun h => a3 n h hn).symm) (fun n hn => by
        rw [m2]
        exact (app_get (fun p hp h => c2' _ (m5 p hp) (by rw [h]; simp [hn])) _).symm)
      refine ⟨t1, t2, q1, r1, fin f1 f2 f3 f5 f4, ?_, by rw [m3, n2, k4, m4]⟩
      rw [k2, m2, m1, k1]
      exact app_comm (fun p hp q hq h => c1' _ (k5 p hp) (by rw [h]; simp [m5 q hq])) _
    | c h0 h1 =>
      obtain ⟨_, v, _, f1, _, ps, n1, _, n2, _, n3⟩ := e1.like (s' := s) [] (fun n _ => rfl) (fun n _ => rfl)
      obtain ⟨d1, d2⟩ := clash_mc hc
      obtain rfl := nil_of d1 n3
      have n1' : s1.hp = s.hp := n1
      have e2' := e2
      obtain ⟨qs, t, b1, b2, b3, b4, b5, rfl⟩ := e2'
      obtain ⟨t1, u, q1, f2, f3, m1, m2⟩ := e2.like (s' := s) qs (fun n hn => by rw [f1]; exact putD_ne fun h => a1 n h hn) ⟨n2, b1, by rw [← n1']; exact b3⟩
      obtain ⟨t2, v', r1, f4, f5, ps', k1, k2, k3, k4, k5⟩ := e1.like (s' := t1) [] (fun n hn => by rw [f3]; exact (putD_ne fun h => a3 n h hn).symm) (fun n hn => by
        rw [m2, ← n1', b3]
        exact app_same qs (d2 n hn))
      obtain rfl := nil_of d1 k5
      refine ⟨t1, t2, q1, r1, fin f1 f2 f3 f5 f4, ?_, by rw [k4, m1]⟩
      have k2' : t2.hp = t1.hp := k2
      rw [k2', m2]
      show app_ qs t.hp = _
      rw [b2]
  | c h0 h1 =>
    cases fy with
    | c k0 k1 => cases hc
    | m y' =>
      have e1' := e1
      obtain ⟨qs, t, b1, b2, b3, b4, b5, b6⟩ := e1'
      have hs1 : s1.hp = app_ qs h1 := by rw [b6]; show app_ qs t.hp = _; rw [b2]
      have hstay : ∀ n, get h1 n = none → get h0 n = none := by
        intro n hn
        cases hg : get h0 n with
        | none => rfl
        | some o =>
          have := (step_more hm b4).1 n (by show On h0 n; unfold On; rw [hg]; rfl)
          rw [b2] at this
          unfold On at this
          rw [hn] at this; cases this
      obtain ⟨_, v, _, f1, _, n1, _⟩ := e1.like (s' := s) qs (fun n _ => rfl) ⟨rfl, b1, b3⟩
      have hreads : ∀ n ∈ y'.1, get s1.hp n = get s.hp n := by
        intro n hn
        rw [hs1, b3]
        refine app_same qs ?_
        rcases clash_cm hc with ⟨-, h⟩ | h
        · exact (h n hn).symm
        · have := h n (by simp [hn])
          rw [this, hstay n this]
      obtain ⟨t1, u, q1, f2, f3, ps, m1, m2, m3, m4, m5⟩ := e2.like (s' := s) [] (fun n hn => by rw [f1]; exact putD_ne fun h => a1 n h hn) hreads
      have hoff : Off ps h1 := by
        intro p hp
        rcases clash_cm hc with ⟨h, -⟩ | h
        · have := m5 p hp; simp [h] at this
        · exact h _ (by simp [m5 p hp])
      have hoff' : Off (qs ++ ps) h1 := fun p hp => (List.mem_append.1 hp).elim (b1 p) (hoff p)
      obtain ⟨t2, v', r1, f4, f5, k1, k2⟩ := e1.like (s' := t1) (qs ++ ps) (fun n hn => by rw [f3]; exact (putD_ne fun h => a3 n h hn).symm) ⟨m4.symm, hoff', by rw [m2, b3, app_app]⟩
      refine ⟨t1, t2, q1, r1, fin f1 f2 f3 f5 f4, ?_, by rw [m3, k1]⟩
      rw [k2, m1, hs1, app_app]

/-- a run: each operation with its place, and with what it touches -/
inductive Run (c1 : Call1) (cx : CallX) (s0 : Nat) : List (Nat × IOper × Feet) → St → St → Prop
  | nil {s s' : St} (h : SE s s') : Run c1 cx s0 [] s s'
  | cons {i : Nat} {o : IOper} {f : Feet} {r : List (Nat × IOper × Feet)} {s s1 s' : St} (e : Stp c1 cx (s0 + i) o f s s1)
      (hr : Run c1 cx s0 r s1 s') : Run c1 cx s0 ((i, o, f) :: r) s s'

theorem Run.ext {s0 : Nat} {l : List (Nat × IOper × Feet)} {s t s' : St} (h : Run c1 cx s0 l s s') (e : SE s t) : Run c1 cx s0 l t s' := by
  induction h generalizing t with
  | nil h => exact .nil (e.symm.trans h)
  | cons e1 _ ih =>
    obtain ⟨t1, e2, e4⟩ := e1.ext e
    exact .cons e2 (ih e4)

def Apart (x y : Nat × IOper × Feet) : Prop := apartT x.2.1 y.2.1 = true ∧ clash x.2.2 y.2.2 = false

theorem Run.front (hm : MoreX cx) {s0 : Nat} {x : Nat × IOper × Feet} {l2 : List (Nat × IOper × Feet)} {s' : St} : ∀ (l1 : List (Nat × IOper × Feet)) (s : St), Run c1 cx s0 (l1 ++ x :: l2) s s' → (∀ y ∈ l1, Apart y x) →
    ∃ s1, Stp c1 cx (s0 + x.1) x.2.1 x.2.2 s s1 ∧ Run c1 cx s0 (l1 ++ l2) s1 s'
  | [], s, h, _ => by
    cases h with
    | cons e hr => exact ⟨_, e, hr⟩
  | y :: l1, s, h, ha => by
    cases h with
    | cons e hr =>
      obtain ⟨t1, e2, r2⟩ := Run.front hm l1 _ hr fun z hz => ha z (by simp [hz])
      obtain ⟨h1, h2⟩ := ha _ (List.mem_cons_self ..)
      obtain ⟨u1, u2, e3, e5, e7⟩ := swap hm e e2 h1 h2
      exact ⟨u1, e3, .cons e5 (r2.ext e7)⟩
end
end Arx
