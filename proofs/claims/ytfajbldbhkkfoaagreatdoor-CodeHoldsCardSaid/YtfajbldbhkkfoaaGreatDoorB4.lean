/- Contracts of single functions: no condition but those that each states. -/
import Derived.Test.YtfajbldbhkkfoaaGreatDoorB3
set_option linter.unusedVariables false
set_option linter.unusedSimpArgs false
namespace Go.L
open Go Go.RowKit Go.Proofs
set_option linter.unusedSimpArgs false
set_option linter.unusedVariables false

theorem caught_idle39 (p c : Value) (w : World) : CallsD Tryz.prog 86 #[p, c] .returning w fun e u' w' => e = .returned unit ∧ u' = .returning ∧ w' = w := by
  refine callsD_of_wpS Tryz.func86 rfl fun c₀ cs hu => ?_
  apply wpS_seq
  apply wpS_region
  simp [wpOpsS, go_sem, recoverD, hu, Tryz.ntmps86, Exit.thenS, Tryz.underlying20]
  apply wpS_seq
  apply wpS_region
  simp [wpOpsS, go_sem, recoverD, hu, Tryz.ntmps86, Exit.thenS, Tryz.underlying20]
  refine wpS_cond (t := false) (by simp [Act.eval, Array.replicate]) ?_
  simp only [Bool.false_eq_true, if_false]
  refine wpS_of_wp (wp_skip ?_)
  cases c₀
  simp_all [bodyPostS, results, Tryz.results39, unit]
theorem caught_panics39 (p : Addr) (x n : Int) (fc : FuncId) (caps : Array Value) (Rc : World → Prop) (w : World) (hc : w.cell? p = some (.int .i64 x)) (hz : w.frozen? p = false)
    (hf : ∀ args w, (callFunc fc args).run Tryz.prog w = .ok (.enter fc args) w) (hcl : Calls Tryz.prog fc caps (w.setCell p (.int .i64 n)) fun e w' => e = .returned unit ∧ Rc w') :
    CallsD Tryz.prog 86 #[.pointer (some p), .func (.func fc) #[] caps] (.panicking [pe n false]) w fun e u' w' =>
      e = .returned unit ∧ u' = .panicking [pe n true] ∧ Rc w' := by
  refine callsD_of_wpS Tryz.func86 rfl fun c₀ cs hu => ?_
  apply wpS_seq
  apply wpS_region
  simp [wpOpsS, go_sem, recoverD, hu, Tryz.ntmps86, Exit.thenS, Tryz.underlying20, pe]
  apply wpS_seq
  apply wpS_region
  simp [wpOpsS, go_sem, recoverD, hu, Tryz.ntmps86, Exit.thenS, Tryz.underlying20]
  refine wpS_cond (t := true) (by simp [Act.eval, Array.replicate]) ?_
  simp only [if_true]
  apply wpS_seq
  apply wpS_region
  simp [wpOpsS, go_sem, run_ta28, hc, hz, bodyPostS, results, Tryz.results39, Exit.thenS, Tryz.underlying26, Tryz.sizeOf26]
  apply wpS_region
  simp [wpOpsS, go_sem, hf, hc, hz, bodyPostS, results, Tryz.results39, Exit.thenS, Oper.upon]
  refine hcl.mono ?_
  rintro e w' ⟨rfl, h⟩
  exact ⟨rfl, h⟩
theorem must44 (b : Bool) (n : Int) (w : World) (R : Ending → World → Prop) (h1 : b = true → R (.returned unit) w) (h2 : b = false → R (.panicked [pe n false]) w) : Calls Tryz.prog 89 #[.bool b, .int .i64 n] w R := by
  refine c89 _ _ _ _ ?_
  unfold vc89
  refine kUn_not (kIf_b (fun h => ?_) (fun h => ?_))
  · refine kMkI_c conc28 (kPanic_i ?_)
    exact h2 (by simpa using h)
  · exact h1 (by simpa using h)
theorem kLen22 {X : Chain → World → Prop} {q : Bool} {w : World} {k : Value → World → Prop} {ty : TypeId} {o : Option Addr} {n cp : Nat} {cs : Array Bool} (h : k (.int .i64 n) w) : kBlt ⟨Tryz.prog, X, q⟩ w .len #[104] ty cs #[.slice o n cp] k := kLen_sl (c := ⟨Tryz.prog, X, q⟩) Tryz.underlying104 h
theorem kLen38 {X : Chain → World → Prop} {q : Bool} {w : World} {k : Value → World → Prop} {ty : TypeId} {o : Option Addr} {n cp : Nat} {cs : Array Bool} (h : k (.int .i64 n) w) : kBlt ⟨Tryz.prog, X, q⟩ w .len #[44] ty cs #[.slice o n cp] k := kLen_sl (c := ⟨Tryz.prog, X, q⟩) Tryz.underlying44 h
theorem vVal_size (r : AV) : (vVal r).cells.size = 3 := rfl
theorem vVal_one (r : AV) : ∀ u ∈ (vVal r).cells.toList, u.oneCell' = true := by
  simp [vVal, Value.cells, Value.oneCell']
theorem kIa22 {X : Chain → World → Prop} {q : Bool} {w : World} {b o n cp : Nat} {i : Nat} {k : Value → World → Prop} (hi : i < n) (h : k (.pointer (some ⟨b, o + i * 3, none⟩)) w) : kIa ⟨Tryz.prog, X, q⟩ w 104 (.slice (some ⟨b, o, none⟩) n cp) (.int .i64 i) k :=
  kIa_sl (c := ⟨Tryz.prog, X, q⟩) Tryz.underlying104 Tryz.sizeOf59 hi h
theorem kLd49 {X : Chain → World → Prop} {q : Bool} {w : World} {b o : Nat} {r : AV} {k : Value → World → Prop} (hr : w.rangeAt b o (vVal r).cells.toList) (h : k (vVal r) w) : kLoad ⟨Tryz.prog, X, q⟩ w 59 (.pointer (some ⟨b, o, none⟩)) k :=
  kLoad_elt (c := ⟨Tryz.prog, X, q⟩) hr rfl Tryz.underlying59 rfl Tryz.typeInfo59 rfl h
theorem E22 (w : World) : Elt Tryz.prog 104 59 3 32 := ⟨Tryz.underlying104, ⟨Tryz.t59, _, info_of (Tryz.typeInfo59 w), rfl, rfl, rfl, rfl⟩, by omega, by omega⟩
def numB (n : Nat) : List Nat := if h : n < 128 then [n] else (n % 128 + 128) :: numB (n / 128)
  termination_by n
  decreasing_by omega
theorem E38 (w : World) : Elt Tryz.prog 44 5 1 1 := ⟨Tryz.underlying44, ⟨Tryz.t5, _, info_of (Tryz.typeInfo5 w), rfl, rfl, rfl, rfl⟩, by omega, by omega⟩
theorem bits_or_128 (m : Nat) : bits .or .u8 ((m : Int) % 256) 128 = ((m % 128 + 128 : Nat) : Int) := by
  have h : ∀ x : Nat, x < 256 → bits .or .u8 (x : Int) 128 = ((x % 128 + 128 : Nat) : Int) := by decide +kernel
  have := h (m % 256) (by omega)
  rw [show ((m : Int) % 256) = ((m % 256 : Nat) : Int) by omega, this]
  congr 1
  omega
section
variable {c : Cx} {w : World} {k : Value → World → Prop} {t : TypeId}
theorem kBin_or {q : IntKind} {a b : Int} (h : k (.int q (bits .or q a b)) w) : kBin c w .or t (.int q a) (.int q b) k := ⟨kVal_pure (fun _ => by rw [binOp_or, intBits_or]; rfl) h⟩
theorem kBin_xor {q : IntKind} {a b : Int} (h : k (.int q (bits .xor q a b)) w) : kBin c w .xor t (.int q a) (.int q b) k := ⟨kVal_pure (fun _ => by rw [binOp_xor, intBits_xor]; rfl) h⟩
theorem kBin_shl {q yk : IntKind} {x y : Int} (h0 : 0 ≤ y) (h1 : y ≤ q.bits) (h : k (.int q (q.wrap (x * 2 ^ y.toNat))) w) : kBin c w .shl t (.int q x) (.int yk y) k := ⟨kVal_pure (fun _ => by rw [binOp_shl, shift_shl q yk x y h0 h1]; rfl) h⟩
end
theorem kCv84_5 {X : Chain → World → Prop} {q : Bool} {w : World} {k : Value → World → Prop} {a : Nat} (h : k (.int .u8 ((a : Int) % 256)) w) : kConv ⟨Tryz.prog, X, q⟩ w 145 5 (.int .u64 a) k :=
  kConv_int (c := ⟨Tryz.prog, X, q⟩) (q' := .u8) (by rw [show (⟨Tryz.prog, X, q⟩ : Cx).P.underlying 145 = _ from Tryz.underlying145]; rfl) Tryz.underlying5 (by
    have : IntKind.u8.wrap (a : Int) = (a : Int) % 256 := by simp [IntKind.wrap, IntKind.bits, IntKind.signed]
    rw [this]; exact h)
theorem vB_size (b : Nat) : (vB b).cells.size = 1 := rfl
theorem vB_one (b : Nat) : ∀ u ∈ (vB b).cells.toList, u.oneCell' = true := by simp [vB, Value.cells, Value.oneCell']
theorem number77 (n : Nat) (hn : n < 18446744073709551616) (w : World) (R : Ending → World → Prop)
    (h : ∀ x W, Below w.heap.size w W → W.ownsRow w.heap.size 5 1 x (numB n).length ((numB n).map vB) → (numB n).length ≤ 10 → R (.returned x) W) : Calls Tryz.prog 141 #[.int .u64 n] w R := by
  refine c141 _ _ _ ?_
  unfold vc141
  refine ⟨⟨fun cs W => ∃ (m : Nat) (x : Value) (p : List Nat), cs = [x, .int .u64 m] ∧ Below w.heap.size w W ∧ W.ownsRow w.heap.size 5 1 x p.length (p.map vB) ∧ numB n = p ++ numB m ∧ m * 128 ^ p.length ≤ n ∧ (p = [] ∨ 1 ≤ m),
    fun cs _ => (match cs with | [_, .int _ i] => i.toNat | _ => 0), ⟨n, _, [], rfl, Below.refl _ _, World.ownsRow_nil _ _ _ _, rfl, by simp, .inl rfl⟩, ?_⟩⟩
  rintro cs ds W ⟨m, x, p, rfl, hB, hown, heq, hle, hp⟩
  dsimp only [List.getD_cons_zero, List.getD_cons_succ]
  have hlen : p.length ≤ 9 := by
    rcases hp with rfl | hp
    · simp
    · rcases Nat.lt_or_ge p.length 10 with h1 | h1
      · omega
      · have h2 : 128 ^ 10 ≤ 128 ^ p.length := Nat.pow_le_pow_right (by omega) h1
        have h3 : 128 ^ p.length ≤ m * 128 ^ p.length := Nat.le_mul_of_pos_left _ hp
        have : (128 : Nat) ^ 10 = 1180591620717411303424 := by decide
        omega
  refine kBin_geq (kIf_d (fun hbig => ?_) (fun hsm => ?_))
  · have hm : 128 ≤ m := by omega
    refine kCv84_5 (kBin_or ?_)
    rw [bits_or_128]
    refine kApp1 (E38 W) hown (v := vB (m % 128 + 128)) rfl (vB_one _) (by simp [maxLen]; omega) (by omega) hB.size ?_
    intro x' W' hown' hg hat
    refine kBin_shr (by omega) (by simp [IntKind.bits]) (kD_i ⟨⟨m / 128, x', p ++ [m % 128 + 128], ?_, below_grown hB hown hg hB.size, ?_, ?_, ?_, .inr (by omega)⟩, ?_⟩)
    · congr 3
    · rw [List.length_append, List.map_append]; exact hown'
    · rw [heq]; conv => lhs; rw [numB]
      simp [show ¬ m < 128 by omega]
    · rw [List.length_append, List.length_singleton, Nat.pow_succ]
      have : m / 128 * (128 ^ p.length * 128) = m / 128 * 128 * 128 ^ p.length := by rw [Nat.mul_comm (128 ^ p.length), Nat.mul_assoc]
      rw [this]
      exact Nat.le_trans (Nat.mul_le_mul_right _ (Nat.div_mul_le_self m 128)) hle
    · show ((m : Int) / 2 ^ (7 : Int).toNat).toNat < (m : Int).toNat
      have : ((2 : Int) ^ (7 : Int).toNat) = 128 := by decide
      rw [this]; omega
  · have hm : m < 128 := by omega
    refine kCv84_5 ?_
    rw [show ((m : Int) % 256) = (m : Int) by omega]
    refine kApp1 (E38 W) hown (v := vB m) rfl (vB_one _) (by simp [maxLen]; omega) (by omega) hB.size ?_
    intro x' W' hown' hg hat
    have e : numB n = p ++ [m] := by rw [heq, numB]; simp [hm]
    refine h x' W' (below_grown hB hown hg hB.size) ?_ (by rw [e]; simp; omega)
    rw [e, List.length_append, List.map_append]; exact hown'
theorem strCells_bl (s : ByteArray) : Lib.strCells s = (bl s).map vB := by
  simp [Lib.strCells, bl, vB, Function.comp_def]
theorem kAppStrP {P : Program} {X : Chain → World → Prop} {w : World} {t u e : TypeId} {i : TypeInfo} (ht : P.underlying t = some (.slice e)) (hu : P.underlying u = some .string) (hi : P.info? e = some i) (hz : i.zero = some (.int .u8 0)) (hs : i.size = 1) (hby : i.bytes = 1)
    {base n : Nat} {x : Value} {xs : List Value} {s : ByteArray} {cs : Array Bool} {ty : TypeId} {k : Value → World → Prop}
    (hown : w.ownsRow base e 1 x n xs) (hm : n + s.size ≤ 140737488355328) (hbase : base ≤ w.heap.size)
    (h : ∀ x' w', w'.ownsRow base e 1 x' (n + s.size) (xs ++ (bl s).map vB) → w.grownBy w' x.ownBlock → k x' w') :
    kBlt ⟨P, X, false⟩ w .append #[t, u] ty cs #[x, .string s] k := by
  obtain ⟨x', w', hr, ho, hg, _⟩ := Lib.run_append_own_string (P := P) w base t u ty e i ht hu hi hz hs hby x n xs hown s (by simp [maxLen]; omega) hm hbase
  rw [strCells_bl] at ho
  refine ⟨?_⟩
  show kNext _ _ _
  simp only [builtin, Sem.run_bind, hr, Result.andThen_ok, Sem.run_pure]
  exact h x' w' ho hg
theorem kAppStr {X : Chain → World → Prop} {w : World} {base n : Nat} {x : Value} {xs : List Value} {s : ByteArray} {cs : Array Bool} {ty : TypeId} {k : Value → World → Prop}
    (hown : w.ownsRow base 5 1 x n xs) (hm : n + s.size ≤ 140737488355328) (hbase : base ≤ w.heap.size)
    (h : ∀ x' w', w'.ownsRow base 5 1 x' (n + s.size) (xs ++ (bl s).map vB) → w.grownBy w' x.ownBlock → k x' w') :
    kBlt ⟨Tryz.prog, X, false⟩ w .append #[44, 9] ty cs #[x, .string s] k := kAppStrP Tryz.underlying44 Tryz.underlying9 (info_of (Tryz.typeInfo5 w)) rfl rfl rfl hown hm hbase h
def strB (s : ByteArray) : List Nat := numB s.size ++ bl s
theorem kCv3_84 {X : Chain → World → Prop} {q : Bool} {w : World} {k : Value → World → Prop} {a : Nat} (ha : a < 18446744073709551616) (h : k (.int .u64 (a : Int)) w) : kConv ⟨Tryz.prog, X, q⟩ w 3 145 (.int .i64 a) k :=
  kConv_int (c := ⟨Tryz.prog, X, q⟩) (q' := .u64) (by rw [show (⟨Tryz.prog, X, q⟩ : Cx).P.underlying 3 = _ from Tryz.underlying3]; rfl) Tryz.underlying145 (by
    have : IntKind.u64.wrap (a : Int) = (a : Int) := by simp [IntKind.wrap, IntKind.bits, IntKind.signed]; omega
    rw [this]; exact h)
/-- A function that makes a row of bytes. -/
def Makes (w : World) (bs : List Nat) (R : Ending → World → Prop) : Prop :=
  ∀ x W, Below w.heap.size w W → W.ownsRow w.heap.size 5 1 x bs.length (bs.map vB) → R (.returned x) W
theorem string114 (s : ByteArray) (hs : s.size ≤ 1000000) (w : World) (R : Ending → World → Prop) (h : Makes w (strB s) R) : Calls Tryz.prog 154 #[.string s] w R := by
  refine c154 _ _ _ ?_
  unfold vc154
  refine kLen9 (kCv3_84 (by omega) (kCall_i (Tryz.call141 _ _) (number77 _ (by omega) _ _ fun x W hB hown hlen => ?_)))
  refine kAppStr hown (by omega) hB.size fun x' W' hown' hg => ?_
  refine h x' W' (below_grown hB hown hg hB.size) ?_
  rw [strB, List.length_append, bl_length, List.map_append]; exact hown'
theorem lay113 (r : AV) (hs : r.2.2.size ≤ 1000000) (w : World) (R : Ending → World → Prop) (h : Makes w (strB r.2.2) R) : Calls Tryz.prog 153 #[vVal r] w R := by
  refine c153 _ _ _ _ _ ?_
  unfold vc153
  refine kBox_st (St.start w) fun b W hS => kFa49 _ (by omega) (kLd hS 0 rfl rfl rfl (kCall_i (Tryz.call154 _ _) (string114 _ hs _ _ fun x W' hB hown => ?_)))
  exact h x W' (hS.bel hB).below (ownsRow_rebase hown hS.size)
theorem lay115 (r : AV) (w : World) (R : Ending → World → Prop) (h : Makes w [] R) : Calls Tryz.prog 155 #[vVal r] w R := by
  refine c155 _ _ _ _ _ ?_
  unfold vc155
  exact kBox_st (St.start w) fun b W hS => h _ _ hS.below (World.ownsRow_nil _ _ _ _)
theorem lay116 (r : AV) (h0 : 0 ≤ r.2.1) (h1 : r.2.1 ≤ 1) (w : World) (R : Ending → World → Prop) (h : Makes w [r.2.1.toNat] R) : Calls Tryz.prog 156 #[vVal r] w R := by
  refine c156 _ _ _ _ _ ?_
  unfold vc156
  refine kBox_st (St.start w) fun b W hS => kFa49 _ (by omega) (kLd hS 0 rfl rfl rfl ?_)
  refine kConv_int (c := ⟨Tryz.prog, _, false⟩) (q' := .u8) (by rw [show (Cx.mk Tryz.prog _ false).P.underlying 2 = _ from Tryz.underlying2]; rfl) Tryz.underlying5 ?_
  have hw : IntKind.u8.wrap r.2.1 = (r.2.1.toNat : Int) := by simp [IntKind.wrap, IntKind.bits, IntKind.signed]; omega
  rw [hw]
  generalize r.2.1.toNat = z at h ⊢
  refine kBuildS_row (E38 W) (base := w.heap.size) hS.size [vB z] rfl rfl (by omega) (by omega) (by simp [vB_size]) fun x W' ho hg _ => ?_
  exact h _ _ (hS.grow hg).below ho
def zig (n : Int) : Nat := if 0 ≤ n then (2 * n).toNat else (-2 * n - 1).toNat
theorem xor_zero64 (a : Nat) (ha : a < 18446744073709551616) : bits .xor .u64 a 0 = a := by
  have h : ((BitVec.ofInt 64 (a : Int)) ^^^ (BitVec.ofInt 64 0)).toNat = a := by
    rw [show BitVec.ofInt 64 0 = 0#64 by rfl, BitVec.xor_zero, BitVec.toNat_ofInt]; omega
  show IntKind.u64.wrap (((BitVec.ofInt 64 (a : Int)) ^^^ (BitVec.ofInt 64 0)).toNat : Int) = a
  rw [h]; simp [IntKind.wrap, IntKind.bits, IntKind.signed]; omega
theorem xor_ones64 (a : Nat) (ha : a < 18446744073709551616) : bits .xor .u64 a 18446744073709551615 = ((18446744073709551615 - a : Nat) : Int) := by
  have h : ((BitVec.ofInt 64 (a : Int)) ^^^ (BitVec.ofInt 64 18446744073709551615)).toNat = 18446744073709551615 - a := by
    rw [show BitVec.ofInt 64 18446744073709551615 = BitVec.allOnes 64 by rfl, BitVec.xor_allOnes, BitVec.toNat_not, BitVec.toNat_ofInt]; omega
  show IntKind.u64.wrap (((BitVec.ofInt 64 (a : Int)) ^^^ (BitVec.ofInt 64 18446744073709551615)).toNat : Int) = _
  rw [h]; simp [IntKind.wrap, IntKind.bits, IntKind.signed]; omega
theorem kCv2_84 {X : Chain → World → Prop} {q : Bool} {w : World} {k : Value → World → Prop} {a : Int} {b : Nat} (hb : a % 18446744073709551616 = b) (h : k (.int .u64 b) w) : kConv ⟨Tryz.prog, X, q⟩ w 2 145 (.int .i64 a) k :=
  kConv_int (c := ⟨Tryz.prog, X, q⟩) (q' := .u64) (by rw [show (Cx.mk Tryz.prog X q).P.underlying 2 = _ from Tryz.underlying2]; rfl) Tryz.underlying145 (by
    have : IntKind.u64.wrap a = b := by simp [IntKind.wrap, IntKind.bits, IntKind.signed]; omega
    rw [this]; exact h)
theorem lay117 (r : AV) (h0 : -9223372036854775808 ≤ r.2.1) (h1 : r.2.1 ≤ 9223372036854775807) (w : World) (R : Ending → World → Prop) (h : Makes w (numB (zig r.2.1)) R) : Calls Tryz.prog 157 #[vVal r] w R := by
  refine c157 _ _ _ _ _ ?_
  unfold vc157
  have hz : zig r.2.1 < 18446744073709551616 := by unfold zig; split <;> omega
  refine kBox_st (St.start w) fun b W hS => kFa49 _ (by omega) (kLd hS 0 rfl rfl rfl (kBin_shl (by omega) (by simp [IntKind.bits]) ?_))
  have e1 : (2 : Int) ^ (1 : Int).toNat = 2 := by decide
  have e63 : (2 : Int) ^ (63 : Int).toNat = 9223372036854775808 := by decide
  rw [e1]
  have hw : (IntKind.i64.wrap (r.2.1 * 2)) % 18446744073709551616 = (r.2.1 * 2) % 18446744073709551616 := by simp [IntKind.wrap, IntKind.bits, IntKind.signed]; omega
  refine kCv2_84 (b := ((r.2.1 * 2) % 18446744073709551616).toNat) (by omega) (kFa49 _ (by omega) (kLd hS 0 rfl rfl rfl (kBin_shr (by omega) (by simp [IntKind.bits]) ?_)))
  rw [e63]
  have key : ∀ m : Nat, (m : Int) = (zig r.2.1 : Nat) → kCall (cR Tryz.prog R) W 141 #[.int .u64 (m : Int)] fun v12 w_11 => R (.returned v12) w_11 := by
    intro m hm
    have hm : m = zig r.2.1 := by omega
    subst hm
    refine kCall_i (Tryz.call141 _ _) (number77 _ hz _ _ fun x W' hB hown _ => ?_)
    exact h x W' (hS.bel hB).below (ownsRow_rebase hown hS.size)
  by_cases hn : r.2.1 < 0
  · refine kCv2_84 (b := 18446744073709551615) (by omega) (kBin_xor ?_)
    rw [show ((18446744073709551615 : Nat) : Int) = 18446744073709551615 by rfl, xor_ones64 _ (by omega)]
    refine key _ ?_
    unfold zig; rw [if_neg (by omega)]; omega
  · refine kCv2_84 (b := 0) (by omega) (kBin_xor ?_)
    rw [show ((0 : Nat) : Int) = 0 by rfl, xor_zero64 _ (by omega)]
    refine key _ ?_
    unfold zig; rw [if_pos (by omega)]; omega
/-- The bytes that follow a value's type. -/
def layB (r : AV) : List Nat := if r.1 = 1 then [r.2.1.toNat] else if r.1 = 2 then numB (zig r.2.1) else if r.1 = 3 ∨ r.1 = 4 then strB r.2.2 else []
def laidEsR : Array MapEntry := #[{ key := .int .i64 0, val := .func (.func 155) #[] #[], born := 0 }, { key := .int .i64 1, val := .func (.func 156) #[] #[], born := 1 }, { key := .int .i64 2, val := .func (.func 157) #[] #[], born := 2 },
  { key := .int .i64 3, val := .func (.func 153) #[] #[], born := 3 }, { key := .int .i64 4, val := .func (.func 153) #[] #[], born := 4 }]
theorem laid79 (w : World) (R : Ending → World → Prop) (h : ∀ b W, Below w.heap.size w W → w.heap.size ≤ b → W.heap[b]? = some (.map laidEsR 5) → R (.returned (.map (some b))) W) : Calls Tryz.prog 143 #[] w R := by
  refine c143 _ _ ?_
  unfold vc143
  refine kMkMap_st (St.start w) fun b W hS => ?_
  refine kUpd_st hS 0 rfl Tryz.underlying200 Tryz.underlying57 rfl rfl fun W hS => ?_
  refine kUpd_st hS 0 rfl Tryz.underlying200 Tryz.underlying57 rfl rfl fun W hS => ?_
  refine kUpd_st hS 0 rfl Tryz.underlying200 Tryz.underlying57 rfl rfl fun W hS => ?_
  refine kUpd_st hS 0 rfl Tryz.underlying200 Tryz.underlying57 rfl rfl fun W hS => ?_
  refine kUpd_st hS 0 rfl Tryz.underlying200 Tryz.underlying57 rfl rfl fun W hS => ?_
  have hg := hS.get 0 rfl
  exact h b W hS.below hg.1 hg.2
def fnOf (t : Int) : FuncId := if t = 0 then 155 else if t = 1 then 156 else if t = 2 then 157 else 153
theorem laid_findR (t : Int) (h0 : 0 ≤ t) (h4 : t ≤ 4) : ∃ j, Instr.findNow (.int .i64) (.int .i64 t) laidEsR.toList 0 = some (some (j, .func (.func (fnOf t)) #[] #[])) := by
  have : t = 0 ∨ t = 1 ∨ t = 2 ∨ t = 3 ∨ t = 4 := by omega
  rcases this with rfl | rfl | rfl | rfl | rfl <;> exact ⟨_, rfl⟩
/-- The int64 of a value that came in. -/
def Rng (r : AV) : Prop := -9223372036854775808 ≤ r.2.1 ∧ r.2.1 ≤ 9223372036854775807
theorem lay_call (r : AV) (hc : checkE r = 0) (hr : Rng r) (w : World) (R : Ending → World → Prop) (h : Makes w (layB r) R) :
    (∀ args w, (callFunc (fnOf r.1) args).run Tryz.prog w = .ok (.enter (fnOf r.1) args) w) ∧ Calls Tryz.prog (fnOf r.1) #[vVal r] w R := by
  obtain ⟨t, n, s⟩ := r
  have hs : s.size ≤ 1000 := by
    simp only [checkE] at hc
    rcases Nat.lt_or_ge 1000 s.size with h1 | h1
    · rw [if_pos h1] at hc; omega
    · exact h1
  have hrange : 0 ≤ t ∧ t ≤ 4 ∧ (t = 1 → n = 0 ∨ n = 1) := by
    simp only [checkE] at hc
    rw [if_neg (by omega)] at hc
    split at hc
    · omega
    · rename_i hh; refine ⟨by omega, by omega, fun h1 => by omega⟩
  have : t = 0 ∨ t = 1 ∨ t = 2 ∨ t = 3 ∨ t = 4 := by omega
  rcases this with rfl | rfl | rfl | rfl | rfl
  · exact ⟨Tryz.call155, lay115 _ w R (by simpa [layB] using h)⟩
  · have hn := hrange.2.2 rfl
    exact ⟨Tryz.call156, lay116 _ (by show 0 ≤ n; omega) (by show n ≤ 1; omega) w R (by simpa [layB] using h)⟩
  · exact ⟨Tryz.call157, lay117 _ hr.1 hr.2 w R (by simpa [layB] using h)⟩
  · exact ⟨Tryz.call153, lay113 _ (by show s.size ≤ 1000000; omega) w R (by simpa [layB] using h)⟩
  · exact ⟨Tryz.call153, lay113 _ (by show s.size ≤ 1000000; omega) w R (by simpa [layB] using h)⟩
theorem iter112 {rows : List AV} {w : World} {b : Nat} {a : Option Addr} {cp : Nat} (hbox : w.heap[b]? = some (.cells #[.slice a rows.length cp] 104 (0, 0))) (hlen : rows.length ≤ 4611686018427387904) {J : Nat → World → Prop}
    (hJ : ∀ i W, J i W → Sl W a 3 (rows.map vVal)) : Iter Tryz.prog (.func (.func 152) #[] #[.pointer (some ⟨b, 0, none⟩)]) rows.length (fun i => [(rows.map vVal).getD i undef].toArray) J w := by
  refine ⟨152, #[.pointer (some ⟨b, 0, none⟩)], rfl, Tryz.call152, ?_⟩
  intro l J' Z' W hB hsJ hsZ hJ' hy h0
  show Calls Tryz.prog 152 #[.func (.yield l) #[] #[], .pointer (some ⟨b, 0, none⟩)] W _
  refine c152 _ _ _ _ ?_
  unfold vc152
  have hbl : b < w.heap.size := (Array.getElem?_eq_some_iff.1 hbox).1
  have hcell : W.cell? ⟨b, 0, none⟩ = some (.slice a rows.length cp) := by
    rw [cell_of_row W b 0 #[.slice a rows.length cp] 104 (0, 0) (by rw [hB.block b hbl]; exact hbox)]; rfl
  refine kLdS rfl hcell (kLen22 ⟨⟨fun cs V => ∃ i : Nat, cs = [.int .i64 i] ∧ i ≤ rows.length ∧ J' i V, fun cs _ => rows.length - (match cs with | [.int _ i] => i.toNat | _ => 0), ⟨0, rfl, Nat.zero_le _, h0⟩, ?_⟩⟩)
  rintro cs ds V ⟨i, rfl, hile, hJi⟩
  dsimp only [List.getD_cons_zero]
  refine kBin_lss (kIf_d (fun e => ?_) (fun e => ?_))
  · have hil : i < rows.length := by omega
    obtain ⟨pb, po, rfl, hpb, hpr⟩ := (hJ i V (hJ' i V hJi)).elem (i := i) (v := vVal rows[i]) (by simp [hil])
    refine kIa22 hil (kLd49 hpr (kAlloc_st Tryz.zeroValue59 (St.start V) fun b3 V1 hS => kStoreA_st hS 0 rfl rfl (by simp [Value.oneCell']) Tryz.sizeOf59 fun V2 hS => kLoadA_st (c := ⟨Tryz.prog, _, false⟩) hS 0 rfl Tryz.underlying59 rfl Tryz.sizeOf59 rfl ?_))
    have hx : ([(rows.map vVal).getD i undef] : List Value).toArray = #[vVal rows[i]] := by simp [hil]
    have hyy := hy i V2 hil (hsJ i V V2 hJi hS.below)
    dsimp only at hyy
    rw [hx] at hyy
    refine kCallV_y hyy ?_
    intro en W' hen
    cases en with
    | outgrown => exact hen.elim
    | panicked ch => exact hen
    | returned v =>
      rcases hen with ⟨rfl, hj⟩ | ⟨rfl, hz⟩
      · refine kUn_not (kIf_f (kBin_add (kD_i ⟨⟨i + 1, by rw [wrap_id (by omega) (by omega)]; rfl, hil, hj⟩, ?_⟩)))
        rw [wrap_id (by omega) (by omega)]; show rows.length - ((i : Int) + 1).toNat < rows.length - (i : Int).toNat; omega
      · exact kUn_not (kIf_t (.inr hz))
  · have : i = rows.length := by omega
    subst this
    exact .inl hJi
theorem values78 (a : Option Addr) (n cp : Nat) (w : World) (R : Ending → World → Prop) (h : ∀ b W, Below w.heap.size w W → w.heap.size ≤ b → W.heap[b]? = some (.cells #[.slice a n cp] 104 (0, 0)) → R (.returned (.func (.func 152) #[] #[.pointer (some ⟨b, 0, none⟩)])) W) :
    Calls Tryz.prog 142 #[.slice a n cp] w R := by
  refine c142 _ _ _ _ _ ?_
  unfold vc142
  refine kBox_st (St.start w) fun b W hS => h b W hS.below (hS.get 0 rfl).1 (hS.get 0 rfl).2
/-- What an encoding panics with: the first value that does not check. -/
def badE : List AV → Int
  | [] => 0
  | r :: rs => if checkE r ≠ 0 then checkE r else badE rs
def encB (rows : List AV) : List Nat := numB rows.length ++ rows.flatMap (fun r => r.1.toNat :: layB r)
def encE (rows : List AV) : Int := if badE rows ≠ 0 then badE rows else if rows.length ≤ 32 ∧ (encB rows).length ≤ 4000 then 0 else 3
section
variable (w0 : World) (r : AV) (b3 bv b4 : Nat) (q1 q2 : Own) (x sl : Value) (m : Nat) (bs : List Nat)
/-- What is owned around the region. -/
def eL (x' : Value) (n : Nat) (ys : List Nat) : List Own := [.row x' 5 1 n (ys.map vB), .bx b3 44 #[x], .bx bv 104 #[sl], .bx b4 59 (vVal r).cells, q1, q2]
def eVal : Nat → Value := fun j => ([x, .pointer (some ⟨b4, 0, none⟩), .int .i64 r.1, vB r.1.toNat, undef, undef, undef, .pointer (some ⟨b4, 0, none⟩), .int .i64 r.1, .func (.func (fnOf r.1)) #[] #[], vVal r] : List Value).getD j undef
def eIs (j : Nat) : Bool := j == 4 || j == 5 || j == 6 || j == 11 || j == 12
def ePh (S : Nat → Bool) (vs : Nat → Value) (W : World) : Prop :=
  if S 12 then St w0 (eL r b3 bv b4 q1 q2 x sl (vs 12) (m + 1 + (layB r).length) (bs ++ [r.1.toNat] ++ layB r)) W
  else if S 11 then St w0 (eL r b3 bv b4 q1 q2 x sl (vs 5) (m + 1) (bs ++ [r.1.toNat]) ++ [.row (vs 11) 5 1 (layB r).length ((layB r).map vB)]) W
  else if S 6 then ∃ g, vs 6 = .map (some g) ∧ St w0 (eL r b3 bv b4 q1 q2 x sl (vs 5) (m + 1) (bs ++ [r.1.toNat]) ++ [.ob g (.map laidEsR 5)]) W
  else if S 5 then St w0 (eL r b3 bv b4 q1 q2 x sl (vs 5) (m + 1) (bs ++ [r.1.toNat])) W
  else if S 4 then St w0 (eL r b3 bv b4 q1 q2 x sl x m bs ++ [.row (vs 4) 5 1 1 [vB r.1.toNat]]) W
  else St w0 (eL r b3 bv b4 q1 q2 x sl x m bs) W
def eInv : PInv := fun S vs W => (∀ j, S j = true → eIs j = false → vs j = eVal r b4 x j) ∧ ePh w0 r b3 bv b4 q1 q2 x sl m bs S vs W
end
section
variable (w0 : World) (r : AV) (b3 bv b4 : Nat) (q1 q2 : Own) (x sl : Value) (m : Nat) (bs : List Nat)
variable {w0 r b3 bv b4 q1 q2 x sl m bs}
theorem ePh_keep {S : Nat → Bool} {vs : Nat → Value} {W : World} {i : Nat} {v : Value} (hi : eIs i = false) (h : ePh w0 r b3 bv b4 q1 q2 x sl m bs S vs W) : ePh w0 r b3 bv b4 q1 q2 x sl m bs (inc S i) (setV vs i v) W := by
  simp only [eIs, Bool.or_eq_false_iff, beq_eq_false_iff_ne] at hi
  obtain ⟨⟨⟨⟨h4, h5⟩, h6⟩, h11⟩, h12⟩ := hi
  have e : ∀ j, j ≠ i → inc S i j = S j ∧ setV vs i v j = vs j := fun j hj => by simp [inc, setV, hj]
  simp only [ePh, (e 4 (Ne.symm h4)).1, (e 5 (Ne.symm h5)).1, (e 6 (Ne.symm h6)).1, (e 11 (Ne.symm h11)).1, (e 12 (Ne.symm h12)).1, (e 4 (Ne.symm h4)).2, (e 5 (Ne.symm h5)).2, (e 6 (Ne.symm h6)).2, (e 11 (Ne.symm h11)).2, (e 12 (Ne.symm h12)).2] at h ⊢
  exact h
theorem eInv_pure {S : Nat → Bool} {vs : Nat → Value} {W : World} {i : Nat} {v : Value} (hi : eIs i = false) (h : eInv w0 r b3 bv b4 q1 q2 x sl m bs S vs W) (hv : v = eVal r b4 x i) : eInv w0 r b3 bv b4 q1 q2 x sl m bs (inc S i) (setV vs i v) W :=
  ⟨fun j hj hji => by
    by_cases e : j = i
    · subst e; simpa [setV] using hv
    · simp only [inc, show (j == i) = false by simpa using e, Bool.false_or] at hj
      simp only [setV, if_neg e]; exact h.1 j hj hji, ePh_keep hi h.2⟩
theorem eInv_eff {S : Nat → Bool} {vs : Nat → Value} {W W' : World} {i : Nat} {v : Value} (hi : eIs i = true) (h : eInv w0 r b3 bv b4 q1 q2 x sl m bs S vs W) (hp : ePh w0 r b3 bv b4 q1 q2 x sl m bs (inc S i) (setV vs i v) W') : eInv w0 r b3 bv b4 q1 q2 x sl m bs (inc S i) (setV vs i v) W' :=
  ⟨fun j hj hji => by
    have e : j ≠ i := fun e => by rw [e, hi] at hji; cases hji
    simp only [inc, show (j == i) = false by simpa using e, Bool.false_or] at hj
    simp only [setV, if_neg e]; exact h.1 j hj hji, hp⟩
/-- The boxes, in every phase. -/
theorem ePh_box {S : Nat → Bool} {vs : Nat → Value} {W : World} (h : ePh w0 r b3 bv b4 q1 q2 x sl m bs S vs W) : ∃ L, St w0 L W ∧ L[1]? = some (.bx b3 44 #[x]) ∧ L[3]? = some (.bx b4 59 (vVal r).cells) := by
  unfold ePh at h
  split at h
  · exact ⟨_, h, rfl, rfl⟩
  split at h
  · exact ⟨_, h, rfl, rfl⟩
  split at h
  · obtain ⟨g, _, h⟩ := h; exact ⟨_, h, rfl, rfl⟩
  split at h
  · exact ⟨_, h, rfl, rfl⟩
  split at h
  · exact ⟨_, h, rfl, rfl⟩
  · exact ⟨_, h, rfl, rfl⟩
end
theorem numB_len : ∀ (k n : Nat), 1 ≤ k → n < 128 ^ k → (numB n).length ≤ k
  | 0, n, h, _ => by omega
  | k + 1, n, _, hn => by
    rw [numB]
    split
    · simp
    · rename_i h
      have hk : 1 ≤ k := by
        rcases Nat.eq_zero_or_pos k with rfl | hk
        · simp at hn; omega
        · exact hk
      have : n / 128 < 128 ^ k := by rw [Nat.pow_succ] at hn; omega
      have := numB_len k (n / 128) hk this
      simp; omega
theorem numB_len64 {n : Nat} (h : n < 18446744073709551616) : (numB n).length ≤ 10 :=
  numB_len 10 n (by omega) (Nat.lt_of_lt_of_le h (by decide))
theorem layB_len (r : AV) (hs : r.2.2.size ≤ 1000) (hr : Rng r) : (layB r).length ≤ 1020 := by
  obtain ⟨t, n, s⟩ := r
  have h1 : zig n < 18446744073709551616 := by
    obtain ⟨h1, h2⟩ := hr
    have h1 : -9223372036854775808 ≤ n := h1
    have h2 : n ≤ 9223372036854775807 := h2
    unfold zig; split <;> omega
  have hs : s.size ≤ 1000 := hs
  have h2 := numB_len64 h1
  have h3 := numB_len64 (n := s.size) (by omega)
  have h4 := bl_length s
  simp only [layB]
  split
  · simp
  split
  · omega
  split
  · rw [strB, List.length_append, h4]; omega
  · simp
theorem region41 {w0 V : World} {r : AV} {b3 bv b4 : Nat} {q1 q2 : Own} {x sl : Value} {m : Nat} {bs : List Nat} (hS : St w0 (eL r b3 bv b4 q1 q2 x sl x m bs) V) (hc : checkE r = 0) (hr : Rng r) (hmb : m ≤ 100000000) (hlay : (layB r).length ≤ 2000) {tail : (Nat → Value) → World → Prop}
    (ht : ∀ vs W, St w0 (eL r b3 bv b4 q1 q2 x sl (vs 12) (m + 1 + (layB r).length) (bs ++ [r.1.toNat] ++ layB r)) W → tail vs W) :
 kPar V 13 [[], [], [1], [2], [3], [0, 4], [5], [], [7], [6, 8], [], [9, 10, 6], [5, 11], [12, 0, 1, 2, 3, 4, 5, 6, 7, 8, 9, 10, 11]] (fun Inv Cl =>
 (∀ (S : Nat → Bool) (vs : Nat → Value) (w_15 : World), Inv S vs w_15 → Cl S → S 0 = false → (∀ j, j ∈ ([] : List Nat) → S j = true) →
 kLoad (cN Tryz.prog) w_15 44 (.pointer (some ⟨b3, 0, none⟩)) fun v19 w_16 =>
 Inv (inc S 0) (setV vs 0 v19) w_16) ∧
 (∀ (S_1 : Nat → Bool) (vs_1 : Nat → Value) (w_17 : World), Inv S_1 vs_1 w_17 → Cl S_1 → S_1 1 = false → (∀ j, j ∈ ([] : List Nat) → S_1 j = true) →
 kFa (cN Tryz.prog) w_17 59 (.pointer (some ⟨b4, 0, none⟩)) 0 fun v20 w_18 =>
 Inv (inc S_1 1) (setV vs_1 1 v20) w_18) ∧
 (∀ (S_2 : Nat → Bool) (vs_2 : Nat → Value) (w_19 : World), Inv S_2 vs_2 w_19 → Cl S_2 → S_2 2 = false → (∀ j, j ∈ ([1] : List Nat) → S_2 j = true) →
 kLoad (cN Tryz.prog) w_19 57 (vs_2 1) fun v21 w_20 =>
 Inv (inc S_2 2) (setV vs_2 2 v21) w_20) ∧
 (∀ (S_3 : Nat → Bool) (vs_3 : Nat → Value) (w_21 : World), Inv S_3 vs_3 w_21 → Cl S_3 → S_3 3 = false → (∀ j, j ∈ ([2] : List Nat) → S_3 j = true) →
 kConv (cN Tryz.prog) w_21 57 5 (vs_3 2) fun v22 w_22 =>
 Inv (inc S_3 3) (setV vs_3 3 v22) w_22) ∧
 (∀ (S_4 : Nat → Bool) (vs_4 : Nat → Value) (w_23 : World), Inv S_4 vs_4 w_23 → Cl S_4 → S_4 4 = false → (∀ j, j ∈ ([3] : List Nat) → S_4 j = true) →
 kBuildS (cN Tryz.prog) w_23 44 1 #[(0, (vs_4 3))] fun v23 w_24 =>
 Inv (inc S_4 4) (setV vs_4 4 v23) w_24) ∧
 (∀ (S_5 : Nat → Bool) (vs_5 : Nat → Value) (w_25 : World), Inv S_5 vs_5 w_25 → Cl S_5 → S_5 5 = false → (∀ j, j ∈ ([0, 4] : List Nat) → S_5 j = true) →
 kBlt (cN Tryz.prog) w_25 .append #[44, 44] 44 #[false, false] #[(vs_5 0), (vs_5 4)] fun v24 w_26 =>
 Inv (inc S_5 5) (setV vs_5 5 v24) w_26) ∧
 (∀ (S_6 : Nat → Bool) (vs_6 : Nat → Value) (w_27 : World), Inv S_6 vs_6 w_27 → Cl S_6 → S_6 6 = false → (∀ j, j ∈ ([5] : List Nat) → S_6 j = true) →
 kCall (cN Tryz.prog) w_27 143 #[] fun v25 w_28 =>
 Inv (inc S_6 6) (setV vs_6 6 v25) w_28) ∧
 (∀ (S_7 : Nat → Bool) (vs_7 : Nat → Value) (w_29 : World), Inv S_7 vs_7 w_29 → Cl S_7 → S_7 7 = false → (∀ j, j ∈ ([] : List Nat) → S_7 j = true) →
 kFa (cN Tryz.prog) w_29 59 (.pointer (some ⟨b4, 0, none⟩)) 0 fun v26 w_30 =>
 Inv (inc S_7 7) (setV vs_7 7 v26) w_30) ∧
 (∀ (S_8 : Nat → Bool) (vs_8 : Nat → Value) (w_31 : World), Inv S_8 vs_8 w_31 → Cl S_8 → S_8 8 = false → (∀ j, j ∈ ([7] : List Nat) → S_8 j = true) →
 kLoad (cN Tryz.prog) w_31 57 (vs_8 7) fun v27 w_32 =>
 Inv (inc S_8 8) (setV vs_8 8 v27) w_32) ∧
 (∀ (S_9 : Nat → Bool) (vs_9 : Nat → Value) (w_33 : World), Inv S_9 vs_9 w_33 → Cl S_9 → S_9 9 = false → (∀ j, j ∈ ([6, 8] : List Nat) → S_9 j = true) →
 kLook (cN Tryz.prog) w_33 200 (vs_9 6) (vs_9 8) false fun v28 w_34 =>
 Inv (inc S_9 9) (setV vs_9 9 v28) w_34) ∧
 (∀ (S_10 : Nat → Bool) (vs_10 : Nat → Value) (w_35 : World), Inv S_10 vs_10 w_35 → Cl S_10 → S_10 10 = false → (∀ j, j ∈ ([] : List Nat) → S_10 j = true) →
 kLoad (cN Tryz.prog) w_35 59 (.pointer (some ⟨b4, 0, none⟩)) fun v29 w_36 =>
 Inv (inc S_10 10) (setV vs_10 10 v29) w_36) ∧
 (∀ (S_11 : Nat → Bool) (vs_11 : Nat → Value) (w_37 : World), Inv S_11 vs_11 w_37 → Cl S_11 → S_11 11 = false → (∀ j, j ∈ ([9, 10, 6] : List Nat) → S_11 j = true) →
 kCallV (cN Tryz.prog) w_37 (vs_11 9) #[(vs_11 10)] fun v30 w_38 =>
 Inv (inc S_11 11) (setV vs_11 11 v30) w_38) ∧
 (∀ (S_12 : Nat → Bool) (vs_12 : Nat → Value) (w_39 : World), Inv S_12 vs_12 w_39 → Cl S_12 → S_12 12 = false → (∀ j, j ∈ ([5, 11] : List Nat) → S_12 j = true) →
 kBlt (cN Tryz.prog) w_39 .append #[44, 44] 44 #[false, false] #[(vs_12 5), (vs_12 11)] fun v31 w_40 =>
 Inv (inc S_12 12) (setV vs_12 12 v31) w_40) ∧
 True) tail := by
  have hrange : 0 ≤ r.1 ∧ r.1 ≤ 4 := by
    simp only [checkE] at hc
    split at hc
    · omega
    · split at hc
      · omega
      · rename_i h; omega
  refine ⟨eInv w0 r b3 bv b4 q1 q2 x sl m bs, fun vs => ⟨fun j h => (by cases h), by simpa [ePh] using hS.drewN 1⟩, ⟨?_, ?_, ?_, ?_, ?_, ?_, ?_, ?_, ?_, ?_, ?_, ?_, ?_, trivial⟩, fun S vs W hI hd => ht vs W (by have := hI.2; unfold ePh at this; rwa [if_pos (hd 12 (by omega))] at this)⟩
  · intro S vs W hI hC hSi hd
    obtain ⟨L, hL, h1, h3⟩ := ePh_box hI.2
    exact kLd hL 1 h1 rfl rfl (eInv_pure rfl hI rfl)
  · intro S vs W hI hC hSi hd
    exact kFa49 _ (by omega) (eInv_pure rfl hI rfl)
  · intro S vs W hI hC hSi hd
    rw [hI.1 1 (hd 1 (by simp)) rfl]
    obtain ⟨L, hL, h1, h3⟩ := ePh_box hI.2
    exact kLd hL 3 h3 rfl rfl (eInv_pure rfl hI rfl)
  · intro S vs W hI hC hSi hd
    rw [hI.1 2 (hd 2 (by simp)) rfl]
    refine kConv_int (c := ⟨Tryz.prog, _, false⟩) (q' := .u8) (by rw [show (Cx.mk Tryz.prog _ false).P.underlying 57 = _ from Tryz.underlying57]; rfl) Tryz.underlying5 (eInv_pure rfl hI ?_)
    show Value.int .u8 (IntKind.u8.wrap r.1) = vB r.1.toNat
    have : IntKind.u8.wrap r.1 = (r.1.toNat : Int) := by simp [IntKind.wrap, IntKind.bits, IntKind.signed]; omega
    rw [this]; rfl
  · intro S vs W hI hC hSi hd
    have f5 : S 5 = false := by cases h : S 5 with | false => rfl | true => exact absurd (hC 5 h 4 (by simp)) (by simp [hSi])
    have f6 : S 6 = false := by cases h : S 6 with | false => rfl | true => exact absurd (hC 6 h 5 (by simp)) (by simp [f5])
    have f11 : S 11 = false := by cases h : S 11 with | false => rfl | true => exact absurd (hC 11 h 6 (by simp)) (by simp [f6])
    have f12 : S 12 = false := by cases h : S 12 with | false => rfl | true => exact absurd (hC 12 h 5 (by simp)) (by simp [f5])
    rw [hI.1 3 (hd 3 (by simp)) rfl]
    have hp := hI.2
    simp only [ePh, f12, f11, f6, f5, hSi, Bool.false_eq_true, if_false] at hp
    refine kBuildS_st (E38 W) hp [vB r.1.toNat] rfl rfl (by omega) (by omega) (by simp [vB_size]) fun y W' hS' => eInv_eff rfl hI ?_
    have h2 : St w0 (eL r b3 bv b4 q1 q2 x sl x m bs ++ [Own.row y 5 1 1 [vB r.1.toNat]]) W' := hS'
    simpa [ePh, inc, setV, f12, f11, f6, f5] using h2
  · intro S vs W hI hC hSi hd
    have f6 : S 6 = false := by cases h : S 6 with | false => rfl | true => exact absurd (hC 6 h 5 (by simp)) (by simp [hSi])
    have f11 : S 11 = false := by cases h : S 11 with | false => rfl | true => exact absurd (hC 11 h 6 (by simp)) (by simp [f6])
    have f12 : S 12 = false := by cases h : S 12 with | false => rfl | true => exact absurd (hC 12 h 5 (by simp)) (by simp [hSi])
    have t4 := hd 4 (by simp)
    rw [hI.1 0 (hd 0 (by simp)) rfl]
    have hp := hI.2
    simp only [ePh, f12, f11, f6, hSi, t4, Bool.false_eq_true, if_false, if_true] at hp
    refine kAppRow_st (E38 W) hp 0 6 rfl rfl (by simp [vB, Value.oneCell']) (by simp [maxLen]; omega) (by omega) fun y W' hS' => eInv_eff rfl hI ?_
    have h2 := hS'.take 6
    simp only [ePh, inc, setV, f12, f11, f6]
    simpa [eL] using h2
  · intro S vs W hI hC hSi hd
    have f11 : S 11 = false := by cases h : S 11 with | false => rfl | true => exact absurd (hC 11 h 6 (by simp)) (by simp [hSi])
    have f12 : S 12 = false := by cases h : S 12 with | false => rfl | true => exact absurd (hC 12 h 11 (by simp)) (by simp [f11])
    have t5 := hd 5 (by simp)
    have hp := hI.2
    simp only [ePh, f12, f11, hSi, t5, Bool.false_eq_true, if_false, if_true] at hp
    refine kCall_i (Tryz.call143 _ _) (laid79 _ _ fun b W' hB hb hm => eInv_eff rfl hI ?_)
    have h2 := hp.push (grown_of_below hB) (o := .ob b (.map laidEsR 5)) ⟨Nat.le_trans hp.size hb, hm⟩ (fun k hk => by cases hk; exact hb)
    simp only [ePh, inc, setV, f12, f11]
    exact ⟨b, rfl, by simpa using h2⟩
  · intro S vs W hI hC hSi hd
    exact kFa49 _ (by omega) (eInv_pure rfl hI rfl)
  · intro S vs W hI hC hSi hd
    rw [hI.1 7 (hd 7 (by simp)) rfl]
    obtain ⟨L, hL, h1, h3⟩ := ePh_box hI.2
    exact kLd hL 3 h3 rfl rfl (eInv_pure rfl hI rfl)
  · intro S vs W hI hC hSi hd
    have t6 := hd 6 (by simp)
    have f11 : S 11 = false := by cases h : S 11 with | false => rfl | true => exact absurd (hC 11 h 9 (by simp)) (by simp [hSi])
    have f12 : S 12 = false := by cases h : S 12 with | false => rfl | true => exact absurd (hC 12 h 11 (by simp)) (by simp [f11])
    rw [hI.1 8 (hd 8 (by simp)) rfl]
    have hp := hI.2
    simp only [ePh, f12, f11, t6, Bool.false_eq_true, if_false, if_true] at hp
    obtain ⟨g, hg, hp⟩ := hp
    rw [hg]
    obtain ⟨j, hj⟩ := laid_findR r.1 hrange.1 hrange.2
    exact kLook_map (c := ⟨Tryz.prog, _, false⟩) (hp.get 6 rfl).2 Tryz.underlying200 Tryz.underlying57 rfl hj (eInv_pure rfl hI rfl)
  · intro S vs W hI hC hSi hd
    obtain ⟨L, hL, h1, h3⟩ := ePh_box hI.2
    exact kLoadA_st (c := ⟨Tryz.prog, _, false⟩) hL 3 h3 Tryz.underlying59 rfl Tryz.sizeOf59 rfl (eInv_pure rfl hI rfl)
  · intro S vs W hI hC hSi hd
    have t6 := hd 6 (by simp)
    have f12 : S 12 = false := by cases h : S 12 with | false => rfl | true => exact absurd (hC 12 h 11 (by simp)) (by simp [hSi])
    rw [hI.1 9 (hd 9 (by simp)) rfl, hI.1 10 (hd 10 (by simp)) rfl]
    have hp := hI.2
    simp only [ePh, f12, hSi, t6, Bool.false_eq_true, if_false, if_true] at hp
    obtain ⟨g, hg, hp⟩ := hp
    have hlc := lay_call r hc hr W
    refine kCallV_i ((hlc (fun _ _ => True) (fun _ _ _ _ => trivial)).1 _ _) ((hlc _ fun y W' hB ho => ?_).2)
    refine eInv_eff rfl hI ?_
    have h2 := (hp.take 6).made hB ho
    simp only [ePh, inc, setV, f12]
    simpa [eL] using h2
  · intro S vs W hI hC hSi hd
    have t5 := hd 5 (by simp)
    have t11 := hd 11 (by simp)
    have hp := hI.2
    simp only [ePh, hSi, t11, Bool.false_eq_true, if_false, if_true] at hp
    refine kAppRow_st (E38 W) hp 0 6 rfl rfl (by simp [vB, Value.oneCell']) (by simp [maxLen]; omega) (by omega) fun y W' hS' => eInv_eff rfl hI ?_
    have h2 := hS'.take 6
    simp only [ePh, inc, setV]
    simpa [eL] using h2
def enc1 (r : AV) : List Nat := r.1.toNat :: layB r
theorem badE_take {rows : List AV} {i : Nat} (hi : i < rows.length) (h : ∀ r ∈ rows.take i, checkE r = 0) (hc : checkE rows[i] ≠ 0) : badE rows = checkE rows[i] := by
  induction rows generalizing i with
  | nil => simp at hi
  | cons a l ih =>
    cases i with
    | zero => simp [badE] at hc ⊢; intro h0; exact absurd h0 hc
    | succ i =>
      have ha : checkE a = 0 := h a (by simp)
      simp only [badE, ha, ne_eq, not_true_eq_false, if_false, List.getElem_cons_succ] at hc ⊢
      exact ih (by simpa using hi) (fun r hr => h r (by simp [hr])) hc
theorem badE_all {rows : List AV} (h : ∀ r ∈ rows, checkE r = 0) : badE rows = 0 := by
  induction rows with
  | nil => rfl
  | cons a l ih => simp [badE, h a (by simp), ih (fun r hr => h r (by simp [hr]))]
theorem checkE_size {r : AV} (h : checkE r = 0) : r.2.2.size ≤ 1000 := by
  simp only [checkE] at h
  rcases Nat.lt_or_ge 1000 r.2.2.size with h1 | h1
  · rw [if_pos h1] at h; omega
  · exact h1
theorem enc_len {rows : List AV} (h : ∀ r ∈ rows, checkE r = 0) (hr : ∀ r ∈ rows, Rng r) : (rows.flatMap enc1).length ≤ 1021 * rows.length := by
  induction rows with
  | nil => simp
  | cons a l ih =>
    have h1 := layB_len a (checkE_size (h a (by simp))) (hr a (by simp))
    have h2 := ih (fun r hr => h r (by simp [hr])) (fun r h => hr r (by simp [h]))
    simp only [List.flatMap_cons, List.length_append, enc1, List.length_cons] at h2 ⊢
    omega
theorem St.reidx {w0 W : World} {L L' : List Own} (h : St w0 L W) (f : Nat → Nat) (hf : ∀ i j, f i = f j → i = j) (hL : ∀ i a, L'[i]? = some a → L[f i]? = some a) : St w0 L' W :=
  ⟨h.below, fun o ho => by
    obtain ⟨i, hi⟩ := List.mem_iff_getElem?.1 ho
    exact h.get _ (hL i o hi), fun i j a b ha hb hij => h.apart _ _ a b (hL i a ha) (hL j b hb) (fun e => hij (hf i j e))⟩
def turn6 (i : Nat) : Nat := if i = 3 then 5 else if i = 4 then 3 else if i = 5 then 4 else i
theorem St.turn6 {w0 W : World} {a b c d e f : Own} (h : St w0 [a, b, c, d, e, f] W) : St w0 [a, b, c, f, d, e] W :=
  h.reidx Go.L.turn6 (by intro i j h; unfold Go.L.turn6 at h; (repeat' split at h) <;> omega) (by
    intro i x hx
    match i, hx with
    | 0, hx => exact hx
    | 1, hx => exact hx
    | 2, hx => exact hx
    | 3, hx => exact hx
    | 4, hx => exact hx
    | 5, hx => exact hx
    | n + 6, hx => simp at hx)
def eJ (w : World) (rows : List AV) (b3 bv : Nat) (sl : Value) (i : Nat) (W : World) : Prop :=
  ∃ x, St w [.row x 5 1 (numB rows.length ++ (rows.take i).flatMap enc1).length ((numB rows.length ++ (rows.take i).flatMap enc1).map vB), .bx b3 44 #[x], .bx bv 104 #[sl]] W ∧ ∀ r ∈ rows.take i, checkE r = 0
def eZ (w : World) (rows : List AV) (ex : Exit) (W : World) : Prop := ex = .panic [pe (badE rows) false] ∧ badE rows ≠ 0 ∧ Below w.heap.size w W
theorem encoded41 (rows : List AV) (w : World) (lo : Option Addr) (lc : Nat) (hl : Sl w lo 3 (rows.map vVal)) (hr : ∀ r ∈ rows, Rng r) (hb : rows.length ≤ 10000) (R : Ending → World → Prop)
    (h0 : encE rows = 0 → Makes w (encB rows) R) (h1 : encE rows ≠ 0 → ∀ W, Below w.heap.size w W → R (.panicked [pe (encE rows) false]) W) : Calls Tryz.prog 127 #[.slice lo rows.length lc] w R := by
  refine c127 _ _ _ _ _ ?_
  unfold vc127
  refine kLen22 (kCv3_84 (by omega) (kCall_i (Tryz.call141 _ _) (number77 _ (by omega) _ _ fun x0 W hB hown hlen => ?_)))
  have hS := (St.start w).made hB hown
  refine kAlloc_st Tryz.zeroValue44 hS fun b3 W hS => kSt hS 1 rfl (by simp [Value.cells]) ?_ ?_ rfl fun W hS => ?_
  · rcases hown.2 with ⟨rfl, _⟩ | ⟨g, cap, cur, rfl, _⟩ <;> rfl
  · rcases hown.2 with ⟨rfl, _⟩ | ⟨g, cap, cur, rfl, _⟩ <;> rfl
  refine kCall_i (Tryz.call142 _ _) (values78 _ _ _ _ _ fun bv W6 hB hbv hbox => ?_)
  have hS := hS.push (grown_of_below hB) (o := .bx bv 104 #[.slice lo rows.length lc]) ⟨Nat.le_trans hS.size hbv, hbox⟩ (fun k hk => by cases hk; exact hbv)
  have hcl : ∀ x n xs, ∀ o ∈ ([.row x 5 1 n xs, .bx b3 44 #[x], .bx bv 104 #[.slice lo rows.length lc]] : List Own), o.cl := by
    intro x n xs o ho; simp at ho; rcases ho with rfl | rfl | rfl <;> trivial
  have hSl : ∀ i V, eJ w rows b3 bv (.slice lo rows.length lc) i V → Sl V lo 3 (rows.map vVal) := by
    rintro i V ⟨x, hV, _⟩; exact hl.below hV.below
  refine ⟨.inl ⟨rfl, rows.length, fun i => [(rows.map vVal).getD i undef], eJ w rows b3 bv (.slice lo rows.length lc), eZ w rows, ?_, ?_, fun _ => rfl, ?_, ?_, iter112 hbox (by omega) hSl, ?_, ?_, ?_, ?_⟩⟩
  · rintro i _ V V' row ⟨x, hV, hc⟩ hg hrow
    exact ⟨x, hV.turn (hcl _ _ _) hg (fun r hr => ⟨Nat.le_trans hS.size (hrow r hr).1, (hrow r hr).2⟩), hc⟩
  · rintro ex _ V V' row ⟨he, hn, hV⟩ hg hrow
    exact ⟨he, hn, Below.turn hV hg (fun r hr => ⟨Nat.le_trans hS.size (hrow r hr).1, (hrow r hr).2⟩)⟩
  · have hS' : St w [.row x0 5 1 (numB rows.length).length ((numB rows.length).map vB), .bx b3 44 #[x0], .bx bv 104 #[.slice lo rows.length lc]] W6 := hS
    exact ⟨x0, by simpa using hS', by simp⟩
  · rintro i l D lo' V hi hD hl' hlD hlo hdf ⟨x, hV, hc⟩
    have hx : ([(rows.map vVal).getD i undef] : List Value).getD 0 undef = vVal rows[i] := by simp [hi]
    dsimp only
    rw [hx]
    have hcl' := hcl x (numB rows.length ++ (rows.take i).flatMap enc1).length ((numB rows.length ++ (rows.take i).flatMap enc1).map vB)
    have hV2 := hV.adopt (o := .ob l (.loop lo')) ⟨Nat.le_trans hS.size hl', hlo⟩ (fun p hp => by
      cases hb : p.blk with
      | none => exact .inl rfl
      | some b =>
        right; intro he
        obtain ⟨c, t, f, hc2⟩ := Own.cl_blk (hV.all p hp) (hcl' p hp) b hb
        cases he; rw [hlo] at hc2; cases hc2)
    have hV3 := hV2.adopt (o := .ob D (.deferred (some []))) ⟨Nat.le_trans hS.size hD, hdf⟩ (fun p hp => by
      rcases List.mem_append.1 hp with hp | hp
      · cases hb : p.blk with
        | none => exact .inl rfl
        | some b =>
          right; intro he
          obtain ⟨c, t, f, hc2⟩ := Own.cl_blk (hV.all p hp) (hcl' p hp) b hb
          cases he; rw [hdf] at hc2; cases hc2
      · simp at hp; subst hp; right; intro he; cases he; exact hlD rfl)
    have bad : checkE rows[i] ≠ 0 → ∀ V', Below w.heap.size w V' → eZ w rows (.panic [pe (checkE rows[i]) false]) V' := fun hne V' hB' => by
      have := badE_take hi hc hne
      exact ⟨by rw [this], by rw [this]; exact hne, hB'⟩
    refine kAlloc_st Tryz.zeroValue59 hV3 fun b4 V1 hS1 => kStoreA_st hS1 5 rfl rfl (by simp [Value.oneCell']) Tryz.sizeOf59 fun V2 hS2 => ?_
    refine ⟨(hS2.get 3 rfl).2.trans hlo.symm, (hS2.get 4 rfl).2.trans hdf.symm, fun lo2 => ?_⟩
    have hl2 := hS2.get 3 rfl
    have hS3 := (hS2.set (W' := V2.putObj l (.loop lo2)) 3 (o' := .ob l (.loop lo2)) rfl (grownBy_putObj' V2 l _) ⟨hl2.1, World.putObj_heap_same (Array.getElem?_eq_some_iff.1 hl2.2).1⟩ (.inl rfl))
    have hS4 := St.turn6 hS3
    generalize V2.putObj l (.loop lo2) = V3 at hS4 ⊢
    refine kLoadA_st (c := ⟨Tryz.prog, _, false⟩) hS4 3 rfl Tryz.underlying59 rfl Tryz.sizeOf59 rfl ?_
    refine kCall_i (Tryz.call104 _ _) (check57 rows[i] _ _ fun V4 hB4 => ?_)
    have hS5 := hS4.bel hB4
    have hend : ∀ ex V', St w [.ob l (.loop lo2), .ob D (.deferred (some []))] V' → eZ w rows ex V' → ex ≠ .normal → rndEnd l D lo2 V (fun ex W' => match ex with | .normal => eJ w rows b3 bv (.slice lo rows.length lc) (i + 1) W' | ex => eZ w rows ex W') ex [] V' := by
      intro ex V' hS' hz hn
      refine ⟨rfl, (hS'.get 0 rfl).2, (hS'.get 1 rfl).2.trans hdf.symm, ?_⟩
      cases ex <;> first | exact absurd rfl hn | exact hz
    refine kEq_int (kCall_i (Tryz.call89 _ _) (must44 _ _ _ _ (fun hok => ?_) (fun hbad => ?_)))
    · have hok : checkE rows[i] = 0 := by simpa using hok
      have hRi := hr _ (List.getElem_mem hi)
      have hll := layB_len rows[i] (checkE_size hok) hRi
      have hpre := enc_len hc (fun r h => hr r (List.mem_of_mem_take h))
      have hn10 := numB_len64 (n := rows.length) (by omega)
      have htl : (rows.take i).length ≤ 10000 := by simp; omega
      refine ⟨rfl, region41 (q1 := .ob l (.loop lo2)) (q2 := .ob D (.deferred (some []))) (bs := numB rows.length ++ (rows.take i).flatMap enc1) hS5 hok hRi (by simp only [List.length_append]; omega) (by omega) fun vs V5 hS6 => ?_⟩
      have hrow : V5.ownsRow w.heap.size 5 1 (vs 12) _ _ := hS6.get 0 rfl
      have hval : (vs 12).cells = #[vs 12] ∧ (vs 12).oneCell' = true := by
        rcases hrow.2 with ⟨h, _⟩ | ⟨g, cap, cur, h, _⟩ <;> rw [h] <;> exact ⟨rfl, rfl⟩
      refine kSt hS6 1 rfl (by simp) hval.1 hval.2 rfl fun V6 hS7 => ⟨rfl, (hS7.get 4 rfl).2, (hS7.get 5 rfl).2.trans hdf.symm, ?_⟩
      have h3 := hS7.take 3
      have ebs : numB rows.length ++ (rows.take i).flatMap enc1 ++ [rows[i].1.toNat] ++ layB rows[i] = numB rows.length ++ (rows.take (i + 1)).flatMap enc1 := by
        rw [List.take_succ_eq_append_getElem hi, List.flatMap_append]
        simp [enc1]
      have elen : (numB rows.length ++ (rows.take i).flatMap enc1).length + 1 + (layB rows[i]).length = (numB rows.length ++ (rows.take (i + 1)).flatMap enc1).length := by
        rw [← ebs]; simp; omega
      refine ⟨vs 12, ?_, fun r hr => ?_⟩
      · rw [← elen, ← ebs]
        simpa [eL] using h3
      · rw [List.take_succ_eq_append_getElem hi] at hr
        rcases List.mem_append.1 hr with hr | hr
        · exact hc r hr
        · simp at hr; subst hr; exact hok
    · have hbad : checkE rows[i] ≠ 0 := by simpa using hbad
      refine hend (.panic _) V4 (hS5.reidx (fun i => i + 4) (by intro i j h; omega) (by
        intro i a ha
        match i, ha with
        | 0, ha => exact ha
        | 1, ha => exact ha
        | n + 2, ha => simp at ha)) (bad hbad V4 hS5.below) (by simp)
  · rintro D V hD hdf ⟨x, hV, hc⟩
    rw [List.take_length] at hV hc
    have hV2 := hV.adopt (o := .ob D (.deferred (some []))) ⟨Nat.le_trans hS.size hD, hdf⟩ (fun p hp => by
      cases hb : p.blk with
      | none => exact .inl rfl
      | some b =>
        right; intro he
        obtain ⟨c, t, f, hc2⟩ := Own.cl_blk (hV.all p hp) (hcl _ _ _ p hp) b hb
        cases he; rw [hdf] at hc2; cases hc2)
    have hD2 := hV2.get 3 rfl
    have hS3 := (hV2.set (W' := V.putObj D (.deferred none)) 3 (o' := .ob D (.deferred none)) rfl (grownBy_putObj' V D _) ⟨hD2.1, World.putObj_heap_same (Array.getElem?_eq_some_iff.1 hD2.2).1⟩ (.inl rfl))
    have ebs : numB rows.length ++ rows.flatMap enc1 = encB rows := rfl
    rw [ebs] at hV hV2 hS3
    have hbe := badE_all hc
    have hrow : V.ownsRow w.heap.size 5 1 x _ _ := hV.get 0 rfl
    obtain ⟨a, cp, rfl⟩ : ∃ a cp, x = .slice a (encB rows).length cp := by
      rcases hrow.2 with ⟨h, hn⟩ | ⟨g, cap, cur, h, _⟩
      · exact ⟨none, 0, by rw [h, hn]⟩
      · exact ⟨_, _, h⟩
    have hpan : ¬ (rows.length ≤ 32 ∧ (encB rows).length ≤ 4000) → R (.panicked [pe 3 false]) (V.putObj D (.deferred none)) := fun hn => by
      have he : encE rows = 3 := by simp [encE, hbe, hn]
      have := h1 (by omega) _ hS3.below
      rwa [he] at this
    refine kLen22 (kBin_leq (kIf_d (fun h32 => ?_) (fun h32 => ?_)))
    · refine kLd hV 1 rfl rfl rfl (kLen38 (kBin_leq (kCall_i (Tryz.call89 _ _) (must44 _ _ _ _ (fun hok => ?_) (fun hbad => ?_)))))
      · refine kLd hV 1 rfl rfl rfl ⟨hdf, ?_⟩
        have he : encE rows = 0 := by simp at hok; simp [encE, hbe]; omega
        exact h0 he _ _ hS3.below (hS3.get 0 rfl)
      · exact ⟨hdf, hpan (by simp at hbad; omega)⟩
    · exact kCall_i (Tryz.call89 _ _) (must44 _ _ _ _ (fun hok => by cases hok) (fun _ => ⟨hdf, hpan (by omega)⟩))
  · rintro D V hD hdf ⟨he, _⟩; cases he
  · rintro id D V hD hdf ⟨he, _⟩; cases he
  · rintro ch D V hD hdf ⟨he, hn, hV⟩
    cases he
    have heE : encE rows = badE rows := by simp [encE, hn]
    have := h1 (by rw [heE]; exact hn) (V.putObj D (.deferred none)) (Below.turn hV (grownBy_putObj' V D _) (fun r hr => by cases hr; exact ⟨Nat.le_trans hS.size hD, _, hdf, rfl⟩))
    rw [heE] at this
    exact ⟨hdf, this⟩
theorem Lv_ret39 {p c : Value} {rs : List RV} {R : Ending → World → Prop} {w : World} (h : RetK Tryz.prog rs R w) : Lv Tryz.prog rs R [{ target := .fn (.func 86) #[], args := #[p, c] }] .returning w :=
  ⟨rfl, Tryz.call86, (caught_idle39 p c w).mono (by rintro e u' w' ⟨rfl, rfl, rfl⟩; exact h)⟩
theorem Lv_pan39 {w0 : World} {L : List Own} {rs : List RV} {R : Ending → World → Prop} {w : World} (hS : St w0 L w) (i : Nat) {b : Nat} {t : TypeId} {x n : Int} (hi : L[i]? = some (.bx b t #[.int .i64 x]))
    {fc : FuncId} {caps : Array Value} (Rc : World → Prop) (hf : ∀ args w, (callFunc fc args).run Tryz.prog w = .ok (.enter fc args) w)
    (hcl : ∀ W, St w0 (L.set i (.bx b t #[.int .i64 n])) W → Calls Tryz.prog fc caps W fun e w' => e = .returned unit ∧ Rc w') (h : ∀ W, Rc W → RetK Tryz.prog rs R W) :
    Lv Tryz.prog rs R [{ target := .fn (.func 86) #[], args := #[.pointer (some ⟨b, 0, none⟩), .func (.func fc) #[] caps] }] (.panicking [pe n false]) w :=
  ⟨rfl, Tryz.call86, (caught_panics39 ⟨b, 0, none⟩ x n fc caps Rc w (hS.cell i hi 0 rfl) (hS.unfrozen i hi 0) hf (hcl _ (hS.setCell i hi 0 _))).mono (by rintro e u' w' ⟨rfl, rfl, hR⟩; exact h _ hR)⟩
theorem Encode18 (rows : List AV) (w : World) (lo : Option Addr) (lc : Nat) (hl : Sl w lo 3 (rows.map vVal)) (hr : ∀ r ∈ rows, Rng r) (hb : rows.length ≤ 10000) (R : Ending → World → Prop)
    (h0 : encE rows = 0 → ∀ x W, Below w.heap.size w W → W.ownsRow w.heap.size 5 1 x (encB rows).length ((encB rows).map vB) → R (.returned (.tuple #[x, .int .i64 0])) W)
    (h1 : encE rows ≠ 0 → ∀ W, Below w.heap.size w W → R (.returned (.tuple #[.slice none 0 0, .int .i64 (encE rows)])) W) : Calls Tryz.prog 91 #[.slice lo rows.length lc] w R := by
  refine c91 _ _ _ _ _ ?_
  unfold vc91
  refine kAlloc_st Tryz.zeroValue44 (St.start w) fun b2 W hS => kAlloc_st Tryz.zeroValue26 hS fun b3 W hS => ?_
  refine kCall_i (Tryz.call127 _ _) (encoded41 rows _ _ _ (hl.below hS.below) hr hb _ (fun he x W' hB ho => ?_) (fun he W' hB => ?_))
  · have hS := hS.made hB ho
    have hrow : W'.ownsRow w.heap.size 5 1 x _ _ := hS.get 2 rfl
    have hval : x.cells = #[x] ∧ x.oneCell' = true := by
      rcases hrow.2 with ⟨h, _⟩ | ⟨g, cap, cur, h, _⟩ <;> rw [h] <;> exact ⟨rfl, rfl⟩
    refine kSt hS 0 rfl (by simp [Value.cells]) hval.1 hval.2 rfl fun W hS => kSt hS 1 rfl (by simp [Value.cells]) rfl rfl rfl fun W hS => Lv_ret39 (RetK_cell2 rfl rfl (hS.cell 0 rfl 0 rfl) (hS.cell 1 rfl 0 rfl) ?_)
    exact h0 he x _ hS.below (hS.get 2 rfl)
  · have hS := hS.bel hB
    refine Lv_pan39 hS 1 rfl (fun W => St w [Own.bx b2 44 #[.slice none 0 0], Own.bx b3 26 #[.int .i64 (encE rows)]] W) Tryz.call126 (fun W hS => ?_) (fun W hS => RetK_cell2 rfl rfl (hS.cell 0 rfl 0 rfl) (hS.cell 1 rfl 0 rfl) (h1 he _ hS.below))
    refine c126 _ _ _ ?_
    unfold vc126
    exact kSt hS 0 rfl (by simp [Value.cells]) rfl rfl rfl fun W hS => ⟨rfl, hS⟩
theorem RetK_agg {R : Ending → World → Prop} {w w0 : World} {L : List Own} (hS : St w0 L w) (i : Nat) {b : Nat} {cs : Array Value} (hi : L[i]? = some (.bx b 59 cs)) (hn : cs.size = 3) (h : R (.returned (.agg cs)) w) : RetK Tryz.prog [.cell (.pointer (some ⟨b, 0, none⟩)) 59] R w := by
  refine ⟨.agg cs, ?_, h⟩
  have := run_loadVar_row (P := Tryz.prog) w b 59 59 cs (0, 0) _ (hS.get i hi).2 Tryz.underlying59 rfl (by rw [info_of (Tryz.typeInfo59 w), hn]; rfl)
  simp [resSem, asAddr, this]
theorem Bs.keep {W W' : World} {a : Option Addr} {n cp : Nat} {bs : List Nat} (h : Bs W a n cp bs) (hB : Below W.heap.size W W') : Bs W' a n cp bs := ⟨h.sl.below hB, h.len, h.cap⟩
section
variable {X : Chain → World → Prop} {q : Bool} {w : World} {k : Value → World → Prop} {a : Option Addr} {n cp : Nat}
theorem kSl38_l {l : Nat} (h1 : l ≤ n) (h : k (.slice (if cp = l then a else a.map (·.add (l * 1))) (n - l) (cp - l)) w) : kSl ⟨Tryz.prog, X, q⟩ w 44 (.slice a n cp) (some (.int .i64 l)) none none k :=
  ⟨kVal_pure (c := ⟨Tryz.prog, X, q⟩) (fun w' => by
    rw [run_sliceAt_slice w' 44 _ _ _ _ (elem_of Tryz.underlying44), run_slice_l w' 44 a n cp (elem_of Tryz.underlying44) .i64 l (by omega) (by omega)]
    rw [show Tryz.prog.elem 44 = 5 by simp [Program.elem, Tryz.underlying44], Tryz.sizeOf5]
    rfl) h⟩
theorem kSl38_hm {l : Nat} (h1 : l ≤ cp) (h : k (.slice (if l = 0 then a else a.map (·.add (0 * 1))) l l) w) : kSl ⟨Tryz.prog, X, q⟩ w 44 (.slice a n cp) none (some (.int .i64 l)) (some (.int .i64 l)) k :=
  ⟨kVal_pure (c := ⟨Tryz.prog, X, q⟩) (fun w' => by
    rw [run_sliceAt_slice w' 44 _ _ _ _ (elem_of Tryz.underlying44), run_slice_hm w' 44 a n cp (elem_of Tryz.underlying44) .i64 .i64 l l (by omega) (by omega) (by omega)]
    rw [show Tryz.prog.elem 44 = 5 by simp [Program.elem, Tryz.underlying44], Tryz.sizeOf5]
    rfl) h⟩
theorem kSl38_h {l : Nat} (h1 : l ≤ cp) (h : k (.slice (if cp = 0 then a else a.map (·.add (0 * 1))) l cp) w) : kSl ⟨Tryz.prog, X, q⟩ w 44 (.slice a n cp) none (some (.int .i64 l)) none k :=
  ⟨kVal_pure (c := ⟨Tryz.prog, X, q⟩) (fun w' => by
    rw [run_sliceAt_slice w' 44 _ _ _ _ (elem_of Tryz.underlying44), run_slice_h w' 44 a n cp (elem_of Tryz.underlying44) .i64 l (by omega) (by omega)]
    rw [show Tryz.prog.elem 44 = 5 by simp [Program.elem, Tryz.underlying44], Tryz.sizeOf5]
    rfl) h⟩
end
theorem kFa81 {X : Chain → World → Prop} {q : Bool} {w : World} {b o : Nat} {k : Value → World → Prop} (h : k (.pointer (some ⟨b, o, none⟩)) w) : kFa ⟨Tryz.prog, X, q⟩ w 142 (.pointer (some ⟨b, o, none⟩)) 0 k :=
  kFa_i (c := ⟨Tryz.prog, X, q⟩) Tryz.underlying142 rfl (n := 0) Tryz.sizeOf44 h
theorem kFa83 {X : Chain → World → Prop} {q : Bool} {w : World} {b o : Nat} {k : Value → World → Prop} (h : k (.pointer (some ⟨b, o, none⟩)) w) : kFa ⟨Tryz.prog, X, q⟩ w 144 (.pointer (some ⟨b, o, none⟩)) 0 k :=
  kFa_i (c := ⟨Tryz.prog, X, q⟩) Tryz.underlying144 rfl (n := 0) Tryz.sizeOf142 h
/-- '(*left).take' of the row's reader. -/
theorem take81 {w0 W : World} {L : List Own} (hS : St w0 L W) (i : Nat) {b : Nat} {t : TypeId} {a : Option Addr} {n cp : Nat} (hi : L[i]? = some (.bx b t #[.slice a n cp])) (hcap : n ≤ cp) (l : Nat) (hn : n ≤ 9223372036854775807) (R : Ending → World → Prop)
    (h0 : l ≤ n → ∀ W', St w0 (L.set i (.bx b t #[.slice (if cp = l then a else a.map (·.add (l * 1))) (n - l) (cp - l)])) W' → R (.returned (.slice (if l = 0 then a else a.map (·.add (0 * 1))) l l)) W')
    (h1 : n < l → R (.panicked [pe 210 false]) W) : Calls Tryz.prog 124 #[.pointer (some ⟨b, 0, none⟩), .int .i64 l] W R := by
  refine c124 _ _ _ _ ?_
  unfold vc124
  refine kNil_p (kFa81 (kLd hS i hi rfl rfl (kLen38 (kBin_leq (kCall_i (Tryz.call89 _ _) (must44 _ _ _ _ (fun hok => ?_) (fun hbad => ?_)))))))
  · have hl : l ≤ n := by simp at hok; omega
    refine kNil_p (kFa81 (kLd hS i hi rfl rfl (kSl38_hm (by omega) (kNil_p (kFa81 (kLd hS i hi rfl rfl (kSl38_l hl (kNil_p (kFa81 (kSt hS i hi (by simp) rfl rfl rfl fun W' hS' => ?_))))))))))
    exact h0 hl W' hS'
  · exact h1 (by simp at hbad; omega)
/-- A number as it is read: its value and how many bytes it takes. -/
def readF : Nat → List Nat → Nat → Option (Nat × Nat)
  | _, [], _ => none
  | i, b :: bs, acc =>
    if 10 ≤ i then none
    else if i = 9 ∧ 1 < b then none
    else if 128 ≤ b then readF (i + 1) bs (acc + (b % 128) * 128 ^ i)
    else if b = 0 ∧ 0 < i then none
    else some (acc + b * 128 ^ i, i + 1)
def readN (bs : List Nat) : Option (Nat × Nat) := readF 0 bs 0
theorem andNot128 (b : Nat) (hb : b < 256) : bits .andNot .u8 (b : Int) 128 = ((b % 128 : Nat) : Int) := by
  have h : ∀ x : Nat, x < 256 → bits .andNot .u8 (x : Int) 128 = ((x % 128 : Nat) : Int) := by decide +kernel
  exact h b hb
theorem u64_wrap {n : Nat} (h : n < 18446744073709551616) : IntKind.u64.wrap (n : Int) = n := by
  simp [IntKind.wrap, IntKind.bits, IntKind.signed]; omega
theorem or_add64 (acc x s : Nat) (ha : acc < 2 ^ s) (hx : acc + x * 2 ^ s < 18446744073709551616) : bits .or .u64 (acc : Int) ((x * 2 ^ s : Nat) : Int) = ((acc + x * 2 ^ s : Nat) : Int) := by
  have h1 : ((BitVec.ofInt 64 (acc : Int)) ||| (BitVec.ofInt 64 ((x * 2 ^ s : Nat) : Int))).toNat = acc + x * 2 ^ s := by
    rw [BitVec.toNat_or, BitVec.toNat_ofInt, BitVec.toNat_ofInt]
    have e1 : ((acc : Int) % ((2 ^ 64 : Nat) : Int)).toNat = acc := by omega
    have e2 : (((x * 2 ^ s : Nat) : Int) % ((2 ^ 64 : Nat) : Int)).toNat = x * 2 ^ s := by omega
    rw [e1, e2, Nat.mul_comm x, Nat.or_comm, ← Nat.two_pow_add_eq_or_of_lt ha, Nat.add_comm]
  show IntKind.u64.wrap (((BitVec.ofInt 64 (acc : Int)) ||| (BitVec.ofInt 64 ((x * 2 ^ s : Nat) : Int))).toNat : Int) = _
  rw [h1]; exact u64_wrap hx
theorem kIa38 {X : Chain → World → Prop} {q : Bool} {w : World} {b o n cp : Nat} {i : Nat} {k : Value → World → Prop} (hi : i < n) (h : k (.pointer (some ⟨b, o + i * 1, none⟩)) w) : kIa ⟨Tryz.prog, X, q⟩ w 44 (.slice (some ⟨b, o, none⟩) n cp) (.int .i64 i) k :=
  kIa_sl (c := ⟨Tryz.prog, X, q⟩) Tryz.underlying44 Tryz.sizeOf5 hi h
theorem kBin_andNot {c : Cx} {w : World} {k : Value → World → Prop} {t : TypeId} {q : IntKind} {a b : Int} (h : k (.int q (bits .andNot q a b)) w) : kBin c w .andNot t (.int q a) (.int q b) k := ⟨kVal_pure (fun _ => by rw [binOp_andNot, intBits_andNot]; rfl) h⟩
theorem kCv5_84 {X : Chain → World → Prop} {q : Bool} {w : World} {k : Value → World → Prop} {a : Nat} (ha : a < 256) (h : k (.int .u64 (a : Int)) w) : kConv ⟨Tryz.prog, X, q⟩ w 5 145 (.int .u8 a) k :=
  kConv_int (c := ⟨Tryz.prog, X, q⟩) (q' := .u64) (by rw [show (Cx.mk Tryz.prog X q).P.underlying 5 = _ from Tryz.underlying5]; rfl) Tryz.underlying145 (by rw [u64_wrap (by omega)]; exact h)
theorem pow128 (i : Nat) : 128 ^ i = 2 ^ (7 * i) := by rw [show (128 : Nat) = 2 ^ 7 by decide, ← Nat.pow_mul]
theorem readF_ge {i : Nat} (hi : 10 ≤ i) (bs : List Nat) (acc : Nat) : readF i bs acc = none := by
  cases bs with
  | nil => rfl
  | cons b l => rw [readF, if_pos hi]
theorem readNum80 {W : World} {a : Option Addr} {n cp : Nat} {bs : List Nat} (hB : Bs W a n cp bs) (hbyte : ∀ b ∈ bs, b < 256) (hn : cp ≤ 9223372036854775807) (R : Ending → World → Prop)
    (h : ∀ x m, readN bs = some (x, m) → R (.returned (.tuple #[.int .u64 (x : Nat), .int .i64 (m : Nat), .int .i64 0])) W)
    (h' : readN bs = none → R (.returned (.tuple #[.int .u64 0, .int .i64 0, .int .i64 130])) W) : Calls Tryz.prog 123 #[.slice a n cp] W R := by
  refine c123 _ _ _ _ _ ?_
  unfold vc123
  have hcap := hB.cap
  have hlen := hB.len
  obtain ⟨p, hp⟩ : ∃ p : Nat, p = min n 10 := ⟨_, rfl⟩
  have hp2 : (if (10 : Int) < (n : Int) then (10 : Int) else (n : Int)) = (p : Int) := by split <;> omega
  refine kLen38 (kMin2 ?_)
  rw [hp2]
  refine kSl38_h (by omega) (kLen38 ?_)
  have hT := hB.take (l := p) (m := cp) (by omega) (by omega)
  generalize (if cp = 0 then a else a.map (·.add (0 * 1))) = a' at hT ⊢
  refine ⟨⟨fun cs V => V = W ∧ ∃ (i acc : Nat), cs = [.int .u64 acc, .int .i64 i] ∧ i ≤ p ∧ acc < 128 ^ i ∧ readN bs = readF i (bs.drop i) acc,
    fun cs _ => p - (match cs with | [_, .int _ i] => i.toNat | _ => 0), ⟨rfl, 0, 0, rfl, by omega, by simp, rfl⟩, ?_⟩⟩
  rintro cs ds V ⟨rfl, i, acc, rfl, hip, hacc, heq⟩
  dsimp only [List.getD_cons_zero, List.getD_cons_succ]
  refine kBin_lss (kIf_d (fun hlt => ?_) (fun hge => ?_))
  · have hi' : i < p := by omega
    have hib : i < bs.length := by omega
    have hb256 := hbyte _ (List.getElem_mem hib)
    have hdrop : readN bs = readF i (bs[i] :: bs.drop (i + 1)) acc := by rw [heq, List.drop_eq_getElem_cons hib]
    rw [readF, if_neg (by omega)] at hdrop
    obtain ⟨pb, po, rfl, hpb, hpr⟩ := hT.sl.elem (i := i) (v := vB bs[i]) (by rw [List.getElem?_map, List.getElem?_take_of_lt hi', List.getElem?_eq_getElem hib]; rfl)
    refine kIa38 hi' (kLdS rfl (hpr 0 _ rfl) (kJn_inv (fun cs V' => V' = V ∧ ¬ (i = 9 ∧ 1 < bs[i])) ?_ ?_))
    · rintro cs V ⟨rfl, hno⟩ ds
      rw [if_neg hno] at hdrop
      refine kBin_andNot ?_
      rw [andNot128 _ hb256]
      refine kCv5_84 (by omega) (kBin_mul ?_)
      rw [wrap_id (by omega) (by omega)]
      have hi9 : i ≤ 9 := by omega
      have hpi : (7 * (i : Int)).toNat = 7 * i := by omega
      have hx : acc + bs[i] % 128 * 128 ^ i < 18446744073709551616 := by
        rcases Nat.lt_or_ge i 9 with h1 | h1
        · have h2 : acc + bs[i] % 128 * 128 ^ i < 128 ^ (i + 1) := by
            have : bs[i] % 128 * 128 ^ i ≤ 127 * 128 ^ i := Nat.mul_le_mul_right _ (by omega)
            rw [Nat.pow_succ]; omega
          have h3 : 128 ^ (i + 1) ≤ 128 ^ 9 := Nat.pow_le_pow_right (by omega) (by omega)
          have : (128 : Nat) ^ 9 = 9223372036854775808 := by decide
          omega
        · have h9 : i = 9 := by omega
          have hb1 : bs[i] ≤ 1 := by omega
          have : (128 : Nat) ^ 9 = 9223372036854775808 := by decide
          have hm : bs[i] % 128 * 128 ^ i ≤ 1 * 128 ^ i := Nat.mul_le_mul_right _ (by omega)
          have h128 : 128 ^ i = 9223372036854775808 := by rw [h9]
          omega
      refine kBin_shl (by omega) (by simp [IntKind.bits]; omega) ?_
      rw [hpi]
      have hsh : IntKind.u64.wrap (((bs[i] % 128 : Nat) : Int) * 2 ^ (7 * i)) = ((bs[i] % 128 * 2 ^ (7 * i) : Nat) : Int) := by
        rw [← u64_wrap (n := bs[i] % 128 * 2 ^ (7 * i)) (by rw [← pow128]; omega)]
        congr 1
      rw [hsh]
      refine kBin_or ?_
      rw [or_add64 _ _ _ (by rw [← pow128]; exact hacc) (by rw [← pow128]; exact hx), ← pow128]
      refine kBin_geq (kIf_d (fun hbig => ?_) (fun hsm => ?_))
      · rw [if_pos (by omega)] at hdrop
        refine kBin_add (kD_i ⟨⟨rfl, i + 1, _, by rw [wrap_id (by omega) (by omega)]; rfl, hi', ?_, hdrop⟩, ?_⟩)
        · have : bs[i] % 128 * 128 ^ i ≤ 127 * 128 ^ i := Nat.mul_le_mul_right _ (by omega)
          rw [Nat.pow_succ]; omega
        · rw [wrap_id (by omega) (by omega)]; show p - ((i : Int) + 1).toNat < p - (i : Int).toNat; omega
      · rw [if_neg (by omega)] at hdrop
        refine kJn_inv (fun cs V' => V' = V ∧ ¬ (bs[i] = 0 ∧ 0 < i)) ?_ ?_
        · rintro cs V ⟨rfl, hno2⟩ ds
          rw [if_neg hno2] at hdrop
          refine kBin_add ?_
          rw [wrap_id (by omega) (by omega), show bs[i] % 128 = bs[i] by omega]
          exact h _ _ hdrop
        · intro J hJ
          refine kEq_int (kIf_eq (fun e0 => kBin_gtr (kIf_d (fun g => ?_) (fun g => kD_i (hJ _ _ ⟨rfl, by omega⟩)))) (fun e0 => kIf_f (kD_i (hJ _ _ ⟨rfl, by omega⟩))))
          rw [if_pos (by omega)] at hdrop
          exact h' hdrop
    · intro J hJ
      refine kEq_int (kIf_eq (fun e9 => kBin_gtr (kIf_d (fun g => ?_) (fun g => kD_i (hJ _ _ ⟨rfl, by omega⟩)))) (fun e9 => kIf_f (kD_i (hJ _ _ ⟨rfl, by omega⟩))))
      rw [if_pos (by omega)] at hdrop
      exact h' hdrop
  · refine h' ?_
    rw [heq]
    have : i = p := by omega
    by_cases h10 : 10 ≤ i
    · exact readF_ge h10 _ _
    · rw [List.drop_eq_nil_of_le (by omega)]; rfl
theorem readF_le : ∀ (bs : List Nat) (i acc x m : Nat), readF i bs acc = some (x, m) → i < m ∧ m ≤ i + bs.length ∧ m ≤ 10
  | [], i, acc, x, m, h => by simp [readF] at h
  | b :: bs, i, acc, x, m, h => by
    rw [readF] at h
    split at h
    · cases h
    split at h
    · cases h
    split at h
    · have := readF_le bs (i + 1) _ x m h
      simp only [List.length_cons]; omega
    split at h
    · cases h
    · cases h; simp; omega
theorem readN_le {bs : List Nat} {x m : Nat} (h : readN bs = some (x, m)) : 0 < m ∧ m ≤ bs.length ∧ m ≤ 10 := by
  have := readF_le bs 0 0 x m h; omega
theorem kExt3_0 {a b c : Value} {k : Value → Prop} (h : k a) : kExt (.tuple #[a, b, c]) 0 k := kExt_i rfl h
theorem kExt3_1 {a b c : Value} {k : Value → Prop} (h : k b) : kExt (.tuple #[a, b, c]) 1 k := kExt_i rfl h
theorem kExt3_2 {a b c : Value} {k : Value → Prop} (h : k c) : kExt (.tuple #[a, b, c]) 2 k := kExt_i rfl h
/-- '(*reader).number'. -/
theorem number43 {w0 W : World} {L : List Own} (hS : St w0 L W) (i : Nat) {b : Nat} {t : TypeId} {a : Option Addr} {n cp : Nat} {bs : List Nat} (hi : L[i]? = some (.bx b t #[.slice a n cp])) (hB : Bs W a n cp bs) (hbyte : ∀ b ∈ bs, b < 256) (hn : cp ≤ 9223372036854775807) (R : Ending → World → Prop)
    (h0 : ∀ x m, readN bs = some (x, m) → ∀ W', St w0 (L.set i (.bx b t #[.slice (if cp = m then a else a.map (·.add (m * 1))) (n - m) (cp - m)])) W' → R (.returned (.int .u64 (x : Nat))) W')
    (h1 : readN bs = none → R (.panicked [pe 210 false]) W) : Calls Tryz.prog 88 #[.pointer (some ⟨b, 0, none⟩)] W R := by
  refine c88 _ _ _ ?_
  unfold vc88
  have hcap := hB.cap
  have hlen := hB.len
  refine kNil_p (kFa83 (kFa81 (kLd hS i hi rfl rfl (kCall_i (Tryz.call123 _ _) (readNum80 hB hbyte hn _ (fun x m hr => ?_) (fun hr => ?_))))))
  · have hm := readN_le hr
    refine kExt3_0 (kExt3_1 (kExt3_2 (kEq_int (kCall_i (Tryz.call89 _ _) (must44 _ _ _ _ (fun _ => ?_) (fun hbad => by simp at hbad))))))
    refine kNil_p (kFa83 (kCall_i (Tryz.call124 _ _) (take81 hS i hi hcap m (by omega) _ (fun _ W' hS' => ?_) (fun hlt => by omega))))
    exact h0 x m hr W' hS'
  · refine kExt3_0 (kExt3_1 (kExt3_2 (kEq_int (kCall_i (Tryz.call89 _ _) (must44 _ _ _ _ (fun hok => by simp at hok) (fun _ => ?_))))))
    exact h1 hr
/-- The text of bytes. -/
def mkS (bs : List Nat) : ByteArray := ⟨(bs.map UInt8.ofNat).toArray⟩
theorem bl_mkS {bs : List Nat} (h : ∀ b ∈ bs, b < 256) : bl (mkS bs) = bs := by
  simp only [bl, mkS, List.map_map]
  conv => rhs; rw [← List.map_id bs]
  apply List.map_congr_left
  intro b hb
  simp [Nat.mod_eq_of_lt (h b hb)]
theorem mkS_bl (s : ByteArray) : mkS (bl s) = s := by
  obtain ⟨⟨l⟩⟩ := s
  simp [mkS, bl, Function.comp_def]
theorem kCv_str {X : Chain → World → Prop} {q : Bool} {W : World} {k : Value → World → Prop} {a : Option Addr} {n cp : Nat} {bs : List Nat} (hB : Bs W a n cp bs) (h : k (.string (mkS bs)) W) : kConv ⟨Tryz.prog, X, q⟩ W 44 9 (.slice a n cp) k := by
  refine ⟨kVal_look (c := ⟨Tryz.prog, X, q⟩) (v := .string (mkS bs)) (fun m => ?_) h⟩
  have e : strOfNums (bs.map (fun (b : Nat) => (b : Int))) = mkS bs := by simp [strOfNums, mkS, Function.comp_def]
  rcases hB.sl.at_ with he | ⟨b, o, ha, hb, hr⟩
  · have : bs = [] := by simpa using he
    subst this
    have hn : n = 0 := by simpa using hB.len
    subst hn
    cases a with
    | none => exact run_convert_bytes_nil (P := Tryz.prog) (W.drewN m) 44 5 Tryz.underlying44 Tryz.underlying5 _ _ 9 Tryz.underlying9
    | some a =>
      rw [run_convert_bytes_string (P := Tryz.prog) (W.drewN m) 44 9 5 _ 0 cp Tryz.underlying44 Tryz.underlying5 Tryz.underlying9, run_bytesToString (W.drewN m) a 0 cp [] (by simp [loadCells, loadCellsFrom])]
      rfl
  · subst ha
    rw [flat_vB] at hr
    rw [run_convert_bytes_arg (P := Tryz.prog) (W.drewN m) 44 5 Tryz.underlying44 Tryz.underlying5 b o n cp (bs.map (fun (b : Nat) => (b : Int))) (by simp [hB.len]) (fun i hi => ?_) 9 Tryz.underlying9, e]
    have hil : i < bs.length := by rw [← hB.len]; exact hi
    have := hr i (vB bs[i]) (by simp [hil])
    simp [hil]; exact this
def readS (bs : List Nat) : Option (List Nat × Nat) :=
  match readN bs with
  | some (x, m) => if x ≤ bs.length - m then some ((bs.drop m).take x, m + x) else none
  | none => none
theorem kFa153 {X : Chain → World → Prop} {q : Bool} {w : World} {b o : Nat} {k : Value → World → Prop} (h : k (.pointer (some ⟨b, o, none⟩)) w) : kFa ⟨Tryz.prog, X, q⟩ w 192 (.pointer (some ⟨b, o, none⟩)) 0 k :=
  kFa_i (c := ⟨Tryz.prog, X, q⟩) Tryz.underlying192 rfl (n := 0) Tryz.sizeOf44 h
theorem kFa155 {X : Chain → World → Prop} {q : Bool} {w : World} {b o : Nat} {k : Value → World → Prop} (h : k (.pointer (some ⟨b, o, none⟩)) w) : kFa ⟨Tryz.prog, X, q⟩ w 194 (.pointer (some ⟨b, o, none⟩)) 0 k :=
  kFa_i (c := ⟨Tryz.prog, X, q⟩) Tryz.underlying194 rfl (n := 0) Tryz.sizeOf192 h
theorem kCv84_3 {X : Chain → World → Prop} {q : Bool} {w : World} {k : Value → World → Prop} {a : Nat} (ha : a < 9223372036854775808) (h : k (.int .i64 (a : Int)) w) : kConv ⟨Tryz.prog, X, q⟩ w 145 3 (.int .u64 a) k :=
  kConv_int (c := ⟨Tryz.prog, X, q⟩) (q' := .i64) (by rw [show (Cx.mk Tryz.prog X q).P.underlying 145 = _ from Tryz.underlying145]; rfl) Tryz.underlying3 (by
    rw [wrap_id (by omega) (by omega)]; exact h)
theorem has118 {w0 W : World} {L : List Own} (hS : St w0 L W) (i : Nat) {b : Nat} {t : TypeId} {a : Option Addr} {n cp : Nat} (hi : L[i]? = some (.bx b t #[.slice a n cp])) (hn : n ≤ 9223372036854775807) (x : Nat) (R : Ending → World → Prop)
    (h : R (.returned (.bool (decide (x ≤ n)))) W) : Calls Tryz.prog 139 #[.pointer (some ⟨b, 0, none⟩), .int .u64 x] W R := by
  refine c139 _ _ _ _ ?_
  unfold vc139
  refine kNil_p (kFa153 (kLd hS i hi rfl rfl (kLen38 (kCv3_84 (by omega) (kBin_leq ?_)))))
  have e : decide ((x : Int) ≤ (n : Int)) = decide (x ≤ n) := by simp
  rw [e]; exact h
theorem take119 {w0 W : World} {L : List Own} (hS : St w0 L W) (i : Nat) {b : Nat} {t : TypeId} {a : Option Addr} {n cp : Nat} (hi : L[i]? = some (.bx b t #[.slice a n cp])) (hcap : n ≤ cp) (l : Nat) (hl : l ≤ n) (R : Ending → World → Prop)
    (h0 : ∀ W', St w0 (L.set i (.bx b t #[.slice (if cp = l then a else a.map (·.add (l * 1))) (n - l) (cp - l)])) W' → R (.returned (.slice (if l = 0 then a else a.map (·.add (0 * 1))) l l)) W') : Calls Tryz.prog 140 #[.pointer (some ⟨b, 0, none⟩), .int .i64 l] W R := by
  refine c140 _ _ _ _ ?_
  unfold vc140
  exact kNil_p (kFa153 (kLd hS i hi rfl rfl (kSl38_hm (by omega) (kNil_p (kFa153 (kLd hS i hi rfl rfl (kSl38_l hl (kNil_p (kFa153 (kSt hS i hi (by simp) rfl rfl rfl fun W' hS' => h0 W' hS'))))))))))
theorem readF_val : ∀ (bs : List Nat) (i acc x m : Nat), acc < 128 ^ i → (∀ b ∈ bs, b < 256) → readF i bs acc = some (x, m) → x < 18446744073709551616
  | [], i, acc, x, m, _, _, h => by simp [readF] at h
  | b :: bs, i, acc, x, m, ha, hb, h => by
    have hb0 := hb b (List.mem_cons_self ..)
    rw [readF] at h
    split at h
    · cases h
    rename_i h10
    split at h
    · cases h
    rename_i h9
    have hp9 : i ≤ 9 → 128 ^ i ≤ 128 ^ 9 := fun h => Nat.pow_le_pow_right (by omega) h
    have e9 : (128 : Nat) ^ 9 = 9223372036854775808 := by decide
    split at h
    · rename_i hbig
      refine readF_val bs (i + 1) _ x m ?_ (fun c hc => hb c (List.mem_cons_of_mem _ hc)) h
      have : b % 128 * 128 ^ i ≤ 127 * 128 ^ i := Nat.mul_le_mul_right _ (by omega)
      rw [Nat.pow_succ]; omega
    split at h
    · cases h
    · rename_i hsm _
      cases h
      rcases Nat.lt_or_ge i 9 with h1 | h1
      · have h2 : b * 128 ^ i ≤ 127 * 128 ^ i := Nat.mul_le_mul_right _ (by omega)
        have h3 : 128 ^ (i + 1) ≤ 128 ^ 9 := Nat.pow_le_pow_right (by omega) (by omega)
        rw [Nat.pow_succ] at h3
        omega
      · have h2 : i = 9 := by omega
        have h3 : b * 128 ^ i ≤ 1 * 128 ^ i := Nat.mul_le_mul_right _ (by omega)
        have := hp9 (by omega)
        omega
theorem readN_val {bs : List Nat} (hb : ∀ b ∈ bs, b < 256) {x m : Nat} (h : readN bs = some (x, m)) : x < 18446744073709551616 := readF_val bs 0 0 x m (by simp) hb h
theorem built153 (a : Option Addr) (n c : Nat) : Tryz.prog.built 192 [(0, .slice a n c)] = some #[.slice a n c] := by
  have h1 := info_of (Tryz.typeInfo192 default)
  have h2 := info_of (Tryz.typeInfo44 default)
  simp [Program.built, h1, Tryz.underlying192, Tryz.t192, h2, Tryz.t44, Instr.fill]
  exact ⟨⟨rfl, Nat.le_of_ble_eq_true rfl⟩, rfl⟩
theorem built155 (a : Option Addr) (n c : Nat) : Tryz.prog.built 194 [(0, .agg #[.slice a n c])] = some #[.slice a n c] := by
  have h1 := info_of (Tryz.typeInfo194 default)
  have h2 := info_of (Tryz.typeInfo192 default)
  simp [Program.built, h1, Tryz.underlying194, Tryz.t194, h2, Tryz.t192, Instr.fill]
  exact ⟨⟨rfl, Nat.le_of_ble_eq_true rfl⟩, rfl⟩
theorem readString82 {W : World} {a : Option Addr} {n cp : Nat} {bs : List Nat} (hB : Bs W a n cp bs) (hbyte : ∀ b ∈ bs, b < 256) (hn : cp ≤ 9223372036854775807) (R : Ending → World → Prop)
    (h : ∀ s m, readS bs = some (s, m) → ∀ W', Below W.heap.size W W' → R (.returned (.tuple #[.string (mkS s), .int .i64 (m : Nat), .int .i64 0])) W')
    (h' : readS bs = none → ∀ W', Below W.heap.size W W' → R (.returned (.tuple #[.string ⟨#[]⟩, .int .i64 0, .int .i64 130])) W') : Calls Tryz.prog 125 #[.slice a n cp] W R := by
  refine c125 _ _ _ _ _ ?_
  unfold vc125
  have hcap := hB.cap
  have hlen := hB.len
  cases hr : readN bs with
  | none =>
    have e : readS bs = none := by simp [readS, hr]
    refine kCall_i (Tryz.call123 _ _) (readNum80 hB hbyte hn _ (fun x m h2 => by rw [hr] at h2; cases h2) (fun _ => ?_))
    refine kExt3_0 (kExt3_1 (kExt3_2 (kSl38_l (l := 0) (by omega) (kBuild_i (built153 _ _ _) (kBuild_i (built155 _ _ _) ?_)))))
    exact kBox_st (St.start W) fun b W' hS => kJn_i (kNe_int (kIf_ne (fun _ => kIf_t (h' e _ hS.below)) (fun h0 => absurd h0 (by decide))))
  | some p =>
    obtain ⟨x, m⟩ := p
    have hm := readN_le hr
    have hx := readN_val hbyte hr
    refine kCall_i (Tryz.call123 _ _) (readNum80 hB hbyte hn _ (fun x' m' h2 => ?_) (fun h2 => by rw [hr] at h2; cases h2))
    rw [hr] at h2; cases h2
    have hD := hB.drop (l := m) (by omega)
    refine kExt3_0 (kExt3_1 (kExt3_2 (kSl38_l (l := m) (by omega) (kBuild_i (built153 _ _ _) (kBuild_i (built155 _ _ _) ?_)))))
    generalize (if cp = m then a else Option.map (fun x => x.add (m * 1)) a) = a' at hD ⊢
    refine kBox_st (St.start W) fun b W' hS => kJn_inv (fun cs V => St W [.bx b 194 #[.slice a' (n - m) (cp - m)]] V ∧ x ≤ n - m) ?_ ?_
    · rintro cs V ⟨hS, hle⟩ ds
      have e : readS bs = some ((bs.drop m).take x, m + x) := by simp [readS, hr]; omega
      refine kNil_p (kFa155 (kCv84_3 (by omega) (kCall_i (Tryz.call140 _ _) (take119 hS 0 rfl (by omega) x hle _ fun V' hS' => ?_))))
      have hT := (hD.keep (hS'.below)).take (l := x) (m := x) hle (Nat.le_refl _)
      refine kCv_str hT (kCv84_3 (by omega) (kBin_add ?_))
      rw [wrap_id (by omega) (by omega)]
      exact h _ _ e _ hS'.below
    · intro J hJ
      refine kNe_int (kIf_ne (fun h0 => absurd rfl h0) (fun _ => kNil_p (kFa155 (kCall_i (Tryz.call139 _ _) (has118 hS 0 rfl (by omega) x _ (kUn_not ?_))))))
      refine kIf_nd (fun hno => ?_) (fun hyes => kD_i (hJ _ _ ⟨hS, hyes⟩))
      exact h' (by simp [readS, hr]; omega) _ hS.below
theorem kLdR {X : Chain → World → Prop} {q : Bool} {w0 w : World} {L : List Own} {k : Value → World → Prop} {t' : TypeId} {b : Nat} {t : TypeId} {cs : Array Value} (hS : St w0 (L ++ [.bx b t cs]) w) {off : Nat} {v : Value} (hv : cs[off]? = some v) (ht : scal t' = true) (h : k v w) :
    kLoad ⟨Tryz.prog, X, q⟩ w t' (.pointer (some ⟨b, off, none⟩)) k := kLd hS L.length at_r hv ht h
theorem kStR {X : Chain → World → Prop} {w0 w : World} {L : List Own} {t' : TypeId} {k : World → Prop} {b : Nat} {t : TypeId} {cs : Array Value} (hS : St w0 (L ++ [.bx b t cs]) w) {off : Nat} (hoff : off < cs.size) {v : Value} (hv : v.cells = #[v]) (h1 : v.oneCell' = true) (ht : scal t' = true)
    (h : ∀ W, St w0 (L ++ [.bx b t (cs.setIfInBounds off v)]) W → k W) : kStore ⟨Tryz.prog, X, false⟩ w t' (.pointer (some ⟨b, off, none⟩)) v k := kSt hS L.length at_r hoff hv h1 ht (fun W hS => h W (by rwa [set_r] at hS))
def unzig (x : Nat) : Int := if x % 2 = 0 then ((x / 2 : Nat) : Int) else -((x / 2 : Nat) : Int) - 1
def readV : List Nat → Option (AV × Nat)
  | [] => none
  | k :: rest =>
    if k = 0 then some ((0, 0, ⟨#[]⟩), 1)
    else if k = 1 then match rest with
      | [] => none
      | c :: _ => some ((1, (c : Int), ⟨#[]⟩), 2)
    else if k = 2 then match readN rest with
      | some (x, m) => some ((2, unzig x, ⟨#[]⟩), 1 + m)
      | none => none
    else if k = 3 ∨ k = 4 then match readS rest with
      | some (s, m) => some (((k : Int), 0, mkS s), 1 + m)
      | none => none
    else none
theorem bits_and_one64 (n : Nat) (hn : n < 18446744073709551616) : bits .and .u64 n 1 = ((n % 2 : Nat) : Int) := by
  have h1 : ((BitVec.ofInt 64 (n : Int)) &&& (BitVec.ofInt 64 1)).toNat = n % 2 := by
    rw [BitVec.toNat_and]
    show (BitVec.ofInt 64 (n : Int)).toNat &&& 1 = _
    rw [Nat.and_one_is_mod, BitVec.toNat_ofInt]; omega
  show IntKind.u64.wrap (((BitVec.ofInt 64 (n : Int)) &&& (BitVec.ofInt 64 1)).toNat : Int) = _
  rw [h1]; simp [IntKind.wrap, IntKind.bits, IntKind.signed]; omega
theorem xor_zeroI (a : Int) (h0 : -9223372036854775808 ≤ a) (h1 : a ≤ 9223372036854775807) : bits .xor .i64 a 0 = a := by
  have h : ((BitVec.ofInt 64 a) ^^^ (BitVec.ofInt 64 0)).toNat = (a % 18446744073709551616).toNat := by
    rw [show BitVec.ofInt 64 0 = 0#64 by rfl, BitVec.xor_zero, BitVec.toNat_ofInt]; rfl
  show IntKind.i64.wrap (((BitVec.ofInt 64 a) ^^^ (BitVec.ofInt 64 0)).toNat : Int) = a
  rw [h]; simp [IntKind.wrap, IntKind.bits, IntKind.signed]; omega
theorem xor_onesI (a : Int) (h0 : -9223372036854775808 ≤ a) (h1 : a ≤ 9223372036854775807) : bits .xor .i64 a (-1) = -a - 1 := by
  have h : ((BitVec.ofInt 64 a) ^^^ (BitVec.ofInt 64 (-1))).toNat = 18446744073709551615 - (a % 18446744073709551616).toNat := by
    rw [show BitVec.ofInt 64 (-1) = BitVec.allOnes 64 by rfl, BitVec.xor_allOnes, BitVec.toNat_not, BitVec.toNat_ofInt]; rfl
  show IntKind.i64.wrap (((BitVec.ofInt 64 a) ^^^ (BitVec.ofInt 64 (-1))).toNat : Int) = _
  rw [h]; simp [IntKind.wrap, IntKind.bits, IntKind.signed]; omega
theorem kCv5_47 {X : Chain → World → Prop} {q : Bool} {w : World} {k : Value → World → Prop} {a : Nat} (ha : a < 256) (h : k (.int .i64 (a : Int)) w) : kConv ⟨Tryz.prog, X, q⟩ w 5 57 (.int .u8 a) k :=
  kConv_int (c := ⟨Tryz.prog, X, q⟩) (q' := .i64) (by rw [show (Cx.mk Tryz.prog X q).P.underlying 5 = _ from Tryz.underlying5]; rfl) Tryz.underlying57 (by
    rw [wrap_id (by omega) (by omega)]; exact h)
theorem kCv5_2 {X : Chain → World → Prop} {q : Bool} {w : World} {k : Value → World → Prop} {a : Nat} (ha : a < 256) (h : k (.int .i64 (a : Int)) w) : kConv ⟨Tryz.prog, X, q⟩ w 5 2 (.int .u8 a) k :=
  kConv_int (c := ⟨Tryz.prog, X, q⟩) (q' := .i64) (by rw [show (Cx.mk Tryz.prog X q).P.underlying 5 = _ from Tryz.underlying5]; rfl) Tryz.underlying2 (by
    rw [wrap_id (by omega) (by omega)]; exact h)
theorem kCv84_2 {X : Chain → World → Prop} {q : Bool} {w : World} {k : Value → World → Prop} {a : Nat} (ha : a < 9223372036854775808) (h : k (.int .i64 (a : Int)) w) : kConv ⟨Tryz.prog, X, q⟩ w 145 2 (.int .u64 a) k :=
  kConv_int (c := ⟨Tryz.prog, X, q⟩) (q' := .i64) (by rw [show (Cx.mk Tryz.prog X q).P.underlying 145 = _ from Tryz.underlying145]; rfl) Tryz.underlying2 (by
    rw [wrap_id (by omega) (by omega)]; exact h)
/-- '(*left).take', what is left told as bytes. -/
theorem take81b {w0 W : World} {L : List Own} (hS : St w0 L W) (i : Nat) {b : Nat} {t : TypeId} {a : Option Addr} {n cp : Nat} {bs : List Nat} (hi : L[i]? = some (.bx b t #[.slice a n cp])) (hB : Bs w0 a n cp bs) (l : Nat) (hn : cp ≤ 9223372036854775807) (R : Ending → World → Prop)
    (h0 : l ≤ n → ∀ a' cp' a2 W', cp' ≤ cp → Bs w0 a' (n - l) cp' (bs.drop l) → Bs w0 a2 l l (bs.take l) → St w0 (L.set i (.bx b t #[.slice a' (n - l) cp'])) W' → R (.returned (.slice a2 l l)) W')
    (h1 : n < l → R (.panicked [pe 210 false]) W) : Calls Tryz.prog 124 #[.pointer (some ⟨b, 0, none⟩), .int .i64 l] W R :=
  take81 hS i hi hB.cap l (by have := hB.cap; omega) R (fun hl W' hS' => h0 hl _ _ _ W' (by omega) (hB.drop hl) (hB.take hl (Nat.le_refl _)) hS') h1
theorem number43b {w0 W : World} {L : List Own} (hS : St w0 L W) (i : Nat) {b : Nat} {t : TypeId} {a : Option Addr} {n cp : Nat} {bs : List Nat} (hi : L[i]? = some (.bx b t #[.slice a n cp])) (hB : Bs w0 a n cp bs) (hbyte : ∀ b ∈ bs, b < 256) (hn : cp ≤ 9223372036854775807) (R : Ending → World → Prop)
    (h0 : ∀ x m, readN bs = some (x, m) → ∀ a' cp' W', cp' ≤ cp → Bs w0 a' (n - m) cp' (bs.drop m) → St w0 (L.set i (.bx b t #[.slice a' (n - m) cp'])) W' → R (.returned (.int .u64 (x : Nat))) W')
    (h1 : readN bs = none → R (.panicked [pe 210 false]) W) : Calls Tryz.prog 88 #[.pointer (some ⟨b, 0, none⟩)] W R :=
  number43 hS i hi (hB.keep hS.below) hbyte hn R (fun x m hr W' hS' => h0 x m hr _ _ W' (by omega) (hB.drop (by have := readN_le hr; have := hB.len; omega)) hS') h1
theorem ret49 {X : Chain → World → Prop} {R : Ending → World → Prop} {w0 W : World} {L : List Own} {b : Nat} {v0 v1 v2 : Value} (hS : St w0 (L ++ [.bx b 59 #[v0, v1, v2]]) W) (h0 : v0.oneCell' = true) (h1 : v1.oneCell' = true) (h2 : v2.oneCell' = true) (h : ∀ W, St w0 (L ++ [.bx b 59 #[v0, v1, v2]]) W → R (.returned (.agg #[v0, v1, v2])) W) :
    kLoad ⟨Tryz.prog, X, false⟩ W 59 (.pointer (some ⟨b, 0, none⟩)) fun v w => kStore ⟨Tryz.prog, X, false⟩ w 59 (.pointer (some ⟨b, 0, none⟩)) v fun w' => RetK Tryz.prog [.cell (.pointer (some ⟨b, 0, none⟩)) 59] R w' := by
  refine kLoadA_st (c := ⟨Tryz.prog, X, false⟩) hS L.length at_r Tryz.underlying59 rfl Tryz.sizeOf59 rfl (kStoreA_st hS L.length at_r rfl (by simp [h0, h1, h2]) Tryz.sizeOf59 fun W hS => ?_)
  rw [set_r] at hS
  exact RetK_agg hS L.length at_r rfl (h _ hS)
theorem value45 {w0 W : World} {L : List Own} (hS : St w0 L W) (i : Nat) {b : Nat} {a : Option Addr} {n cp : Nat} {bs : List Nat} (hi : L[i]? = some (.bx b 144 #[.slice a n cp])) (hB : Bs w0 a n cp bs) (hbyte : ∀ b ∈ bs, b < 256) (hn : cp ≤ 9223372036854775807) (R : Ending → World → Prop)
    (h0 : ∀ r m, readV bs = some (r, m) → ∀ a' cp' W', cp' ≤ cp → Bs w0 a' (n - m) cp' (bs.drop m) → St w0 (L.set i (.bx b 144 #[.slice a' (n - m) cp'])) W' → R (.returned (vVal r)) W')
    (h1 : readV bs = none → ∀ a' n' cp' W', St w0 (L.set i (.bx b 144 #[.slice a' n' cp'])) W' → R (.panicked [pe 210 false]) W') : Calls Tryz.prog 90 #[.pointer (some ⟨b, 0, none⟩)] W R := by
  have hlen := hB.len
  refine c90 _ _ _ ?_
  unfold vc90
  refine kAlloc_st Tryz.zeroValue59 hS fun b2 W hS => ?_
  have hS : St w0 (L ++ [.bx b2 59 #[.int .i64 0, .int .i64 0, .string ⟨#[]⟩]]) W := hS
  refine kNil_p (kFa83 (kCall_i (Tryz.call124 _ _) (take81b hS i (at_l hi) hB 1 hn _ (fun hl a1 cp1 a2 W hcp1 hB1 hT hS => ?_) (fun hlt => ?_))))
  · rw [set_l _ hi] at hS
    obtain ⟨k, rest, rfl⟩ : ∃ k rest, bs = k :: rest := by
      cases bs with
      | nil => simp at hlen; omega
      | cons k rest => exact ⟨k, rest, rfl⟩
    have hk := hbyte k (List.mem_cons_self ..)
    have hrest : ∀ b ∈ rest, b < 256 := fun b hb => hbyte b (List.mem_cons_of_mem _ hb)
    simp only [List.drop_succ_cons, List.drop_zero, List.take_succ_cons, List.take_zero] at hB1 hT
    obtain ⟨pb, po, rfl, hpb, hpr⟩ := hT.sl.elem (i := 0) (v := vB k) rfl
    have hi1 : (L.set i (.bx b 144 #[.slice a1 (n - 1) cp1]))[i]? = some (.bx b 144 #[.slice a1 (n - 1) cp1]) := by
      rw [List.getElem?_set_self (List.getElem?_eq_some_iff.1 hi).1]
    refine kIa38 (i := 0) (by omega) (kLdS rfl ((rangeAt_keep hpr (hS.below.block _ hpb)) 0 _ rfl) (kCv5_47 hk (kFa49 _ (by omega) (kStR hS (by simp) rfl rfl rfl fun W hS => kFa49 _ (by omega) (kLdR hS rfl rfl ?_)))))
    refine kEq_int (kIf_eq (fun e0 => ?_) (fun e0 => kEq_int (kIf_eq (fun e1 => ?_) (fun e1 => kEq_int (kIf_eq (fun e2 => ?_) (fun e2 => ?_))))))
    · have e0 : k = 0 := by omega
      subst e0
      refine ret49 hS rfl rfl rfl fun W hS => ?_
      exact h0 (0, 0, ⟨#[]⟩) 1 rfl a1 cp1 W hcp1 hB1 hS.init
    · have e1 : k = 1 := by omega
      subst e1
      refine kNil_p (kFa83 (kCall_i (Tryz.call124 _ _) (take81b hS i (at_l hi1) hB1 1 (by omega) _ (fun hl2 a2 cp2 a3 W hcp2 hB2 hT2 hS => ?_) (fun hlt => ?_))))
      · rw [set_l _ hi1, List.set_set] at hS
        obtain ⟨c, rest, rfl⟩ : ∃ c r, rest = c :: r := by
          cases rest with
          | nil => have := hB1.len; simp at this; omega
          | cons c r => exact ⟨c, r, rfl⟩
        have hc := hrest c (List.mem_cons_self ..)
        simp only [List.drop_succ_cons, List.drop_zero, List.take_succ_cons, List.take_zero] at hB2 hT2
        obtain ⟨pb2, po2, rfl, hpb2, hpr2⟩ := hT2.sl.elem (i := 0) (v := vB c) rfl
        refine kIa38 (i := 0) (by omega) (kLdS rfl ((rangeAt_keep hpr2 (hS.below.block _ hpb2)) 0 _ rfl) (kCv5_2 hc (kFa49 _ (by omega) (kStR hS (by simp) rfl rfl rfl fun W hS => ?_))))
        refine ret49 hS rfl rfl rfl fun W hS => ?_
        have e : n - 1 - 1 = n - 2 := by omega
        rw [e] at hB2 hS
        exact h0 (1, (c : Int), ⟨#[]⟩) 2 rfl a2 cp2 W (by omega) hB2 hS.init
      · have : rest = [] := by
          have := hB1.len
          cases rest with
          | nil => rfl
          | cons c r => simp at this; omega
        subst this
        exact h1 rfl a1 (n - 1) cp1 W hS.init
    · have e2 : k = 2 := by omega
      subst e2
      refine kCall_i (Tryz.call88 _ _) (number43b hS i (at_l hi1) hB1 hrest (by omega) _ (fun x m hr a2 cp2 W hcp2 hB2 hS => ?_) (fun hr => ?_))
      · rw [set_l _ hi1, List.set_set] at hS
        have hx := readN_val hrest hr
        have hm := readN_le hr
        refine kBin_shr (by omega) (by simp [IntKind.bits]) ?_
        rw [show ((x : Int) / 2 ^ (1 : Int).toNat) = ((x / 2 : Nat) : Int) by show (x : Int) / 2 ^ 1 = _; omega]
        refine kCv84_2 (by omega) (kBin_and ?_)
        rw [bits_and_one64 x hx]
        refine kCv84_2 (by omega) (kNeg (kBin_xor ?_))
        have hv : bits .xor .i64 ((x / 2 : Nat) : Int) (IntKind.i64.wrap (-((x % 2 : Nat) : Int))) = unzig x := by
          rcases Nat.mod_two_eq_zero_or_one x with h | h
          · rw [h, show IntKind.i64.wrap (-((0 : Nat) : Int)) = 0 by decide, xor_zeroI _ (by omega) (by omega)]; simp [unzig, h]
          · rw [h, show IntKind.i64.wrap (-((1 : Nat) : Int)) = -1 by decide, xor_onesI _ (by omega) (by omega)]; simp [unzig, h]
        rw [hv]
        refine kFa49 _ (by omega) (kStR hS (by simp) rfl rfl rfl fun W hS => ?_)
        refine ret49 hS rfl rfl rfl fun W hS => ?_
        have e : n - 1 - m = n - (1 + m) := by omega
        have e2 : List.drop m rest = List.drop (1 + m) (2 :: rest) := by rw [Nat.add_comm]; rfl
        rw [e] at hB2 hS
        rw [e2] at hB2
        exact h0 (2, unzig x, ⟨#[]⟩) (1 + m) (by simp [readV, hr]) a2 cp2 W (by omega) hB2 hS.init
      · exact h1 (by simp [readV, hr]) a1 (n - 1) cp1 W hS.init
    · refine kJn_inv (fun cs V => St w0 (L.set i (.bx b 144 #[.slice a1 (n - 1) cp1]) ++ [.bx b2 59 #[.int .i64 k, .int .i64 0, .string ⟨#[]⟩]]) V ∧ cs = [.bool (decide (k = 3 ∨ k = 4))]) ?_ ?_
      · rintro cs V ⟨hS, rfl⟩ ds
        refine kIf_d (fun e3 => ?_) (fun e3 => ?_)
        · have hrv : readV (k :: rest) = match readS rest with
            | some (s, m) => some (((k : Int), 0, mkS s), 1 + m)
            | none => none := by
            rcases e3 with rfl | rfl <;> simp [readV]
          refine kNil_p (kFa83 (kFa81 (kLd hS i (at_l hi1) rfl rfl (kCall_i (Tryz.call125 _ _) (readString82 (hB1.keep hS.below) hrest (by omega) _ (fun s m hr V hBe => ?_) (fun hr V hBe => ?_))))))
          · rw [hr] at hrv
            have hS := hS.bel hBe
            refine kExt3_0 (kExt3_1 (kExt3_2 (kEq_int (kCall_i (Tryz.call89 _ _) (must44 _ _ _ _ (fun _ => ?_) (fun hb => by simp at hb))))))
            refine kNil_p (kFa83 (kCall_i (Tryz.call124 _ _) (take81b hS i (at_l hi1) hB1 m (by omega) _ (fun hl2 a2 cp2 a3 W hcp2 hB2 hT2 hS => ?_) (fun hlt => ?_))))
            · rw [set_l _ hi1, List.set_set] at hS
              refine kFa49 _ (by omega) (kStR hS (by simp) rfl rfl rfl fun W hS => ?_)
              refine ret49 hS rfl rfl rfl fun W hS => ?_
              have e : n - 1 - m = n - (1 + m) := by omega
              have e2 : List.drop m rest = List.drop (1 + m) (k :: rest) := by rw [Nat.add_comm]; rfl
              rw [e] at hB2 hS
              rw [e2] at hB2
              exact h0 ((k : Int), 0, mkS s) (1 + m) hrv a2 cp2 W (by omega) hB2 hS.init
            · exfalso
              have h1 := hB1.len
              simp only [readS] at hr
              cases hq : readN rest with
              | none => rw [hq] at hr; cases hr
              | some p =>
                obtain ⟨x, m'⟩ := p
                have hm := readN_le hq
                rw [hq] at hr
                simp only [] at hr
                split at hr
                · cases hr; omega
                · cases hr
          · rw [hr] at hrv
            have hS := hS.bel hBe
            refine kExt3_0 (kExt3_1 (kExt3_2 (kEq_int (kCall_i (Tryz.call89 _ _) (must44 _ _ _ _ (fun hb => by simp at hb) (fun _ => ?_))))))
            exact h1 hrv a1 (n - 1) cp1 _ hS.init
        · refine kMkI_c conc28 (kPanic_i ?_)
          exact h1 (by simp only [readV]; rw [if_neg (by omega), if_neg (by omega), if_neg (by omega), if_neg e3]) a1 (n - 1) cp1 _ hS.init
      · intro J hJ
        refine kEq_int (kIf_eq (fun e3 => kD_i (hJ _ _ ⟨hS, ?_⟩)) (fun e3 => kEq_int (kD_i (hJ _ _ ⟨hS, ?_⟩))))
        · have : k = 3 := by omega
          subst this; rfl
        · have h3 : k ≠ 3 := by omega
          by_cases h4 : k = 4
          · subst h4; rfl
          · have : ¬ ((k : Int) = 4) := by omega
            simp [h3, h4, this]
  · have hn0 : n = 0 := by omega
    have : bs = [] := by
      cases bs with
      | nil => rfl
      | cons k rest => simp at hlen; omega
    subst this
    have := hS.init
    refine h1 rfl a n cp W ?_
    rw [show L.set i (.bx b 144 #[.slice a n cp]) = L from ?_]
    · exact this
    · apply List.ext_getElem?
      intro j
      by_cases hj : j = i
      · subst hj; rw [List.getElem?_set_self (List.getElem?_eq_some_iff.1 hi).1, hi]
      · rw [List.getElem?_set_ne (Ne.symm hj)]
theorem kDrew_b {w0 w : World} {f : World → Prop} (hS : Below w0.heap.size w0 w) (h : ∀ W, Below w0.heap.size w0 W → f W) : kDrew w f := kDrew_st (L := []) ⟨hS, by simp, by simp⟩ (fun W hS => h W hS.below)
theorem equal46 {w : World} {a a2 : Option Addr} {n cp n2 cp2 : Nat} {x y : List Nat} (hx : Bs w a n cp x) (hy : Bs w a2 n2 cp2 y) (hn : n ≤ 9223372036854775807) (R : Ending → World → Prop)
    (h : ∀ W, Below w.heap.size w W → R (.returned (.bool (decide (x = y)))) W) : Calls Tryz.prog 46 #[.slice a n cp, .slice a2 n2 cp2] w R := by
  refine c46 _ _ _ _ _ _ _ _ ?_
  unfold vc46
  have h1 := hx.len
  have h2 := hy.len
  have bad : x ≠ y → ∀ W, Below w.heap.size w W → R (.returned (.bool false)) W := fun hne W hB => by
    have := h W hB; rwa [decide_eq_false hne] at this
  refine kLen38 (kLen38 (kNe_int (kIf_ne (fun e => bad (fun e2 => e (by rw [h1, h2, e2])) _ (Below.refl _ _)) (fun e => kLen38 ?_))))
  refine ⟨⟨fun cs W => ∃ i : Nat, cs = [.int .i64 i] ∧ Below w.heap.size w W ∧ i ≤ n ∧ x.take i = y.take i, fun cs _ => n - (match cs with | [.int _ i] => i.toNat | _ => 0), ⟨0, rfl, Below.refl _ _, by omega, rfl⟩, ?_⟩⟩
  rintro cs ds W ⟨i, rfl, hB, hin, heq⟩
  dsimp only [List.getD_cons_zero]
  refine kBin_lss (kIf_d (fun hlt => ?_) (fun hge => ?_))
  · have hix : i < x.length := by omega
    have hiy : i < y.length := by omega
    obtain ⟨pb, po, rfl, hpb, hpr⟩ := hx.sl.elem (i := i) (v := vB x[i]) (by simp [hix])
    obtain ⟨pb2, po2, rfl, hpb2, hpr2⟩ := hy.sl.elem (i := i) (v := vB y[i]) (by simp [hiy])
    refine kDrawn_i (kIa38 (by omega) (kLdS rfl ((rangeAt_keep hpr (hB.block _ hpb)) 0 _ rfl) (kIa38 (by omega) (kLdS rfl ((rangeAt_keep hpr2 (hB.block _ hpb2)) 0 _ rfl) (kNe_int (kDrew_b hB fun W hB => ?_))))))
    refine kIf_ne (fun hne => bad (fun e => hne (by subst e; rfl)) _ hB) (fun he => kBin_add (kD_i ⟨⟨i + 1, by rw [wrap_id (by omega) (by omega)]; rfl, hB, by omega, ?_⟩, ?_⟩))
    · rw [List.take_succ_eq_append_getElem hix, List.take_succ_eq_append_getElem hiy, heq]
      have : x[i] = y[i] := by
        have he : ((x[i] : Nat) : Int) = ((y[i] : Nat) : Int) := he
        omega
      rw [this]
    · rw [wrap_id (by omega) (by omega)]; show n - ((i : Int) + 1).toNat < n - (i : Int).toNat; omega
  · have hi : i = n := by omega
    have he : x = y := by
      rw [hi, List.take_of_length_le (by omega), List.take_of_length_le (by omega)] at heq; exact heq
    have := h W hB
    rwa [decide_eq_true he] at this
def readVs : Nat → List Nat → Option (List AV × Nat)
  | 0, _ => some ([], 0)
  | n + 1, bs =>
    match readV bs with
    | none => none
    | some (r, m) =>
      match readVs n (bs.drop m) with
      | none => none
      | some (rs, k) => some (r :: rs, m + k)
def decR (bs : List Nat) : Option (List AV) :=
  match readN bs with
  | none => none
  | some (x, m) =>
    if x ≤ 32 then
      match readVs x (bs.drop m) with
      | none => none
      | some (rs, _) => if encE rs = 0 ∧ encB rs = bs then some rs else none
    else none
theorem readV_rng {bs : List Nat} (hb : ∀ b ∈ bs, b < 256) {r : AV} {m : Nat} (h : readV bs = some (r, m)) : Rng r := by
  cases bs with
  | nil => simp [readV] at h
  | cons k rest =>
    have hrest : ∀ b ∈ rest, b < 256 := fun b h => hb b (List.mem_cons_of_mem _ h)
    simp only [readV] at h
    split at h
    · cases h; exact ⟨by simp, by simp⟩
    split at h
    · cases rest with
      | nil => cases h
      | cons c rest =>
        have := hrest c (List.mem_cons_self ..)
        cases h
        exact ⟨by show (-9223372036854775808 : Int) ≤ (c : Int); omega, by show (c : Int) ≤ 9223372036854775807; omega⟩
    split at h
    · cases hr : readN rest with
      | none => rw [hr] at h; cases h
      | some p =>
        obtain ⟨x, m'⟩ := p
        have hx := readN_val hrest hr
        rw [hr] at h; cases h
        refine ⟨?_, ?_⟩
        · show (-9223372036854775808 : Int) ≤ unzig x; unfold unzig; split <;> omega
        · show unzig x ≤ 9223372036854775807; unfold unzig; split <;> omega
    split at h
    · cases hr : readS rest with
      | none => rw [hr] at h; cases h
      | some p =>
        obtain ⟨s, m'⟩ := p
        rw [hr] at h; cases h; exact ⟨by simp, by simp⟩
    · cases h
theorem Lv_clear42 {w0 : World} {L : List Own} {R : Ending → World → Prop} {w : World} {b2 b3 : Nat} {t2 t3 : TypeId} {x : Value} {z n : Int} (hS : St w0 L w) (h2 : L[0]? = some (.bx b2 t2 #[x])) (h3 : L[1]? = some (.bx b3 t3 #[.int .i64 z]))
    (h : ∀ W, Below w0.heap.size w0 W → R (.returned (.tuple #[.slice none 0 0, .int .i64 n])) W) :
    Lv Tryz.prog [.cell (.pointer (some ⟨b2, 0, none⟩)) 104, .cell (.pointer (some ⟨b3, 0, none⟩)) 26] R [{ target := .fn (.func 86) #[], args := #[.pointer (some ⟨b3, 0, none⟩), .func (.func 87) #[] #[.pointer (some ⟨b2, 0, none⟩)]] }] (.panicking [pe n false]) w := by
  have hl0 := (List.getElem?_eq_some_iff.1 h2).1
  have hl1 := (List.getElem?_eq_some_iff.1 h3).1
  refine Lv_pan39 hS 1 h3 (fun W => St w0 ((L.set 1 (.bx b3 t3 #[.int .i64 n])).set 0 (.bx b2 t2 #[.slice none 0 0])) W) Tryz.call87 (fun W hS => ?_) (fun W hS => RetK_cell2 rfl rfl (hS.cell 0 (by rw [List.getElem?_set_self (by simp; exact hl0)]) 0 rfl) (hS.cell 1 (by rw [List.getElem?_set_ne (by decide), List.getElem?_set_self hl1]) 0 rfl) (h _ hS.below))
  refine c87 _ _ _ ?_
  unfold vc87
  refine kSt hS 0 (cs := #[x]) (by rw [List.getElem?_set_ne (by decide)]; exact h2) (by simp) rfl rfl rfl fun W hS => ⟨rfl, ?_⟩
  exact hS
theorem built81 (a : Option Addr) (n c : Nat) : Tryz.prog.built 142 [(0, .slice a n c)] = some #[.slice a n c] := by
  have h1 := info_of (Tryz.typeInfo142 default)
  have h2 := info_of (Tryz.typeInfo44 default)
  simp [Program.built, h1, Tryz.underlying142, Tryz.t142, h2, Tryz.t44, Instr.fill]
  exact ⟨⟨rfl, Nat.le_of_ble_eq_true rfl⟩, rfl⟩
theorem built83 (a : Option Addr) (n c : Nat) : Tryz.prog.built 144 [(0, .agg #[.slice a n c])] = some #[.slice a n c] := by
  have h1 := info_of (Tryz.typeInfo144 default)
  have h2 := info_of (Tryz.typeInfo142 default)
  simp [Program.built, h1, Tryz.underlying144, Tryz.t144, h2, Tryz.t142, Instr.fill]
  exact ⟨⟨rfl, Nat.le_of_ble_eq_true rfl⟩, rfl⟩
theorem flatMap_vVal_size (rs : List AV) : ∀ v ∈ rs.map vVal, v.cells.size = 3 := by
  intro v hv; obtain ⟨r, _, rfl⟩ := List.mem_map.1 hv; rfl
theorem own_cells {W : World} {base : Nat} {e : TypeId} {sz n : Nat} {x : Value} {xs : List Value} (h : W.ownsRow base e sz x n xs) : x.cells = #[x] ∧ x.oneCell' = true := by
  rcases h.2 with ⟨h, _⟩ | ⟨g, cap, cur, h, _⟩ <;> rw [h] <;> exact ⟨rfl, rfl⟩
theorem kBin_lssU {c : Cx} {w : World} {k : Value → World → Prop} {t : TypeId} {q : IntKind} {a b : Nat} (h : k (.bool (decide (a < b))) w) : kBin c w .lss t (.int q a) (.int q b) k := kBin_lss (by
  have e : decide ((a : Int) < (b : Int)) = decide (a < b) := by simp
  rw [e]; exact h)
theorem enc_bound {rs : List AV} (h : encE rs = 0) : rs.length ≤ 32 ∧ (encB rs).length ≤ 4000 := by
  unfold encE at h
  split at h
  · rename_i h2; exact absurd h h2
  split at h
  · assumption
  · omega
theorem Decode19 (bs : List Nat) (w : World) (a : Option Addr) (n cp : Nat) (hB : Bs w a n cp bs) (hbyte : ∀ b ∈ bs, b < 256) (hn : cp ≤ 9223372036854775807) (R : Ending → World → Prop)
    (h0 : ∀ rs, decR bs = some rs → ∀ x W, Below w.heap.size w W → W.ownsRow w.heap.size 59 3 x rs.length (flat (rs.map vVal)) → R (.returned (.tuple #[x, .int .i64 0])) W)
    (h1 : decR bs = none → ∀ W, Below w.heap.size w W → R (.returned (.tuple #[.slice none 0 0, .int .i64 210])) W) : Calls Tryz.prog 44 #[.slice a n cp] w R := by
  refine c44 _ _ _ _ _ ?_
  unfold vc44
  refine kAlloc_st Tryz.zeroValue104 (St.start w) fun b2 W hS => kAlloc_st Tryz.zeroValue26 hS fun b3 W hS => ?_
  refine kBuild_i (built81 _ _ _) (kBuild_i (built83 _ _ _) (kBox_st hS fun b4 W hS => ?_))
  have hS : St w [.bx b2 104 #[.slice none 0 0], .bx b3 26 #[.int .i64 0], .bx b4 144 #[.slice a n cp]] W := hS
  have bad : decR bs = none → ∀ (L : List Own) (x : Value) (V : World), St w L V → L[0]? = some (.bx b2 104 #[x]) → L[1]? = some (.bx b3 26 #[.int .i64 0]) →
      Lv Tryz.prog [.cell (.pointer (some ⟨b2, 0, none⟩)) 104, .cell (.pointer (some ⟨b3, 0, none⟩)) 26] R [{ target := .fn (.func 86) #[], args := #[.pointer (some ⟨b3, 0, none⟩), .func (.func 87) #[] #[.pointer (some ⟨b2, 0, none⟩)]] }] (.panicking [pe 210 false]) V :=
    fun hd L x V hV hl0 hl1 => Lv_clear42 hV hl0 hl1 (h1 hd)
  refine kCall_i (Tryz.call88 _ _) (number43b hS 2 rfl hB hbyte hn _ (fun N m hr a1 cp1 W hcp1 hB1 hS => ?_) (fun hr => ?_))
  · have hm := readN_le hr
    have hN := readN_val hbyte hr
    have hlen := hB.len
    refine kBin_leq (kCall_i (Tryz.call89 _ _) (must44 _ _ _ _ (fun hok => ?_) (fun hb => ?_)))
    · have hok : N ≤ 32 := by simp at hok; omega
      have hb1 : ∀ b ∈ bs.drop m, b < 256 := fun b hb => hbyte b (List.mem_of_mem_drop hb)
      have hS : St w [.bx b2 104 #[.slice none 0 0], .bx b3 26 #[.int .i64 0], .bx b4 144 #[.slice a1 (n - m) cp1]] W := hS
      have hS := hS.adopt (o := .row (.slice none 0 0) 59 3 0 []) (World.ownsRow_nil _ _ _ _) (fun p hp => by
        cases hpb : p.blk with
        | none => exact .inl rfl
        | some k => exact .inr (by simp [Own.blk, Value.ownBlock]))
      refine ⟨⟨fun cs V => ∃ (j t : Nat) (rs : List AV) (x : Value) (a' : Option Addr) (n' cp' : Nat) (bs' : List Nat), cs = [.int .u64 j] ∧ j ≤ N ∧ rs.length = j ∧ cp' ≤ cp ∧ Bs w a' n' cp' bs' ∧ (∀ b ∈ bs', b < 256) ∧ (∀ r ∈ rs, Rng r) ∧
          readVs N (bs.drop m) = (readVs (N - j) bs').map (fun p => (rs ++ p.1, t + p.2)) ∧ St w [.bx b2 104 #[x], .bx b3 26 #[.int .i64 0], .bx b4 144 #[.slice a' n' cp'], .row x 59 3 j (flat (rs.map vVal))] V,
        fun cs _ => N - (match cs with | [.int _ i] => i.toNat | _ => 0), ⟨0, 0, [], .slice none 0 0, a1, n - m, cp1, bs.drop m, rfl, by omega, rfl, hcp1, hB1, hb1, by simp, by simp, hS⟩, ?_⟩⟩
      rintro cs ds V ⟨j, t, rs, x, a', n', cp', bs', rfl, hjN, hrs, hcp', hB', hb', hrng, heq, hS⟩
      dsimp only [List.getD_cons_zero]
      refine kBin_lssU (kIf_d (fun hlt => ?_) (fun hge => ?_))
      · -- one value more
        have hNj : N - j = (N - (j + 1)) + 1 := by omega
        refine kDrawn_i (kDrawn_i (kLd hS 0 rfl rfl rfl (kDrew_st hS fun V hS => kCall_i (Tryz.call90 _ _) (value45 hS 2 rfl hB' hb' (by omega) _ (fun r m' hv a2 cp2 V hcp2 hB2 hS => ?_) (fun hv a2 n2 cp2 V hS => ?_)))))
        · have hS : St w [.bx b2 104 #[x], .bx b3 26 #[.int .i64 0], .bx b4 144 #[.slice a2 (n' - m') cp2], .row x 59 3 j (flat (rs.map vVal))] V := hS
          refine kLd hS 0 rfl rfl rfl (kSame_i (kDrew_st hS fun V hS => kBuildS_st (E22 w) hS [vVal r] rfl rfl (by omega) (by omega) (by simp [vVal_size]) fun y V hS => kLd hS 0 rfl rfl rfl (kSame_i (kDrew_st hS fun V hS => ?_))))
          refine kAppRow_st (E22 w) hS 3 4 rfl rfl (by
            have : flat [vVal r] = (vVal r).cells.toList := by simp [flat]
            rw [this]; exact vVal_one r) (by simp [maxLen]; omega) (by omega) fun x' V hS => kDrew_st hS fun V hS => ?_
          have hS := hS.take 4
          have hS : St w [.bx b2 104 #[x], .bx b3 26 #[.int .i64 0], .bx b4 144 #[.slice a2 (n' - m') cp2], .row x' 59 3 (j + 1) (flat (rs.map vVal) ++ flat [vVal r])] V := hS
          have hrow : V.ownsRow w.heap.size 59 3 x' _ _ := hS.get 3 rfl
          refine kSt hS 0 rfl (by simp) (own_cells hrow).1 (own_cells hrow).2 rfl fun V hS => ?_
          refine kBin_add (kD_i ⟨⟨j + 1, t + m', rs ++ [r], x', a2, n' - m', cp2, bs'.drop m', ?_, by omega, by simp [hrs], by omega, hB2, fun b hb => hb' b (List.mem_of_mem_drop hb), fun q hq => ?_, ?_, ?_⟩, ?_⟩)
          · have : IntKind.u64.wrap ((j : Int) + 1) = ((j + 1 : Nat) : Int) := by
              rw [show (j : Int) + 1 = ((j + 1 : Nat) : Int) by omega, u64_wrap (by omega)]
            rw [this]
          · rcases List.mem_append.1 hq with hq | hq
            · exact hrng q hq
            · simp at hq; subst hq; exact readV_rng hb' hv
          · rw [heq, hNj, readVs, hv]
            simp only []
            cases readVs (N - (j + 1)) (bs'.drop m') with
            | none => rfl
            | some p => simp [Nat.add_assoc]
          · have e : flat ((rs ++ [r]).map vVal) = flat (rs.map vVal) ++ flat [vVal r] := by simp [flat]
            rw [e]; exact hS
          · have : IntKind.u64.wrap ((j : Int) + 1) = ((j + 1 : Nat) : Int) := by
              rw [show (j : Int) + 1 = ((j + 1 : Nat) : Int) by omega, u64_wrap (by omega)]
            rw [this]; show N - ((j + 1 : Nat) : Int).toNat < N - (j : Int).toNat; omega
        · intro _
          have hd : decR bs = none := by
            rw [hNj, readVs, hv] at heq
            simp only [decR, hr, if_pos hok, heq]; rfl
          exact bad hd _ x V hS rfl rfl
      · have hj : j = N := by omega
        subst hj
        have heq : readVs j (bs.drop m) = some (rs, t) := by rw [heq]; simp [readVs]
        have hdec : decR bs = if encE rs = 0 ∧ encB rs = bs then some rs else none := by
          simp only [decR, hr, if_pos hok, heq]
        have hrow : V.ownsRow w.heap.size 59 3 x j (flat (rs.map vVal)) := hS.get 3 rfl
        obtain ⟨xa, xc, rfl, hsl⟩ := Sl.of_owns (flatMap_vVal_size rs) hrow (by simpa using hrs)
        subst hrs
        have clear := fun (hd : decR bs = none) (V : World) (hS : St w [.bx b2 104 #[.slice xa rs.length xc], .bx b3 26 #[.int .i64 0], .bx b4 144 #[.slice a' n' cp'], .row (.slice xa rs.length xc) 59 3 rs.length (flat (rs.map vVal))] V) => bad hd _ _ V hS rfl rfl
        refine kLd hS 0 rfl rfl rfl (kCall_i (Tryz.call91 _ _) (Encode18 rs V xa xc hsl hrng (by omega) _ (fun he y V hBe ho => ?_) (fun he V hBe => ?_)))
        · have hS := hS.made hBe ho
          refine kExt_0 (kExt_1 (kSt hS 1 rfl (by simp) rfl rfl rfl fun V2 hS => kLd hS 1 rfl rfl rfl (kEq_int (kIf_eq (fun _ => ?_) (fun h => absurd rfl h)))))
          have ho2 : V2.ownsRow w.heap.size 5 1 y _ _ := hS.get 4 rfl
          obtain ⟨ya, yc, rfl, hyB⟩ := Bs.of_owns ho2
          refine kCall_i (Tryz.call46 _ _) (equal46 hyB (hB.keep hS.below) (by have := enc_bound he; omega) _ fun V3 hBe3 => ?_)
          have hS := hS.bel hBe3
          refine kCall_i (Tryz.call89 _ _) (must44 _ _ _ _ (fun hok => ?_) (fun hno => ?_))
          · have hee : encB rs = bs := by simpa using hok
            refine kLd hS 0 rfl rfl rfl (kSt hS 0 rfl (by simp) rfl rfl rfl fun V4 hS => kSt hS 1 rfl (by simp) rfl rfl rfl fun V5 hS => Lv_ret39 (RetK_cell2 rfl rfl (hS.cell 0 rfl 0 rfl) (hS.cell 1 rfl 0 rfl) ?_))
            exact h0 rs (by rw [hdec, if_pos ⟨he, hee⟩]) _ _ hS.below (hS.get 3 rfl)
          · have hee : encB rs ≠ bs := by simpa using hno
            exact Lv_clear42 hS rfl rfl (h1 (by rw [hdec, if_neg (fun h => hee h.2)]))
        · have hS := hS.bel hBe
          have hd : decR bs = none := by rw [hdec, if_neg (fun h => he h.1)]
          refine kExt_0 (kExt_1 (kSt hS 1 rfl (by simp) rfl rfl rfl fun V hS => kLd hS 1 rfl rfl rfl (kEq_int (kIf_eq (fun h => absurd h he) (fun _ => ?_)))))
          refine kCall_i (Tryz.call89 _ _) (must44 _ _ _ _ (fun h => by cases h) (fun _ => ?_))
          exact Lv_clear42 hS rfl rfl (h1 hd)
    · refine bad ?_ _ _ _ hS rfl rfl
      simp only [decR, hr]; rw [if_neg (by simp at hb; omega)]
  · refine bad ?_ _ _ _ hS rfl rfl
    simp only [decR, hr]
theorem readF_numB (rest : List Nat) : ∀ (n i acc : Nat), n * 128 ^ i < 18446744073709551616 → (i = 0 ∨ 0 < n) → readF i (numB n ++ rest) acc = some (acc + n * 128 ^ i, i + (numB n).length) := by
  intro n
  induction n using Nat.strongRecOn with
  | _ n ih =>
    intro i acc hn hi
    have h10 : i ≤ 9 := by
      rcases hi with h | h
      · omega
      · rcases Nat.lt_or_ge i 10 with h1 | h1
        · omega
        · have h2 : 128 ^ 10 ≤ 128 ^ i := Nat.pow_le_pow_right (by omega) h1
          have h3 : 1 * 128 ^ i ≤ n * 128 ^ i := Nat.mul_le_mul_right _ h
          have : (128 : Nat) ^ 10 = 1180591620717411303424 := by decide
          omega
    have h9 : i = 9 → n ≤ 1 := fun h => by
      subst h
      have : (128 : Nat) ^ 9 = 9223372036854775808 := by decide
      omega
    rw [numB]
    split
    · rename_i hs
      simp only [List.singleton_append, readF]
      rw [if_neg (by omega), if_neg (by intro h; have := h9 h.1; omega), if_neg (by omega), if_neg (by omega)]
      simp
    · rename_i hs
      simp only [List.cons_append, readF]
      rw [if_neg (by omega), if_neg (by intro h; have := h9 h.1; omega), if_pos (by omega)]
      have e1 : (n % 128 + 128) % 128 = n % 128 := by omega
      have e3 : n / 128 * 128 ^ (i + 1) = n / 128 * 128 * 128 ^ i := by rw [Nat.pow_succ, Nat.mul_comm (128 ^ i), Nat.mul_assoc]
      have e4 : n / 128 * 128 * 128 ^ i + n % 128 * 128 ^ i = n * 128 ^ i := by rw [← Nat.add_mul]; congr 1; omega
      rw [ih (n / 128) (by omega) (i + 1) _ (by omega) (.inr (by omega)), e1, e3]
      simp only [List.length_cons, Option.some.injEq, Prod.mk.injEq]
      omega
theorem readN_numB (n : Nat) (hn : n < 18446744073709551616) (rest : List Nat) : readN (numB n ++ rest) = some (n, (numB n).length) := by
  have := readF_numB rest n 0 0 (by simpa using hn) (.inl rfl)
  simpa [readN] using this
theorem readS_strB (s : ByteArray) (hs : s.size ≤ 1000000) (rest : List Nat) : readS (strB s ++ rest) = some (bl s, (strB s).length) := by
  simp only [readS, strB, List.append_assoc]
  rw [readN_numB _ (by omega)]
  simp only []
  rw [if_pos (by simp only [List.length_append, bl_length]; omega), List.drop_left, show s.size = (bl s).length from (bl_length s).symm, List.take_left]
  simp
theorem unzig_zig (n : Int) : unzig (zig n) = n := by
  unfold unzig zig
  split
  · rw [if_pos (by omega)]; omega
  · rw [if_neg (by omega)]; omega
theorem zig_lt {r : AV} (hr : Rng r) : zig r.2.1 < 18446744073709551616 := by
  have h1 := hr.1
  have h2 := hr.2
  unfold zig; split <;> omega
theorem readV_enc1 (r : AV) (hc : checkE r = 0) (hr : Rng r) (rest : List Nat) : readV (enc1 r ++ rest) = some (r, (enc1 r).length) := by
  have hsz := checkE_size hc
  have hz := zig_lt hr
  obtain ⟨k, n, s⟩ := r
  have hsz : s.size ≤ 1000 := hsz
  have hcond : 0 ≤ k ∧ k ≤ 4 ∧ (k < 3 → s = ⟨#[]⟩) ∧ (k ≠ 1 → k ≠ 2 → n = 0) ∧ (k = 1 → n = 0 ∨ n = 1) := by
    simp only [checkE] at hc
    rw [if_neg (by omega)] at hc
    split at hc
    · omega
    · rename_i hh
      have h1 : k < 3 → s = ⟨#[]⟩ := fun h => Classical.byContradiction fun hs => hh (.inr (.inr (.inl ⟨h, hs⟩)))
      exact ⟨by omega, by omega, h1, by omega, by omega⟩
  obtain ⟨h0, h4, hs, hn, hb⟩ := hcond
  have : k = 0 ∨ k = 1 ∨ k = 2 ∨ k = 3 ∨ k = 4 := by omega
  rcases this with rfl | rfl | rfl | rfl | rfl
  · have := hs (by omega); subst this
    have := hn (by omega) (by omega); subst this
    simp [enc1, layB, readV]
  · have := hs (by omega); subst this
    have := hb rfl
    simp only [enc1, layB, if_true, List.cons_append, readV, List.nil_append]
    rcases this with rfl | rfl <;> simp
  · have := hs (by omega); subst this
    have e : readN (numB (zig n) ++ rest) = some (zig n, (numB (zig n)).length) := readN_numB _ hz rest
    simp [enc1, layB, readV, e, unzig_zig]; omega
  · have := hn (by omega) (by omega); subst this
    have e := readS_strB s (by omega) rest
    simp [enc1, layB, readV, e, mkS_bl]; omega
  · have := hn (by omega) (by omega); subst this
    have e := readS_strB s (by omega) rest
    simp [enc1, layB, readV, e, mkS_bl]; omega
theorem readVs_enc (rest : List Nat) : ∀ (rows : List AV), (∀ r ∈ rows, checkE r = 0) → (∀ r ∈ rows, Rng r) → readVs rows.length (rows.flatMap enc1 ++ rest) = some (rows, (rows.flatMap enc1).length)
  | [], _, _ => rfl
  | r :: rows, hc, hr => by
    simp only [List.length_cons, readVs, List.flatMap_cons, List.append_assoc]
    rw [readV_enc1 r (hc r (List.mem_cons_self ..)) (hr r (List.mem_cons_self ..))]
    simp only [List.drop_left]
    rw [readVs_enc rest rows (fun q hq => hc q (List.mem_cons_of_mem _ hq)) (fun q hq => hr q (List.mem_cons_of_mem _ hq))]
    simp
theorem badE_zero : ∀ {rows : List AV}, badE rows = 0 → ∀ r ∈ rows, checkE r = 0
  | [], _, r, hr => by cases hr
  | q :: rows, h, r, hr => by
    simp only [badE] at h
    split at h
    · rename_i h2; exact absurd h h2
    · rename_i h2
      rcases List.mem_cons.1 hr with rfl | hr
      · omega
      · exact badE_zero h r hr
theorem encE_bad {rows : List AV} (h : encE rows = 0) : badE rows = 0 := by
  unfold encE at h
  split at h
  · rename_i h2; exact absurd h h2
  · rename_i h2; omega
theorem numB_256 : ∀ (n : Nat), ∀ b ∈ numB n, b < 256 := by
  intro n
  induction n using Nat.strongRecOn with
  | _ n ih =>
    intro b hb
    rw [numB] at hb
    split at hb
    · simp at hb; omega
    · rcases List.mem_cons.1 hb with h | h
      · omega
      · exact ih _ (by omega) b h
theorem bl_256 (s : ByteArray) : ∀ b ∈ bl s, b < 256 := by
  intro b hb
  simp only [bl, List.mem_map] at hb
  obtain ⟨c, _, rfl⟩ := hb
  exact c.toNat_lt
theorem enc1_256 {r : AV} (hc : checkE r = 0) : ∀ b ∈ enc1 r, b < 256 := by
  have hsz := checkE_size hc
  obtain ⟨k, n, s⟩ := r
  have hcond : 0 ≤ k ∧ k ≤ 4 ∧ (k = 1 → n = 0 ∨ n = 1) := by
    have hsz : s.size ≤ 1000 := hsz
    simp only [checkE] at hc
    rw [if_neg (by omega)] at hc
    split at hc
    · omega
    · rename_i hh; exact ⟨by omega, by omega, by omega⟩
  intro b hb
  simp only [enc1, List.mem_cons] at hb
  rcases hb with rfl | hb
  · show k.toNat < 256; omega
  · simp only [layB] at hb
    split at hb
    · rename_i h1; have := hcond.2.2 h1; simp at hb; omega
    split at hb
    · exact numB_256 _ b hb
    split at hb
    · simp only [strB, List.mem_append] at hb
      rcases hb with hb | hb
      · exact numB_256 _ b hb
      · exact bl_256 _ b hb
    · cases hb
theorem encB_256 {rows : List AV} (h : badE rows = 0) : ∀ b ∈ encB rows, b < 256 := by
  intro b hb
  simp only [encB, List.mem_append, List.mem_flatMap] at hb
  rcases hb with hb | ⟨r, hr, hb⟩
  · exact numB_256 _ b hb
  · exact enc1_256 (badE_zero h r hr) b hb
end Go.L
