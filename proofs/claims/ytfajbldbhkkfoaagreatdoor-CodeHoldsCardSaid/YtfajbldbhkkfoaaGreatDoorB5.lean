/- Contracts of single functions: no condition but those that each states. -/
import Derived.Test.YtfajbldbhkkfoaaGreatDoorB4
set_option linter.unusedVariables false
set_option linter.unusedSimpArgs false
namespace Go.L
open Go Go.RowKit Go.Proofs
set_option linter.unusedSimpArgs false
set_option linter.unusedVariables false

theorem caught_idle41 (p c : Value) (w : World) : CallsD Tryz.prog 41 #[p, c] .returning w fun e u' w' => e = .returned unit ∧ u' = .returning ∧ w' = w := by
  refine callsD_of_wpS Tryz.func41 rfl fun c₀ cs hu => ?_
  apply wpS_seq
  apply wpS_region
  simp [wpOpsS, go_sem, recoverD, hu, Tryz.ntmps41, Exit.thenS, Tryz.underlying20]
  apply wpS_seq
  apply wpS_region
  simp [wpOpsS, go_sem, recoverD, hu, Tryz.ntmps41, Exit.thenS, Tryz.underlying20]
  refine wpS_cond (t := false) (by simp [Act.eval, Array.replicate]) ?_
  simp only [Bool.false_eq_true, if_false]
  refine wpS_of_wp (wp_skip ?_)
  cases c₀
  simp_all [bodyPostS, results, Tryz.results41, unit]
theorem caught_panics41 (p : Addr) (x n : Int) (fc : FuncId) (caps : Array Value) (Rc : World → Prop) (w : World) (hc : w.cell? p = some (.int .i64 x)) (hz : w.frozen? p = false)
    (hf : ∀ args w, (callFunc fc args).run Tryz.prog w = .ok (.enter fc args) w) (hcl : Calls Tryz.prog fc caps (w.setCell p (.int .i64 n)) fun e w' => e = .returned unit ∧ Rc w') :
    CallsD Tryz.prog 41 #[.pointer (some p), .func (.func fc) #[] caps] (.panicking [pe n false]) w fun e u' w' =>
      e = .returned unit ∧ u' = .panicking [pe n true] ∧ Rc w' := by
  refine callsD_of_wpS Tryz.func41 rfl fun c₀ cs hu => ?_
  apply wpS_seq
  apply wpS_region
  simp [wpOpsS, go_sem, recoverD, hu, Tryz.ntmps41, Exit.thenS, Tryz.underlying20, pe]
  apply wpS_seq
  apply wpS_region
  simp [wpOpsS, go_sem, recoverD, hu, Tryz.ntmps41, Exit.thenS, Tryz.underlying20]
  refine wpS_cond (t := true) (by simp [Act.eval, Array.replicate]) ?_
  simp only [if_true]
  apply wpS_seq
  apply wpS_region
  simp [wpOpsS, go_sem, run_ta28, hc, hz, bodyPostS, results, Tryz.results41, Exit.thenS, Tryz.underlying26, Tryz.sizeOf26]
  apply wpS_region
  simp [wpOpsS, go_sem, hf, hc, hz, bodyPostS, results, Tryz.results41, Exit.thenS, Oper.upon]
  refine hcl.mono ?_
  rintro e w' ⟨rfl, h⟩
  exact ⟨rfl, h⟩
theorem must43 (b : Bool) (n : Int) (w : World) (R : Ending → World → Prop) (h1 : b = true → R (.returned unit) w) (h2 : b = false → R (.panicked [pe n false]) w) : Calls Tryz.prog 43 #[.bool b, .int .i64 n] w R := by
  refine c43 _ _ _ _ ?_
  unfold vc43
  refine kUn_not (kIf_b (fun h => ?_) (fun h => ?_))
  · refine kMkI_c conc28 (kPanic_i ?_)
    exact h2 (by simpa using h)
  · exact h1 (by simpa using h)
theorem Lv_ret41 {p c : Value} {rs : List RV} {R : Ending → World → Prop} {w : World} (h : RetK Tryz.prog rs R w) : Lv Tryz.prog rs R [{ target := .fn (.func 41) #[], args := #[p, c] }] .returning w :=
  ⟨rfl, Tryz.call41, (caught_idle41 p c w).mono (by rintro e u' w' ⟨rfl, rfl, rfl⟩; exact h)⟩
theorem Lv_pan41 {w0 : World} {L : List Own} {rs : List RV} {R : Ending → World → Prop} {w : World} (hS : St w0 L w) (i : Nat) {b : Nat} {t : TypeId} {x n : Int} (hi : L[i]? = some (.bx b t #[.int .i64 x]))
    {fc : FuncId} {caps : Array Value} (Rc : World → Prop) (hf : ∀ args w, (callFunc fc args).run Tryz.prog w = .ok (.enter fc args) w)
    (hcl : ∀ W, St w0 (L.set i (.bx b t #[.int .i64 n])) W → Calls Tryz.prog fc caps W fun e w' => e = .returned unit ∧ Rc w') (h : ∀ W, Rc W → RetK Tryz.prog rs R W) :
    Lv Tryz.prog rs R [{ target := .fn (.func 41) #[], args := #[.pointer (some ⟨b, 0, none⟩), .func (.func fc) #[] caps] }] (.panicking [pe n false]) w :=
  ⟨rfl, Tryz.call41, (caught_panics41 ⟨b, 0, none⟩ x n fc caps Rc w (hS.cell i hi 0 rfl) (hS.unfrozen i hi 0) hf (hcl _ (hS.setCell i hi 0 _))).mono (by rintro e u' w' ⟨rfl, rfl, hR⟩; exact h _ hR)⟩
theorem xSl60_lhm {X : Chain → World → Prop} {q : Bool} {w : World} {k : Value → World → Prop} {a : Option Addr} {n cp l m : Nat} (h0 : l ≤ m) (h1 : m ≤ cp) (h : k (.slice (if m = l then a else a.map (·.add (l * 1))) (m - l) (m - l)) w) : kSl ⟨Tryz.prog, X, q⟩ w 60 (.slice a n cp) (some (.int .i64 l)) (some (.int .i64 m)) (some (.int .i64 m)) k :=
  ⟨kVal_pure (c := ⟨Tryz.prog, X, q⟩) (fun w' => by
    rw [run_sliceAt_slice w' 60 _ _ _ _ (elem_of Tryz.underlying60), run_slice_lhm w' 60 a n cp (elem_of Tryz.underlying60) .i64 .i64 .i64 l m m (by omega) (by omega) (by omega) (by omega)]
    rw [show Tryz.prog.elem 60 = 3 by simp [Program.elem, Tryz.underlying60], Tryz.sizeOf3]
    rfl) h⟩
theorem xSl44_lhm {X : Chain → World → Prop} {q : Bool} {w : World} {k : Value → World → Prop} {a : Option Addr} {n cp l m : Nat} (h0 : l ≤ m) (h1 : m ≤ cp) (h : k (.slice (if m = l then a else a.map (·.add (l * 1))) (m - l) (m - l)) w) : kSl ⟨Tryz.prog, X, q⟩ w 44 (.slice a n cp) (some (.int .i64 l)) (some (.int .i64 m)) (some (.int .i64 m)) k :=
  ⟨kVal_pure (c := ⟨Tryz.prog, X, q⟩) (fun w' => by
    rw [run_sliceAt_slice w' 44 _ _ _ _ (elem_of Tryz.underlying44), run_slice_lhm w' 44 a n cp (elem_of Tryz.underlying44) .i64 .i64 .i64 l m m (by omega) (by omega) (by omega) (by omega)]
    rw [show Tryz.prog.elem 44 = 5 by simp [Program.elem, Tryz.underlying44], Tryz.sizeOf5]
    rfl) h⟩
end Go.L
namespace Go.L
open Go Go.RowKit Go.Proofs
set_option linter.unusedSimpArgs false
set_option linter.unusedVariables false

theorem Lv_mark1 {rs : List RV} {R : Ending → World → Prop} {w0 W : World} {X : List Own} {D : Nat} (hS : St w0 (X ++ [.ob D (.deferred (some []))]) W) (h : ∀ V, St w0 X V → RetK Tryz.prog rs R V) : Lv Tryz.prog rs R [markOf D] .returning W := by
  have hD := hS.get X.length at_r
  have hS3 := hS.set (W' := W.putObj D (.deferred none)) X.length (o' := .ob D (.deferred none)) at_r (grownBy_putObj' W D _) ⟨hD.1, World.putObj_heap_same (Array.getElem?_eq_some_iff.1 hD.2).1⟩ (.inl rfl)
  rw [set_r] at hS3
  exact ⟨hD.2, h _ hS3.init⟩
theorem kCv3_5g {X : Chain → World → Prop} {q : Bool} {w : World} {k : Value → World → Prop} {a : Nat} (h : k (.int .u8 ((a % 256 : Nat) : Int)) w) : kConv ⟨Tryz.prog, X, q⟩ w 3 5 (.int .i64 a) k :=
  kConv_int (c := ⟨Tryz.prog, X, q⟩) (q' := .u8) (by rw [show (Cx.mk Tryz.prog X q).P.underlying 3 = _ from Tryz.underlying3]; rfl) Tryz.underlying5 (by
    have : IntKind.u8.wrap (a : Int) = ((a % 256 : Nat) : Int) := by simp [IntKind.wrap, IntKind.bits, IntKind.signed]
    rw [this]; exact h)
/-- The two bytes of a number. -/
def twoL (n : Int) : List Nat := [n.toNat / 256 % 256, n.toNat % 256]
theorem twoL_256 (n : Int) : ∀ b ∈ twoL n, b < 256 := by
  intro b hb; simp [twoL] at hb; omega
theorem put99 (n : Int) (h0 : 0 ≤ n) (h1 : n ≤ 9223372036854775807) (w : World) (R : Ending → World → Prop) (h : ∀ W, Below w.heap.size w W → R (.returned (.string (mkS (twoL n)))) W) : Calls Tryz.prog 99 #[.int .i64 n] w R := by
  refine c99 _ _ _ ?_
  unfold vc99
  obtain ⟨m, rfl⟩ : ∃ m : Nat, n = m := ⟨n.toNat, by omega⟩
  refine kBin_shr (by omega) (by simp [IntKind.bits]) ?_
  rw [show ((m : Nat) : Int) / 2 ^ (8 : Int).toNat = ((m / 256 : Nat) : Int) by show _ / 2 ^ 8 = _; omega]
  refine kCv3_5g (kCv3_5g ?_)
  refine kBS (xE44 w) (St.start w) ((twoL (m : Int)).map vB) rfl rfl (by omega) (by omega) (by intro v hv; obtain ⟨b, _, rfl⟩ := List.mem_map.1 hv; rfl) fun a cp W hS hsl => ?_
  exact kCv_str (bs := twoL (m : Int)) ⟨hsl, rfl, row_cap (hS.get 0 rfl)⟩ (h W hS.below)
theorem some33g (f : Nat) (g : Int → ByteArray) (l : List Int) (w : World) (hcf : ∀ args w, (callFunc f args).run Tryz.prog w = .ok (.enter f args) w) (hf : ∀ n ∈ l, ∀ W, Below w.heap.size w W → ∀ R' : Ending → World → Prop, (∀ W', Below W.heap.size W W' → R' (.returned (.string (g n))) W') → Calls Tryz.prog f #[.int .i64 n] W R') (lo : Option Addr) (lc : Nat) (hl : Sl w lo 1 (l.map vInt)) (hsm : l.length ≤ 1000000) (R : Ending → World → Prop)
    (h : ∀ x W, St w [.row x 9 1 l.length ((l.map g).map vStr)] W → R (.returned x) W) : Calls Tryz.prog 33 #[.slice lo l.length lc, .func (.func f) #[] #[]] w R := by
  refine c33 _ _ _ _ _ _ ?_
  unfold vc33
  have hS := (St.start w).adopt (o := .row (.slice none 0 0) 9 1 0 []) (World.ownsRow_nil _ _ _ _) (fun p hp => by cases hp)
  refine xLen60 ⟨⟨fun cs V => ∃ (i : Nat) (x : Value), cs = [x, .int .i64 i] ∧ i ≤ l.length ∧ St w [.row x 9 1 ((l.take i).map g).length (((l.take i).map g).map vStr)] V, fun cs _ => l.length - (match cs with | [_, .int _ i] => i.toNat | _ => 0), ⟨0, _, rfl, Nat.zero_le _, hS⟩, ?_⟩⟩
  rintro cs ds V ⟨i, x, rfl, hi, hS⟩
  dsimp only [List.getD_cons_zero, List.getD_cons_succ]
  refine kBin_lss (kIf_d (fun e => ?_) (fun e => ?_))
  · have hil : i < l.length := by omega
    obtain ⟨pb, po, rfl, hpb, hpr⟩ := (hl.below hS.below).elem (i := i) (v := vInt l[i]) (by simp [hil])
    refine xIa60 hil (kLdS rfl (hpr 0 (.int .i64 l[i]) rfl) (kCallV_i (hcf _ _) (hf l[i] (List.getElem_mem hil) V hS.below _ fun W hB => ?_)))
    have hS := hS.bel hB
    refine kAppS (L := []) (ss := (l.take i).map g) (s := g l[i]) hS (by simp; omega) fun x' W hS => kBin_add (kD_i ⟨⟨i + 1, x', ?_, hil, ?_⟩, ?_⟩)
    · rw [wrap_id (by omega) (by omega)]; rfl
    · have e : (l.take (i + 1)).map g = (l.take i).map g ++ [g l[i]] := by rw [List.take_succ_eq_append_getElem hil, List.map_append]; rfl
      rw [e]; exact hS
    · rw [wrap_id (by omega) (by omega)]; show l.length - ((i : Int) + 1).toNat < l.length - (i : Int).toNat; omega
  · have : i = l.length := by omega
    rw [this, List.take_length] at hS
    exact h x V (by simpa using hS)
def intV (n : Int) : AV := (2, n, ⟨#[]⟩)
theorem built59i (n : Int) : Tryz.prog.built 59 [(0, .int .i64 2), (1, .int .i64 n)] = some (vVal (intV n)).cells := by kernel_rfl
theorem built59t (s : ByteArray) : Tryz.prog.built 59 [(0, .int .i64 3), (2, .string s)] = some (vVal (3, 0, s)).cells := by kernel_rfl
theorem RetK_59 {R : Ending → World → Prop} {w w0 : World} {L : List Own} (hS : St w0 L w) (i : Nat) {b : Nat} {cs : Array Value} (hi : L[i]? = some (.bx b 59 cs)) (hn : cs.size = 3) (h : R (.returned (.agg cs)) w) : RetK Tryz.prog [.cell (.pointer (some ⟨b, 0, none⟩)) 59] R w := by
  refine ⟨.agg cs, ?_, h⟩
  have := run_loadVar_row (P := Tryz.prog) w b 59 59 cs (0, 0) _ (hS.get i hi).2 Tryz.underlying59 rfl (by rw [info_of (Tryz.typeInfo59 w), hn]; rfl)
  simp [resSem, asAddr, this]
theorem put97 (n : Int) (w : World) (R : Ending → World → Prop) (h : ∀ W, Below w.heap.size w W → R (.returned (vVal (intV n))) W) : Calls Tryz.prog 97 #[.int .i64 n] w R := by
  refine c97 _ _ _ ?_
  unfold vc97
  refine kAlloc_st Tryz.zeroValue59 (St.start w) fun b W hS => kBuild_i (built59i n) (kStoreAR hS rfl (by simp [vVal, intV, Value.cells, Value.oneCell']) Tryz.sizeOf59 fun W hS => ?_)
  exact RetK_59 hS 0 rfl rfl (h W hS.below)
theorem some96 (l : List Int) (w : World) (lo : Option Addr) (lc : Nat) (hl : Sl w lo 1 (l.map vInt)) (hsm : l.length ≤ 1000000) (R : Ending → World → Prop)
    (h : ∀ x W, St w [.row x 59 3 l.length (flat ((l.map intV).map vVal))] W → R (.returned x) W) : Calls Tryz.prog 96 #[.slice lo l.length lc, .func (.func 97) #[] #[]] w R := by
  refine c96 _ _ _ _ _ _ ?_
  unfold vc96
  have hS := (St.start w).adopt (o := .row (.slice none 0 0) 59 3 0 []) (World.ownsRow_nil _ _ _ _) (fun p hp => by cases hp)
  refine xLen60 ⟨⟨fun cs V => ∃ (i : Nat) (x : Value), cs = [x, .int .i64 i] ∧ i ≤ l.length ∧ St w [.row x 59 3 i (flat (((l.take i).map intV).map vVal))] V, fun cs _ => l.length - (match cs with | [_, .int _ i] => i.toNat | _ => 0), ⟨0, _, rfl, Nat.zero_le _, hS⟩, ?_⟩⟩
  rintro cs ds V ⟨i, x, rfl, hi, hS⟩
  dsimp only [List.getD_cons_zero, List.getD_cons_succ]
  refine kBin_lss (kIf_d (fun e => ?_) (fun e => ?_))
  · have hil : i < l.length := by omega
    obtain ⟨pb, po, rfl, hpb, hpr⟩ := (hl.below hS.below).elem (i := i) (v := vInt l[i]) (by simp [hil])
    refine xIa60 hil (kLdS rfl (hpr 0 (.int .i64 l[i]) rfl) (kCallV_i (Tryz.call97 _ _) (put97 l[i] V _ fun W hB => ?_)))
    have hS := hS.bel hB
    refine kApp1_st (xE104 W) hS 0 rfl rfl (vVal_one _) (by simp only [maxLen]; omega) (by omega) fun x' W hS => kBin_add (kD_i ⟨⟨i + 1, x', ?_, hil, ?_⟩, ?_⟩)
    · rw [wrap_id (by omega) (by omega)]; rfl
    · have e : flat (((l.take (i + 1)).map intV).map vVal) = flat (((l.take i).map intV).map vVal) ++ (vVal (intV l[i])).cells.toList := by
        rw [List.take_succ_eq_append_getElem hil, List.map_append, List.map_append]; simp [flat]
      rw [e]; exact hS
    · rw [wrap_id (by omega) (by omega)]; show l.length - ((i : Int) + 1).toNat < l.length - (i : Int).toNat; omega
  · have : i = l.length := by omega
    rw [this, List.take_length] at hS
    exact h x V hS
/-- The parts of args. -/
def chunkN (l : List Int) (j : Nat) : List Int := (l.drop (24 * j)).take 24
def nCh (l : List Int) : Nat := (l.length + 23) / 24
def chN (l : List Int) (j : Nat) : Nat := if l.length - 24 * j < 24 then l.length - 24 * j else 24
def chkV (a : Option Addr) (l : List Int) (j : Nat) : Value := .slice (a.map (·.add (24 * j * 1))) (chN l j) (chN l j)
theorem chunkN_len (l : List Int) (j : Nat) : (chunkN l j).length = chN l j := by
  unfold chunkN chN
  rw [List.length_take, List.length_drop]
  split <;> omega
theorem Chunk98 (l : List Int) (w : World) (lo : Option Addr) (lc : Nat) (R : Ending → World → Prop)
    (h : ∀ b0 b1 W, St w [.bx b0 60 #[.slice lo l.length lc], .bx b1 3 #[.int .i64 24]] W → R (.returned (.func (.func 129) #[] #[.pointer (some ⟨b0, 0, none⟩), .pointer (some ⟨b1, 0, none⟩)])) W) : Calls Tryz.prog 98 #[.slice lo l.length lc, .int .i64 24] w R := by
  refine c98 _ _ _ _ _ _ ?_
  unfold vc98
  refine kBox_st (St.start w) fun b0 W hS => kBox_st hS fun b1 W hS => ?_
  have hS : St w [.bx b0 60 #[.slice lo l.length lc], .bx b1 3 #[.int .i64 24]] W := hS
  exact kLd hS 1 rfl rfl rfl (kBin_lss (kIf_d (fun q => by omega) (fun q => h b0 b1 W hS)))
theorem iterCh {w0 : World} {A : Nat → List Own → Prop} {b0 b1 : Nat} {a : Option Addr} {l : List Int} {cp : Nat} (hlen : l.length ≤ 1000000) (hcp : l.length ≤ cp)
    (hA : ∀ i L, A i L → (∃ j : Nat, L[j]? = some (.bx b0 60 #[.slice a l.length cp])) ∧ ∃ j : Nat, L[j]? = some (.bx b1 3 #[.int .i64 24])) : IterS Tryz.prog (.func (.func 129) #[] #[.pointer (some ⟨b0, 0, none⟩), .pointer (some ⟨b1, 0, none⟩)]) (nCh l) (fun i => #[chkV a l i]) w0 A := by
  refine ⟨129, #[.pointer (some ⟨b0, 0, none⟩), .pointer (some ⟨b1, 0, none⟩)], rfl, Tryz.call129, ?_⟩
  intro lp A' Z' W hsub h0 hy
  show Calls Tryz.prog 129 #[.func (.yield lp) #[] #[], .pointer (some ⟨b0, 0, none⟩), .pointer (some ⟨b1, 0, none⟩)] W _
  refine c129 _ _ _ _ _ ?_
  unfold vc129
  have hAM : ∀ {i : Nat} {M : List Own}, A' i M → (∃ j : Nat, M[j]? = some (.bx b0 60 #[.slice a l.length cp])) ∧ ∃ j : Nat, M[j]? = some (.bx b1 3 #[.int .i64 24]) := by
    intro i M h
    obtain ⟨L, N', hL, rfl⟩ := hsub i M h
    obtain ⟨⟨j, hj⟩, ⟨j2, hj2⟩⟩ := hA i L hL
    exact ⟨⟨j, at_l hj⟩, ⟨j2, at_l hj2⟩⟩
  obtain ⟨M, hM0, hS⟩ := h0
  have hnc : nCh l * 24 < l.length + 24 ∧ l.length ≤ nCh l * 24 := by unfold nCh; omega
  refine ⟨⟨fun cs V => ∃ (i : Nat) (M : List Own), cs = [.int .i64 ((24 * i : Nat) : Int)] ∧ i ≤ nCh l ∧ A' i M ∧ St w0 M V, fun cs _ => l.length + 24 - (match cs with | [.int _ i] => i.toNat | _ => 0), ⟨0, M, rfl, Nat.zero_le _, hM0, hS⟩, ?_⟩⟩
  rintro cs ds V ⟨i, M, rfl, hi, hM, hS⟩
  dsimp only [List.getD_cons_zero]
  obtain ⟨⟨j0, hj0⟩, ⟨j1, hj1⟩⟩ := hAM hM
  refine kLd hS j0 hj0 rfl rfl (xLen60 (kBin_lss (kIf_d (fun e => ?_) (fun e => ?_))))
  rotate_left
  · have hie : i = nCh l := by omega
    rw [hie] at hM
    exact .inl ⟨M, [], hM, by rw [List.append_nil]; exact hS⟩
  have hil : i < nCh l := by omega
  refine kDrawn_i (kLd hS j1 hj1 rfl rfl (kLd hS j0 hj0 rfl rfl (xSl60_l (l := 24 * i) (by omega) hcp (xLen60 (kMin2 (kDrew_st hS fun V hS => ?_))))))
  have hmin : (if ((l.length - 24 * i : Nat) : Int) < 24 then ((l.length - 24 * i : Nat) : Int) else 24) = ((chN l i : Nat) : Int) := by
    unfold chN; split <;> split <;> omega
  rw [hmin]
  have hcn : chN l i ≤ l.length - 24 * i ∧ 0 < chN l i := by unfold chN; split <;> omega
  refine kLd hS j0 hj0 rfl rfl (kBin_add (kBin_add ?_))
  rw [wrap_id (by omega) (by omega), show ((24 * i : Nat) : Int) + ((chN l i : Nat) : Int) = ((24 * i + chN l i : Nat) : Int) by omega]
  refine xSl60_lhm (l := 24 * i) (by omega) (by omega) ?_
  rw [if_neg (by omega), show 24 * i + chN l i - 24 * i = chN l i by omega]
  have hyy := hy i V M [] hil hM (by rw [List.append_nil]; exact hS)
  refine kCallV_y hyy ?_
  intro en W' hen
  cases en with
  | outgrown => exact hen.elim
  | panicked ch => obtain ⟨M', hz, hS'⟩ := hen; exact ⟨M', [], hz, hS'⟩
  | returned v =>
    rcases hen with ⟨rfl, M', ha, hS'⟩ | ⟨rfl, ex, M', hle, hz, hS'⟩
    · rw [List.append_nil] at hS'
      obtain ⟨_, ⟨j1, hj1⟩⟩ := hAM ha
      refine kUn_not (kIf_f (kLd hS' j1 hj1 rfl rfl (kBin_add (kD_i ⟨⟨i + 1, M', ?_, hil, ha, hS'⟩, ?_⟩))))
      · rw [wrap_id (by omega) (by omega), show ((24 * i : Nat) : Int) + 24 = ((24 * (i + 1) : Nat) : Int) by omega]
      · rw [wrap_id (by omega) (by omega)]; show l.length + 24 - (((24 * i : Nat) : Int) + 24).toNat < l.length + 24 - ((24 * i : Nat) : Int).toNat; omega
    · exact kUn_not (kIf_t (.inr ⟨M', [], ex, hle, hz, hS'⟩))
end Go.L
namespace Go.L
open Go Go.RowKit Go.Proofs
set_option linter.unusedSimpArgs false
set_option linter.unusedVariables false

theorem Sl.dropG {w : World} {a : Option Addr} {sz : Nat} {vs : List Value} (h : Sl w a sz vs) (k : Nat) (hk : k < vs.length) : Sl w (a.map (·.add (k * sz))) sz (vs.drop k) := by
  refine ⟨fun v hv => h.each v (List.mem_of_mem_drop hv), .inr ?_⟩
  rcases h.at_ with he | ⟨b, o, ha, hb, hr⟩
  · subst he; simp at hk
  · refine ⟨b, o + k * sz, by rw [ha]; simp [Addr.add_mid], hb, ?_⟩
    refine rangeAt_flat _ _ (fun v hv => h.each v (List.mem_of_mem_drop hv)) fun i v hv => ?_
    rw [List.getElem?_drop] at hv
    obtain ⟨b', o', ha', _, hr'⟩ := h.elem hv
    rw [ha] at ha'
    cases ha'
    rw [show o + k * sz + i * sz = o + (k + i) * sz by rw [Nat.add_mul]; omega]
    exact hr'
theorem Sl.takeG {w : World} {a : Option Addr} {sz : Nat} {vs : List Value} (h : Sl w a sz vs) (k : Nat) : Sl w a sz (vs.take k) := by
  refine ⟨fun v hv => h.each v (List.mem_of_mem_take hv), ?_⟩
  rcases h.at_ with he | ⟨b, o, ha, hb, hr⟩
  · exact .inl (by rw [he]; simp)
  · refine .inr ⟨b, o, ha, hb, ?_⟩
    refine rangeAt_flat _ _ (fun v hv => h.each v (List.mem_of_mem_take hv)) fun i v hv => ?_
    have hik : i < k := by
      have := (List.getElem?_eq_some_iff.1 hv).1
      simp at this; omega
    rw [List.getElem?_take_of_lt hik] at hv
    obtain ⟨b', o', ha', _, hr'⟩ := h.elem hv
    rw [ha] at ha'
    cases ha'
    exact hr'
theorem mkS_app (a b : List Nat) : mkS a ++ mkS b = mkS (a ++ b) := by
  unfold mkS
  apply ByteArray.ext
  simp
theorem mkS_size (a : List Nat) : (mkS a).size = a.length := by simp [mkS, ByteArray.size]
def chS (l : List Int) (j : Nat) : ByteArray := mkS ((chunkN l j).flatMap twoL)
def headR (x : IN) : List AV := [intV x.k, intV x.a, intV x.b, intV x.c, intV x.o, x.v, (3, 0, x.nm)]
def argR (l : List Int) (n : Nat) : List AV := (List.range n).map fun j => ((3, 0, chS l j) : AV)
/-- An instruction as a row. -/
def insRow (x : IN) : List AV := headR x ++ argR x.ar (nCh x.ar)
def recB (x : IN) : List Nat := [(encB (insRow x)).length / 256 % 256, (encB (insRow x)).length % 256] ++ encB (insRow x)
theorem catB_two (l : List Int) : catB ⟨#[]⟩ (l.map fun n => mkS (twoL n)) = mkS (l.flatMap twoL) := by
  induction l with
  | nil => rfl
  | cons n l ih =>
    rw [List.map_cons, catB, ih, nil_app, mkS_app]; rfl
theorem joinB_two (l : List Int) : joinB ⟨#[]⟩ (l.map fun n => mkS (twoL n)) = mkS (l.flatMap twoL) := by
  cases l with
  | nil => rfl
  | cons n l => rw [List.map_cons, joinB, catB_two, mkS_app]; rfl
/-- What one asks of an instruction that is put. -/
structure PutOk (x : IN) : Prop where
  e : encE (insRow x) = 0
  r : ∀ r ∈ insRow x, Rng r
  ar : ∀ n ∈ x.ar, 0 ≤ n ∧ n ≤ 9223372036854775807
  len : x.ar.length ≤ 1000
theorem argR_len (l : List Int) (n : Nat) : (argR l n).length = n := by simp [argR]
theorem argR_succ (l : List Int) (n : Nat) : argR l (n + 1) = argR l n ++ [((3, 0, chS l n) : AV)] := by simp [argR, List.range_succ]
theorem flat_snoc (vs : List AV) (r : AV) : flat ((vs ++ [r]).map vVal) = flat (vs.map vVal) ++ (vVal r).cells.toList := by simp [flat]
theorem put50 {w0 W : World} {bw : Nat} {sl v : Value} {c : List Nat} {M : List Own} (hS : St w0 (.bx bw 116 #[sl, v] :: .row v 5 1 c.length (c.map vB) :: M) W) (x : IN) (p : Option Addr) (pc : Nat) (hsl : Sl w0 p 1 (x.ar.map vInt)) (hpc : x.ar.length ≤ pc) (hx : PutOk x) (hc : c.length ≤ 100000000) (R : Ending → World → Prop)
    (h : ∀ v' W', St w0 (.bx bw 116 #[sl, v'] :: .row v' 5 1 (c ++ recB x).length ((c ++ recB x).map vB) :: M) W' → R (.returned unit) W') : Calls Tryz.prog 50 #[.pointer (some ⟨bw, 0, none⟩), inV x p pc] W R := by
  refine c50 _ _ _ _ _ _ _ _ _ _ _ _ _ _ _ ?_
  unfold vc50
  have hcnt := hx.len
  obtain ⟨L0, hL0⟩ : ∃ L0 : List Own, L0 = .bx bw 116 #[sl, v] :: .row v 5 1 c.length (c.map vB) :: M := ⟨_, rfl⟩
  have hS : St w0 L0 W := by rw [hL0]; exact hS
  refine kBox_st hS fun b3 W hS => ?_
  refine xFa62_0 (kLd hS _ at_r rfl rfl (xFa62_1 (kLd hS _ at_r rfl rfl (xFa62_2 (kLd hS _ at_r rfl rfl (xFa62_3 (kLd hS _ at_r rfl rfl (xFa62_4 (kLd hS _ at_r rfl rfl ?_)))))))))
  refine kBS (xE60 W) hS [vInt x.k, vInt x.a, vInt x.b, vInt x.c, vInt x.o] rfl rfl (by omega) (by omega) (by simp [vInt, Value.cells]) fun a5 c5 W hS hs5 => ?_
  refine kCall_i (Tryz.call96 _ _) (some96 [x.k, x.a, x.b, x.c, x.o] W a5 c5 hs5 (by simp) _ fun y W hSt => ?_)
  have hS := hS.join hSt
  refine kAlloc_st Tryz.zeroValue104 hS fun b4 W hS => ?_
  have hy : y.cells = #[y] ∧ y.oneCell' = true := row_cells (hS.get _ (at_l at_r))
  refine kSt hS _ at_r (by simp [Value.cells]) hy.1 hy.2 rfl fun W hS => ?_
  rw [set_r] at hS
  have hS : St w0 (L0 ++ [.bx b3 62 (inC x p x.ar.length pc)] ++ [.row y 59 3 5 (flat (([intV x.k, intV x.a, intV x.b, intV x.c, intV x.o]).map vVal))] ++ [.bx b4 104 #[y]]) W := by
    refine hS.sub ?_
    exact List.Sublist.append (List.Sublist.append (List.sublist_append_left _ _) (List.Sublist.refl _)) (List.Sublist.refl _)
  obtain ⟨B, hB⟩ : ∃ B : List Own, B = L0 ++ [.bx b3 62 (inC x p x.ar.length pc)] := ⟨_, rfl⟩
  rw [← hB] at hS
  have iB : B[L0.length]? = some (.bx b3 62 (inC x p x.ar.length pc)) := by rw [hB]; exact at_r
  refine kLd hS _ at_r rfl rfl (xFa62_5 (xLdE59 (bxV hS _ (at_l (at_l iB))) rfl rfl (xFa62_6 (kLd hS _ (at_l (at_l iB)) rfl rfl (kBuild_i (built59t x.nm) ?_)))))
  refine kBS (xE104 W) hS [vVal x.v, vVal (3, 0, x.nm)] rfl rfl (by omega) (by omega) (by intro u hu; simp at hu; rcases hu with rfl | rfl <;> rfl) fun a2 c2 W hS _ => ?_
  refine kAppRow_st (xE104 W) hS B.length _ (at_l (at_l at_r)) at_r (by intro u hu; simp [flat, vVal, Value.cells] at hu; rcases hu with rfl | rfl | rfl | rfl | rfl | rfl <;> rfl) (by simp only [maxLen]; omega) (by omega) fun y W hS => ?_
  rw [set_l _ (at_l at_r), set_l _ at_r, set_r] at hS
  have hS : St w0 (B ++ [.row y 59 3 7 (flat ((headR x).map vVal))] ++ [.bx b4 104 #[_]]) W := hS.init
  have hy : y.cells = #[y] ∧ y.oneCell' = true := row_cells (hS.get _ (at_l at_r))
  refine kSt hS _ at_r (by simp [Value.cells]) hy.1 hy.2 rfl fun W hS => ?_
  rw [set_r] at hS
  refine xFa62_7 (kLd hS _ (at_l (at_l iB)) rfl rfl ?_)
  refine kCall_i (Tryz.call98 _ _) (Chunk98 x.ar W p pc _ fun b0 b1 W hSt => ?_)
  have hS := hS.join hSt
  obtain ⟨B2, hB2⟩ : ∃ B2 : List Own, B2 = B ++ [.bx b0 60 #[.slice p x.ar.length pc], .bx b1 3 #[.int .i64 24]] := ⟨_, rfl⟩
  have hS : St w0 (B2 ++ [.row y 59 3 (7 + 0) (flat ((headR x ++ argR x.ar 0).map vVal))] ++ [.bx b4 104 #[y]]) W := by
    have e0 : argR x.ar 0 = [] := rfl
    rw [e0, List.append_nil, hB2]
    refine hS.perm ?_
    rw [List.append_assoc, List.append_assoc, List.append_assoc, List.append_assoc]
    refine List.Perm.append_left _ ?_
    rw [← List.append_assoc]
    exact List.perm_append_comm
  have iB2 : (∃ j : Nat, B2[j]? = some (.bx b0 60 #[.slice p x.ar.length pc])) ∧ ∃ j : Nat, B2[j]? = some (.bx b1 3 #[.int .i64 24]) := by
    rw [hB2]
    exact ⟨⟨B.length, by simp⟩, ⟨B.length + 1, by simp⟩⟩
  have hnc : nCh x.ar ≤ 1000 := by unfold nCh; omega
  refine kRange_fr (w0 := w0) (ds := []) (nCh x.ar) (fun j => [chkV p x.ar j])
    (fun j X => ∃ y, X = B2 ++ [.row y 59 3 (7 + j) (flat ((headR x ++ argR x.ar j).map vVal))] ++ [.bx b4 104 #[y]]) (fun _ _ => False) (fun _ => rfl) ⟨_, ⟨y, rfl⟩, by rw [show marks [] = [] from rfl, List.append_nil]; exact hS⟩ List.nodup_nil (fun D hD => by cases hD) ?_
    (iterCh (by omega) hpc (fun i X hX => by
      obtain ⟨y, rfl⟩ := hX
      obtain ⟨⟨j0, h0⟩, ⟨j1, h1⟩⟩ := iB2
      exact ⟨⟨j0, at_l (at_l h0)⟩, ⟨j1, at_l (at_l h1)⟩⟩)) ?_ (fun _ _ _ q => q.elim) (fun _ _ _ _ q => q.elim) (fun _ _ _ _ q => q.elim)
  · rintro j l1 D lo W1 X E hj ⟨y, rfl⟩ hS
    have hcl := chunkN_len x.ar j
    have hjl : 24 * j < x.ar.length := by unfold nCh at hj; omega
    have hsc : Sl w0 (p.map (·.add (24 * j * 1))) 1 ((chunkN x.ar j).map vInt) := by
      have := (hsl.dropG (24 * j) (by simpa using hjl)).takeG 24
      unfold chunkN
      rwa [List.map_take, List.map_drop]
    have hc24 : (chunkN x.ar j).length ≤ 24 := by unfold chunkN; simp; omega
    refine rndMid_fr hS (N := []) (by rw [List.append_nil]; exact hS) fun lo2 V hV => ?_
    rw [List.append_nil] at hV
    try dsimp only [List.getD_cons_zero]
    have iy : ∀ {K : List Own}, (B2 ++ [Own.row y 59 3 (7 + j) (flat ((headR x ++ argR x.ar j).map vVal))] ++ [.bx b4 104 #[y]] ++ marks [] ++ lpD l1 lo2 D ++ E ++ K)[B2.length]? = some (.row y 59 3 (7 + j) (flat ((headR x ++ argR x.ar j).map vVal))) := fun {K} => at_l (at_l (at_l (at_l (at_l at_r))))
    have i4 : ∀ {K : List Own}, (B2 ++ [Own.row y 59 3 (7 + j) (flat ((headR x ++ argR x.ar j).map vVal))] ++ [.bx b4 104 #[y]] ++ marks [] ++ lpD l1 lo2 D ++ E ++ K)[(B2 ++ [Own.row y 59 3 (7 + j) (flat ((headR x ++ argR x.ar j).map vVal))]).length]? = some (.bx b4 104 #[y]) := fun {K} => at_l (at_l (at_l (at_l at_r)))
    have hV : St w0 (B2 ++ [Own.row y 59 3 (7 + j) (flat ((headR x ++ argR x.ar j).map vVal))] ++ [.bx b4 104 #[y]] ++ marks [] ++ lpD l1 lo2 D ++ E ++ []) V := by rw [List.append_nil]; exact hV
    refine kDrawn_i (kDrawn_i (kLd hV _ i4 rfl rfl (kDrew_st hV fun V hV => ?_)))
    unfold chkV
    rw [← hcl]
    refine kCall_i (Tryz.call33 _ _) (some33g 99 (fun n => mkS (twoL n)) (chunkN x.ar j) V Tryz.call99 (fun n hn W hB R' h' => put99 n (hx.ar n ?_).1 (hx.ar n ?_).2 W R' h') _ _ (hsc.below hV.below) (by omega) _ fun z W hSt => ?_)
    · exact List.mem_of_mem_drop (List.mem_of_mem_take hn)
    · exact List.mem_of_mem_drop (List.mem_of_mem_take hn)
    obtain ⟨az, cz, rfl, hsz⟩ := Sl.of_owns (vs := ((chunkN x.ar j).map fun n => mkS (twoL n)).map vStr) (vStr_size _) (by have := hSt.get 0 rfl; rw [← flatS] at this; exact this) (by simp)
    have hV := hV.join hSt
    rw [List.append_assoc _ [] _] at hV
    refine kLd hV _ i4 rfl rfl (kSame_i (kDrew_st hV fun V hV => ?_))
    have hszV : Sl V az 1 (((chunkN x.ar j).map fun n => mkS (twoL n)).map vStr) := by
      have := hV.sl (a := az) (cp := cz) (sz := 1) (e := 9) (vs := ((chunkN x.ar j).map fun n => mkS (twoL n)).map vStr) _ (by rw [flatS]; exact at_r) (vStr_size _) (by simp)
      exact this
    have hcz : (chunkN x.ar j).length ≤ cz := row_cap (hV.get _ at_r)
    have hj57 := Join57 ((chunkN x.ar j).map fun n => mkS (twoL n)) ⟨#[]⟩ V az cz hszV (by simpa using hcz) (by simp; omega) (by decide) (Nat.le_trans (sumS_bound (B := 2) (fun s hs => by obtain ⟨n, _, rfl⟩ := List.mem_map.1 hs; rw [mkS_size]; exact Nat.le_refl _)) (by simp; omega))
    rw [List.length_map, joinB_two] at hj57
    refine kCall_i (Tryz.call32 _ _) (hj57 _ fun W hB => ?_)
    have hV := hV.bel hB
    refine kLd hV _ i4 rfl rfl (kSame_i (kBuild_i (built59t (mkS ((chunkN x.ar j).flatMap twoL))) (kDrew_st hV fun V hV => ?_)))
    refine kBS (xE104 V) hV [vVal (3, 0, mkS ((chunkN x.ar j).flatMap twoL))] rfl rfl (by omega) (by omega) (by intro u hu; simp at hu; subst hu; rfl) fun a1 c1 V hV _ => ?_
    rw [List.append_assoc _ _ [Own.row (.slice a1 1 c1) 59 3 1 _]] at hV
    refine kLd hV _ i4 rfl rfl (kSame_i (kDrew_st hV fun V hV => ?_))
    have ilast := fun {K : List Own} {o : Own} => (at_r : (K ++ [o])[K.length]? = some o)
    rw [← List.append_assoc _ _ [Own.row (.slice a1 1 c1) 59 3 1 _]] at hV
    refine kAppRow_st (xE104 V) hV B2.length _ (at_l iy) at_r (by intro u hu; simp [flat, vVal, Value.cells] at hu; rcases hu with rfl | rfl | rfl <;> rfl) (by simp only [maxLen]; omega) (by omega) fun y2 V hV => ?_
    rw [set_l _ iy] at hV
    have hV := hV.init
    rw [set_l _ (at_l (at_l (at_l (at_l at_r)))), set_l _ (at_l (at_l (at_l at_r))), set_l _ (at_l (at_l at_r)), set_l _ (at_l at_r), set_l _ at_r, set_r] at hV
    refine kDrew_st hV fun V hV => ?_
    have hy2 : y2.cells = #[y2] ∧ y2.oneCell' = true := row_cells (hV.get B2.length (at_l (at_l (at_l (at_l (at_l at_r))))))
    refine kSt hV _ (at_l (at_l (at_l (at_l at_r)))) (by simp) hy2.1 hy2.2 rfl fun V hV => ?_
    rw [set_l _ (at_l (at_l (at_l at_r))), set_l _ (at_l (at_l at_r)), set_l _ (at_l at_r), set_l _ at_r, set_r] at hV
    have hV' : St w0 (B2 ++ [Own.row y2 59 3 (7 + (j + 1)) (flat ((headR x ++ argR x.ar (j + 1)).map vVal))] ++ [.bx b4 104 #[y2]] ++ marks [] ++ lpD l1 lo2 D ++ E ++ [Own.row (.slice az (chunkN x.ar j).length cz) 9 1 (chunkN x.ar j).length (((chunkN x.ar j).map fun n => mkS (twoL n)).map vStr)]) V := by
      rw [argR_succ, ← List.append_assoc (headR x), flat_snoc]
      exact hV
    exact rndEnd_fr hS (N := [_]) hV' fun hV5 => ⟨lo2, _, ⟨y2, rfl⟩, hV5⟩
  · rintro D V X ⟨y, rfl⟩ m1 m2 m3
    have hil : (insRow x).length = 7 + nCh x.ar := by unfold insRow; rw [List.length_append, argR_len]; rfl
    have hrow := m3.get _ (at_l (at_l at_r))
    obtain ⟨ay, cy, rfl, hsy⟩ := Sl.of_owns (vs := (insRow x).map vVal) (n := 7 + nCh x.ar) (flatMap_vVal_size _) hrow (by rw [List.length_map, hil])
    have hE := Encode18 (insRow x) V ay cy hsy hx.r (by omega)
    rw [hil] at hE
    have hlB : (encB (insRow x)).length ≤ 4000 := by
      have := hx.e
      unfold encE at this
      split at this
      · omega
      · split at this
        · omega
        · cases this
    refine kLd m3 _ (at_l at_r) rfl rfl (kCall_i (Tryz.call91 _ _) (hE _ (fun _ xb W hBe hown => ?_) (fun q => absurd hx.e q)))
    have hS := m3.made hBe hown
    obtain ⟨ab, cb, rfl, _⟩ := Bs.of_owns hown
    refine kExt_0 (kExt_1 (kEq_int (kCall_i (Tryz.call43 _ _) (must43 _ 2 _ _ (fun _ => ?_) (fun q => by cases q)))))
    obtain ⟨B3, hB3⟩ : ∃ B3 : List Own, B3 = M ++ [.bx b3 62 (inC x p x.ar.length pc)] ++ [.bx b0 60 #[.slice p x.ar.length pc], .bx b1 3 #[.int .i64 24]] := ⟨_, rfl⟩
    have hB23 : B2 = .bx bw 116 #[sl, v] :: .row v 5 1 c.length (c.map vB) :: B3 := by rw [hB2, hB, hL0, hB3]; rfl
    rw [hB23] at hS
    have hS : St w0 (.bx bw 116 #[sl, v] :: .row v 5 1 c.length (c.map vB) :: (B3 ++ [Own.row (.slice ay (7 + nCh x.ar) cy) 59 3 (7 + nCh x.ar) (flat ((headR x ++ argR x.ar (nCh x.ar)).map vVal))] ++ [.bx b4 104 #[.slice ay (7 + nCh x.ar) cy]] ++ marks [D] ++ [.row (.slice ab (encB (insRow x)).length cb) 5 1 (encB (insRow x)).length ((encB (insRow x)).map vB)])) W := hS
    refine kNil_p (xFa116_1 (kLd hS 0 rfl rfl rfl (xLen44 (kBin_shr (by omega) (by simp [IntKind.bits]) ?_))))
    rw [show (((encB (insRow x)).length : Nat) : Int) / 2 ^ (8 : Int).toNat = (((encB (insRow x)).length / 256 : Nat) : Int) by show _ / 2 ^ 8 = _; omega]
    refine kCv3_5g (xLen44 (kCv3_5g ?_))
    refine kBS (xE44 W) hS ([(encB (insRow x)).length / 256 % 256, (encB (insRow x)).length % 256].map vB) rfl rfl (by omega) (by omega) (by intro u hu; obtain ⟨z, _, rfl⟩ := List.mem_map.1 hu; rfl) fun a1 c1 W hS _ => ?_
    have one : ∀ (l : List Nat), ∀ u ∈ l.map vB, u.oneCell' = true := by
      intro l u hu; obtain ⟨z, _, rfl⟩ := List.mem_map.1 hu; rfl
    refine kAppRow_st (xE44 W) hS 1 _ rfl at_r (by rw [show flat _ = _ from flat_vB _]; exact one _) (by simp only [maxLen]; omega) (by omega) fun v1 W hS => ?_
    rw [show flat (List.map vB _) = _ from flat_vB _, set_l _ rfl] at hS
    have hS := hS.init
    have hS : St w0 (.bx bw 116 #[sl, v] :: .row v1 5 1 (c.length + 2) (c.map vB ++ [(encB (insRow x)).length / 256 % 256, (encB (insRow x)).length % 256].map vB) :: (B3 ++ [Own.row (.slice ay (7 + nCh x.ar) cy) 59 3 (7 + nCh x.ar) (flat ((headR x ++ argR x.ar (nCh x.ar)).map vVal))] ++ [.bx b4 104 #[.slice ay (7 + nCh x.ar) cy]] ++ marks [D] ++ [.row (.slice ab (encB (insRow x)).length cb) 5 1 (encB (insRow x)).length ((encB (insRow x)).map vB)])) W := hS
    have iX : (.bx bw 116 #[sl, v] :: .row v1 5 1 (c.length + 2) (c.map vB ++ [(encB (insRow x)).length / 256 % 256, (encB (insRow x)).length % 256].map vB) :: (B3 ++ [Own.row (.slice ay (7 + nCh x.ar) cy) 59 3 (7 + nCh x.ar) (flat ((headR x ++ argR x.ar (nCh x.ar)).map vVal))] ++ [.bx b4 104 #[.slice ay (7 + nCh x.ar) cy]] ++ marks [D] ++ [Own.row (.slice ab (encB (insRow x)).length cb) 5 1 (encB (insRow x)).length ((encB (insRow x)).map vB)]))[(.bx bw 116 #[sl, v] :: .row v1 5 1 (c.length + 2) (c.map vB ++ [(encB (insRow x)).length / 256 % 256, (encB (insRow x)).length % 256].map vB) :: (B3 ++ [Own.row (.slice ay (7 + nCh x.ar) cy) 59 3 (7 + nCh x.ar) (flat ((headR x ++ argR x.ar (nCh x.ar)).map vVal))] ++ [.bx b4 104 #[.slice ay (7 + nCh x.ar) cy]] ++ marks [D])).length]? = some (.row (.slice ab (encB (insRow x)).length cb) 5 1 (encB (insRow x)).length ((encB (insRow x)).map vB)) := at_r
    refine kAppRow_st (xE44 W) hS 1 _ rfl iX (one _) (by simp only [maxLen]; omega) (by omega) fun v2 W hS => ?_
    have hS : St w0 (.bx bw 116 #[sl, v] :: .row v2 5 1 (c.length + 2 + (encB (insRow x)).length) (c.map vB ++ [(encB (insRow x)).length / 256 % 256, (encB (insRow x)).length % 256].map vB ++ (encB (insRow x)).map vB) :: (B3 ++ [Own.row (.slice ay (7 + nCh x.ar) cy) 59 3 (7 + nCh x.ar) (flat ((headR x ++ argR x.ar (nCh x.ar)).map vVal))] ++ [.bx b4 104 #[.slice ay (7 + nCh x.ar) cy]] ++ marks [D] ++ [.row (.slice ab (encB (insRow x)).length cb) 5 1 (encB (insRow x)).length ((encB (insRow x)).map vB)])) W := hS
    have hv2 : v2.cells = #[v2] ∧ v2.oneCell' = true := row_cells (hS.get 1 rfl)
    refine kNil_p (xFa116_1 (kSt hS 0 rfl (by simp) hv2.1 hv2.2 rfl fun W hS => ?_))
    have hS : St w0 (.bx bw 116 #[sl, v2] :: .row v2 5 1 (c.length + 2 + (encB (insRow x)).length) (c.map vB ++ [(encB (insRow x)).length / 256 % 256, (encB (insRow x)).length % 256].map vB ++ (encB (insRow x)).map vB) :: (B3 ++ [Own.row (.slice ay (7 + nCh x.ar) cy) 59 3 (7 + nCh x.ar) (flat ((headR x ++ argR x.ar (nCh x.ar)).map vVal))] ++ [.bx b4 104 #[.slice ay (7 + nCh x.ar) cy]] ++ marks [D] ++ [.row (.slice ab (encB (insRow x)).length cb) 5 1 (encB (insRow x)).length ((encB (insRow x)).map vB)])) W := hS
    have hrec : (c ++ recB x).map vB = c.map vB ++ [(encB (insRow x)).length / 256 % 256, (encB (insRow x)).length % 256].map vB ++ (encB (insRow x)).map vB := by
      unfold recB; simp
    have hrl : (c ++ recB x).length = c.length + 2 + (encB (insRow x)).length := by unfold recB; simp; omega
    rw [← hrec, ← hrl] at hS
    have hS : St w0 ((.bx bw 116 #[sl, v2] :: .row v2 5 1 (c ++ recB x).length ((c ++ recB x).map vB) :: M) ++ [.ob D (.deferred (some []))]) W := by
      refine hS.sub (List.Sublist.cons_cons _ (List.Sublist.cons_cons _ ?_))
      rw [hB3]
      refine List.Sublist.trans ?_ (List.sublist_append_left _ _)
      exact List.Sublist.append (List.Sublist.trans (List.Sublist.trans (List.sublist_append_left _ _) (List.sublist_append_left _ _)) (List.Sublist.trans (List.sublist_append_left _ _) (List.sublist_append_left _ _))) (List.Sublist.refl _)
    exact Lv_mark1 hS fun V hS => h v2 V hS
end Go.L
namespace Go.L
open Go Go.RowKit Go.Proofs
set_option linter.unusedSimpArgs false
set_option linter.unusedVariables false

/-- Code, with the capacities of its args. -/
def InsP (W : World) (lo : Option Addr) (l : List IN) : Prop := ∃ vs, Sl W lo 10 vs ∧ vs.length = l.length ∧ ∀ (i : Nat) (x : IN), l[i]? = some x → ∃ p pc, vs[i]? = some (inV x p pc) ∧ Sl W p 1 (x.ar.map vInt) ∧ x.ar.length ≤ pc
theorem InsP.ins {W : World} {lo : Option Addr} {l : List IN} (h : InsP W lo l) : InsL W lo l := by
  obtain ⟨vs, h1, h2, h3⟩ := h
  refine ⟨vs, h1, h2, fun i x hx => ?_⟩
  obtain ⟨p, pc, a, b, c⟩ := h3 i x hx
  exact ⟨_, a, p, pc, rfl, b⟩
theorem InsP.below {W W' : World} {lo : Option Addr} {l : List IN} (h : InsP W lo l) (hB : Below W.heap.size W W') : InsP W' lo l := by
  obtain ⟨vs, h1, h2, h3⟩ := h
  refine ⟨vs, h1.below hB, h2, fun i x hx => ?_⟩
  obtain ⟨p, pc, a, b, c⟩ := h3 i x hx
  exact ⟨p, pc, a, b.below hB, c⟩
theorem InsP.elem {W : World} {lo : Option Addr} {l : List IN} (h : InsP W lo l) {i : Nat} (hi : i < l.length) : ∃ b o p pc, lo = some ⟨b, o, none⟩ ∧ b < W.heap.size ∧ W.rangeAt b (o + i * 10) (inV l[i] p pc).cells.toList ∧ Sl W p 1 (l[i].ar.map vInt) ∧ l[i].ar.length ≤ pc := by
  obtain ⟨vs, h1, h2, h3⟩ := h
  obtain ⟨p, pc, a, b, c⟩ := h3 i l[i] (by simp [hi])
  obtain ⟨pb, po, e, h4, h5⟩ := h1.elem a
  exact ⟨pb, po, p, pc, e, h4, h5, b, c⟩
theorem right_facts {n : Int} {x : IN} (h : rightR n x = true) : checkE x.v = 0 ∧ x.nm.size ≤ 100 ∧ x.ar.length ≤ 200 ∧ ∀ m ∈ x.ar, 0 ≤ m ∧ m ≤ 399 := by
  unfold rightR at h
  simp only [Bool.and_eq_true, Bool.not_eq_true'] at h
  obtain ⟨_, _, hno, hl⟩ := h
  generalize fb (formB x.k) 3 = wh at hno hl
  have ab : ∀ {most : Int}, most ≤ 399 → allB most x.ar = true → x.ar.length ≤ 200 ∧ ∀ m ∈ x.ar, 0 ≤ m ∧ m ≤ 399 := fun hm h => by
    unfold allB at h
    simp only [Bool.and_eq_true, decide_eq_true_eq] at h
    refine ⟨h.2, fun m hm' => ?_⟩
    have := h.1
    unfold allIn at this
    have := List.all_eq_true.1 this m hm'
    simp [outOf] at this
    omega
  have a0 : ((x.ar.length : Int) == 0) = true → x.ar.length ≤ 200 ∧ ∀ m ∈ x.ar, 0 ≤ m ∧ m ≤ 399 := fun h => by
    have h : x.ar.length = 0 := by simpa using h
    have : x.ar = [] := List.eq_nil_of_length_eq_zero h
    rw [this]; simp
  have v0 : wh ≠ 118 → checkE x.v = 0 := fun e => by
    have : x.v = (0, 0, ⟨#[]⟩) := by
      by_cases hv : x.v = (0, 0, ⟨#[]⟩)
      · exact hv
      · exfalso; simp [restNo, e, hv] at hno
    rw [this]; decide
  have n0 : wh ≠ 116 → wh ≠ 117 → x.nm.size ≤ 100 := fun e1 e2 => by
    have : x.nm = ⟨#[]⟩ := by
      by_cases hv : x.nm = ⟨#[]⟩
      · exact hv
      · exfalso; simp [restNo, e1, e2, hv] at hno
    rw [this]; decide
  unfold lastR at hl
  split at hl
  · rename_i e; subst e
    simp only [Bool.and_eq_true] at hl
    exact ⟨by simpa using hl.1, n0 (by omega) (by omega), a0 hl.2⟩
  rename_i e1
  split at hl
  · rename_i e; subst e
    simp only [Bool.and_eq_true] at hl
    exact ⟨v0 e1, n0 (by omega) (by omega), ab (by omega) hl.2.2⟩
  split at hl
  · rename_i e; subst e
    simp only [Bool.and_eq_true] at hl
    exact ⟨v0 e1, n0 (by omega) (by omega), ab (by omega) hl.2⟩
  split at hl
  · rename_i e; subst e
    simp only [Bool.and_eq_true, decide_eq_true_eq] at hl
    exact ⟨v0 e1, by omega, a0 hl.2.2⟩
  rename_i e4
  split at hl
  · rename_i e; subst e
    exact ⟨v0 e1, n0 (by omega) (by omega), ab (by omega) hl⟩
  split at hl
  · rename_i e; subst e
    simp only [Bool.and_eq_true] at hl
    refine ⟨v0 e1, ?_, a0 hl.2⟩
    obtain ⟨t, ht, e⟩ := List.any_eq_true.1 hl.1
    have e : x.nm = t := by simpa using e
    rw [e]
    have : ∀ t ∈ sums4, t.size ≤ 100 := by decide
    exact this t ht
  rename_i e6
  split at hl
  · rename_i e; subst e
    exact ⟨v0 e1, n0 (by omega) (by omega), ab (by omega) hl⟩
  · exact ⟨v0 e1, n0 e4 e6, a0 hl⟩
theorem badE_all0 : ∀ {rows : List AV}, (∀ r ∈ rows, checkE r = 0) → badE rows = 0
  | [], _ => rfl
  | r :: rs, h => by
    unfold badE
    rw [if_neg (by rw [h r (List.mem_cons_self ..)]; simp)]
    exact badE_all0 fun q hq => h q (List.mem_cons_of_mem _ hq)
theorem enc1_len {r : AV} (hr : Rng r) (hc : checkE r = 0) : (r.1.toNat :: layB r).length ≤ 11 + r.2.2.size := by
  have hrg := checkE_rng hc
  have hsz := checkE_sz hc
  unfold layB
  split
  · simp; omega
  split
  · have := numB_len64 (n := zig r.2.1) (by unfold zig; have := hr.1; have := hr.2; split <;> omega)
    simp; omega
  split
  · have := numB_len64 (n := r.2.2.size) (by omega)
    unfold strB
    simp only [List.length_cons, List.length_append, bl_length]
    omega
  · simp; omega
theorem flatMap_len {B : Nat} : ∀ {rows : List AV}, (∀ r ∈ rows, (r.1.toNat :: layB r).length ≤ B) → (rows.flatMap fun r => r.1.toNat :: layB r).length ≤ B * rows.length
  | [], _ => by simp
  | r :: rs, h => by
    have h1 := h r (List.mem_cons_self ..)
    have h2 := flatMap_len fun q hq => h q (List.mem_cons_of_mem _ hq)
    rw [List.flatMap_cons, List.length_append, show (r :: rs).length = rs.length + 1 from rfl, Nat.mul_succ]
    omega
theorem chS_size (l : List Int) (j : Nat) : (chS l j).size ≤ 48 := by
  unfold chS
  rw [mkS_size]
  have hl : (chunkN l j).length ≤ 24 := by unfold chunkN; simp; omega
  have : ∀ l : List Int, (l.flatMap twoL).length = 2 * l.length := by
    intro l
    induction l with
    | nil => rfl
    | cons n l ih => rw [List.flatMap_cons, List.length_append, ih, List.length_cons]; simp [twoL]; omega
  rw [this]; omega
theorem putOk_of {n : Int} {x : IN} (h : rightR n x = true) (hw : InsWf x) (hk : I64 x.k) (ho : I64 x.o) : PutOk x := by
  obtain ⟨hv, hnm, har, hargs⟩ := right_facts h
  have hr : ∀ r ∈ insRow x, Rng r ∧ checkE r = 0 := by
    intro r hr
    unfold insRow headR argR at hr
    simp only [List.mem_append, List.mem_cons, List.not_mem_nil, or_false, List.mem_map, List.mem_range] at hr
    have i0 : ∀ m : Int, checkE (intV m) = 0 := fun m => by unfold checkE intV; rfl
    have t0 : ∀ s : ByteArray, s.size ≤ 1000 → checkE (3, 0, s) = 0 := fun s hs => by
      unfold checkE
      rw [if_neg (by simpa using hs)]
      rfl
    rcases hr with (rfl | rfl | rfl | rfl | rfl | rfl | rfl) | ⟨j, _, rfl⟩
    · exact ⟨hk, i0 _⟩
    · exact ⟨hw.a, i0 _⟩
    · exact ⟨hw.b, i0 _⟩
    · exact ⟨hw.c, i0 _⟩
    · exact ⟨ho, i0 _⟩
    · exact ⟨hw.v, hv⟩
    · exact ⟨by unfold Rng; simp, t0 _ (by omega)⟩
    · exact ⟨by unfold Rng; simp, t0 _ (Nat.le_trans (chS_size _ _) (by omega))⟩
  have hlen : (insRow x).length ≤ 16 := by
    unfold insRow
    rw [List.length_append, argR_len]
    show 7 + nCh x.ar ≤ 16
    unfold nCh; omega
  have hfit : (encB (insRow x)).length ≤ 4000 := by
    unfold encB
    rw [List.length_append]
    have h1 := numB_len64 (n := (insRow x).length) (by omega)
    have hA : ((argR x.ar (nCh x.ar)).flatMap fun r => r.1.toNat :: layB r).length ≤ 59 * (argR x.ar (nCh x.ar)).length := flatMap_len fun r hm => by
      have h2 := hr r (by unfold insRow; exact List.mem_append_right _ hm)
      have h3 := enc1_len h2.1 h2.2
      have h4 : r.2.2.size ≤ 48 := by
        unfold argR at hm
        obtain ⟨j, _, rfl⟩ := List.mem_map.1 hm
        exact chS_size _ _
      omega
    have hn9 : nCh x.ar ≤ 9 := by unfold nCh; omega
    rw [argR_len] at hA
    have mem : ∀ r ∈ headR x, (r.1.toNat :: layB r).length ≤ 11 + r.2.2.size := fun r hm => by
      have h2 := hr r (by unfold insRow; exact List.mem_append_left _ hm)
      exact enc1_len h2.1 h2.2
    have m1 := mem (intV x.k) (by simp [headR])
    have m2 := mem (intV x.a) (by simp [headR])
    have m3 := mem (intV x.b) (by simp [headR])
    have m4 := mem (intV x.c) (by simp [headR])
    have m5 := mem (intV x.o) (by simp [headR])
    have m6 := mem x.v (by simp [headR])
    have m7 := mem (3, 0, x.nm) (by simp [headR])
    have hvs := checkE_sz hv
    have i0 : ∀ m : Int, (intV m).2.2.size = 0 := fun _ => rfl
    rw [i0] at m1 m2 m3 m4 m5
    have hH : ((headR x).flatMap fun r => r.1.toNat :: layB r).length ≤ 55 + 1011 + 111 := by
      unfold headR
      simp only [List.flatMap_cons, List.flatMap_nil, List.length_append, List.append_nil]
      have : (3, 0, x.nm).2.2.size = x.nm.size := rfl
      try dsimp only at m7
      try dsimp only
      omega
    have hI : (insRow x).flatMap (fun r => r.1.toNat :: layB r) = (headR x).flatMap (fun r => r.1.toNat :: layB r) ++ (argR x.ar (nCh x.ar)).flatMap (fun r => r.1.toNat :: layB r) := by
      unfold insRow; rw [List.flatMap_append]
    rw [hI, List.length_append]
    omega
  refine ⟨?_, fun r hm => (hr r hm).1, fun m hm => ⟨(hargs m hm).1, by have := (hargs m hm).2; omega⟩, by omega⟩
  unfold encE
  rw [if_neg (by rw [badE_all0 fun r hm => (hr r hm).2]; simp), if_pos ⟨by omega, hfit⟩]
def codeN (l : List IN) (i : Nat) : List Nat := (l.take i).flatMap recB
/-- Code's bytes. -/
def codeB (l : List IN) : List Nat := l.flatMap recB
theorem codeN_succ (l : List IN) {i : Nat} (hi : i < l.length) : codeN l (i + 1) = codeN l i ++ recB l[i] := flatMap_snoc _ _ hi
theorem recB_len {x : IN} (h : PutOk x) : (recB x).length ≤ 4002 := by
  have := h.e
  unfold encE at this
  split at this
  · omega
  · split at this
    · unfold recB; simp; omega
    · cases this
theorem built114 (a : Option Addr) (n cp : Nat) : Tryz.prog.built 114 [(0, .slice a n cp)] = some #[.slice a n cp] := by kernel_rfl
theorem built116 (a : Option Addr) (n cp : Nat) : Tryz.prog.built 116 [(0, .agg #[.slice a n cp])] = some #[.slice a n cp, .slice none 0 0] := by kernel_rfl
theorem Encode22 (l : List IN) (w : World) (lo : Option Addr) (lc : Nat) (hl : InsP w lo l) (harl : ∀ x ∈ l, x.ar.length ≤ 1000000) (hput : chkC l = 0 → ∀ x ∈ l, PutOk x) (R : Ending → World → Prop)
    (h0 : chkC l = 0 → ∀ x W, Below w.heap.size w W → W.ownsRow w.heap.size 5 1 x (codeB l).length ((codeB l).map vB) → R (.returned (.tuple #[x, .int .i64 0])) W)
    (h1 : chkC l ≠ 0 → ∀ W, Below w.heap.size w W → R (.returned (.tuple #[.slice none 0 0, .int .i64 2])) W) : Calls Tryz.prog 22 #[.slice lo l.length lc] w R := by
  refine c22 _ _ _ _ _ ?_
  unfold vc22
  refine kAlloc_st Tryz.zeroValue44 (St.start w) fun b2 W hS => kAlloc_st Tryz.zeroValue26 hS fun b3 W hS => ?_
  have hS : St w [.bx b2 44 #[.slice none 0 0], .bx b3 26 #[.int .i64 0]] W := hS
  refine kCall_i (Tryz.call14 _ _) (Check19 l W lo lc (hl.ins.below hS.below) harl _ fun W hB => kEq_int (kCall_i (Tryz.call43 _ _) (must43 _ 2 _ _ (fun q => ?_) (fun q => ?_))))
  rotate_left
  · have hS := hS.bel hB
    refine Lv_pan41 hS 1 rfl (fun W => St w [.bx b2 44 #[.slice none 0 0], .bx b3 26 #[.int .i64 2]] W) Tryz.call49 (fun W hS => ?_) (fun W hS => RetK_cell2 rfl rfl (hS.cell 0 rfl 0 rfl) (hS.cell 1 rfl 0 rfl) (h1 (by simpa using q) W hS.below))
    refine c49 _ _ _ ?_
    unfold vc49
    exact kSt hS 0 rfl (by simp) rfl rfl rfl fun W hS => ⟨rfl, hS⟩
  have hc0 : chkC l = 0 := by simpa using q
  have hput := hput hc0
  obtain ⟨hlen, _⟩ := chkC_all hc0
  have hS := hS.bel hB
  refine kBuild_i (built114 lo l.length lc) (kBuild_i (built116 lo l.length lc) (kBox_st hS fun bw W hS => ?_))
  have hS : St w ([.bx b2 44 #[.slice none 0 0], .bx b3 26 #[.int .i64 0]] ++ [.bx bw 116 #[.slice lo l.length lc, .slice none 0 0]]) W := hS
  have hS := hS.adopt (o := .row (.slice none 0 0) 5 1 0 []) (World.ownsRow_nil _ _ _ _) (fun p hp => by
    simp at hp
    rcases hp with rfl | rfl | rfl
    · exact .inr (fun e => by cases e)
    · exact .inr (fun e => by cases e)
    · exact .inr (fun e => by cases e))
  have hS : St w ([.bx bw 116 #[.slice lo l.length lc, .slice none 0 0], .row (.slice none 0 0) 5 1 0 []] ++ [.bx b2 44 #[.slice none 0 0], .bx b3 26 #[.int .i64 0]]) W := by
    rw [List.append_assoc] at hS
    exact hS.perm List.perm_append_comm
  refine kNil_p (xFa116_0 (xFa114_0 (kLd hS 0 rfl rfl rfl (xLen22 ?_))))
  refine ⟨⟨fun cs V => ∃ (i : Nat) (v : Value), cs = [.int .i64 i] ∧ i ≤ l.length ∧ (codeN l i).length ≤ 4002 * i ∧ St w (.bx bw 116 #[.slice lo l.length lc, v] :: .row v 5 1 (codeN l i).length ((codeN l i).map vB) :: [.bx b2 44 #[.slice none 0 0], .bx b3 26 #[.int .i64 0]]) V, fun cs _ => l.length - (match cs with | [.int _ i] => i.toNat | _ => 0), ⟨0, _, rfl, Nat.zero_le _, Nat.le_refl _, hS⟩, ?_⟩⟩
  rintro cs ds V ⟨i, v, rfl, hi, hcl, hS⟩
  dsimp only [List.getD_cons_zero]
  refine kBin_lss (kIf_d (fun e => ?_) (fun e => ?_))
  · have hil : i < l.length := by omega
    have hpx := hput l[i] (List.getElem_mem hil)
    obtain ⟨pb, po, p, pc, hlo, hpb, hpr, hsl, hpc⟩ := hl.elem hil
    have hpr : V.rangeAt pb (po + i * 10) (inV l[i] p pc).cells.toList := fun j v hj => by
      rw [World.cell?_of_block (w := w) (hS.below.block pb hpb)]; exact hpr j v hj
    have hcs := codeN_succ l hil
    have hrl := recB_len hpx
    generalize l[i] = x at *
    rw [hlo]
    refine xIa22 hil (xLdE62 hpr rfl rfl (kAlloc_st Tryz.zeroValue62 hS fun b6 V hS => kStoreAR (cs' := inC x p x.ar.length pc) hS rfl (by simp [inC, Value.oneCell']) Tryz.sizeOf62 fun V hS => ?_))
    have hS : St w (.bx bw 116 #[.slice lo l.length lc, v] :: .row v 5 1 (codeN l i).length ((codeN l i).map vB) :: ([.bx b2 44 #[.slice none 0 0], .bx b3 26 #[.int .i64 0]] ++ [.bx b6 62 (inC x p x.ar.length pc)])) V := hS
    refine xLdB62 hS 4 rfl rfl ?_
    refine kCall_i (Tryz.call50 _ _) (put50 hS x p pc hsl hpc hpx (by omega) _ fun v' V hS => ?_)
    refine kBin_add (kD_i ⟨⟨i + 1, v', ?_, hil, ?_, ?_⟩, ?_⟩)
    · rw [wrap_id (by omega) (by omega)]; rfl
    · rw [hcs, List.length_append]; omega
    · rw [hcs, ← hlo]; exact hS.sub (List.Sublist.cons_cons _ (List.Sublist.cons_cons _ (List.sublist_append_left _ _)))
    · rw [wrap_id (by omega) (by omega)]; show l.length - ((i : Int) + 1).toNat < l.length - (i : Int).toNat; omega
  · have hie : i = l.length := by omega
    have hcb : codeN l i = codeB l := by unfold codeN codeB; rw [hie, List.take_length]
    rw [hcb] at hS
    have hv : v.cells = #[v] ∧ v.oneCell' = true := row_cells (hS.get 1 rfl)
    refine kNil_p (xFa116_1 (kLd hS 0 rfl rfl rfl (kSt hS 2 rfl (by simp) hv.1 hv.2 rfl fun V hS => kSt hS 3 rfl (by simp) rfl rfl rfl fun V hS => Lv_ret41 (RetK_cell2 rfl rfl (hS.cell 2 rfl 0 rfl) (hS.cell 3 rfl 0 rfl) (h0 hc0 v V hS.below (hS.get 1 rfl))))))
end Go.L
namespace Go.L
open Go Go.RowKit Go.Proofs
set_option linter.unusedSimpArgs false
set_option linter.unusedVariables false

end Go.L
namespace Go.L
open Go Go.RowKit Go.Proofs
set_option linter.unusedSimpArgs false
set_option linter.unusedVariables false

theorem or_low (n c : Nat) (hc : c < 256) (hn : n * 256 + c < 9223372036854775808) : bits .or .i64 ((n * 256 : Nat) : Int) (c : Int) = ((n * 256 + c : Nat) : Int) := by
  have h1 : ((BitVec.ofInt 64 ((n * 256 : Nat) : Int)) ||| (BitVec.ofInt 64 (c : Int))).toNat = n * 256 + c := by
    rw [BitVec.toNat_or, BitVec.toNat_ofInt, BitVec.toNat_ofInt]
    have e1 : (((n * 256 : Nat) : Int) % ((2 ^ 64 : Nat) : Int)).toNat = n * 256 := by omega
    have e2 : ((c : Int) % ((2 ^ 64 : Nat) : Int)).toNat = c := by omega
    rw [e1, e2, show n * 256 = 2 ^ 8 * n by omega, ← Nat.two_pow_add_eq_or_of_lt (show c < 2 ^ 8 by omega)]
  show IntKind.i64.wrap (((BitVec.ofInt 64 ((n * 256 : Nat) : Int)) ||| (BitVec.ofInt 64 (c : Int))).toNat : Int) = _
  rw [h1]; exact wrap_id (by omega) (by omega)
theorem kShl8 {c : Cx} {w : World} {k : Value → World → Prop} {t : TypeId} {n : Nat} (hn : n < 65536) (hk : k (.int .i64 ((n * 256 : Nat) : Int)) w) : kBin c w .shl t (.int .i64 n) (.int .u64 8) k := by
  refine kBin_shl (by omega) (by simp [IntKind.bits]) ?_
  have e8 : (n : Int) * 2 ^ (8 : Int).toNat = ((n * 256 : Nat) : Int) := by show (n : Int) * 2 ^ 8 = _; omega
  rw [e8, wrap_id (by omega) (by omega)]; exact hk
theorem kOr8 {c : Cx} {w : World} {k : Value → World → Prop} {t : TypeId} {n m : Nat} (hn : n < 65536) (hm : m < 256) (hk : k (.int .i64 ((n * 256 + m : Nat) : Int)) w) : kBin c w .or t (.int .i64 ((n * 256 : Nat) : Int)) (.int .i64 m) k :=
  kBin_or (by rw [or_low n m hm (by omega)]; exact hk)
theorem flatI (xs : List Int) : flat (xs.map vInt) = xs.map vInt := by
  induction xs with
  | nil => rfl
  | cons a l ih =>
    have : flat ((a :: l).map vInt) = vInt a :: flat (l.map vInt) := by simp [flat, vInt, Value.cells]
    rw [this, ih]; rfl
def okN (v : AV) : Bool := decide (v.1 = 2) && (decide (-1 ≤ v.2.1) && decide (v.2.1 ≤ 2147483647))
def pairs : List Nat → List Int
  | a :: b :: r => ((a * 256 + b : Nat) : Int) :: pairs r
  | _ => []
/-- The instruction of a row. -/
def insOf (r : List AV) : Option IN :=
  if 7 ≤ r.length ∧ (r.take 5).all okN = true then some ⟨(r.getD 0 (0, 0, ⟨#[]⟩)).2.1, (r.getD 1 (0, 0, ⟨#[]⟩)).2.1, (r.getD 2 (0, 0, ⟨#[]⟩)).2.1, (r.getD 3 (0, 0, ⟨#[]⟩)).2.1, (r.getD 4 (0, 0, ⟨#[]⟩)).2.1, r.getD 5 (0, 0, ⟨#[]⟩), (r.getD 6 (0, 0, ⟨#[]⟩)).2.2, (r.drop 7).flatMap fun v => pairs (bl v.2.2)⟩ else none
theorem ins93 (v : AV) (w : World) (R : Ending → World → Prop) (h0 : okN v = true → ∀ W, Below w.heap.size w W → R (.returned (.int .i64 v.2.1)) W) (h1 : okN v = false → ∀ W, Below w.heap.size w W → R (.panicked [pe 390 false]) W) : Calls Tryz.prog 93 #[vVal v] w R := by
  refine c93 _ _ _ _ _ ?_
  unfold vc93
  refine kBox_st (St.start w) fun b W hS => ?_
  have hS : St w [.bx b 59 #[.int .i64 v.1, .int .i64 v.2.1, .string v.2.2]] W := hS
  unfold okN at h0 h1
  refine xFa59_0 (kLd hS 0 rfl rfl rfl (kEq_int (kIf_eq (fun q => ?_) (fun q => ?_))))
  · rw [decide_eq_true q, Bool.true_and] at h0 h1
    refine xFa59_1 (kLd hS 0 rfl rfl rfl (kBin_geq (kIf_d (fun q1 => ?_) (fun q1 => ?_))))
    · rw [decide_eq_true (show -1 ≤ v.2.1 from q1), Bool.true_and] at h0 h1
      refine xFa59_1 (kLd hS 0 rfl rfl rfl (kBin_leq (kCall_i (Tryz.call43 _ _) (must43 _ 390 _ _ (fun q2 => ?_) (fun q2 => h1 q2 W hS.below)))))
      exact xFa59_1 (kLd hS 0 rfl rfl rfl (h0 q2 W hS.below))
    · rw [decide_eq_false (fun e => q1 (show v.2.1 ≥ -1 from e)), Bool.false_and] at h1
      exact kCall_i (Tryz.call43 _ _) (must43 _ 390 _ _ (fun q2 => by cases q2) (fun q2 => h1 rfl W hS.below))
  · rw [decide_eq_false q, Bool.false_and] at h1
    exact kCall_i (Tryz.call43 _ _) (must43 _ 390 _ _ (fun q2 => by cases q2) (fun q2 => h1 rfl W hS.below))
theorem some92 (l : List AV) (w : World) (lo : Option Addr) (lc : Nat) (hl : Sl w lo 3 (l.map vVal)) (hsm : l.length ≤ 1000000) (R : Ending → World → Prop)
    (h0 : l.all okN = true → ∀ x W, St w [.row x 3 1 l.length ((l.map (·.2.1)).map vInt)] W → R (.returned x) W)
    (h1 : l.all okN = false → ∀ W, Below w.heap.size w W → R (.panicked [pe 390 false]) W) : Calls Tryz.prog 92 #[.slice lo l.length lc, .func (.func 93) #[] #[]] w R := by
  refine c92 _ _ _ _ _ _ ?_
  unfold vc92
  have hS := (St.start w).adopt (o := .row (.slice none 0 0) 3 1 0 []) (World.ownsRow_nil _ _ _ _) (fun p hp => by cases hp)
  refine xLen104 ⟨⟨fun cs V => ∃ (i : Nat) (x : Value), cs = [x, .int .i64 i] ∧ i ≤ l.length ∧ (l.take i).all okN = true ∧ St w [.row x 3 1 i (((l.take i).map (·.2.1)).map vInt)] V, fun cs _ => l.length - (match cs with | [_, .int _ i] => i.toNat | _ => 0), ⟨0, _, rfl, Nat.zero_le _, rfl, hS⟩, ?_⟩⟩
  rintro cs ds V ⟨i, x, rfl, hi, hall, hS⟩
  dsimp only [List.getD_cons_zero, List.getD_cons_succ]
  refine kBin_lss (kIf_d (fun e => ?_) (fun e => ?_))
  · have hil : i < l.length := by omega
    obtain ⟨pb, po, rfl, hpb, hpr⟩ := (hl.below hS.below).elem (i := i) (v := vVal l[i]) (by simp [hil])
    refine xIa104 hil (xLdE59 hpr rfl rfl (kAlloc_st Tryz.zeroValue59 hS fun b V hS => kStoreAR (cs' := (vVal l[i]).cells) hS rfl (by simp [vVal, Value.cells, Value.oneCell']) Tryz.sizeOf59 fun V hS => ?_))
    refine xLdB59 hS _ at_r rfl (kCallV_i (Tryz.call93 _ _) (ins93 l[i] V _ (fun q W hB => ?_) (fun q W hB => ?_)))
    · have hS := (hS.bel hB).init
      refine kApp1_st (v := vInt l[i].2.1) (xE60 W) hS 0 rfl rfl (by simp [vInt, Value.cells, Value.oneCell']) (by simp only [maxLen]; omega) (by omega) fun x' W hS => kBin_add (kD_i ⟨⟨i + 1, x', ?_, hil, ?_, ?_⟩, ?_⟩)
      · rw [wrap_id (by omega) (by omega)]; rfl
      · rw [List.take_succ_eq_append_getElem hil, List.all_append, hall]; simp [q]
      · have e : ((l.take (i + 1)).map (·.2.1)).map vInt = ((l.take i).map (·.2.1)).map vInt ++ (vInt l[i].2.1).cells.toList := by
          rw [List.take_succ_eq_append_getElem hil, List.map_append, List.map_append]; rfl
        rw [e]; exact hS
      · rw [wrap_id (by omega) (by omega)]; show l.length - ((i : Int) + 1).toNat < l.length - (i : Int).toNat; omega
    · exact h1 (List.all_eq_false.2 ⟨l[i], List.getElem_mem hil, by rw [q]; simp⟩) W (hS.bel hB).below
  · have : i = l.length := by omega
    rw [this, List.take_length] at hS hall
    exact h0 hall x V hS
theorem mkS_get {l : List Nat} (hb : ∀ b ∈ l, b < 256) {i : Nat} (hi : i < (mkS l).size) : ((mkS l)[i]).toNat = l[i]'(by rw [mkS_size] at hi; exact hi) := by
  have hi' : i < l.length := by rw [mkS_size] at hi; exact hi
  have : (mkS l)[i] = UInt8.ofNat l[i] := by
    show (mkS l).data[i] = _
    simp [mkS]
  rw [this]
  have := hb l[i] (List.getElem_mem hi')
  simp [UInt8.toNat_ofNat']; omega
theorem mkS_drop (l : List Nat) (k : Nat) : (mkS l).extract k (mkS l).size = mkS (l.drop k) := by
  rw [mkS_size]
  unfold mkS
  apply ByteArray.ext
  apply Array.toList_inj.1
  simp [ByteArray.data_extract, List.map_drop]
  exact List.take_of_length_le (by simp)
theorem kSlS_l {c : Cx} {w : World} {t : TypeId} {q : IntKind} {s : ByteArray} {i : Nat} {k : Value → World → Prop} (ht : c.P.underlying t = some .string) (hi : i ≤ s.size) (h : k (.string (s.extract i s.size)) w) : kSl c w t (.string s) (some (.int q i)) none none k :=
  ⟨kVal_pure (fun w' => by rw [run_sliceAt_string w' t _ _ _ _ ht, run_slice_string_l w' t s ht q i (by omega) (by omega)]; simp) h⟩
theorem built62f (k a b c o : Int) (v : AV) (s : ByteArray) : Tryz.prog.built 62 [(0, .int .i64 k), (1, .int .i64 a), (2, .int .i64 b), (3, .int .i64 c), (4, .int .i64 o), (5, vVal v), (6, .string s)] = some (inC ⟨k, a, b, c, o, v, s, []⟩ none 0 0) := by kernel_rfl
theorem RetK_I62 {R : Ending → World → Prop} {w w0 : World} {L : List Own} (hS : St w0 L w) (i : Nat) {b : Nat} {cs : Array Value} (hi : L[i]? = some (.bx b 62 cs)) (hn : cs.size = 10) (h : R (.returned (.agg cs)) w) : RetK Tryz.prog [.cell (.pointer (some ⟨b, 0, none⟩)) 62] R w := by
  refine ⟨.agg cs, ?_, h⟩
  have := run_loadVar_row (P := Tryz.prog) w b 62 62 cs (0, 0) _ (hS.get i hi).2 Tryz.underlying62 rfl (by rw [info_of (Tryz.typeInfo62 w), hn]; rfl)
  simp [resSem, asAddr, this]
theorem map_add0 (a : Option Addr) (k : Nat) (P : Prop) [Decidable P] : (if P then a else a.map (·.add (0 * k))) = a := by
  split
  · rfl
  · cases a with
    | none => rfl
    | some x =>
      obtain ⟨b, o, s⟩ := x
      simp [Addr.add]
theorem pairs_len : ∀ l : List Nat, (pairs l).length * 2 ≤ l.length
  | a :: b :: r => by have := pairs_len r; simp [pairs]; omega
  | [a] => by simp [pairs]
  | [] => by simp [pairs]
theorem ins45 (r : List AV) (w : World) (lo : Option Addr) (lc : Nat) (hl : Sl w lo 3 (r.map vVal)) (hlc : r.length ≤ lc) (hsm : r.length ≤ 1000) (hts : ∀ v ∈ r, v.2.2.size ≤ 1000000) (R : Ending → World → Prop)
    (h0 : ∀ x, insOf r = some x → ∀ p pc W, St w [.row (.slice p x.ar.length pc) 3 1 x.ar.length (x.ar.map vInt)] W → R (.returned (inV x p pc)) W)
    (h1 : insOf r = none → ∀ W, Below w.heap.size w W → R (.panicked [pe 390 false]) W) : Calls Tryz.prog 45 #[.slice lo r.length lc] w R := by
  refine c45 _ _ _ _ _ ?_
  unfold vc45
  refine kAlloc_st Tryz.zeroValue62 (St.start w) fun b2 W hS => ?_
  have hS : St w [.bx b2 62 (inC in0 none 0 0)] W := hS
  refine xLen104 (kBin_geq (kCall_i (Tryz.call43 _ _) (must43 _ 390 _ _ (fun q => ?_) (fun q => h1 ?_ W hS.below))))
  rotate_left
  · unfold insOf; rw [if_neg (by simp at q; omega)]
  have h7 : 7 ≤ r.length := by simp at q; omega
  refine xSl104_h (l := 5) (by omega) ?_
  rw [map_add0]
  have h5 : (r.take 5).length = 5 := by simp; omega
  have hs92 := some92 (r.take 5) W lo lc (by rw [List.map_take]; exact (hl.below hS.below).takeG 5) (by omega)
  rw [h5] at hs92
  refine kCall_i (Tryz.call92 _ _) (hs92 _ (fun hall y W hSt => ?_) (fun hall W hB => h1 ?_ W (hS.bel hB).below))
  rotate_left
  · unfold insOf; rw [if_neg (by rw [hall]; simp)]
  obtain ⟨ay, cy, rfl, hsy⟩ := Sl.of_owns (vs := ((r.take 5).map (·.2.1)).map vInt) (n := 5) (by intro v hv; obtain ⟨z, _, rfl⟩ := List.mem_map.1 hv; rfl) (by have := hSt.get 0 rfl; rw [← flatI] at this; exact this) (by simp; omega)
  have hS := hS.join hSt
  have rg : ∀ i, i < r.length → r[i]? = some (r.getD i (0, 0, ⟨#[]⟩)) := fun i hi => by simp [hi]
  have ey : ∀ i, i < 5 → (((r.take 5).map (·.2.1)).map vInt)[i]? = some (vInt (r.getD i (0, 0, ⟨#[]⟩)).2.1) := fun i hi => by
    rw [List.getElem?_map, List.getElem?_map, List.getElem?_take_of_lt hi, rg i (by omega)]; rfl
  obtain ⟨yb, yo, rfl, hyb, y0⟩ := hsy.elem (ey 0 (by omega))
  have yk : ∀ i, i < 5 → W.rangeAt yb (yo + i * 1) (vInt (r.getD i (0, 0, ⟨#[]⟩)).2.1).cells.toList := fun i hi => by
    obtain ⟨b', o', e, _, hr⟩ := hsy.elem (ey i hi)
    cases e; exact hr
  have er : ∀ i, i < r.length → (r.map vVal)[i]? = some (vVal (r.getD i (0, 0, ⟨#[]⟩))) := fun i hi => by rw [List.getElem?_map, rg i hi]; rfl
  obtain ⟨rb, ro, hlo, hrb, _⟩ := hl.elem (er 0 (by omega))
  have rk : ∀ {V : World} {L : List Own}, St w L V → ∀ i, i < r.length → V.rangeAt rb (ro + i * 3) (vVal (r.getD i (0, 0, ⟨#[]⟩))).cells.toList := fun hV i hi => by
    obtain ⟨b', o', e, _, hr⟩ := (hl.below hV.below).elem (er i hi)
    rw [hlo] at e
    cases e; exact hr
  obtain ⟨x0, hx0⟩ : ∃ x0 : IN, x0 = ⟨(r.getD 0 (0, 0, ⟨#[]⟩)).2.1, (r.getD 1 (0, 0, ⟨#[]⟩)).2.1, (r.getD 2 (0, 0, ⟨#[]⟩)).2.1, (r.getD 3 (0, 0, ⟨#[]⟩)).2.1, (r.getD 4 (0, 0, ⟨#[]⟩)).2.1, r.getD 5 (0, 0, ⟨#[]⟩), (r.getD 6 (0, 0, ⟨#[]⟩)).2.2, []⟩ := ⟨_, rfl⟩
  have hio : insOf r = some { x0 with ar := (r.drop 7).flatMap fun v => pairs (bl v.2.2) } := by
    unfold insOf; rw [if_pos ⟨h7, hall⟩, hx0]
  have h0 := h0 _ hio
  refine kDrawn_i (kDrawn_i ?_)
  refine xIa60 (i := 0) (by omega) (kLdS rfl (yk 0 (by omega) 0 _ rfl) ?_)
  refine xIa60 (i := 1) (by omega) (kLdS rfl (yk 1 (by omega) 0 _ rfl) ?_)
  refine xIa60 (i := 2) (by omega) (kLdS rfl (yk 2 (by omega) 0 _ rfl) ?_)
  refine xIa60 (i := 3) (by omega) (kLdS rfl (yk 3 (by omega) 0 _ rfl) ?_)
  refine xIa60 (i := 4) (by omega) (kLdS rfl (yk 4 (by omega) 0 _ rfl) ?_)
  rw [hlo]
  refine xIa104 (i := 5) (by omega) (xLdE59 (rk hS 5 (by omega)) rfl rfl ?_)
  refine xIa104 (i := 6) (by omega) (xFa59_2 (kLdS rfl (rk hS 6 (by omega) 2 _ rfl) ?_))
  refine kBuild_i (built62f _ _ _ _ _ _ _) (kDrew_st hS fun W hS => ?_)
  rw [← hx0]
  refine kStoreA_st hS 0 rfl rfl (by simp [inC, Value.oneCell']) Tryz.sizeOf62 fun W hS => ?_
  have hS : St w [.bx b2 62 (inC x0 none 0 0)] W := hS.init
  have hS := hS.adopt (o := .row (.slice none 0 0) 3 1 0 []) (World.ownsRow_nil _ _ _ _) (fun p hp => by
    simp at hp
    subst hp
    exact .inr (fun e => by cases e))
  have hS : St w [.bx b2 62 (inC x0 none 0 0), .row (.slice none 0 0) 3 1 0 []] W := hS
  refine xSl104_l (l := 7) h7 hlc (xLen104 ?_)
  have hxa : x0.ar = [] := by rw [hx0]
  have e0 : { x0 with ar := ([] : List Int) } = x0 := by rw [hx0]
  refine ⟨⟨fun cs V => ∃ (i : Nat) (args : List Int) (p : Option Addr) (pc : Nat), cs = [.int .i64 i] ∧ i ≤ r.length - 7 ∧ args = ((r.drop 7).take i).flatMap (fun v => pairs (bl v.2.2)) ∧ args.length ≤ 1000000 * i ∧ St w [.bx b2 62 (inC { x0 with ar := args } p args.length pc), .row (.slice p args.length pc) 3 1 args.length (args.map vInt)] V, fun cs _ => r.length - (match cs with | [.int _ i] => i.toNat | _ => 0), ⟨0, [], none, 0, rfl, Nat.zero_le _, rfl, Nat.le_refl _, by rw [e0]; exact hS⟩, ?_⟩⟩
  rintro cs ds V ⟨i, args, p, pc, rfl, hi, hargs, hal, hS⟩
  dsimp only [List.getD_cons_zero]
  refine kBin_lss (kIf_d (fun e => ?_) (fun e => ?_))
  rotate_left
  · have hie : i = r.length - 7 := by omega
    rw [hie, List.take_of_length_le (by simp)] at hargs
    rw [← hargs] at h0
    refine xLdB62 hS 0 rfl rfl (kStoreA_st hS 0 rfl rfl (by simp [inC, Value.oneCell']) Tryz.sizeOf62 fun W hS => ?_)
    have hS : St w [.bx b2 62 (inC { x0 with ar := args } p args.length pc), .row (.slice p args.length pc) 3 1 args.length (args.map vInt)] W := hS
    exact RetK_I62 hS 0 rfl rfl (h0 p pc W (hS.del 0))
  have hil : i < r.length - 7 := by omega
  rw [if_neg (by omega)]
  have ead : (some (⟨rb, ro, none⟩ : Addr)).map (·.add (7 * 3)) = some ⟨rb, ro + 21, none⟩ := by simp [Addr.add_mid]
  rw [ead]
  have hrk := rk hS (7 + i) (by omega)
  rw [show ro + (7 + i) * 3 = ro + 21 + i * 3 by omega] at hrk
  have hget : (r.drop 7)[i]? = some (r.getD (7 + i) (0, 0, ⟨#[]⟩)) := by rw [List.getElem?_drop, rg _ (by omega)]
  have htk : ((r.drop 7).take (i + 1)).flatMap (fun v => pairs (bl v.2.2)) = args ++ pairs (bl (r.getD (7 + i) (0, 0, ⟨#[]⟩)).2.2) := by
    obtain ⟨hlt, he⟩ := List.getElem?_eq_some_iff.1 hget
    rw [flatMap_snoc _ _ hlt, ← hargs, he]
  have htz := hts (r.getD (7 + i) (0, 0, ⟨#[]⟩)) (by
    have := rg (7 + i) (by omega)
    exact List.mem_of_getElem? this)
  generalize r.getD (7 + i) (0, 0, ⟨#[]⟩) = v at *
  refine xIa104 hil (xLdE59 hrk rfl rfl (kAlloc_st Tryz.zeroValue59 hS fun b5 V hS => kStoreAR (cs' := (vVal v).cells) hS rfl (by simp [vVal, Value.cells, Value.oneCell']) Tryz.sizeOf59 fun V hS => xFa59_2 (kLd hS 2 rfl rfl rfl ?_)))
  have hlb : (bl v.2.2).length = v.2.2.size := bl_length _
  refine ⟨⟨fun cs V => ∃ (l' : List Nat) (args' : List Int) (p : Option Addr) (pc : Nat), cs = [.string (mkS l')] ∧ (∀ b ∈ l', b < 256) ∧ args' ++ pairs l' = args ++ pairs (bl v.2.2) ∧ args'.length + l'.length ≤ 1000000 * i + v.2.2.size ∧ St w ([.bx b2 62 (inC { x0 with ar := args' } p args'.length pc), .row (.slice p args'.length pc) 3 1 args'.length (args'.map vInt)] ++ [.bx b5 59 (vVal v).cells]) V, fun cs _ => (match cs with | [.string s] => s.size | _ => 0), ⟨bl v.2.2, args, p, pc, by rw [mkS_bl]; rfl, bl_256 _, rfl, by omega, hS⟩, ?_⟩⟩
  rintro cs2 ds2 V ⟨l', args', p, pc, rfl, hb, hpr, hln, hS⟩
  try dsimp only [List.getD_cons_zero]
  refine xLen9 (kBin_gtr (kIf_d (fun g => ?_) (fun g => ?_)))
  rotate_left
  · rw [mkS_size] at g
    have hp0 : pairs l' = [] := by
      match l', g with
      | [], _ => rfl
      | [a], _ => rfl
      | a :: b :: t, g => simp at g; omega
    rw [hp0, List.append_nil] at hpr
    refine kBin_add (kD_i ⟨⟨i + 1, args', p, pc, ?_, hil, ?_, ?_, hS.init⟩, ?_⟩)
    · rw [wrap_id (by omega) (by omega)]; rfl
    · rw [htk, hpr]
    · omega
    · rw [wrap_id (by omega) (by omega)]; show r.length - ((i : Int) + 1).toNat < r.length - (i : Int).toNat; omega
  rw [mkS_size] at g
  obtain ⟨a, b, t, rfl⟩ : ∃ a b t, l' = a :: b :: t := by
    match l', g with
    | a :: b :: t, _ => exact ⟨a, b, t, rfl⟩
    | [a], g => simp at g
    | [], g => simp at g
  have ha := hb a (by simp)
  have hb' := hb b (by simp)
  have g0 : ((mkS (a :: b :: t))[0]'(by rw [mkS_size]; simp)).toNat = a := mkS_get hb (by rw [mkS_size]; simp)
  have g1 : ((mkS (a :: b :: t))[1]'(by rw [mkS_size]; simp)).toNat = b := mkS_get hb (by rw [mkS_size]; simp)
  refine kDrawn_i (kDrawn_i (xFa62_7 (kLd hS 0 rfl rfl rfl (kIxS (i := 0) Tryz.underlying9 (by rw [mkS_size]; simp) ?_))))
  rw [g0]
  refine kCv5_3 ha (kShl8 (by omega) (kIxS (i := 1) Tryz.underlying9 (by rw [mkS_size]; simp) ?_))
  rw [g1]
  refine kCv5_3 hb' (kOr8 (by omega) hb' (kDrew_st hS fun V hS => ?_))
  refine kBS (xE60 V) hS [vInt ((a * 256 + b : Nat) : Int)] rfl rfl (by omega) (by omega) (by simp [vInt, Value.cells]) fun an cn V hS _ => ?_
  refine xFa62_7 (kSame_i (kLd hS 0 rfl rfl rfl (kSame_i (kDrew_st hS fun V hS => ?_))))
  simp only [List.length_cons] at hln
  refine kAppRow_st (xE60 V) hS 1 3 rfl rfl (by simp [flat, vInt, Value.cells, Value.oneCell']) (by simp only [maxLen]; omega) (by omega) fun z V hS => ?_
  have hS : St w ([.bx b2 62 (inC { x0 with ar := args' } p args'.length pc), .row z 3 1 (args'.length + 1) (args'.map vInt ++ flat [vInt ((a * 256 + b : Nat) : Int)])] ++ [.bx b5 59 (vVal v).cells]) V := hS.init
  have hz : args'.map vInt ++ flat [vInt ((a * 256 + b : Nat) : Int)] = (args' ++ [((a * 256 + b : Nat) : Int)]).map vInt := by simp [flat, vInt, Value.cells]
  rw [hz] at hS
  obtain ⟨az, cz, rfl, _⟩ := Sl.of_owns (vs := (args' ++ [((a * 256 + b : Nat) : Int)]).map vInt) (n := args'.length + 1) (by intro v hv; obtain ⟨z, _, rfl⟩ := List.mem_map.1 hv; rfl) (by have := hS.get 1 rfl; rw [← flatI] at this; exact this) (by simp)
  refine kDrew_st hS fun V hS => xFa62_7 (kSt hS 0 rfl (by simp [inC]) rfl rfl rfl fun V hS => ?_)
  have hS : St w ([.bx b2 62 (inC { x0 with ar := args' ++ [((a * 256 + b : Nat) : Int)] } az (args'.length + 1) cz), .row (.slice az (args'.length + 1) cz) 3 1 (args'.length + 1) ((args' ++ [((a * 256 + b : Nat) : Int)]).map vInt)] ++ [.bx b5 59 (vVal v).cells]) V := hS
  refine kSlS_l (i := 2) Tryz.underlying9 (by rw [mkS_size]; simp) ?_
  rw [mkS_drop]
  refine kD_i ⟨⟨t, args' ++ [((a * 256 + b : Nat) : Int)], az, cz, rfl, fun c hc => hb c (by simp [hc]), ?_, ?_, ?_⟩, ?_⟩
  · rw [List.append_assoc]; exact hpr
  · rw [List.length_append]; simp; omega
  · rw [show (args' ++ [((a * 256 + b : Nat) : Int)]).length = args'.length + 1 by simp]; exact hS
  · show (mkS t).size < (mkS (a :: b :: t)).size
    rw [mkS_size, mkS_size]; simp only [List.length_cons]; omega
end Go.L
namespace Go.L
open Go Go.RowKit Go.Proofs
set_option linter.unusedSimpArgs false
set_option linter.unusedVariables false

/-- One instruction of bytes, and how many these are. -/
def rec1 : List Nat → Option (IN × Nat)
  | a :: b :: t => if a * 256 + b ≤ t.length then ((decR (t.take (a * 256 + b))).bind insOf).map fun x => (x, 2 + (a * 256 + b)) else none
  | _ => none
theorem rec1_cons (a b : Nat) (t : List Nat) : rec1 (a :: b :: t) = if a * 256 + b ≤ t.length then ((decR (t.take (a * 256 + b))).bind insOf).map (fun x => (x, 2 + (a * 256 + b))) else none := rfl
theorem rec1_le {bs : List Nat} {x : IN} {m : Nat} (h : rec1 bs = some (x, m)) : 2 ≤ m ∧ m ≤ bs.length := by
  rcases bs with _ | ⟨a, _ | ⟨b, t⟩⟩
  · cases h
  · cases h
  · rw [rec1_cons] at h
    by_cases hle : a * 256 + b ≤ t.length
    · rw [if_pos hle] at h
      obtain ⟨y, _, he⟩ := Option.map_eq_some_iff.1 h
      simp only [Prod.mk.injEq] at he
      obtain ⟨_, rfl⟩ := he
      simp only [List.length_cons]; omega
    · rw [if_neg hle] at h; cases h
/-- The code of bytes, behind so many. -/
def decP (c : Nat) (bs : List Nat) : Option (List IN) :=
  if bs = [] then some [] else if 2000 ≤ c then none else
  match h : rec1 bs with
  | none => none
  | some (x, m) => (decP (c + 1) (bs.drop m)).map (x :: ·)
termination_by bs.length
decreasing_by have := rec1_le h; simp; omega
theorem decP_nil (c : Nat) : decP c [] = some [] := by unfold decP; rfl
theorem decP_full {c : Nat} {bs : List Nat} (hb : bs ≠ []) (hc : 2000 ≤ c) : decP c bs = none := by
  unfold decP; rw [if_neg hb, if_pos hc]
theorem decP_none {c : Nat} {bs : List Nat} (hb : bs ≠ []) (h : rec1 bs = none) : decP c bs = none := by
  unfold decP; rw [if_neg hb]
  split
  · rfl
  · split
    · rfl
    · rename_i x m h2; rw [h] at h2; cases h2
theorem decP_cons {c : Nat} {bs : List Nat} (hc : c < 2000) {x : IN} {m : Nat} (h : rec1 bs = some (x, m)) : decP c bs = (decP (c + 1) (bs.drop m)).map (x :: ·) := by
  have hb : bs ≠ [] := fun e => by subst e; simp [rec1] at h
  conv => lhs; unfold decP
  rw [if_neg hb, if_neg (by omega)]
  split
  · rename_i h2; rw [h] at h2; cases h2
  · rename_i x' m' h2; rw [h] at h2; cases h2; rfl
/-- The code of all the bytes. -/
def decC (bs : List Nat) : Option (List IN) :=
  match decP 0 bs with
  | some l => if chkC l = 0 ∧ codeB l = bs then some l else none
  | none => none
theorem readVs_rng : ∀ (n : Nat) (bs : List Nat) (rs : List AV) (k : Nat), (∀ b ∈ bs, b < 256) → readVs n bs = some (rs, k) → ∀ r ∈ rs, Rng r
  | 0, bs, rs, k, _, h => by simp [readVs] at h; obtain ⟨rfl, _⟩ := h; simp
  | n + 1, bs, rs, k, hb, h => by
    unfold readVs at h
    split at h
    · cases h
    · rename_i r m hr
      split at h
      · cases h
      · rename_i rs' k' hrs
        cases h
        intro q hq
        rcases List.mem_cons.1 hq with rfl | hq
        · exact readV_rng hb hr
        · exact readVs_rng n _ _ _ (fun b hm => hb b (List.mem_of_mem_drop hm)) hrs q hq
theorem decR_facts {bs : List Nat} {rs : List AV} (hb : ∀ b ∈ bs, b < 256) (h : decR bs = some rs) : rs.length ≤ 32 ∧ ∀ r ∈ rs, checkE r = 0 ∧ Rng r := by
  unfold decR at h
  split at h
  · cases h
  · split at h
    · split at h
      · cases h
      · rename_i rs' k' hrs
        split at h
        · rename_i he
          cases h
          have hbad : badE rs = 0 ∧ rs.length ≤ 32 := by
            have := he.1
            unfold encE at this
            split at this
            · rename_i q; exact absurd this q
            · rename_i q
              split at this
              · rename_i q2; exact ⟨Classical.not_not.1 q, q2.1⟩
              · cases this
          exact ⟨hbad.2, fun r hr => ⟨badE_zero hbad.1 r hr, readVs_rng _ _ _ _ (fun b hm => hb b (List.mem_of_mem_drop hm)) hrs r hr⟩⟩
        · cases h
    · cases h
/-- What is known of an instruction that was read. -/
structure InsRd (x : IN) : Prop where
  w : InsWf x
  k : I64 x.k
  o : I64 x.o
  len : x.ar.length ≤ 1000000
theorem pairs_i64 : ∀ (l : List Nat), (∀ b ∈ l, b < 256) → ∀ n ∈ pairs l, I64 n
  | a :: b :: r, hb, n, hn => by
    unfold pairs at hn
    rcases List.mem_cons.1 hn with rfl | hn
    · have h1 := hb a (by simp); have h2 := hb b (by simp); unfold I64; omega
    · exact pairs_i64 r (fun c hc => hb c (by simp [hc])) n hn
  | [a], _, n, hn => by simp [pairs] at hn
  | [], _, n, hn => by simp [pairs] at hn
theorem insOf_rd {r : List AV} {x : IN} (hr : ∀ v ∈ r, checkE v = 0 ∧ Rng v) (hl : r.length ≤ 32) (h : insOf r = some x) : InsRd x := by
  unfold insOf at h
  split at h
  · rename_i hc
    cases h
    have g : ∀ i, i < r.length → r.getD i (0, 0, ⟨#[]⟩) ∈ r := fun i hi => by
      rw [show r.getD i (0, 0, ⟨#[]⟩) = r[i] by simp [hi]]; exact List.getElem_mem hi
    have ri : ∀ i, i < r.length → I64 (r.getD i (0, 0, ⟨#[]⟩)).2.1 := fun i hi => (hr _ (g i hi)).2
    refine ⟨⟨ri 1 (by omega), ri 2 (by omega), ri 3 (by omega), ri 5 (by omega), ?_⟩, ri 0 (by omega), ri 4 (by omega), ?_⟩
    · intro n hn
      obtain ⟨v, hv, hn⟩ := List.mem_flatMap.1 hn
      exact pairs_i64 _ (bl_256 _) n hn
    · show ((r.drop 7).flatMap fun v => pairs (bl v.2.2)).length ≤ 1000000
      have key : ∀ l : List AV, (∀ v ∈ l, v.2.2.size ≤ 1000) → (l.flatMap fun v => pairs (bl v.2.2)).length ≤ 1000 * l.length := by
        intro l
        induction l with
        | nil => intro _; simp
        | cons v l ih =>
          intro h
          rw [List.flatMap_cons, List.length_append, List.length_cons]
          have h1 := pairs_len (bl v.2.2)
          rw [bl_length] at h1
          have h2 := h v (by simp)
          have h3 := ih fun u hu => h u (by simp [hu])
          omega
      have := key (r.drop 7) fun v hv => checkE_sz (hr v (List.mem_of_mem_drop hv)).1
      simp only [List.length_drop] at this
      omega
  · cases h
def argO (q : IN × Option Addr × Nat) : Own := .row (.slice q.2.1 q.1.ar.length q.2.2) 3 1 q.1.ar.length (q.1.ar.map vInt)
def inP3 (q : IN × Option Addr × Nat) : Value := inV q.1 q.2.1 q.2.2
end Go.L
namespace Go.L
open Go Go.RowKit Go.Proofs
set_option linter.unusedSimpArgs false
set_option linter.unusedVariables false

abbrev INQ := IN × Option Addr × Nat
theorem insP_own {w0 V : World} {lo : Option Addr} {cl : Nat} {ps : List INQ} {u : Value} {L K : List Own} (hS : St w0 (L ++ [.row (.slice lo ps.length cl) 62 10 ps.length (flat (ps.map inP3))] ++ ps.map argO ++ K) V) : InsP V lo (ps.map (·.1)) := by
  have hsl := hS.sl (a := lo) (cp := cl) (sz := 10) (vs := ps.map inP3) L.length (at_l (at_l at_r)) (by intro v hv; obtain ⟨q, _, rfl⟩ := List.mem_map.1 hv; rfl) (by simp)
  refine ⟨ps.map inP3, hsl, by simp, ?_⟩
  intro i x hx
  rw [List.getElem?_map] at hx
  cases hq : ps[i]? with
  | none => rw [hq] at hx; cases hx
  | some q =>
    rw [hq] at hx
    cases hx
    have hm : argO q ∈ ps.map argO := List.mem_map.2 ⟨q, List.mem_of_getElem? hq, rfl⟩
    have ho := hS.all (argO q) (List.mem_append_left _ (List.mem_append_right _ hm))
    have ho : V.ownsRow w0.heap.size 3 1 (.slice q.2.1 q.1.ar.length q.2.2) q.1.ar.length (q.1.ar.map vInt) := ho
    obtain ⟨a, c, e, hs⟩ := Sl.of_owns (vs := q.1.ar.map vInt) (n := q.1.ar.length) (by intro v hv; obtain ⟨z, _, rfl⟩ := List.mem_map.1 hv; rfl) (by rw [← flatI] at ho; exact ho) (by simp)
    cases e
    exact ⟨q.2.1, q.2.2, by rw [List.getElem?_map, hq]; rfl, hs, row_cap ho⟩
theorem CodeDecode19 (bs : List Nat) (w : World) (a : Option Addr) (cp : Nat) (hB : Bs w a bs.length cp bs) (hbyte : ∀ b ∈ bs, b < 256) (hcp : cp ≤ 9223372036854775807) (hbl : bs.length ≤ 100000000) (R : Ending → World → Prop)
    (h0 : ∀ l, decC bs = some l → (∀ x ∈ l, InsRd x) → ∀ lo lc W, Below w.heap.size w W → InsP W lo l → l.length ≤ lc → R (.returned (.tuple #[.slice lo l.length lc, .int .i64 0])) W)
    (h1 : decC bs = none → ∀ W, Below w.heap.size w W → R (.returned (.tuple #[.slice none 0 0, .int .i64 390])) W) : Calls Tryz.prog 19 #[.slice a bs.length cp] w R := by
  refine c19 _ _ _ _ _ ?_
  unfold vc19
  refine kAlloc_st Tryz.zeroValue22 (St.start w) fun b2 W hS => kAlloc_st Tryz.zeroValue26 hS fun b3 W hS => ?_
  have hS : St w [.bx b2 22 #[.slice none 0 0], .bx b3 26 #[.int .i64 0]] W := hS
  have hS := hS.adopt (o := .row (.slice none 0 0) 62 10 0 []) (World.ownsRow_nil _ _ _ _) (fun p hp => by
    simp at hp
    rcases hp with rfl | rfl
    · exact .inr (fun e => by cases e)
    · exact .inr (fun e => by cases e))
  have hS : St w ([.bx b2 22 #[.slice none 0 0], .bx b3 26 #[.int .i64 0]] ++ [.row (.slice none ([] : List INQ).length 0) 62 10 ([] : List INQ).length (flat (([] : List INQ).map inP3))] ++ ([] : List INQ).map argO) W := hS
  have fail : ∀ {V : World} {u : Value} {z : Int} {K : List Own}, St w (.bx b2 22 #[u] :: .bx b3 26 #[.int .i64 z] :: K) V → decC bs = none → Lv Tryz.prog [.cell (.pointer (some ⟨b2, 0, none⟩)) 22, .cell (.pointer (some ⟨b3, 0, none⟩)) 26] R [{ target := .fn (.func 41) #[], args := #[.pointer (some ⟨b3, 0, none⟩), .func (.func 42) #[] #[.pointer (some ⟨b2, 0, none⟩)]] }] (.panicking [pe 390 false]) V := by
    intro V u z K hS hd
    refine Lv_pan41 hS 1 rfl (fun W => St w (.bx b2 22 #[.slice none 0 0] :: .bx b3 26 #[.int .i64 390] :: K) W) Tryz.call42 (fun W hS => ?_) (fun W hS => RetK_cell2 rfl rfl (hS.cell 0 rfl 0 rfl) (hS.cell 1 rfl 0 rfl) (h1 hd W hS.below))
    refine c42 _ _ _ ?_
    unfold vc42
    exact kSt hS 0 rfl (by simp) rfl rfl rfl fun W hS => ⟨rfl, hS⟩
  refine ⟨⟨fun cs V => ∃ (rest : List Nat) (a' : Option Addr) (cp' : Nat) (ps : List INQ) (lo : Option Addr) (cl : Nat), cs = [.slice a' rest.length cp'] ∧ Bs w a' rest.length cp' rest ∧ cp' ≤ 9223372036854775807 ∧ (∀ b ∈ rest, b < 256) ∧ rest.length ≤ bs.length ∧ decP 0 bs = (decP ps.length rest).map ((ps.map (·.1)) ++ ·) ∧ (∀ q ∈ ps, InsRd q.1) ∧ ps.length ≤ 2000 ∧ St w ([.bx b2 22 #[.slice lo ps.length cl], .bx b3 26 #[.int .i64 0]] ++ [.row (.slice lo ps.length cl) 62 10 ps.length (flat (ps.map inP3))] ++ ps.map argO) V, fun cs _ => (match cs with | [.slice _ n _] => n | _ => 0), ⟨bs, a, cp, [], none, 0, rfl, hB, hcp, hbyte, Nat.le_refl _, by simp, by simp, by simp, hS⟩, ?_⟩⟩
  rintro cs ds V ⟨rest, a', cp', ps, lo, cl, rfl, hBr, hcp', hby, hrl, hdec, hrd, hps, hS⟩
  dsimp only [List.getD_cons_zero]
  have dnone : decP ps.length rest = none → decC bs = none := fun q => by
    unfold decC; rw [hdec, q]; rfl
  have hcap := hBr.cap
  refine xLen44 (kBin_gtr (kIf_d (fun e => ?_) (fun e => ?_)))
  rotate_left
  · -- the end
    have hr0 : rest = [] := List.eq_nil_of_length_eq_zero (by omega)
    subst hr0
    rw [decP_nil] at hdec
    have hdec : decP 0 bs = some (ps.map (·.1)) := by simpa using hdec
    have hS' : St w ([.bx b2 22 #[.slice lo ps.length cl], .bx b3 26 #[.int .i64 0]] ++ [.row (.slice lo ps.length cl) 62 10 ps.length (flat (ps.map inP3))] ++ ps.map argO ++ []) V := by rw [List.append_nil]; exact hS
    have hIP := insP_own (u := .bool true) hS'
    have hrdl : ∀ x ∈ ps.map (·.1), InsRd x := fun x hx => by obtain ⟨q, hq, rfl⟩ := List.mem_map.1 hx; exact hrd q hq
    have hE := Encode22 (ps.map (·.1)) V lo cl hIP (fun x hx => (hrdl x hx).len) (fun hc x hx => by
      have hr := (chkC_all hc).2 x hx
      rw [← rightEq] at hr
      exact putOk_of hr (hrdl x hx).w (hrdl x hx).k (hrdl x hx).o)
    rw [List.length_map] at hE
    refine kLd hS 0 rfl rfl rfl (kCall_i (Tryz.call22 _ _) (hE _ (fun hc x W hBe hown => ?_) (fun hc W hBe => ?_)))
    · have hS2 := hS.bel hBe
      obtain ⟨ax, cx, rfl, hBx⟩ := Bs.of_owns hown
      have hS3 := hS.made hBe hown
      refine kExt_0 (kExt_1 (kSt hS3 1 rfl (by simp) rfl rfl rfl fun W hS3 => kLd hS3 1 rfl rfl rfl (kEq_int (kIf_t ?_))))
      have hS3 : St w ([.bx b2 22 #[.slice lo ps.length cl], .bx b3 26 #[.int .i64 0]] ++ [.row (.slice lo ps.length cl) 62 10 ps.length (flat (ps.map inP3))] ++ ps.map argO ++ [.row (.slice ax (codeB (ps.map (·.1))).length cx) 5 1 (codeB (ps.map (·.1))).length ((codeB (ps.map (·.1))).map vB)]) W := hS3
      have hBx : Bs W ax (codeB (ps.map (·.1))).length cx (codeB (ps.map (·.1))) := by
        obtain ⟨ax', cx', e, hB'⟩ := Bs.of_owns (hS3.get _ at_r)
        cases e; exact hB'
      refine kCall_i (Tryz.call46 _ _) (equal46 (hB.keep hS3.below) hBx (by omega) _ fun W hBe => kCall_i (Tryz.call43 _ _) (must43 _ 390 _ _ (fun q => ?_) (fun q => ?_)))
      · have hS4 := hS3.bel hBe
        have q : bs = codeB (ps.map (·.1)) := by simpa using q
        have hdc : decC bs = some (ps.map (·.1)) := by
          unfold decC; rw [hdec]; exact if_pos ⟨hc, q.symm⟩
        refine kLd hS4 0 rfl rfl rfl (kSt hS4 0 rfl (by simp) rfl rfl rfl fun W hS5 => kSt hS5 1 rfl (by simp) rfl rfl rfl fun W hS5 => Lv_ret41 (RetK_cell2 rfl rfl (hS5.cell 0 rfl 0 rfl) (hS5.cell 1 rfl 0 rfl) ?_))
        have := h0 _ hdc hrdl lo cl W hS5.below (insP_own (u := .bool true) (L := [.bx b2 22 #[.slice lo ps.length cl], .bx b3 26 #[.int .i64 0]]) hS5) (by rw [List.length_map]; exact row_cap (hS5.get 2 rfl))
        rwa [List.length_map] at this
      · have hS4 := hS3.bel hBe
        exact fail (z := 0) hS4 (by
          have q : ¬ bs = codeB (ps.map (·.1)) := by simpa using q
          unfold decC; rw [hdec]; exact if_neg fun e => q e.2.symm)
    · have hS2 := hS.bel hBe
      refine kExt_0 (kExt_1 (kSt hS2 1 rfl (by simp) rfl rfl rfl fun W hS3 => kLd hS3 1 rfl rfl rfl (kEq_int (kIf_f ?_))))
      refine kCall_i (Tryz.call43 _ _) (must43 _ 390 _ _ (fun q => by cases q) (fun q => ?_))
      exact fail (z := 2) hS3 (by unfold decC; rw [hdec]; exact if_neg fun e => hc e.1)
  have hne : rest ≠ [] := fun q => by subst q; simp at e
  refine kJn_inv (fun cs V => 1 < rest.length ∧ ps.length < 2000 ∧ St w ([.bx b2 22 #[.slice lo ps.length cl], .bx b3 26 #[.int .i64 0]] ++ [.row (.slice lo ps.length cl) 62 10 ps.length (flat (ps.map inP3))] ++ ps.map argO) V) ?_ ?_
  rotate_left
  · intro J hJ
    refine xLen44 (kBin_gtr (kIf_d (fun e1 => ?_) (fun e1 => ?_)))
    · refine kLd hS 0 rfl rfl rfl (xLen22 (kBin_lss (kCall_i (Tryz.call43 _ _) (must43 _ 390 _ _ (fun q => kD_i (hJ _ _ ⟨by omega, by simp at q; omega, hS⟩)) (fun q => fail hS (dnone (decP_full hne (by simp at q; omega))))))))
    · refine kCall_i (Tryz.call43 _ _) (must43 _ 390 _ _ (fun q => by cases q) (fun q => fail hS (dnone (decP_none hne ?_))))
      match rest, hne, e1 with
      | [x], _, _ => rfl
      | x :: y :: t, _, e1 => simp at e1; omega
  rintro cs V2 ⟨h2, hp2, hS⟩ ds2
  obtain ⟨x, y, t, rfl⟩ : ∃ x y t, rest = x :: y :: t := by
    match rest, h2 with
    | x :: y :: t, _ => exact ⟨x, y, t, rfl⟩
    | [x], h => simp at h
    | [], h => simp at h
  have hx := hby x (by simp)
  have hy := hby y (by simp)
  have hBV := hBr.keep hS.below
  obtain ⟨pb, po, rfl, hpb, hr0⟩ := hBr.sl.elem (i := 0) (v := vB x) rfl
  have hr1 : w.rangeAt pb (po + 1 * 1) (vB y).cells.toList := by
    obtain ⟨b', o', e', _, hr⟩ := hBr.sl.elem (i := 1) (v := vB y) rfl
    cases e'; exact hr
  have c0 : V2.cell? ⟨pb, po + 0 * 1, none⟩ = some (.int .u8 x) := by
    rw [World.cell?_of_block (w := w) (hS.below.block pb hpb)]; exact hr0 0 _ rfl
  have c1 : V2.cell? ⟨pb, po + 1 * 1, none⟩ = some (.int .u8 y) := by
    rw [World.cell?_of_block (w := w) (hS.below.block pb hpb)]; exact hr1 0 _ rfl
  refine kDrawn_i (xIa44 (i := 0) (by omega) (kLdS rfl c0 (kCv5_3 hx (kShl8 (by omega) (xIa44 (i := 1) (by omega) (kLdS rfl c1 (kCv5_3 hy (kOr8 (by omega) hy (kDrew_st hS fun V hS => ?_)))))))))
  have hlen : (x :: y :: t).length = t.length + 2 := rfl
  rw [hlen]
  rw [hlen] at hBr hcap hrl
  refine xLen44 (kBin_sub ?_)
  rw [wrap_id (by omega) (by omega)]
  refine kBin_leq (kCall_i (Tryz.call43 _ _) (must43 _ 390 _ _ (fun q => ?_) (fun q => fail hS (dnone (decP_none hne ?_)))))
  rotate_left
  · rw [rec1_cons, if_neg (by simp at q; omega)]
  have hn : x * 256 + y ≤ t.length := by simp at q; omega
  obtain ⟨n, hnn⟩ : ∃ n, n = x * 256 + y := ⟨_, rfl⟩
  rw [← hnn] at hn ⊢
  have hw2 : IntKind.i64.wrap (2 + ((n : Nat) : Int)) = ((2 + n : Nat) : Int) := by rw [wrap_id (by omega) (by omega)]; omega
  refine kBin_add ?_
  rw [hw2]
  refine kBin_add ?_
  rw [hw2]
  refine xSl44_lhm (l := 2) (by omega) (by omega) ?_
  rw [show 2 + n - 2 = n by omega]
  have hBt : Bs w (if 2 + n = 2 then some ⟨pb, po, none⟩ else (some (⟨pb, po, none⟩ : Addr)).map (·.add (2 * 1))) n n (t.take n) := by
    refine ⟨?_, by simp; omega, Nat.le_refl _⟩
    by_cases h0 : n = 0
    · subst h0; exact ⟨by simp, .inl (by simp)⟩
    · rw [if_neg (by omega)]
      have := (hBr.sl.dropG 2 (by simp; omega)).takeG n
      rw [← List.map_drop, ← List.map_take] at this
      exact this
  have hbt : ∀ b ∈ t.take n, b < 256 := fun b hb => hby b (by simp [List.mem_of_mem_take hb])
  refine kCall_i (Tryz.call44 _ _) (Decode19 (t.take n) V _ n n (hBt.keep hS.below) hbt (by omega) _ (fun rs hrs xr W hBe hown => ?_) (fun hrs W hBe => ?_))
  rotate_left
  · have hS := hS.bel hBe
    refine kExt_0 (kExt_1 (kEq_int (kCall_i (Tryz.call43 _ _) (must43 _ 390 _ _ (fun q => by cases q) (fun q => fail hS (dnone (decP_none hne ?_)))))))
    rw [rec1_cons, if_pos (by omega), ← hnn, hrs]; rfl
  obtain ⟨hr32, hrf⟩ := decR_facts hbt hrs
  have hS := hS.made hBe hown
  refine kExt_0 (kExt_1 (kEq_int (kCall_i (Tryz.call43 _ _) (must43 _ 390 _ _ (fun _ => ?_) (fun q => by cases q)))))
  obtain ⟨ar, cr, rfl, _⟩ := Sl.of_owns (flatMap_vVal_size _) (hS.get _ at_r) (by simp)
  have hrc : rs.length ≤ cr := row_cap (hS.get _ at_r)
  refine kDrawn_i (kDrawn_i (kLd hS 0 rfl rfl rfl (kBin_add ?_)))
  rw [hw2]
  have hsl2 : ∀ {q : Bool} {X : Chain → World → Prop} {V : World} {k : Value → World → Prop}, k (.slice (if cp' = 2 + n then some ⟨pb, po, none⟩ else (some (⟨pb, po, none⟩ : Addr)).map (·.add ((2 + n) * 1))) (t.length + 2 - (2 + n)) (cp' - (2 + n))) V → kSl ⟨Tryz.prog, X, q⟩ V 44 (.slice (some ⟨pb, po, none⟩) (t.length + 2) cp') (some (.int .i64 ((2 + n : Nat) : Int))) none none k := fun h => xSl44_l (l := 2 + n) (by omega) hcap h
  have hBn := hBr.drop (l := 2 + n) (by omega)
  refine hsl2 (kDrew_st hS fun V hS => ?_)
  have hslr : Sl V ar 3 (rs.map vVal) := hS.sl _ at_r (flatMap_vVal_size _) (by simp)
  refine kCall_i (Tryz.call45 _ _) (ins45 rs V ar cr hslr hrc (by omega) (fun v hv => Nat.le_trans (checkE_sz (hrf v hv).1) (by omega)) _ (fun xx hxx p pc W hSt => ?_) (fun hxx W hBe => fun _ => fail (hS.bel hBe) (dnone (decP_none hne ?_))))
  rotate_left
  · rw [rec1_cons, if_pos (by omega), ← hnn, hrs]
    show ((some rs).bind insOf).map _ = none
    rw [Option.bind_some, hxx]; rfl
  have hr1' : rec1 (x :: y :: t) = some (xx, 2 + n) := by
    rw [rec1_cons, if_pos (by omega), ← hnn, hrs]
    show ((some rs).bind insOf).map _ = _
    rw [Option.bind_some, hxx]; rfl
  have hxrd := insOf_rd hrf hr32 hxx
  have hS := hS.join hSt
  refine kLd hS 0 rfl rfl rfl (kSame_i (kBin_add ?_))
  rw [hw2]
  refine kSame_i (hsl2 (kSame_i (kDrew_st hS fun V hS => ?_)))
  refine kBS (xE22 V) hS [inP3 (xx, p, pc)] rfl rfl (by omega) (by omega) (by intro v hv; simp at hv; subst hv; rfl) fun a1 c1 V hS _ => ?_
  refine kLd hS 0 rfl rfl rfl (kSame_i (kBin_add ?_))
  rw [hw2]
  refine kSame_i (hsl2 (kSame_i (kDrew_st hS fun V hS => ?_)))
  refine kAppRow_st (xE22 V) hS 2 _ rfl at_r (by intro u hu; simp [flat, inP3, inV, Value.cells] at hu; rcases hu with rfl | rfl | rfl | rfl | rfl | rfl | rfl | rfl | rfl | rfl <;> rfl) (by simp only [maxLen]; omega) (by omega) fun z V hS => ?_
  have hS : St w ([.bx b2 22 #[.slice lo ps.length cl], .bx b3 26 #[.int .i64 0]] ++ [.row z 62 10 (ps.length + 1) (flat (ps.map inP3) ++ flat [inP3 (xx, p, pc)])] ++ ps.map argO ++ [.row (.slice ar rs.length cr) 59 3 rs.length (flat (rs.map vVal))] ++ [.row (.slice p xx.ar.length pc) 3 1 xx.ar.length (xx.ar.map vInt)] ++ [.row (.slice a1 1 c1) 62 10 1 (flat [inP3 (xx, p, pc)])]) V := hS
  have hS := hS.init
  have hfl : flat (ps.map inP3) ++ flat [inP3 (xx, p, pc)] = flat ((ps ++ [(xx, p, pc)]).map inP3) := by simp [flat]
  rw [hfl] at hS
  have hS : St w ([.bx b2 22 #[.slice lo ps.length cl], .bx b3 26 #[.int .i64 0]] ++ [.row z 62 10 (ps.length + 1) (flat ((ps ++ [(xx, p, pc)]).map inP3))] ++ (ps ++ [(xx, p, pc)]).map argO) V := by
    rw [show (ps ++ [(xx, p, pc)]).map argO = ps.map argO ++ [argO (xx, p, pc)] by simp, ← List.append_assoc]
    exact hS.sub (List.Sublist.append (List.sublist_append_left _ _) (List.Sublist.refl _))
  obtain ⟨az, cz, rfl, _⟩ := Sl.of_owns (vs := (ps ++ [(xx, p, pc)]).map inP3) (n := ps.length + 1) (by intro v hv; obtain ⟨q, _, rfl⟩ := List.mem_map.1 hv; rfl) (hS.get 2 rfl) (by simp)
  refine kBin_add ?_
  rw [hw2]
  refine kSame_i (hsl2 (kSame_i (kDrew_st hS fun V hS => kSt hS 0 rfl (by simp) rfl rfl rfl fun V hS => kBin_add ?_)))
  rw [hw2]
  refine kSame_i (hsl2 (kSame_i (kDrew_st hS fun V hS => ?_)))
  have hdl : ((x :: y :: t).drop (2 + n)).length = t.length + 2 - (2 + n) := by simp
  refine kD_i ⟨⟨(x :: y :: t).drop (2 + n), _, _, ps ++ [(xx, p, pc)], az, cz, by rw [hdl], by rw [hdl]; exact hBn, by omega, fun b hb => hby b (List.mem_of_mem_drop hb), by rw [hdl]; omega, ?_, ?_, by simp; omega, ?_⟩, ?_⟩
  · rw [hdec, decP_cons hp2 hr1', List.length_append, List.map_append]
    simp only [List.length_singleton]
    cases decP (ps.length + 1) ((x :: y :: t).drop (2 + n)) with
    | none => rfl
    | some l => simp
  · intro q hq
    rcases List.mem_append.1 hq with hq | hq
    · exact hrd q hq
    · rw [List.mem_singleton.1 hq]; exact hxrd
  · rw [List.length_append]; exact hS
  · show t.length + 2 - (2 + n) < t.length + 2
    omega
end Go.L
namespace Go.L
open Go Go.RowKit Go.Proofs
set_option linter.unusedSimpArgs false
set_option linter.unusedVariables false

end Go.L
namespace Go.L
open Go Go.RowKit Go.Proofs
set_option linter.unusedSimpArgs false
set_option linter.unusedVariables false

theorem recB_256 {x : IN} (h : PutOk x) : ∀ b ∈ recB x, b < 256 := by
  intro b hb
  unfold recB at hb
  rcases List.mem_append.1 hb with hb | hb
  · simp at hb; omega
  · exact encB_256 (encE_bad h.e) b hb
end Go.L
namespace Go.L
open Go Go.RowKit Go.Proofs
set_option linter.unusedSimpArgs false
set_option linter.unusedVariables false

theorem range_st {w V : World} {L : List Own} (hS : St w L V) {pb o : Nat} {cs : List Value} (hb : pb < w.heap.size) (h : w.rangeAt pb o cs) : V.rangeAt pb o cs := fun j v hj => by
  rw [World.cell?_of_block (w := w) (hS.below.block pb hb)]; exact h j v hj
theorem EqualFunc53 (la lb : List IN) (w : World) (ao bo : Option Addr) (ac bc : Nat) (ha : InsL w ao la) (hb : InsL w bo lb) (hal : la.length ≤ 9223372036854775806) (harl : ∀ x ∈ la, x.ar.length ≤ 1000000) (R : Ending → World → Prop)
    (h : ∀ W, Below w.heap.size w W → R (.returned (.bool (decide (la = lb)))) W) : Calls Tryz.prog 53 #[.slice ao la.length ac, .slice bo lb.length bc, .func (.func 37) #[] #[]] w R := by
  refine c53 _ _ _ _ _ _ _ _ _ ?_
  unfold vc53
  refine xLen22 (xLen22 (kNe_int (kIf_ne (fun q => ?_) (fun q => ?_))))
  · have := h w (Below.refl _ _)
    rwa [decide_eq_false (fun e => q (by rw [e]))] at this
  have hlen : la.length = lb.length := by omega
  refine xLen22 ⟨⟨fun cs V => ∃ i : Nat, cs = [.int .i64 i] ∧ i ≤ la.length ∧ la.take i = lb.take i ∧ St w [] V, fun cs _ => la.length - (match cs with | [.int _ i] => i.toNat | _ => 0), ⟨0, rfl, Nat.zero_le _, rfl, St.start w⟩, ?_⟩⟩
  rintro cs ds V ⟨i, rfl, hi, heq, hS⟩
  dsimp only [List.getD_cons_zero]
  refine kBin_lss (kIf_d (fun e => ?_) (fun e => ?_))
  rotate_left
  · have hie : i = la.length := by omega
    rw [hie, List.take_length, hlen, List.take_length] at heq
    have := h V hS.below
    rwa [decide_eq_true heq] at this
  have hil : i < la.length := by omega
  have hil' : i < lb.length := by omega
  obtain ⟨pb, po, p, pc, rfl, hpb, hpr, hpx⟩ := ha.elem hil
  obtain ⟨qb, qo, q', qc, rfl, hqb, hqr, hqx⟩ := hb.elem hil'
  have hxa := harl la[i] (List.getElem_mem hil)
  have hnext : la[i] = lb[i] → la.take (i + 1) = lb.take (i + 1) := fun q => by
    rw [List.take_succ_eq_append_getElem hil, List.take_succ_eq_append_getElem hil', heq, q]
  have hno : la[i] ≠ lb[i] → la ≠ lb := fun q e => q (by subst e; rfl)
  generalize la[i] = x at *
  generalize lb[i] = y at *
  refine xIa22 hil (xLdE62 (range_st hS hpb hpr) rfl rfl (kAlloc_st Tryz.zeroValue62 hS fun b8 V hS => kStoreAR (cs' := inC x p x.ar.length pc) hS rfl (by simp [inC, Value.oneCell']) Tryz.sizeOf62 fun V hS => ?_))
  refine xIa22 hil' (xLdE62 (range_st hS hqb hqr) rfl rfl (kAlloc_st Tryz.zeroValue62 hS fun b9 V hS => kStoreAR (cs' := inC y q' y.ar.length qc) hS rfl (by simp [inC, Value.oneCell']) Tryz.sizeOf62 fun V hS => ?_))
  refine xLdB62 hS 0 rfl rfl (xLdB62 hS 1 rfl rfl ?_)
  refine kCallV_i (Tryz.call37 _ _) (same40 x y V p q' pc qc (hpx.below hS.below) (hqx.below hS.below) (by omega) _ fun W hB => ?_)
  have hS := hS.bel hB
  refine kUn_not (kIf_b (fun q => ?_) (fun q => kBin_add (kD_i ⟨⟨i + 1, ?_, hil, hnext (by simpa using q), hS.init.init⟩, ?_⟩)))
  · have := h W hS.below
    rwa [decide_eq_false (hno (by simpa using q))] at this
  · rw [wrap_id (by omega) (by omega)]; rfl
  · rw [wrap_id (by omega) (by omega)]; show la.length - ((i : Int) + 1).toNat < la.length - (i : Int).toNat; omega
theorem Same24 (la lb : List IN) (w : World) (ao bo : Option Addr) (ac bc : Nat) (ha : InsL w ao la) (hb : InsL w bo lb) (hal : la.length ≤ 9223372036854775806) (harl : ∀ x ∈ la, x.ar.length ≤ 1000000) (R : Ending → World → Prop)
    (h : ∀ W, Below w.heap.size w W → R (.returned (.bool (decide (la = lb)))) W) : Calls Tryz.prog 24 #[.slice ao la.length ac, .slice bo lb.length bc] w R := by
  refine c24 _ _ _ _ _ _ _ _ ?_
  unfold vc24
  exact kCall_i (Tryz.call53 _ _) (EqualFunc53 la lb w ao bo ac bc ha hb hal harl _ h)
end Go.L
namespace Go.L
open Go Go.RowKit Go.Proofs
set_option linter.unusedSimpArgs false
set_option linter.unusedVariables false

theorem bTr {w W W1 : World} (h : Below w.heap.size w W) (h1 : Below W.heap.size W W1) : Below w.heap.size w W1 := (((St.start w).bel h).bel h1).below
theorem putOk_rd {l : List IN} (hr : ∀ x ∈ l, InsRd x) (hc : chkC l = 0) : ∀ x ∈ l, PutOk x := fun x hx => by
  have h := (chkC_all hc).2 x hx
  rw [← rightEq] at h
  exact putOk_of h (hr x hx).w (hr x hx).k (hr x hx).o
theorem codeB_256 {l : List IN} (h : ∀ x ∈ l, PutOk x) : ∀ b ∈ codeB l, b < 256 := fun b hb => by
  unfold codeB at hb
  obtain ⟨x, hx, hb⟩ := List.mem_flatMap.1 hb
  exact recB_256 (h x hx) b hb
theorem decC_some {bs : List Nat} {l : List IN} (h : decC bs = some l) : chkC l = 0 ∧ codeB l = bs := by
  unfold decC at h
  split at h
  · split at h
    · rename_i q; cases h; exact q
    · cases h
  · cases h
end Go.L
namespace Go.L
open Go Go.RowKit Go.Proofs
set_option linter.unusedSimpArgs false
set_option linter.unusedVariables false

theorem decR_encB (rows : List AV) (h : encE rows = 0) (hr : ∀ r ∈ rows, Rng r) : decR (encB rows) = some rows := by
  have hb := enc_bound h
  have hc := badE_zero (encE_bad h)
  have e : encB rows = numB rows.length ++ rows.flatMap enc1 := rfl
  have e2 := readVs_enc [] rows hc hr
  rw [List.append_nil] at e2
  have e1 := readN_numB rows.length (by omega) (rows.flatMap enc1)
  have e3 : readN (encB rows) = some (rows.length, (numB rows.length).length) := by rw [e]; exact e1
  have e4 : List.drop (numB rows.length).length (encB rows) = rows.flatMap enc1 := by rw [e, List.drop_left]
  simp only [decR, e3, if_pos hb.1, e4, e2]
  simp [h]
theorem pairs_two : ∀ (l : List Int), (∀ n ∈ l, 0 ≤ n ∧ n ≤ 399) → pairs (l.flatMap twoL) = l
  | [], _ => rfl
  | n :: l, h => by
    have h1 := h n (by simp)
    have h2 := pairs_two l fun m hm => h m (by simp [hm])
    rw [List.flatMap_cons]
    show ((n.toNat / 256 % 256 * 256 + n.toNat % 256 : Nat) : Int) :: pairs (l.flatMap twoL) = n :: l
    rw [h2]; congr 1; omega
theorem chunks_take (l : List Int) : ∀ n : Nat, (List.range n).flatMap (chunkN l) = l.take (24 * n)
  | 0 => rfl
  | n + 1 => by
    rw [List.range_succ, List.flatMap_append, chunks_take l n, show 24 * (n + 1) = 24 * n + 24 by omega, List.take_add]
    simp [chunkN]
theorem args_back (l : List Int) (h : ∀ n ∈ l, 0 ≤ n ∧ n ≤ 399) : ((argR l (nCh l)).flatMap fun v => pairs (bl v.2.2)) = l := by
  unfold argR
  rw [List.flatMap_map]
  have e : (List.range (nCh l)).flatMap (fun j => pairs (bl (chS l j))) = (List.range (nCh l)).flatMap (chunkN l) := by
    congr 1; funext j
    unfold chS
    rw [bl_mkS, pairs_two]
    · intro n hn; exact h n (List.mem_of_mem_drop (List.mem_of_mem_take hn))
    · intro b hb
      obtain ⟨n, _, hb⟩ := List.mem_flatMap.1 hb
      exact twoL_256 n b hb
  rw [show ((List.range (nCh l)).flatMap fun j => pairs (bl ((3, 0, chS l j) : AV).2.2)) = (List.range (nCh l)).flatMap (fun j => pairs (bl (chS l j))) from rfl, e, chunks_take]
  exact List.take_of_length_le (by unfold nCh; omega)
/-- What an instruction that is put and read back must be. -/
structure BackOk (x : IN) : Prop where
  k : -1 ≤ x.k ∧ x.k ≤ 2147483647
  a : -1 ≤ x.a ∧ x.a ≤ 2147483647
  b : -1 ≤ x.b ∧ x.b ≤ 2147483647
  c : -1 ≤ x.c ∧ x.c ≤ 2147483647
  o : -1 ≤ x.o ∧ x.o ≤ 2147483647
  ar : ∀ n ∈ x.ar, 0 ≤ n ∧ n ≤ 399
theorem fitsB_rng {kd n many : Int} (hm : many ≤ 2000) (h : fitsB kd n many = true) : -1 ≤ n ∧ n ≤ 2147483647 := by
  unfold fitsB at h
  repeat' split at h
  all_goals simp at h
  all_goals omega
theorem backOk_of {many : Int} (hm : many ≤ 2000) {x : IN} (h : rightR many x = true) : BackOk x := by
  have hf := right_facts h
  unfold rightR at h
  simp only [Bool.and_eq_true, Bool.not_eq_true', decide_eq_false_iff_not] at h
  obtain ⟨hk, hfo, hno, hl⟩ := h
  unfold formOk at hfo
  simp only [Bool.and_eq_true] at hfo
  have hkk : 1 ≤ x.k ∧ x.k ≤ 21 := by
    unfold formB at hk
    split at hk
    · assumption
    · exact absurd rfl hk
  have ho : 0 ≤ x.o ∧ x.o ≤ 20 := by
    generalize fb (formB x.k) 3 = wh at hno hl
    by_cases e : wh = 111
    · subst e
      unfold lastR at hl
      rw [if_neg (by decide), if_pos rfl] at hl
      simp only [Bool.and_eq_true, Bool.not_eq_true', decide_eq_false_iff_not] at hl
      have := hl.1
      unfold infoO at this
      split at this
      · omega
      · exact absurd rfl this
    · unfold restNo at hno
      simp only [Bool.or_eq_false_iff, Bool.and_eq_false_iff, decide_eq_false_iff_not, Classical.not_not] at hno
      have := hno.2.1.resolve_left e
      omega
  exact ⟨by omega, fitsB_rng hm hfo.1, fitsB_rng hm hfo.2.1, fitsB_rng hm hfo.2.2, by omega, hf.2.2.2⟩
theorem insOf_row {x : IN} (h : BackOk x) : insOf (insRow x) = some x := by
  have o : ∀ {n : Int}, -1 ≤ n ∧ n ≤ 2147483647 → okN (intV n) = true := fun h => by
    unfold okN intV; simp [h]
  unfold insOf
  rw [if_pos ⟨by unfold insRow headR; simp, by
    show ([intV x.k, intV x.a, intV x.b, intV x.c, intV x.o]).all okN = true
    simp [o h.k, o h.a, o h.b, o h.c, o h.o]⟩]
  have e : (insRow x).drop 7 = argR x.ar (nCh x.ar) := rfl
  rw [e, args_back x.ar h.ar]
  rfl
theorem rec1_recB {x : IN} (hp : PutOk x) (h : BackOk x) (rest : List Nat) : rec1 (recB x ++ rest) = some (x, (recB x).length) := by
  have hb := (enc_bound hp.e).2
  unfold recB
  obtain ⟨E, hE⟩ : ∃ E, E = encB (insRow x) := ⟨_, rfl⟩
  rw [← hE] at hb ⊢
  show rec1 ((E.length / 256 % 256) :: (E.length % 256) :: (E ++ rest)) = _
  have e : E.length / 256 % 256 * 256 + E.length % 256 = E.length := by omega
  rw [rec1_cons, e, if_pos (by simp), List.take_left, hE, decR_encB _ hp.e hp.r]
  show (insOf (insRow x)).map _ = _
  rw [insOf_row h]
  simp; omega
theorem decP_codeB : ∀ (l : List IN) (c : Nat), c + l.length ≤ 2000 → (∀ x ∈ l, PutOk x) → (∀ x ∈ l, BackOk x) → decP c (codeB l) = some l
  | [], c, _, _, _ => decP_nil c
  | x :: l, c, hc, hp, hb => by
    simp only [List.length_cons] at hc
    have e : codeB (x :: l) = recB x ++ codeB l := by unfold codeB; rw [List.flatMap_cons]
    rw [e, decP_cons (by omega) (rec1_recB (hp x (by simp)) (hb x (by simp)) (codeB l)), List.drop_left, decP_codeB l (c + 1) (by omega) (fun y hy => hp y (by simp [hy])) fun y hy => hb y (by simp [hy])]
    rfl
/-- Decode of Encode. -/
theorem decC_codeB {l : List IN} (hc : chkC l = 0) (hp : ∀ x ∈ l, PutOk x) : decC (codeB l) = some l := by
  have hall := chkC_all hc
  have hd := decP_codeB l 0 (by omega) hp fun x hx => by
    have h := hall.2 x hx
    rw [← rightEq] at h
    exact backOk_of (by omega) h
  unfold decC
  rw [hd]
  exact if_pos ⟨hc, rfl⟩
end Go.L
namespace Go.L
open Go Go.RowKit Go.Proofs
set_option linter.unusedSimpArgs false
set_option linter.unusedVariables false

theorem own_capmax {W : World} {base : Nat} {e : TypeId} {sz n cp : Nat} {a : Option Addr} {xs : List Value} (h : W.ownsRow base e sz (.slice a n cp) n xs) : cp ≤ 9223372036854775807 := by
  rcases h.2 with ⟨h, _⟩ | ⟨g, cap, cur, h, _, _, _, hcap, _⟩
  · cases h; simp
  · cases h; exact hcap
theorem codeB_len {l : List IN} (hp : ∀ x ∈ l, PutOk x) : (codeB l).length ≤ 4002 * l.length := by
  induction l with
  | nil => exact Nat.le_refl _
  | cons x l ih =>
    have h1 := recB_len (hp x (by simp))
    have h2 := ih fun y hy => hp y (by simp [hy])
    have e : codeB (x :: l) = recB x ++ codeB l := by unfold codeB; rw [List.flatMap_cons]
    rw [e, List.length_append, List.length_cons]
    omega
theorem few_facts {l : List IN} {m : Int} (q : (decide ((l.length : Int) ≤ m) && l.all smallI) = true) : (l.length : Int) ≤ m ∧ ∀ x ∈ l, x.ar.length ≤ 1000000 := by
  simp only [Bool.and_eq_true, decide_eq_true_eq] at q
  refine ⟨q.1, fun x hx => ?_⟩
  have := List.all_eq_true.1 q.2 x hx
  unfold smallI at this
  simp only [Bool.and_eq_true, decide_eq_true_eq] at this
  omega
end Go.L
namespace Go.L
open Go Go.RowKit Go.Proofs
set_option linter.unusedSimpArgs false
set_option linter.unusedVariables false

/-- The row of bytes at the end, as the block that it lies in. -/
theorem St.row_bx {w0 W : World} {L : List Own} {x : Value} {e : TypeId} {sz n : Nat} {xs : List Value} (h : St w0 (L ++ [.row x e sz n xs]) W) (hn : 0 < n) :
    ∃ g cap cur, x = .slice (some ⟨g, 0, none⟩) n cap ∧ St w0 (L ++ [.bx g e cur]) W ∧ n ≤ cap ∧ cap ≤ 9223372036854775807 ∧ cur.size = cap * sz ∧ cur.toList.take (n * sz) = xs := by
  have hr : W.ownsRow w0.heap.size e sz x n xs := h.get _ at_r
  rcases hr.2 with ⟨_, h0⟩ | ⟨g, cap, cur, hx, hb, hg, hnc, hcap, hcur, htk⟩
  · omega
  · refine ⟨g, cap, cur, hx, ?_, hnc, hcap, hcur, htk⟩
    refine St.ofPw h.below (fun o ho => ?_) ?_
    · rcases List.mem_append.1 ho with ho | ho
      · exact h.all o (List.mem_append_left _ ho)
      · simp at ho; subst ho; exact ⟨hb, hg⟩
    · have hp := List.pairwise_append.1 h.pw
      refine List.pairwise_append.2 ⟨hp.1, List.pairwise_singleton _ _, fun a ha b hb => ?_⟩
      simp at hb; subst hb
      have := hp.2.2 a ha (.row x e sz n xs) (by simp)
      rw [hx] at this
      exact this
theorem vB_each (bs : List Nat) : ∀ v ∈ bs.map vB, v.cells.size = 1 := fun v hv => by
  obtain ⟨b, _, rfl⟩ := List.mem_map.1 hv; rfl
theorem bs_of_bx {w0 W : World} {L : List Own} {g cap : Nat} {cur : Array Value} {bs : List Nat} (h : St w0 (L ++ [.bx g 5 cur]) W) (hcap : bs.length ≤ cap) (htk : cur.toList.take bs.length = bs.map vB) : Bs W (some ⟨g, 0, none⟩) bs.length cap bs := by
  have hg := (h.get _ at_r).2
  refine ⟨⟨vB_each _, .inr ⟨g, 0, rfl, (Array.getElem?_eq_some_iff.1 hg).1, fun j v hj => ?_⟩⟩, rfl, hcap⟩
  rw [flat_vB, ← htk] at hj
  rw [cell_of_row W g (0 + j) cur 5 (0, 0) hg, Nat.zero_add, ← Array.getElem?_toList]
  have hj' := (List.getElem?_eq_some_iff.1 hj).1
  rw [List.getElem?_take_of_lt (by simp at hj'; omega)] at hj
  exact hj
theorem u8_add (a : Nat) (b : Int) (ha : a < 256) (hb : 0 ≤ b ∧ b ≤ 255) (h0 : b ≠ 0) : ∃ m : Nat, m < 256 ∧ IntKind.u8.wrap ((a : Int) + b) = (m : Int) ∧ m ≠ a := by
  refine ⟨((a : Int) + b).toNat % 256, by omega, ?_, by omega⟩
  have : IntKind.u8.wrap ((a : Int) + b) = ((a : Int) + b) % 256 := by simp [IntKind.wrap, IntKind.bits, IntKind.signed]
  rw [this]; omega
theorem CodeHolds7 (l : List IN) (atA byA : Int) (w : World) (hT : Tab w) (lo : Option Addr) (lc : Nat) (hl : InsP w lo l) (hll : l.length ≤ 9223372036854775807) (hp : chkC l = 0 → ∀ x ∈ l, PutOk x) (hat : I64 atA) (hby : 0 ≤ byA ∧ byA ≤ 255) (R : Ending → World → Prop)
    (h : ∀ W, Below w.heap.size w W → R (.returned (.bool true)) W) : Calls Tryz.prog 7 #[.slice lo l.length lc, .int .i64 atA, .int .u8 byA] w R := by
  refine c7 _ _ _ _ _ _ _ ?_
  unfold vc7
  have fin : ∀ {W W' : World}, Below w.heap.size w W → Below W.heap.size W W' → R (.returned (.bool true)) W' := fun h1 h2 => h _ (bTr h1 h2)
  refine kCall_i (Tryz.call8 _ _) (few8 40 l w lo lc hl.ins (by omega) _ (kUn_not (kIf_b (fun q => kCall_i (Tryz.call9 _ _) (works17 _ hT _ fun W' hB' => h _ hB')) (fun qa => ?_))))
  obtain ⟨hlen, hra⟩ := few_facts (by simpa using qa)
  clear qa
  by_cases hc : chkC l = 0
  rotate_left
  · refine kCall_i (Tryz.call22 _ _) (Encode22 l w lo lc hl hra hp _ (fun q => absurd q hc) (fun _ W1 hW1 => ?_))
    exact kExt_0 (kExt_1 (kCall_i (Tryz.call13 _ _) (num18 _ _ _ (kNe_int (kIf_ne (fun _ => kCall_i (Tryz.call9 _ _) (works17 _ (hT.below hW1) _ fun W6 hW6 => fin hW1 hW6)) (fun q => by cases q))))))
  have hp := hp hc
  have hcl := codeB_len hp
  refine kCall_i (Tryz.call22 _ _) (Encode22 l w lo lc hl hra (fun _ => hp) _ (fun _ x W1 hW1 ho1 => ?_) (fun q => absurd hc q))
  obtain ⟨a1, c1, rfl, hB1⟩ := Bs.of_owns ho1
  have hc1 := own_capmax ho1
  have hsrc := Src.of_owns (vB_each _) (by rw [flat_vB]; exact ho1) (by simp)
  refine kExt_0 (kExt_1 (kCall_i (Tryz.call13 _ _) (num18 _ _ _ (kNe_int (kIf_ne (fun q => absurd rfl q) (fun _ => ?_))))))
  refine kCall_i (Tryz.call19 _ _) (CodeDecode19 (codeB l) W1 a1 c1 hB1 (codeB_256 hp) hc1 (by omega) _ (fun l' hl' hrd lo2 lc2 W2 hW2 hP hlc => ?_) (fun hn => by rw [decC_codeB hc hp] at hn; cases hn))
  rw [decC_codeB hc hp] at hl'; cases hl'
  have hB1 := hB1.keep hW2
  have hsrc := hsrc.below hW2
  have hW2 := bTr hW1 hW2
  refine kExt_0 (kExt_1 (kJn_i (kCall_i (Tryz.call13 _ _) (num18 _ _ _ (kNe_int (kIf_ne (fun q => absurd rfl q) (fun _ => ?_)))))))
  refine kCall_i (Tryz.call24 _ _) (Same24 l l W2 lo lo2 lc lc2 (hl.ins.below hW2) hP.ins (by omega) hra _ fun W3 hW3 => ?_)
  rw [decide_eq_true rfl]
  have hB1 := hB1.keep hW3
  have hsrc := hsrc.below hW3
  have hW3 := bTr hW2 hW3
  refine kUn_not (kIf_f (kD_i fun _ => kJn_i (kBin_lss (kIf_d (fun q => kIf_t (kCall_i (Tryz.call9 _ _) (works17 _ (hT.below hW3) _ fun W6 hW6 => fin hW3 hW6))) (fun q0 => xLen44 (kBin_geq (kIf_d (fun q => kIf_t (kCall_i (Tryz.call9 _ _) (works17 _ (hT.below hW3) _ fun W6 hW6 => fin hW3 hW6))) (fun q1 => ?_))))))))
  refine kEq_int (kIf_eq (fun q => kCall_i (Tryz.call9 _ _) (works17 _ (hT.below hW3) _ fun W6 hW6 => fin hW3 hW6)) (fun q2 => kD_i fun _ => ?_))
  have hil : atA.toNat < (codeB l).length := by omega
  refine kBuildS0 (xE44 W3) (St.start W3) fun v W hS => ?_
  refine kAppSrc_st (xE44 W) (n := 0) (m := (codeB l).length) (vs := (codeB l).map vB) hS 0 (hi := rfl) (hsrc.below hS.below) (by simp) (by simp [vB, Value.cells, Value.oneCell']) (by simp only [maxLen]; omega) (by omega) fun x W hS => ?_
  rw [flat_vB, List.nil_append] at hS
  have hS : St W3 ([] ++ [.row x 5 1 (0 + (codeB l).length) ((codeB l).map vB)]) W := hS
  rw [Nat.zero_add] at hS
  obtain ⟨g, cap, cur, rfl, hS, hcp, hcm, hsz, htk⟩ := hS.row_bx (by omega)
  rw [Nat.mul_one] at htk hsz
  obtain ⟨i, hi⟩ : ∃ i : Nat, atA = (i : Int) := ⟨atA.toNat, by omega⟩
  subst hi
  have hib : i < (codeB l).length := by omega
  have hget : cur[0 + i * 1]? = some (.int .u8 ((codeB l)[i] : Nat)) := by
    rw [show 0 + i * 1 = i by omega, ← Array.getElem?_toList]
    have e : (cur.toList.take (codeB l).length)[i]? = ((codeB l).map vB)[i]? := by rw [htk]
    rw [List.getElem?_take_of_lt hib, List.getElem?_map, List.getElem?_eq_getElem hib] at e
    exact e
  obtain ⟨m, hm, hmw, hmne⟩ := u8_add (codeB l)[i] byA (codeB_256 hp _ (List.getElem_mem hib)) hby q2
  obtain ⟨bs, hbs⟩ : ∃ bs, bs = (codeB l).set i m := ⟨_, rfl⟩
  have hbl : bs.length = (codeB l).length := by rw [hbs]; simp
  have hb256 : ∀ b ∈ bs, b < 256 := fun b hb => by
    rw [hbs] at hb
    rcases List.mem_or_eq_of_mem_set hb with hb | rfl
    · exact codeB_256 hp b hb
    · exact hm
  have hbne : bs ≠ codeB l := fun e => by
    have e1 : bs[i]? = some m := by rw [hbs, List.getElem?_set_self hib]
    rw [e, List.getElem?_eq_getElem hib] at e1
    exact hmne (Option.some.inj e1).symm
  refine xIa44 hib (kLdS rfl (hS.cell 0 rfl _ hget) (kBin_add (xIa44 hib ?_)))
  rw [hmw]
  refine kSt hS 0 rfl (by have := cur.size; omega) rfl rfl rfl fun W hS => ?_
  have hS : St W3 ([] ++ [.bx g 5 (cur.setIfInBounds (0 + i * 1) (.int .u8 m))]) W := hS
  have hBc : Bs W (some ⟨g, 0, none⟩) bs.length cap bs := bs_of_bx hS (by omega) (by
    rw [hbl, show 0 + i * 1 = i by omega, Array.toList_setIfInBounds, List.take_set, htk, hbs, List.map_set]; rfl)
  have hSB := bTr hW3 hS.below
  rw [← hbl]
  refine kCall_i (Tryz.call19 _ _) (CodeDecode19 bs W (some ⟨g, 0, none⟩) cap hBc hb256 hcm (by omega) _ (fun n hn hrd lo3 lc3 W4 hW4 hP3 _ => ?_) (fun _ W4 hW4 => ?_))
  rotate_left
  · have hW4 := bTr hSB hW4
    exact kExt_0 (kExt_1 (kCall_i (Tryz.call13 _ _) (num18 _ _ _ (kNe_int (kIf_ne (fun _ => xLen22 (kEq_int (kIf_eq (fun _ => kCall_i (Tryz.call9 _ _) (works17 _ (hT.below hW4) _ fun W6 hW6 => fin hW4 hW6)) (fun q => absurd rfl q)))) (fun q => by cases q))))))
  obtain ⟨hcn, hbn⟩ := decC_some hn
  have hran : ∀ x ∈ n, x.ar.length ≤ 1000000 := fun x hx => (hrd x hx).len
  have hnl := (chkC_all hcn).1
  have hBc := hBc.keep hW4
  have hW4 := bTr hSB hW4
  refine kExt_0 (kExt_1 (kCall_i (Tryz.call13 _ _) (num18 _ _ _ (kNe_int (kIf_ne (fun q => absurd rfl q) (fun _ => ?_))))))
  refine kCall_i (Tryz.call22 _ _) (Encode22 n W4 lo3 lc3 hP3 hran (fun _ => putOk_rd hrd hcn) _ (fun _ x W5 hW5 ho5 => ?_) (fun q => absurd hcn q))
  obtain ⟨a5, c5, rfl, hB5⟩ := Bs.of_owns ho5
  have hBc := hBc.keep hW5
  have hP3 := hP3.below hW5
  have hW5 := bTr hW4 hW5
  refine kExt_0 (kExt_1 (kCall_i (Tryz.call13 _ _) (num18 _ _ _ (kEq_int (kIf_eq (fun _ => kCv_str hB5 (kCv_str hBc (kEq_str ?_))) (fun q => absurd rfl q))))))
  rw [hbn, decide_eq_true rfl]
  refine kIf_t (kCall_i (Tryz.call24 _ _) (Same24 n l W5 lo3 lo lc3 lc hP3.ins (hl.ins.below hW5) (by omega) hran _ fun W6 hW6 => ?_))
  rw [decide_eq_false (fun e => hbne (by rw [← hbn, e]))]
  have hW6 := bTr hW5 hW6
  exact kUn_not (kIf_t (kCall_i (Tryz.call9 _ _) (works17 _ (hT.below hW6) _ fun W7 hW7 => fin hW6 hW7)))
end Go.L
