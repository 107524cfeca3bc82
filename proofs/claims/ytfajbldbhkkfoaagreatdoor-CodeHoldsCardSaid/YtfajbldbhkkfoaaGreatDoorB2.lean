/- Contracts of single functions: no condition but those that each states. -/
import Derived.Test.YtfajbldbhkkfoaaGreatDoorB1
import Derived.ChangeKeysEq
import Derived.Lib.Builder
import Derived.Laws.Externs
import Derived.Lib.AppendIntMem
import Derived.Lib.ItoaLen
set_option linter.unusedVariables false
set_option linter.unusedSimpArgs false
namespace Go.L
open Go Go.RowKit Go.Proofs
set_option linter.unusedSimpArgs false
set_option linter.unusedVariables false

/-- A part of a kind: which number, from, to, whether a place. -/
abbrev PT := Nat × Int × Int × Bool
def partV (p : PT) : Value := .agg #[.func (.func p.1) #[] #[], .int .i64 p.2.1, .int .i64 p.2.2.1, .bool p.2.2.2]
theorem partV_size (l : List PT) : ∀ v ∈ l.map partV, v.cells.size = 4 := by
  intro v hv; obtain ⟨r, _, rfl⟩ := List.mem_map.1 hv; rfl
def preg (f : Nat) : PT := (f, 0, 399, false)
def plist (f : Nat) : PT := (f, 0, 15, false)
def ptotal (f : Nat) : PT := (f, 0, 31, false)
def pnumber (f : Nat) : PT := (f, 0, 400, false)
def pjump (f : Nat) : PT := (f, 0, 0, true)
def pbound (f : Nat) : PT := (f, (-1), 2147483647, false)
def kParts (k : Nat) : List PT := ([[], [preg 58], [preg 58], [preg 58], [plist 58], [plist 58, pjump 59], [plist 58, pjump 59], [preg 58, plist 59, pnumber 60], [preg 58, pjump 59], [pjump 59], [plist 58], [plist 58, plist 59], [ptotal 58], [ptotal 58, preg 59], [preg 58, ptotal 59], [plist 58, pnumber 60], [plist 58, plist 59, pjump 60], [plist 58, pnumber 59], [plist 58, pnumber 59], [plist 58, pbound 59, pnumber 60], [plist 58]] : List (List PT)).getD (k - 1) []
def kNameB (k : Nat) : ByteArray := ([⟨#[115, 116, 111, 112]⟩, ⟨#[118, 97, 108, 117, 101]⟩, ⟨#[111, 112]⟩, ⟨#[112, 105, 99, 107]⟩, ⟨#[115, 99, 97, 110]⟩, ⟨#[102, 105, 114, 115, 116]⟩, ⟨#[110, 101, 120, 116]⟩, ⟨#[102, 105, 101, 108, 100]⟩, ⟨#[105, 102]⟩, ⟨#[106, 117, 109, 112]⟩, ⟨#[114, 111, 119]⟩, ⟨#[108, 111, 111, 107, 115]⟩, ⟨#[115, 117, 109]⟩, ⟨#[97, 100, 100]⟩, ⟨#[116, 111, 116, 97, 108]⟩, ⟨#[103, 114, 111, 117, 112, 115]⟩, ⟨#[116, 97, 107, 101]⟩, ⟨#[111, 110, 99, 101]⟩, ⟨#[115, 111, 114, 116]⟩, ⟨#[99, 117, 116]⟩, ⟨#[103, 105, 118, 101]⟩] : List ByteArray).getD (k - 1) ⟨#[]⟩
def restF (k : Nat) : Nat := ([67, 68, 69, 105, 71, 67, 67, 67, 67, 67, 105, 67, 72, 67, 67, 67, 67, 67, 73, 67, 67] : List Nat).getD (k - 1) 0
def leastA (k : Nat) : Int := if k = 4 then 1 else 0
def RestOk (N : List Own) (k : Nat) (r : Value) : Prop := if k = 4 ∨ k = 11 then ∃ b, r = .func (.func 105) #[] #[.pointer (some ⟨b, 0, none⟩)] ∧ Own.bx b 3 #[.int .i64 (leastA k)] ∈ N else r = .func (.func (restF k)) #[] #[]
/-- What stands in the map under a kind. -/
def KOk (N : List Own) (k : Nat) (v : Value) : Prop := ∃ a cp r, v = .agg #[.string (kNameB k), .slice a (kParts k).length cp, r] ∧ Own.row (.slice a (kParts k).length cp) 77 4 (kParts k).length (flat ((kParts k).map partV)) ∈ N ∧ RestOk N k r
def KIs (es : Array MapEntry) (N : List Own) (k : Nat) : Prop := es.size = k ∧ ∀ j, j < k → ∃ e, es[j]? = some e ∧ e.key = .int .i64 ((j + 1 : Nat) : Int) ∧ KOk N (j + 1) e.val
theorem RestOk.mono {N N' : List Own} {k : Nat} {r : Value} (h : RestOk N k r) (hs : ∀ o ∈ N, o ∈ N') : RestOk N' k r := by
  unfold RestOk at h ⊢
  split
  · rename_i q; rw [if_pos q] at h; obtain ⟨b, h1, h2⟩ := h; exact ⟨b, h1, hs _ h2⟩
  · rename_i q; rwa [if_neg q] at h
theorem KOk.mono {N N' : List Own} {k : Nat} {v : Value} (h : KOk N k v) (hs : ∀ o ∈ N, o ∈ N') : KOk N' k v := by
  obtain ⟨a, cp, r, h1, h2, h3⟩ := h
  exact ⟨a, cp, r, h1, hs _ h2, h3.mono hs⟩
theorem KIs.step {es : Array MapEntry} {N N' : List Own} {k : Nat} {key v : Value} {born : Nat} (h : KIs es N k) (hs : ∀ o ∈ N, o ∈ N') (hk : key = .int .i64 ((k + 1 : Nat) : Int)) (hv : KOk N' (k + 1) v) : KIs (es.push { key := key, val := v, born := born }) N' (k + 1) := by
  refine ⟨by rw [Array.size_push, h.1], fun j hj => ?_⟩
  rcases Nat.lt_or_ge j k with q | q
  · obtain ⟨e, he, h1, h2⟩ := h.2 j q
    refine ⟨e, ?_, h1, h2.mono hs⟩
    rw [Array.getElem?_push, if_neg (by rw [h.1]; omega)]; exact he
  · have : j = k := by omega
    subst this
    refine ⟨{ key := key, val := v, born := born }, ?_, hk, hv⟩
    rw [Array.getElem?_push, if_pos (by rw [h.1])]
/-- A key of a number, among entries whose keys are 1, 2, .. -/
theorem find_keys (z : Int) : ∀ (es : List MapEntry) (i : Nat) (m : Nat), (∀ (j : Nat) (e : MapEntry), es[j]? = some e → e.key = .int .i64 ((m + j + 1 : Nat) : Int)) →
    Instr.findNow (.int .i64) (.int .i64 z) es i = some (if 1 + (m : Int) ≤ z ∧ z < 1 + (m : Int) + es.length then (es[(z - 1 - m).toNat]?).map (fun e => (i + (z - 1 - m).toNat, e.val)) else none)
  | [], i, m, h => by
    rw [Instr.findNow, if_neg]
    simp
  | e :: es, i, m, h => by
    have h0 := h 0 e rfl
    have ih := find_keys z es (i + 1) (m + 1) (fun j e' he => by rw [h (j + 1) e' he]; congr 2; omega)
    rw [Instr.findNow, h0]
    have hs : Instr.sameNow (.int .i64) (.int .i64 z) (.int .i64 ((m + 0 + 1 : Nat) : Int)) = some (decide (z = ((m + 0 + 1 : Nat) : Int))) := by
      simp [Instr.sameNow]
      rw [Bool.eq_iff_iff]; simp
    rw [hs]
    by_cases q : z = ((m + 0 + 1 : Nat) : Int)
    · rw [decide_eq_true q, if_pos (by simp; omega)]
      have : (z - 1 - m).toNat = 0 := by omega
      simp [this]
    · rw [decide_eq_false q]
      dsimp only
      rw [ih]
      congr 1
      by_cases q2 : 1 + (m : Int) ≤ z ∧ z < 1 + (m : Int) + (e :: es).length
      · simp only [List.length_cons] at q2
        rw [if_pos (by omega), if_pos (by simp only [List.length_cons]; omega)]
        have : (z - 1 - (m : Int)).toNat = (z - 1 - ((m + 1 : Nat) : Int)).toNat + 1 := by omega
        rw [this, List.getElem?_cons_succ]
        congr 1
        funext x
        congr 1; omega
      · simp only [List.length_cons] at q2
        rw [if_neg (by omega), if_neg (by simp only [List.length_cons]; omega)]
theorem KIs.keys {es : Array MapEntry} {N : List Own} {k : Nat} (h : KIs es N k) : ∀ (j : Nat) (e : MapEntry), es.toList[j]? = some e → e.key = .int .i64 ((0 + j + 1 : Nat) : Int) := by
  intro j e he
  have hj : j < k := by
    have := (List.getElem?_eq_some_iff.1 he).1
    rw [Array.length_toList, h.1] at this; exact this
  obtain ⟨e', he', hk, _⟩ := h.2 j hj
  rw [Array.getElem?_toList] at he
  rw [he] at he'
  cases he'
  rw [hk, Nat.zero_add]
theorem KIs.none {es : Array MapEntry} {N : List Own} {k : Nat} (h : KIs es N k) {z : Int} (hz : ¬ (1 ≤ z ∧ z ≤ k)) : Instr.findNow (.int .i64) (.int .i64 z) es.toList 0 = some none := by
  rw [find_keys z es.toList 0 0 h.keys, if_neg]
  rw [Array.length_toList, h.1]; omega
theorem KIs.some {es : Array MapEntry} {N : List Own} {k : Nat} (h : KIs es N k) {z : Nat} (h1 : 1 ≤ z) (h2 : z ≤ k) : ∃ j v, Instr.findNow (.int .i64) (.int .i64 z) es.toList 0 = some (some (j, v)) ∧ KOk N z v := by
  obtain ⟨e, he, hk, hv⟩ := h.2 (z - 1) (by omega)
  refine ⟨0 + ((z : Int) - 1 - (0 : Nat)).toNat, e.val, ?_, by rw [show z - 1 + 1 = z by omega] at hv; exact hv⟩
  rw [find_keys z es.toList 0 0 h.keys, if_pos (by rw [Array.length_toList, h.1]; omega)]
  have : ((z : Int) - 1 - (0 : Nat)).toNat = z - 1 := by omega
  rw [this, Array.getElem?_toList, he]; rfl
theorem builtP (f : Nat) (a b : Int) (j : Bool) : Tryz.prog.built 77 [(0, .func (.func f) #[] #[]), (1, .int .i64 a), (2, .int .i64 b), (3, .bool j)] = some #[.func (.func f) #[] #[], .int .i64 a, .int .i64 b, .bool j] := by kernel_rfl
theorem builtK (s : ByteArray) (a : Option Addr) (n cp : Nat) (f : Nat) (caps : Array Value) : Tryz.prog.built 73 [(0, .string s), (1, .slice a n cp), (2, .func (.func f) #[] caps)] = some #[.string s, .slice a n cp, .func (.func f) #[] caps] := by kernel_rfl
theorem RetK_agg89 {R : Ending → World → Prop} {w w0 : World} {L : List Own} (hS : St w0 L w) (i : Nat) {b : Nat} {cs : Array Value} (hi : L[i]? = some (.bx b 77 cs)) (hn : cs.size = 4) (h : R (.returned (.agg cs)) w) : RetK Tryz.prog [.cell (.pointer (some ⟨b, 0, none⟩)) 77] R w := by
  refine ⟨.agg cs, ?_, h⟩
  have := run_loadVar_row (P := Tryz.prog) w b 77 77 cs (0, 0) _ (hS.get i hi).2 Tryz.underlying77 rfl (by rw [info_of (Tryz.typeInfo77 w), hn]; rfl)
  simp [resSem, asAddr, this]
theorem preg65 (f : Nat) (w : World) (R : Ending → World → Prop) (h : ∀ W, Below w.heap.size w W → R (.returned (partV (preg f))) W) : Calls Tryz.prog 61 #[.func (.func f) #[] #[]] w R := by
  refine c61 _ _ _ ?_
  unfold vc61
  refine kAlloc_st Tryz.zeroValue77 (St.start w) fun b W hS => kBuild_i (builtP _ _ _ _) (kStoreAR hS rfl (by simp [Value.oneCell']) Tryz.sizeOf77 fun W hS => ?_)
  exact RetK_agg89 hS 0 rfl rfl (h W hS.below)
theorem plist66 (f : Nat) (w : World) (R : Ending → World → Prop) (h : ∀ W, Below w.heap.size w W → R (.returned (partV (plist f))) W) : Calls Tryz.prog 62 #[.func (.func f) #[] #[]] w R := by
  refine c62 _ _ _ ?_
  unfold vc62
  refine kAlloc_st Tryz.zeroValue77 (St.start w) fun b W hS => kBuild_i (builtP _ _ _ _) (kStoreAR hS rfl (by simp [Value.oneCell']) Tryz.sizeOf77 fun W hS => ?_)
  exact RetK_agg89 hS 0 rfl rfl (h W hS.below)
theorem ptotal67 (f : Nat) (w : World) (R : Ending → World → Prop) (h : ∀ W, Below w.heap.size w W → R (.returned (partV (ptotal f))) W) : Calls Tryz.prog 63 #[.func (.func f) #[] #[]] w R := by
  refine c63 _ _ _ ?_
  unfold vc63
  refine kAlloc_st Tryz.zeroValue77 (St.start w) fun b W hS => kBuild_i (builtP _ _ _ _) (kStoreAR hS rfl (by simp [Value.oneCell']) Tryz.sizeOf77 fun W hS => ?_)
  exact RetK_agg89 hS 0 rfl rfl (h W hS.below)
theorem pnumber68 (f : Nat) (w : World) (R : Ending → World → Prop) (h : ∀ W, Below w.heap.size w W → R (.returned (partV (pnumber f))) W) : Calls Tryz.prog 64 #[.func (.func f) #[] #[]] w R := by
  refine c64 _ _ _ ?_
  unfold vc64
  refine kAlloc_st Tryz.zeroValue77 (St.start w) fun b W hS => kBuild_i (builtP _ _ _ _) (kStoreAR hS rfl (by simp [Value.oneCell']) Tryz.sizeOf77 fun W hS => ?_)
  exact RetK_agg89 hS 0 rfl rfl (h W hS.below)
theorem pjump69 (f : Nat) (w : World) (R : Ending → World → Prop) (h : ∀ W, Below w.heap.size w W → R (.returned (partV (pjump f))) W) : Calls Tryz.prog 65 #[.func (.func f) #[] #[]] w R := by
  refine c65 _ _ _ ?_
  unfold vc65
  refine kAlloc_st Tryz.zeroValue77 (St.start w) fun b W hS => kBuild_i (builtP _ _ _ _) (kStoreAR hS rfl (by simp [Value.oneCell']) Tryz.sizeOf77 fun W hS => ?_)
  exact RetK_agg89 hS 0 rfl rfl (h W hS.below)
theorem pbound70 (f : Nat) (w : World) (R : Ending → World → Prop) (h : ∀ W, Below w.heap.size w W → R (.returned (partV (pbound f))) W) : Calls Tryz.prog 66 #[.func (.func f) #[] #[]] w R := by
  refine c66 _ _ _ ?_
  unfold vc66
  refine kAlloc_st Tryz.zeroValue77 (St.start w) fun b W hS => kBuild_i (builtP _ _ _ _) (kStoreAR hS rfl (by simp [Value.oneCell']) Tryz.sizeOf77 fun W hS => ?_)
  exact RetK_agg89 hS 0 rfl rfl (h W hS.below)
theorem args74 (l : Int) (w : World) (R : Ending → World → Prop) (h : ∀ b W, St w [.bx b 3 #[.int .i64 l]] W → R (.returned (.func (.func 105) #[] #[.pointer (some ⟨b, 0, none⟩)])) W) : Calls Tryz.prog 70 #[.int .i64 l] w R := by
  refine c70 _ _ _ ?_
  unfold vc70
  exact kBox_st (St.start w) fun b W hS => h b W hS
theorem kinds38 (w : World) (R : Ending → World → Prop) (h : ∀ b es N W, St w (.ob b (.map es 21) :: N) W → KIs es N 21 → R (.returned (.map (some b))) W) : Calls Tryz.prog 27 #[] w R := by
  refine c27 _ _ ?_
  unfold vc27
  refine kMkMap_st (St.start w) fun b W hS => ?_
  have hS : St w (Own.ob b (.map #[] 0) :: []) W := hS
  have hK : KIs #[] [] 0 := ⟨rfl, fun j hj => by omega⟩
  obtain ⟨es, N, hS, hK⟩ : ∃ es N, St w (Own.ob b (.map es 0) :: N) W ∧ KIs es N 0 := ⟨_, _, hS, hK⟩
  -- stop
  have hS := hS.adopt (o := .row (.slice none 0 0) 77 4 0 []) (World.ownsRow_nil _ _ _ _) (fun p hp => by
    cases hpb : p.blk with
    | none => exact .inl rfl
    | some k => exact .inr (by simp [Own.blk, Value.ownBlock]))
  refine kBuild_i (builtK _ _ _ _ _ _) (kUpd_st hS 0 rfl Tryz.underlying68 Tryz.underlying33 rfl (hK.none (z := 1) (by decide)) fun W hS => ?_)
  have hS : St w (Own.ob b (.map (es.push _) 1) :: (N ++ [Own.row (.slice none 0 0) 77 4 0 []])) W := hS
  have hK := hK.step (N' := N ++ [Own.row (.slice none 0 0) 77 4 0 []]) (key := .int .i64 1) (born := 0) (fun o ho => List.mem_append_left _ ho) rfl (⟨none, 0, _, rfl, List.mem_append_right _ (List.mem_cons_self ..), by unfold RestOk; rw [if_neg (by omega)]; rfl⟩ : KOk _ 1 (.agg #[.string _, .slice none _ 0, .func (.func 67) #[] #[]]))
  obtain ⟨es, N, hS, hK⟩ : ∃ es N, St w (Own.ob b (.map es 1) :: N) W ∧ KIs es N 1 := ⟨_, _, hS, hK⟩
  -- value
  refine kCallV_i (Tryz.call61 _ _) (preg65 58 W _ fun W hB => ?_)
  have hS := hS.bel hB
  refine kBS (xE70 W) hS [partV (preg 58)] rfl rfl (by omega) (by omega) (by simp [partV, Value.cells]) fun a cp W hS _ => ?_
  refine kBuild_i (builtK _ _ _ _ _ _) (kUpd_st hS 0 rfl Tryz.underlying68 Tryz.underlying33 rfl (hK.none (z := 2) (by decide)) fun W hS => ?_)
  have hS : St w (Own.ob b (.map (es.push _) 2) :: (N ++ [Own.row (.slice a 1 cp) 77 4 1 (flat [partV (preg 58)])])) W := hS
  have hK := hK.step (N' := N ++ [Own.row (.slice a 1 cp) 77 4 1 (flat [partV (preg 58)])]) (key := .int .i64 2) (born := 1) (fun o ho => List.mem_append_left _ ho) rfl (⟨a, cp, _, rfl, List.mem_append_right _ (List.mem_cons_self ..), by unfold RestOk; rw [if_neg (by omega)]; rfl⟩ : KOk _ 2 (.agg #[.string _, .slice a _ cp, .func (.func 68) #[] #[]]))
  obtain ⟨es, N, hS, hK⟩ : ∃ es N, St w (Own.ob b (.map es 2) :: N) W ∧ KIs es N 2 := ⟨_, _, hS, hK⟩
  -- op
  refine kCallV_i (Tryz.call61 _ _) (preg65 58 W _ fun W hB => ?_)
  have hS := hS.bel hB
  refine kBS (xE70 W) hS [partV (preg 58)] rfl rfl (by omega) (by omega) (by simp [partV, Value.cells]) fun a cp W hS _ => ?_
  refine kBuild_i (builtK _ _ _ _ _ _) (kUpd_st hS 0 rfl Tryz.underlying68 Tryz.underlying33 rfl (hK.none (z := 3) (by decide)) fun W hS => ?_)
  have hS : St w (Own.ob b (.map (es.push _) 3) :: (N ++ [Own.row (.slice a 1 cp) 77 4 1 (flat [partV (preg 58)])])) W := hS
  have hK := hK.step (N' := N ++ [Own.row (.slice a 1 cp) 77 4 1 (flat [partV (preg 58)])]) (key := .int .i64 3) (born := 2) (fun o ho => List.mem_append_left _ ho) rfl (⟨a, cp, _, rfl, List.mem_append_right _ (List.mem_cons_self ..), by unfold RestOk; rw [if_neg (by omega)]; rfl⟩ : KOk _ 3 (.agg #[.string _, .slice a _ cp, .func (.func 69) #[] #[]]))
  obtain ⟨es, N, hS, hK⟩ : ∃ es N, St w (Own.ob b (.map es 3) :: N) W ∧ KIs es N 3 := ⟨_, _, hS, hK⟩
  -- pick
  refine kCallV_i (Tryz.call61 _ _) (preg65 58 W _ fun W hB => ?_)
  have hS := hS.bel hB
  refine kBS (xE70 W) hS [partV (preg 58)] rfl rfl (by omega) (by omega) (by simp [partV, Value.cells]) fun a cp W hS _ => ?_
  refine kCall_i (Tryz.call70 _ _) (args74 _ W _ fun bA W hSA => ?_)
  have hS := hS.join hSA
  refine kBuild_i (builtK _ _ _ _ _ _) (kUpd_st hS 0 rfl Tryz.underlying68 Tryz.underlying33 rfl (hK.none (z := 4) (by decide)) fun W hS => ?_)
  have hS : St w (Own.ob b (.map (es.push _) 4) :: (N ++ [Own.row (.slice a 1 cp) 77 4 1 (flat [partV (preg 58)])] ++ [Own.bx bA 3 #[.int .i64 1]])) W := hS
  have hK := hK.step (N' := N ++ [Own.row (.slice a 1 cp) 77 4 1 (flat [partV (preg 58)])] ++ [Own.bx bA 3 #[.int .i64 1]]) (key := .int .i64 4) (born := 3) (fun o ho => List.mem_append_left _ (List.mem_append_left _ ho)) rfl (⟨a, cp, .func (.func 105) #[] #[.pointer (some ⟨bA, 0, none⟩)], rfl, List.mem_append_left _ (List.mem_append_right _ (List.mem_cons_self ..)), by unfold RestOk; rw [if_pos (by omega)]; exact ⟨bA, rfl, List.mem_append_right _ (List.mem_cons_self ..)⟩⟩ : KOk _ 4 _)
  obtain ⟨es, N, hS, hK⟩ : ∃ es N, St w (Own.ob b (.map es 4) :: N) W ∧ KIs es N 4 := ⟨_, _, hS, hK⟩
  -- scan
  refine kCallV_i (Tryz.call62 _ _) (plist66 58 W _ fun W hB => ?_)
  have hS := hS.bel hB
  refine kBS (xE70 W) hS [partV (plist 58)] rfl rfl (by omega) (by omega) (by simp [partV, Value.cells]) fun a cp W hS _ => ?_
  refine kBuild_i (builtK _ _ _ _ _ _) (kUpd_st hS 0 rfl Tryz.underlying68 Tryz.underlying33 rfl (hK.none (z := 5) (by decide)) fun W hS => ?_)
  have hS : St w (Own.ob b (.map (es.push _) 5) :: (N ++ [Own.row (.slice a 1 cp) 77 4 1 (flat [partV (plist 58)])])) W := hS
  have hK := hK.step (N' := N ++ [Own.row (.slice a 1 cp) 77 4 1 (flat [partV (plist 58)])]) (key := .int .i64 5) (born := 4) (fun o ho => List.mem_append_left _ ho) rfl (⟨a, cp, _, rfl, List.mem_append_right _ (List.mem_cons_self ..), by unfold RestOk; rw [if_neg (by omega)]; rfl⟩ : KOk _ 5 (.agg #[.string _, .slice a _ cp, .func (.func 71) #[] #[]]))
  obtain ⟨es, N, hS, hK⟩ : ∃ es N, St w (Own.ob b (.map es 5) :: N) W ∧ KIs es N 5 := ⟨_, _, hS, hK⟩
  -- first
  refine kCallV_i (Tryz.call62 _ _) (plist66 58 W _ fun W hB => ?_)
  have hS := hS.bel hB
  refine kCallV_i (Tryz.call65 _ _) (pjump69 59 W _ fun W hB => ?_)
  have hS := hS.bel hB
  refine kBS (xE70 W) hS [partV (plist 58), partV (pjump 59)] rfl rfl (by omega) (by omega) (by simp [partV, Value.cells]) fun a cp W hS _ => ?_
  refine kBuild_i (builtK _ _ _ _ _ _) (kUpd_st hS 0 rfl Tryz.underlying68 Tryz.underlying33 rfl (hK.none (z := 6) (by decide)) fun W hS => ?_)
  have hS : St w (Own.ob b (.map (es.push _) 6) :: (N ++ [Own.row (.slice a 2 cp) 77 4 2 (flat [partV (plist 58), partV (pjump 59)])])) W := hS
  have hK := hK.step (N' := N ++ [Own.row (.slice a 2 cp) 77 4 2 (flat [partV (plist 58), partV (pjump 59)])]) (key := .int .i64 6) (born := 5) (fun o ho => List.mem_append_left _ ho) rfl (⟨a, cp, _, rfl, List.mem_append_right _ (List.mem_cons_self ..), by unfold RestOk; rw [if_neg (by omega)]; rfl⟩ : KOk _ 6 (.agg #[.string _, .slice a _ cp, .func (.func 67) #[] #[]]))
  obtain ⟨es, N, hS, hK⟩ : ∃ es N, St w (Own.ob b (.map es 6) :: N) W ∧ KIs es N 6 := ⟨_, _, hS, hK⟩
  -- next
  refine kCallV_i (Tryz.call62 _ _) (plist66 58 W _ fun W hB => ?_)
  have hS := hS.bel hB
  refine kCallV_i (Tryz.call65 _ _) (pjump69 59 W _ fun W hB => ?_)
  have hS := hS.bel hB
  refine kBS (xE70 W) hS [partV (plist 58), partV (pjump 59)] rfl rfl (by omega) (by omega) (by simp [partV, Value.cells]) fun a cp W hS _ => ?_
  refine kBuild_i (builtK _ _ _ _ _ _) (kUpd_st hS 0 rfl Tryz.underlying68 Tryz.underlying33 rfl (hK.none (z := 7) (by decide)) fun W hS => ?_)
  have hS : St w (Own.ob b (.map (es.push _) 7) :: (N ++ [Own.row (.slice a 2 cp) 77 4 2 (flat [partV (plist 58), partV (pjump 59)])])) W := hS
  have hK := hK.step (N' := N ++ [Own.row (.slice a 2 cp) 77 4 2 (flat [partV (plist 58), partV (pjump 59)])]) (key := .int .i64 7) (born := 6) (fun o ho => List.mem_append_left _ ho) rfl (⟨a, cp, _, rfl, List.mem_append_right _ (List.mem_cons_self ..), by unfold RestOk; rw [if_neg (by omega)]; rfl⟩ : KOk _ 7 (.agg #[.string _, .slice a _ cp, .func (.func 67) #[] #[]]))
  obtain ⟨es, N, hS, hK⟩ : ∃ es N, St w (Own.ob b (.map es 7) :: N) W ∧ KIs es N 7 := ⟨_, _, hS, hK⟩
  -- field
  refine kCallV_i (Tryz.call61 _ _) (preg65 58 W _ fun W hB => ?_)
  have hS := hS.bel hB
  refine kCallV_i (Tryz.call62 _ _) (plist66 59 W _ fun W hB => ?_)
  have hS := hS.bel hB
  refine kCallV_i (Tryz.call64 _ _) (pnumber68 60 W _ fun W hB => ?_)
  have hS := hS.bel hB
  refine kBS (xE70 W) hS [partV (preg 58), partV (plist 59), partV (pnumber 60)] rfl rfl (by omega) (by omega) (by simp [partV, Value.cells]) fun a cp W hS _ => ?_
  refine kBuild_i (builtK _ _ _ _ _ _) (kUpd_st hS 0 rfl Tryz.underlying68 Tryz.underlying33 rfl (hK.none (z := 8) (by decide)) fun W hS => ?_)
  have hS : St w (Own.ob b (.map (es.push _) 8) :: (N ++ [Own.row (.slice a 3 cp) 77 4 3 (flat [partV (preg 58), partV (plist 59), partV (pnumber 60)])])) W := hS
  have hK := hK.step (N' := N ++ [Own.row (.slice a 3 cp) 77 4 3 (flat [partV (preg 58), partV (plist 59), partV (pnumber 60)])]) (key := .int .i64 8) (born := 7) (fun o ho => List.mem_append_left _ ho) rfl (⟨a, cp, _, rfl, List.mem_append_right _ (List.mem_cons_self ..), by unfold RestOk; rw [if_neg (by omega)]; rfl⟩ : KOk _ 8 (.agg #[.string _, .slice a _ cp, .func (.func 67) #[] #[]]))
  obtain ⟨es, N, hS, hK⟩ : ∃ es N, St w (Own.ob b (.map es 8) :: N) W ∧ KIs es N 8 := ⟨_, _, hS, hK⟩
  -- if
  refine kCallV_i (Tryz.call61 _ _) (preg65 58 W _ fun W hB => ?_)
  have hS := hS.bel hB
  refine kCallV_i (Tryz.call65 _ _) (pjump69 59 W _ fun W hB => ?_)
  have hS := hS.bel hB
  refine kBS (xE70 W) hS [partV (preg 58), partV (pjump 59)] rfl rfl (by omega) (by omega) (by simp [partV, Value.cells]) fun a cp W hS _ => ?_
  refine kBuild_i (builtK _ _ _ _ _ _) (kUpd_st hS 0 rfl Tryz.underlying68 Tryz.underlying33 rfl (hK.none (z := 9) (by decide)) fun W hS => ?_)
  have hS : St w (Own.ob b (.map (es.push _) 9) :: (N ++ [Own.row (.slice a 2 cp) 77 4 2 (flat [partV (preg 58), partV (pjump 59)])])) W := hS
  have hK := hK.step (N' := N ++ [Own.row (.slice a 2 cp) 77 4 2 (flat [partV (preg 58), partV (pjump 59)])]) (key := .int .i64 9) (born := 8) (fun o ho => List.mem_append_left _ ho) rfl (⟨a, cp, _, rfl, List.mem_append_right _ (List.mem_cons_self ..), by unfold RestOk; rw [if_neg (by omega)]; rfl⟩ : KOk _ 9 (.agg #[.string _, .slice a _ cp, .func (.func 67) #[] #[]]))
  obtain ⟨es, N, hS, hK⟩ : ∃ es N, St w (Own.ob b (.map es 9) :: N) W ∧ KIs es N 9 := ⟨_, _, hS, hK⟩
  -- jump
  refine kCallV_i (Tryz.call65 _ _) (pjump69 59 W _ fun W hB => ?_)
  have hS := hS.bel hB
  refine kBS (xE70 W) hS [partV (pjump 59)] rfl rfl (by omega) (by omega) (by simp [partV, Value.cells]) fun a cp W hS _ => ?_
  refine kBuild_i (builtK _ _ _ _ _ _) (kUpd_st hS 0 rfl Tryz.underlying68 Tryz.underlying33 rfl (hK.none (z := 10) (by decide)) fun W hS => ?_)
  have hS : St w (Own.ob b (.map (es.push _) 10) :: (N ++ [Own.row (.slice a 1 cp) 77 4 1 (flat [partV (pjump 59)])])) W := hS
  have hK := hK.step (N' := N ++ [Own.row (.slice a 1 cp) 77 4 1 (flat [partV (pjump 59)])]) (key := .int .i64 10) (born := 9) (fun o ho => List.mem_append_left _ ho) rfl (⟨a, cp, _, rfl, List.mem_append_right _ (List.mem_cons_self ..), by unfold RestOk; rw [if_neg (by omega)]; rfl⟩ : KOk _ 10 (.agg #[.string _, .slice a _ cp, .func (.func 67) #[] #[]]))
  obtain ⟨es, N, hS, hK⟩ : ∃ es N, St w (Own.ob b (.map es 10) :: N) W ∧ KIs es N 10 := ⟨_, _, hS, hK⟩
  -- row
  refine kCallV_i (Tryz.call62 _ _) (plist66 58 W _ fun W hB => ?_)
  have hS := hS.bel hB
  refine kBS (xE70 W) hS [partV (plist 58)] rfl rfl (by omega) (by omega) (by simp [partV, Value.cells]) fun a cp W hS _ => ?_
  refine kCall_i (Tryz.call70 _ _) (args74 _ W _ fun bA W hSA => ?_)
  have hS := hS.join hSA
  refine kBuild_i (builtK _ _ _ _ _ _) (kUpd_st hS 0 rfl Tryz.underlying68 Tryz.underlying33 rfl (hK.none (z := 11) (by decide)) fun W hS => ?_)
  have hS : St w (Own.ob b (.map (es.push _) 11) :: (N ++ [Own.row (.slice a 1 cp) 77 4 1 (flat [partV (plist 58)])] ++ [Own.bx bA 3 #[.int .i64 0]])) W := hS
  have hK := hK.step (N' := N ++ [Own.row (.slice a 1 cp) 77 4 1 (flat [partV (plist 58)])] ++ [Own.bx bA 3 #[.int .i64 0]]) (key := .int .i64 11) (born := 10) (fun o ho => List.mem_append_left _ (List.mem_append_left _ ho)) rfl (⟨a, cp, .func (.func 105) #[] #[.pointer (some ⟨bA, 0, none⟩)], rfl, List.mem_append_left _ (List.mem_append_right _ (List.mem_cons_self ..)), by unfold RestOk; rw [if_pos (by omega)]; exact ⟨bA, rfl, List.mem_append_right _ (List.mem_cons_self ..)⟩⟩ : KOk _ 11 _)
  obtain ⟨es, N, hS, hK⟩ : ∃ es N, St w (Own.ob b (.map es 11) :: N) W ∧ KIs es N 11 := ⟨_, _, hS, hK⟩
  -- looks
  refine kCallV_i (Tryz.call62 _ _) (plist66 58 W _ fun W hB => ?_)
  have hS := hS.bel hB
  refine kCallV_i (Tryz.call62 _ _) (plist66 59 W _ fun W hB => ?_)
  have hS := hS.bel hB
  refine kBS (xE70 W) hS [partV (plist 58), partV (plist 59)] rfl rfl (by omega) (by omega) (by simp [partV, Value.cells]) fun a cp W hS _ => ?_
  refine kBuild_i (builtK _ _ _ _ _ _) (kUpd_st hS 0 rfl Tryz.underlying68 Tryz.underlying33 rfl (hK.none (z := 12) (by decide)) fun W hS => ?_)
  have hS : St w (Own.ob b (.map (es.push _) 12) :: (N ++ [Own.row (.slice a 2 cp) 77 4 2 (flat [partV (plist 58), partV (plist 59)])])) W := hS
  have hK := hK.step (N' := N ++ [Own.row (.slice a 2 cp) 77 4 2 (flat [partV (plist 58), partV (plist 59)])]) (key := .int .i64 12) (born := 11) (fun o ho => List.mem_append_left _ ho) rfl (⟨a, cp, _, rfl, List.mem_append_right _ (List.mem_cons_self ..), by unfold RestOk; rw [if_neg (by omega)]; rfl⟩ : KOk _ 12 (.agg #[.string _, .slice a _ cp, .func (.func 67) #[] #[]]))
  obtain ⟨es, N, hS, hK⟩ : ∃ es N, St w (Own.ob b (.map es 12) :: N) W ∧ KIs es N 12 := ⟨_, _, hS, hK⟩
  -- sum
  refine kCallV_i (Tryz.call63 _ _) (ptotal67 58 W _ fun W hB => ?_)
  have hS := hS.bel hB
  refine kBS (xE70 W) hS [partV (ptotal 58)] rfl rfl (by omega) (by omega) (by simp [partV, Value.cells]) fun a cp W hS _ => ?_
  refine kBuild_i (builtK _ _ _ _ _ _) (kUpd_st hS 0 rfl Tryz.underlying68 Tryz.underlying33 rfl (hK.none (z := 13) (by decide)) fun W hS => ?_)
  have hS : St w (Own.ob b (.map (es.push _) 13) :: (N ++ [Own.row (.slice a 1 cp) 77 4 1 (flat [partV (ptotal 58)])])) W := hS
  have hK := hK.step (N' := N ++ [Own.row (.slice a 1 cp) 77 4 1 (flat [partV (ptotal 58)])]) (key := .int .i64 13) (born := 12) (fun o ho => List.mem_append_left _ ho) rfl (⟨a, cp, _, rfl, List.mem_append_right _ (List.mem_cons_self ..), by unfold RestOk; rw [if_neg (by omega)]; rfl⟩ : KOk _ 13 (.agg #[.string _, .slice a _ cp, .func (.func 72) #[] #[]]))
  obtain ⟨es, N, hS, hK⟩ : ∃ es N, St w (Own.ob b (.map es 13) :: N) W ∧ KIs es N 13 := ⟨_, _, hS, hK⟩
  -- add
  refine kCallV_i (Tryz.call63 _ _) (ptotal67 58 W _ fun W hB => ?_)
  have hS := hS.bel hB
  refine kCallV_i (Tryz.call61 _ _) (preg65 59 W _ fun W hB => ?_)
  have hS := hS.bel hB
  refine kBS (xE70 W) hS [partV (ptotal 58), partV (preg 59)] rfl rfl (by omega) (by omega) (by simp [partV, Value.cells]) fun a cp W hS _ => ?_
  refine kBuild_i (builtK _ _ _ _ _ _) (kUpd_st hS 0 rfl Tryz.underlying68 Tryz.underlying33 rfl (hK.none (z := 14) (by decide)) fun W hS => ?_)
  have hS : St w (Own.ob b (.map (es.push _) 14) :: (N ++ [Own.row (.slice a 2 cp) 77 4 2 (flat [partV (ptotal 58), partV (preg 59)])])) W := hS
  have hK := hK.step (N' := N ++ [Own.row (.slice a 2 cp) 77 4 2 (flat [partV (ptotal 58), partV (preg 59)])]) (key := .int .i64 14) (born := 13) (fun o ho => List.mem_append_left _ ho) rfl (⟨a, cp, _, rfl, List.mem_append_right _ (List.mem_cons_self ..), by unfold RestOk; rw [if_neg (by omega)]; rfl⟩ : KOk _ 14 (.agg #[.string _, .slice a _ cp, .func (.func 67) #[] #[]]))
  obtain ⟨es, N, hS, hK⟩ : ∃ es N, St w (Own.ob b (.map es 14) :: N) W ∧ KIs es N 14 := ⟨_, _, hS, hK⟩
  -- total
  refine kCallV_i (Tryz.call61 _ _) (preg65 58 W _ fun W hB => ?_)
  have hS := hS.bel hB
  refine kCallV_i (Tryz.call63 _ _) (ptotal67 59 W _ fun W hB => ?_)
  have hS := hS.bel hB
  refine kBS (xE70 W) hS [partV (preg 58), partV (ptotal 59)] rfl rfl (by omega) (by omega) (by simp [partV, Value.cells]) fun a cp W hS _ => ?_
  refine kBuild_i (builtK _ _ _ _ _ _) (kUpd_st hS 0 rfl Tryz.underlying68 Tryz.underlying33 rfl (hK.none (z := 15) (by decide)) fun W hS => ?_)
  have hS : St w (Own.ob b (.map (es.push _) 15) :: (N ++ [Own.row (.slice a 2 cp) 77 4 2 (flat [partV (preg 58), partV (ptotal 59)])])) W := hS
  have hK := hK.step (N' := N ++ [Own.row (.slice a 2 cp) 77 4 2 (flat [partV (preg 58), partV (ptotal 59)])]) (key := .int .i64 15) (born := 14) (fun o ho => List.mem_append_left _ ho) rfl (⟨a, cp, _, rfl, List.mem_append_right _ (List.mem_cons_self ..), by unfold RestOk; rw [if_neg (by omega)]; rfl⟩ : KOk _ 15 (.agg #[.string _, .slice a _ cp, .func (.func 67) #[] #[]]))
  obtain ⟨es, N, hS, hK⟩ : ∃ es N, St w (Own.ob b (.map es 15) :: N) W ∧ KIs es N 15 := ⟨_, _, hS, hK⟩
  -- groups
  refine kCallV_i (Tryz.call62 _ _) (plist66 58 W _ fun W hB => ?_)
  have hS := hS.bel hB
  refine kCallV_i (Tryz.call64 _ _) (pnumber68 60 W _ fun W hB => ?_)
  have hS := hS.bel hB
  refine kBS (xE70 W) hS [partV (plist 58), partV (pnumber 60)] rfl rfl (by omega) (by omega) (by simp [partV, Value.cells]) fun a cp W hS _ => ?_
  refine kBuild_i (builtK _ _ _ _ _ _) (kUpd_st hS 0 rfl Tryz.underlying68 Tryz.underlying33 rfl (hK.none (z := 16) (by decide)) fun W hS => ?_)
  have hS : St w (Own.ob b (.map (es.push _) 16) :: (N ++ [Own.row (.slice a 2 cp) 77 4 2 (flat [partV (plist 58), partV (pnumber 60)])])) W := hS
  have hK := hK.step (N' := N ++ [Own.row (.slice a 2 cp) 77 4 2 (flat [partV (plist 58), partV (pnumber 60)])]) (key := .int .i64 16) (born := 15) (fun o ho => List.mem_append_left _ ho) rfl (⟨a, cp, _, rfl, List.mem_append_right _ (List.mem_cons_self ..), by unfold RestOk; rw [if_neg (by omega)]; rfl⟩ : KOk _ 16 (.agg #[.string _, .slice a _ cp, .func (.func 67) #[] #[]]))
  obtain ⟨es, N, hS, hK⟩ : ∃ es N, St w (Own.ob b (.map es 16) :: N) W ∧ KIs es N 16 := ⟨_, _, hS, hK⟩
  -- take
  refine kCallV_i (Tryz.call62 _ _) (plist66 58 W _ fun W hB => ?_)
  have hS := hS.bel hB
  refine kCallV_i (Tryz.call62 _ _) (plist66 59 W _ fun W hB => ?_)
  have hS := hS.bel hB
  refine kCallV_i (Tryz.call65 _ _) (pjump69 60 W _ fun W hB => ?_)
  have hS := hS.bel hB
  refine kBS (xE70 W) hS [partV (plist 58), partV (plist 59), partV (pjump 60)] rfl rfl (by omega) (by omega) (by simp [partV, Value.cells]) fun a cp W hS _ => ?_
  refine kBuild_i (builtK _ _ _ _ _ _) (kUpd_st hS 0 rfl Tryz.underlying68 Tryz.underlying33 rfl (hK.none (z := 17) (by decide)) fun W hS => ?_)
  have hS : St w (Own.ob b (.map (es.push _) 17) :: (N ++ [Own.row (.slice a 3 cp) 77 4 3 (flat [partV (plist 58), partV (plist 59), partV (pjump 60)])])) W := hS
  have hK := hK.step (N' := N ++ [Own.row (.slice a 3 cp) 77 4 3 (flat [partV (plist 58), partV (plist 59), partV (pjump 60)])]) (key := .int .i64 17) (born := 16) (fun o ho => List.mem_append_left _ ho) rfl (⟨a, cp, _, rfl, List.mem_append_right _ (List.mem_cons_self ..), by unfold RestOk; rw [if_neg (by omega)]; rfl⟩ : KOk _ 17 (.agg #[.string _, .slice a _ cp, .func (.func 67) #[] #[]]))
  obtain ⟨es, N, hS, hK⟩ : ∃ es N, St w (Own.ob b (.map es 17) :: N) W ∧ KIs es N 17 := ⟨_, _, hS, hK⟩
  -- once
  refine kCallV_i (Tryz.call62 _ _) (plist66 58 W _ fun W hB => ?_)
  have hS := hS.bel hB
  refine kCallV_i (Tryz.call64 _ _) (pnumber68 59 W _ fun W hB => ?_)
  have hS := hS.bel hB
  refine kBS (xE70 W) hS [partV (plist 58), partV (pnumber 59)] rfl rfl (by omega) (by omega) (by simp [partV, Value.cells]) fun a cp W hS _ => ?_
  refine kBuild_i (builtK _ _ _ _ _ _) (kUpd_st hS 0 rfl Tryz.underlying68 Tryz.underlying33 rfl (hK.none (z := 18) (by decide)) fun W hS => ?_)
  have hS : St w (Own.ob b (.map (es.push _) 18) :: (N ++ [Own.row (.slice a 2 cp) 77 4 2 (flat [partV (plist 58), partV (pnumber 59)])])) W := hS
  have hK := hK.step (N' := N ++ [Own.row (.slice a 2 cp) 77 4 2 (flat [partV (plist 58), partV (pnumber 59)])]) (key := .int .i64 18) (born := 17) (fun o ho => List.mem_append_left _ ho) rfl (⟨a, cp, _, rfl, List.mem_append_right _ (List.mem_cons_self ..), by unfold RestOk; rw [if_neg (by omega)]; rfl⟩ : KOk _ 18 (.agg #[.string _, .slice a _ cp, .func (.func 67) #[] #[]]))
  obtain ⟨es, N, hS, hK⟩ : ∃ es N, St w (Own.ob b (.map es 18) :: N) W ∧ KIs es N 18 := ⟨_, _, hS, hK⟩
  -- sort
  refine kCallV_i (Tryz.call62 _ _) (plist66 58 W _ fun W hB => ?_)
  have hS := hS.bel hB
  refine kCallV_i (Tryz.call64 _ _) (pnumber68 59 W _ fun W hB => ?_)
  have hS := hS.bel hB
  refine kBS (xE70 W) hS [partV (plist 58), partV (pnumber 59)] rfl rfl (by omega) (by omega) (by simp [partV, Value.cells]) fun a cp W hS _ => ?_
  refine kBuild_i (builtK _ _ _ _ _ _) (kUpd_st hS 0 rfl Tryz.underlying68 Tryz.underlying33 rfl (hK.none (z := 19) (by decide)) fun W hS => ?_)
  have hS : St w (Own.ob b (.map (es.push _) 19) :: (N ++ [Own.row (.slice a 2 cp) 77 4 2 (flat [partV (plist 58), partV (pnumber 59)])])) W := hS
  have hK := hK.step (N' := N ++ [Own.row (.slice a 2 cp) 77 4 2 (flat [partV (plist 58), partV (pnumber 59)])]) (key := .int .i64 19) (born := 18) (fun o ho => List.mem_append_left _ ho) rfl (⟨a, cp, _, rfl, List.mem_append_right _ (List.mem_cons_self ..), by unfold RestOk; rw [if_neg (by omega)]; rfl⟩ : KOk _ 19 (.agg #[.string _, .slice a _ cp, .func (.func 73) #[] #[]]))
  obtain ⟨es, N, hS, hK⟩ : ∃ es N, St w (Own.ob b (.map es 19) :: N) W ∧ KIs es N 19 := ⟨_, _, hS, hK⟩
  -- cut
  refine kCallV_i (Tryz.call62 _ _) (plist66 58 W _ fun W hB => ?_)
  have hS := hS.bel hB
  refine kCallV_i (Tryz.call66 _ _) (pbound70 59 W _ fun W hB => ?_)
  have hS := hS.bel hB
  refine kCallV_i (Tryz.call64 _ _) (pnumber68 60 W _ fun W hB => ?_)
  have hS := hS.bel hB
  refine kBS (xE70 W) hS [partV (plist 58), partV (pbound 59), partV (pnumber 60)] rfl rfl (by omega) (by omega) (by simp [partV, Value.cells]) fun a cp W hS _ => ?_
  refine kBuild_i (builtK _ _ _ _ _ _) (kUpd_st hS 0 rfl Tryz.underlying68 Tryz.underlying33 rfl (hK.none (z := 20) (by decide)) fun W hS => ?_)
  have hS : St w (Own.ob b (.map (es.push _) 20) :: (N ++ [Own.row (.slice a 3 cp) 77 4 3 (flat [partV (plist 58), partV (pbound 59), partV (pnumber 60)])])) W := hS
  have hK := hK.step (N' := N ++ [Own.row (.slice a 3 cp) 77 4 3 (flat [partV (plist 58), partV (pbound 59), partV (pnumber 60)])]) (key := .int .i64 20) (born := 19) (fun o ho => List.mem_append_left _ ho) rfl (⟨a, cp, _, rfl, List.mem_append_right _ (List.mem_cons_self ..), by unfold RestOk; rw [if_neg (by omega)]; rfl⟩ : KOk _ 20 (.agg #[.string _, .slice a _ cp, .func (.func 67) #[] #[]]))
  obtain ⟨es, N, hS, hK⟩ : ∃ es N, St w (Own.ob b (.map es 20) :: N) W ∧ KIs es N 20 := ⟨_, _, hS, hK⟩
  -- give
  refine kCallV_i (Tryz.call62 _ _) (plist66 58 W _ fun W hB => ?_)
  have hS := hS.bel hB
  refine kBS (xE70 W) hS [partV (plist 58)] rfl rfl (by omega) (by omega) (by simp [partV, Value.cells]) fun a cp W hS _ => ?_
  refine kBuild_i (builtK _ _ _ _ _ _) (kUpd_st hS 0 rfl Tryz.underlying68 Tryz.underlying33 rfl (hK.none (z := 21) (by decide)) fun W hS => ?_)
  have hS : St w (Own.ob b (.map (es.push _) 21) :: (N ++ [Own.row (.slice a 1 cp) 77 4 1 (flat [partV (plist 58)])])) W := hS
  have hK := hK.step (N' := N ++ [Own.row (.slice a 1 cp) 77 4 1 (flat [partV (plist 58)])]) (key := .int .i64 21) (born := 20) (fun o ho => List.mem_append_left _ ho) rfl (⟨a, cp, _, rfl, List.mem_append_right _ (List.mem_cons_self ..), by unfold RestOk; rw [if_neg (by omega)]; rfl⟩ : KOk _ 21 (.agg #[.string _, .slice a _ cp, .func (.func 67) #[] #[]]))
  obtain ⟨es, N, hS, hK⟩ : ∃ es N, St w (Own.ob b (.map es 21) :: N) W ∧ KIs es N 21 := ⟨_, _, hS, hK⟩
  exact h b _ _ _ hS hK
end Go.L
namespace Go.L
open Go Go.RowKit Go.Proofs
set_option linter.unusedSimpArgs false
set_option linter.unusedVariables false

/-- An instruction. -/
structure IN where
  k : Int
  a : Int
  b : Int
  c : Int
  o : Int
  v : AV
  nm : ByteArray
  ar : List Int
  deriving DecidableEq
def inV (x : IN) (p : Option Addr) (cp : Nat) : Value := .agg #[.int .i64 x.k, .int .i64 x.a, .int .i64 x.b, .int .i64 x.c, .int .i64 x.o, .int .i64 x.v.1, .int .i64 x.v.2.1, .string x.v.2.2, .string x.nm, .slice p x.ar.length cp]
theorem St.range {w0 w : World} {L : List Own} (hS : St w0 L w) (i : Nat) {b : Nat} {t : TypeId} {cs : Array Value} (hi : L[i]? = some (.bx b t cs)) {off : Nat} {l : List Value} (h : ∀ (j : Nat) (v : Value), l[j]? = some v → cs[off + j]? = some v) : w.rangeAt b off l := fun j v hj => hS.cell i hi _ (h j v hj)
def outOf (a b n : Int) : Bool := decide (n < a) || decide (n > b)
theorem in79 (n a b : Int) (p0 p1 : Nat) (w : World) (h0 : w.cell? ⟨p0, 0, none⟩ = some (.int .i64 a)) (h1 : w.cell? ⟨p1, 0, none⟩ = some (.int .i64 b)) (R : Ending → World → Prop) (h : R (.returned (.bool (outOf a b n))) w) : Calls Tryz.prog 84 #[.int .i64 n, .pointer (some ⟨p0, 0, none⟩), .pointer (some ⟨p1, 0, none⟩)] w R := by
  refine c84 _ _ _ _ _ ?_
  unfold vc84
  unfold outOf at h
  refine kLdS rfl h0 (kBin_lss (kIf_d (fun q => ?_) (fun q => kLdS rfl h1 (kBin_gtr ?_))))
  · rw [decide_eq_true q, Bool.true_or] at h; exact h
  · rw [decide_eq_false q, Bool.false_or] at h; exact h
def allIn (a b : Int) (l : List Int) : Bool := l.all (fun n => !outOf a b n)
theorem index103 (l : List Int) (a b : Int) (p0 p1 : Nat) (w : World) (lo : Option Addr) (lc : Nat) (hl : Sl w lo 1 (l.map vInt)) (hsm : l.length ≤ 1000000) (h0 : w.cell? ⟨p0, 0, none⟩ = some (.int .i64 a)) (h1 : w.cell? ⟨p1, 0, none⟩ = some (.int .i64 b)) (R : Ending → World → Prop)
    (h : ∀ z : Int, (decide (z ≥ 0) = !allIn a b l) → R (.returned (.int .i64 z)) w) : Calls Tryz.prog 122 #[.slice lo l.length lc, .func (.func 84) #[] #[.pointer (some ⟨p0, 0, none⟩), .pointer (some ⟨p1, 0, none⟩)]] w R := by
  refine c122 _ _ _ _ _ _ ?_
  unfold vc122
  refine xLen60 ⟨⟨fun cs V => ∃ i : Nat, cs = [.int .i64 i] ∧ i ≤ l.length ∧ V = w ∧ allIn a b (l.take i) = true, fun cs _ => l.length - (match cs with | [.int _ i] => i.toNat | _ => 0), ⟨0, rfl, Nat.zero_le _, rfl, rfl⟩, ?_⟩⟩
  rintro cs ds V ⟨i, rfl, hi, rfl, hall⟩
  dsimp only [List.getD_cons_zero]
  refine kBin_lss (kIf_d (fun e => ?_) (fun e => ?_))
  · have hil : i < l.length := by omega
    obtain ⟨pb, po, rfl, hpb, hpr⟩ := hl.elem (i := i) (v := vInt l[i]) (by simp [hil])
    refine xIa60 hil (kLdS rfl (hpr 0 (.int .i64 l[i]) rfl) (kCallV_i (Tryz.call84 _ _) (in79 _ a b p0 p1 V h0 h1 _ (kIf_b (fun q => h i ?_) (fun q => kBin_add (kD_i ⟨⟨i + 1, ?_, hil, rfl, ?_⟩, ?_⟩))))))
    · have hno : allIn a b l = false := by
        unfold allIn
        rw [List.all_eq_false]
        exact ⟨l[i], List.getElem_mem hil, by simp [q]⟩
      rw [hno]; simp
    · rw [wrap_id (by omega) (by omega)]; rfl
    · rw [List.take_succ_eq_append_getElem hil]
      unfold allIn at hall ⊢
      rw [List.all_append, hall]; simp [q]
    · rw [wrap_id (by omega) (by omega)]; show l.length - ((i : Int) + 1).toNat < l.length - (i : Int).toNat; omega
  · have : i = l.length := by omega
    rw [this, List.take_length] at hall
    exact h (-1) (by rw [hall]; rfl)
theorem in39 (a b : Int) (l : List Int) (w : World) (lo : Option Addr) (lc : Nat) (hl : Sl w lo 1 (l.map vInt)) (hsm : l.length ≤ 1000000) (R : Ending → World → Prop)
    (h : ∀ W, Below w.heap.size w W → R (.returned (.bool (allIn a b l))) W) : Calls Tryz.prog 36 #[.int .i64 a, .int .i64 b, .slice lo l.length lc] w R := by
  refine c36 _ _ _ _ _ _ _ ?_
  unfold vc36
  refine kBox_st (St.start w) fun b0 W hS => kBox_st hS fun b1 W hS => ?_
  have hS : St w [.bx b0 3 #[.int .i64 a], .bx b1 3 #[.int .i64 b]] W := hS
  refine kCall_i (Tryz.call83 _ _) ?_
  refine c83 _ _ _ _ _ _ ?_
  unfold vc83
  refine kCall_i (Tryz.call122 _ _) (index103 l a b b0 b1 W lo lc (hl.below hS.below) hsm (hS.cell 0 rfl 0 rfl) (hS.cell 1 rfl 0 rfl) _ fun z hz => kBin_geq ?_)
  have := h W hS.below
  rw [hz]
  refine kUn_not ?_
  rw [Bool.not_not]; exact this
theorem Equal80 (a b : List Int) (w : World) (ao bo : Option Addr) (ac bc : Nat) (ha : Sl w ao 1 (a.map vInt)) (hb : Sl w bo 1 (b.map vInt)) (hal : a.length ≤ 9223372036854775806) (R : Ending → World → Prop)
    (h : ∀ W, Below w.heap.size w W → R (.returned (.bool (decide (a = b)))) W) : Calls Tryz.prog 85 #[.slice ao a.length ac, .slice bo b.length bc] w R := by
  refine c85 _ _ _ _ _ _ _ _ ?_
  unfold vc85
  refine xLen60 (xLen60 (kNe_int (kIf_ne (fun q => ?_) (fun q => ?_))))
  · have := h w (Below.refl _ _)
    rw [decide_eq_false (fun e => q (by rw [e]))] at this; exact this
  have hlen : a.length = b.length := by omega
  refine xLen60 ⟨⟨fun cs V => ∃ i : Nat, cs = [.int .i64 i] ∧ i ≤ a.length ∧ Below w.heap.size w V ∧ a.take i = b.take i, fun cs _ => a.length - (match cs with | [.int _ i] => i.toNat | _ => 0), ⟨0, rfl, Nat.zero_le _, Below.refl _ _, rfl⟩, ?_⟩⟩
  rintro cs ds V ⟨i, rfl, hi, hBV, heq⟩
  dsimp only [List.getD_cons_zero]
  refine kBin_lss (kIf_d (fun e => ?_) (fun e => ?_))
  · have hil : i < a.length := by omega
    have hil' : i < b.length := by omega
    obtain ⟨pb, po, rfl, hpb, hpr⟩ := (ha.below hBV).elem (i := i) (v := vInt a[i]) (by simp [hil])
    obtain ⟨qb, qo, rfl, hqb, hqr⟩ := (hb.below hBV).elem (i := i) (v := vInt b[i]) (by simp [hil'])
    have hSV := (St.start w).bel hBV
    refine kDrawn_i (xIa60 hil (kLdS rfl (hpr 0 (.int .i64 a[i]) rfl) (xIa60 hil' (kLdS rfl (hqr 0 (.int .i64 b[i]) rfl) (kNe_int (kDrew_st hSV fun V2 hS2 => kIf_ne (fun q => ?_) (fun q => kBin_add (kD_i ⟨⟨i + 1, ?_, hil, hS2.below, ?_⟩, ?_⟩))))))))
    · have := h V2 hS2.below
      rw [decide_eq_false (fun e => q (by subst e; rfl))] at this; exact this
    · rw [wrap_id (by omega) (by omega)]; rfl
    · rw [List.take_succ_eq_append_getElem hil, List.take_succ_eq_append_getElem hil', heq, q]
    · rw [wrap_id (by omega) (by omega)]; show a.length - ((i : Int) + 1).toNat < a.length - (i : Int).toNat; omega
  · have hi' : i = a.length := by omega
    rw [hi', List.take_length, hlen, List.take_length] at heq
    have := h V hBV
    rw [decide_eq_true heq] at this; exact this
end Go.L
namespace Go.L
open Go Go.RowKit Go.Proofs
set_option linter.unusedSimpArgs false
set_option linter.unusedVariables false

theorem eq129 (a b : Int × Int × Int) (ox oy : Operand) (w : World) : (do eqGuard .eql 138 ox oy (.agg #[.int .i64 a.1, .int .i64 a.2.1, .int .i64 a.2.2]) (.agg #[.int .i64 b.1, .int .i64 b.2.1, .int .i64 b.2.2]); binOp .eql 138 (.agg #[.int .i64 a.1, .int .i64 a.2.1, .int .i64 a.2.2]) (.agg #[.int .i64 b.1, .int .i64 b.2.1, .int .i64 b.2.2]) : Sem Value).run Tryz.prog w = .ok (.bool (decide (a = b))) w := by
  obtain ⟨a1, a2, a3⟩ := a
  obtain ⟨b1, b2, b3⟩ := b
  have hA : ∀ xs ys, (Op.equalIn 10000 138 (.agg xs) (.agg ys)).run Tryz.prog w = (Op.eqItems 9999 3 1 xs ys [0, 1, 2]).run Tryz.prog w := fun xs ys => by
    have := run_equalIn_array (w := w) (P := Tryz.prog) 9999 xs ys Tryz.underlying138 (info_of (Tryz.typeInfo3 w))
    have hc : Tryz.prog.cellsOf 3 = 1 := by kernel_rfl
    rw [hc] at this
    exact this
  have hI : ∀ x y : Int, (Op.equalIn 9999 3 (.int .i64 x) (.int .i64 y)).run Tryz.prog w = .ok (x == y) w := fun x y => by
    unfold Op.equalIn
    simp [run_underlying Tryz.underlying3]
  have hP : ∀ (cs : Array Value) (j : Nat) (x : Int), cs[j]? = some (.int .i64 x) → (part 3 cs j).run Tryz.prog w = .ok (.int .i64 x) w := fun cs j x h => run_part_plain w (by kernel_rfl) h
  have e : ∀ (c1 c2 c3 d1 d2 d3 : Int), (Op.eqItems 9999 3 1 #[.int .i64 c1, .int .i64 c2, .int .i64 c3] #[.int .i64 d1, .int .i64 d2, .int .i64 d3] [0, 1, 2]).run Tryz.prog w = .ok (c1 == d1 && (c2 == d2 && c3 == d3)) w := by
    intro c1 c2 c3 d1 d2 d3
    have p0 := hP #[.int .i64 c1, .int .i64 c2, .int .i64 c3] 0 c1 rfl
    have p1 := hP #[.int .i64 c1, .int .i64 c2, .int .i64 c3] 1 c2 rfl
    have p2 := hP #[.int .i64 c1, .int .i64 c2, .int .i64 c3] 2 c3 rfl
    have q0 := hP #[.int .i64 d1, .int .i64 d2, .int .i64 d3] 0 d1 rfl
    have q1 := hP #[.int .i64 d1, .int .i64 d2, .int .i64 d3] 1 d2 rfl
    have q2 := hP #[.int .i64 d1, .int .i64 d2, .int .i64 d3] 2 d3 rfl
    simp [Op.eqItems, p0, p1, p2, q0, q1, q2, hI]
    by_cases h1 : c1 = d1 <;> by_cases h2 : c2 = d2 <;> by_cases h3 : c3 = d3 <;> simp [h1, h2, h3]
  simp [go_sem, Tryz.underlying138, Tryz.eqGuardType138, Tryz.underlying3]
  have e1 := e a1 a2 a3 b1 b2 b3
  rw [← hA] at e1
  by_cases h1 : a1 = b1 <;> by_cases h2 : a2 = b2 <;> by_cases h3 : a3 = b3 <;> simp [h1, h2, h3] at e1 ⊢ <;> rw [e1] <;> simp [h1, h2, h3]
theorem kEq_129 {X : Chain → World → Prop} {w : World} {k : Value → World → Prop} {q : Bool} (a b : Int × Int × Int) {ox oy : Operand} (h : k (.bool (decide (a = b))) w) : kEq ⟨Tryz.prog, X, q⟩ w .eql 138 ox oy (.agg #[.int .i64 a.1, .int .i64 a.2.1, .int .i64 a.2.2]) (.agg #[.int .i64 b.1, .int .i64 b.2.1, .int .i64 b.2.2]) k := ⟨kVal_pure (c := ⟨Tryz.prog, X, q⟩) (fun w' => by exact eq129 a b ox oy w') h⟩
/-- Of an instruction, its args emptied. -/
def inC (x : IN) (p : Option Addr) (n cp : Nat) : Array Value := #[.int .i64 x.k, .int .i64 x.a, .int .i64 x.b, .int .i64 x.c, .int .i64 x.o, .int .i64 x.v.1, .int .i64 x.v.2.1, .string x.v.2.2, .string x.nm, .slice p n cp]
theorem built129 (a b c : Int) : Tryz.prog.built 138 [(0, .int .i64 a), (1, .int .i64 b), (2, .int .i64 c)] = some #[.int .i64 a, .int .i64 b, .int .i64 c] := by kernel_rfl
theorem same40 (x y : IN) (w : World) (p q : Option Addr) (pc qc : Nat) (hx : Sl w p 1 (x.ar.map vInt)) (hy : Sl w q 1 (y.ar.map vInt)) (hxl : x.ar.length ≤ 9223372036854775806) (R : Ending → World → Prop)
    (h : ∀ W, Below w.heap.size w W → R (.returned (.bool (decide (x = y)))) W) : Calls Tryz.prog 37 #[inV x p pc, inV y q qc] w R := by
  have no : ∀ W, Below w.heap.size w W → x ≠ y → R (.returned (.bool false)) W := fun W hB hne => by
    have := h W hB
    rwa [decide_eq_false hne] at this
  refine c37 _ _ _ _ _ _ _ _ _ _ _ _ _ _ _ _ _ _ _ _ _ _ _ _ _ _ ?_
  unfold vc37
  refine kBox_st (St.start w) fun b2 W hS => kBox_st hS fun b3 W hS => kDrawn_i (kDrawn_i ?_)
  have hS : St w [.bx b2 62 (inC x p x.ar.length pc), .bx b3 62 (inC y q y.ar.length qc)] W := hS
  refine kJn_inv (fun cs V => ∃ b5 b6, cs = [inV x p pc, inV y q qc, .pointer (some ⟨b5, 0, none⟩), .pointer (some ⟨b6, 0, none⟩), undef] ∧ St w [.bx b2 62 (inC x p x.ar.length pc), .bx b3 62 (inC y q y.ar.length qc), .bx b5 62 (inC x p x.ar.length pc), .bx b6 62 (inC ⟨0, 0, 0, 0, 0, (0, 0, ⟨#[]⟩), ⟨#[]⟩, []⟩ none 0 0)] V) ?_ ?_
  rotate_left
  · intro J hJ
    refine xLdB62 hS 0 rfl rfl (xLdB62 hS 1 rfl rfl (kBoth_i ?_ ?_))
    · refine kDrew_st hS fun W hS => kAlloc_st Tryz.zeroValue62 hS fun b5 W hS => xLdB62 hS 0 rfl rfl (kSame_i (xLdB62 hS 1 rfl rfl (kSame_i (kDrew_st hS fun W hS => ?_))))
      refine kAlloc_st Tryz.zeroValue62 hS fun b6 W hS => xLdB62 hS 0 rfl rfl (kSame_i (xLdB62 hS 1 rfl rfl (kSame_i (kDrew_st hS fun W hS => ?_))))
      refine kStoreA_st hS 2 rfl rfl (by simp [inC, Value.oneCell']) Tryz.sizeOf62 fun W hS => xLdB62 hS 1 rfl rfl (kSame_i (kDrew_st hS fun W hS => hJ _ _ ⟨b5, b6, rfl, hS⟩))
    · refine kDrew_st hS fun W hS => kAlloc_st Tryz.zeroValue62 hS fun b6 W hS => xLdB62 hS 0 rfl rfl (kSame_i (xLdB62 hS 1 rfl rfl (kSame_i (kDrew_st hS fun W hS => ?_))))
      refine kAlloc_st Tryz.zeroValue62 hS fun b5 W hS => xLdB62 hS 0 rfl rfl (kSame_i (xLdB62 hS 1 rfl rfl (kSame_i (kDrew_st hS fun W hS => ?_))))
      refine kStoreA_st hS 3 rfl rfl (by simp [inC, Value.oneCell']) Tryz.sizeOf62 fun W hS => xLdB62 hS 1 rfl rfl (kSame_i (kDrew_st hS fun W hS => hJ _ _ ⟨b5, b6, rfl, ?_⟩))
      exact hS.perm (List.Perm.cons _ (List.Perm.cons _ (List.Perm.swap _ _ _)))
  rintro cs V ⟨b5, b6, rfl, hS⟩
  try dsimp only [List.getD_cons_zero, List.getD_cons_succ]
  refine kStoreA_st hS 3 rfl rfl (by simp [inC, Value.oneCell']) Tryz.sizeOf62 fun W hS => ?_
  have hS : St w [.bx b2 62 (inC x p x.ar.length pc), .bx b3 62 (inC y q y.ar.length qc), .bx b5 62 (inC x p x.ar.length pc), .bx b6 62 (inC y q y.ar.length qc)] W := hS
  refine xFa62_7 (kSt hS 2 rfl (by simp [inC]) rfl rfl rfl fun W hS => ?_)
  refine xFa62_7 (kSt hS 3 rfl (by simp [inC]) rfl rfl rfl fun W hS => ?_)
  have hS : St w [.bx b2 62 (inC x p x.ar.length pc), .bx b3 62 (inC y q y.ar.length qc), .bx b5 62 (inC x none 0 0), .bx b6 62 (inC y none 0 0)] W := hS
  refine xFa62_1 (kLd hS 2 rfl rfl rfl (xFa62_2 (kLd hS 2 rfl rfl rfl (xFa62_3 (kLd hS 2 rfl rfl rfl (kBuild_i (built129 _ _ _) ?_))))))
  refine xFa62_1 (kLd hS 3 rfl rfl rfl (xFa62_2 (kLd hS 3 rfl rfl rfl (xFa62_3 (kLd hS 3 rfl rfl rfl (kBuild_i (built129 _ _ _) ?_))))))
  refine kEq_129 (x.a, x.b, x.c) (y.a, y.b, y.c) (kIf_d (fun q1 => ?_) (fun q1 => no W hS.below (fun e => q1 (by rw [e]))))
  refine xFa62_0 (kLd hS 2 rfl rfl rfl (xFa62_0 (kLd hS 3 rfl rfl rfl (kEq_int (kIf_eq (fun q2 => ?_) (fun q2 => no W hS.below (fun e => q2 (by rw [e]))))))))
  refine xFa62_4 (kLd hS 2 rfl rfl rfl (xFa62_4 (kLd hS 3 rfl rfl rfl (kEq_int (kIf_eq (fun q3 => ?_) (fun q3 => no W hS.below (fun e => q3 (by rw [e]))))))))
  have rg : ∀ (i b : Nat) (z : IN), [Own.bx b2 62 (inC x p x.ar.length pc), .bx b3 62 (inC y q y.ar.length qc), .bx b5 62 (inC x none 0 0), .bx b6 62 (inC y none 0 0)][i]? = some (.bx b 62 (inC z none 0 0)) → W.rangeAt b (0 + 5) (vVal z.v).cells.toList := fun i b z hi => hS.range i hi fun j v hj => by
    have hj3 : j < 3 := by
      have := (List.getElem?_eq_some_iff.1 hj).1
      simpa [vVal, Value.cells] using this
    match j, hj3 with
    | 0, _ => exact hj
    | 1, _ => exact hj
    | 2, _ => exact hj
  refine xFa62_5 (xLdE59 (rg 2 b5 x rfl) rfl rfl (xFa62_5 (xLdE59 (rg 3 b6 y rfl) rfl rfl (kEq_49 (kIf_d (fun q4 => ?_) (fun q4 => no W hS.below (fun e => q4 (by rw [e]))))))))
  refine xFa62_6 (kLd hS 2 rfl rfl rfl (xFa62_6 (kLd hS 3 rfl rfl rfl (kEq_str (kIf_d (fun q5 => ?_) (fun q5 => no W hS.below (fun e => q5 (by rw [e]))))))))
  refine xFa62_7 (kLd hS 0 rfl rfl rfl (xFa62_7 (kLd hS 1 rfl rfl rfl ?_)))
  refine kCall_i (Tryz.call85 _ _) (Equal80 x.ar y.ar W p q pc qc (hx.below hS.below) (hy.below hS.below) hxl _ fun W hB => ?_)
  have := h W (hS.bel hB).below
  have e : decide (x = y) = decide (x.ar = y.ar) := by
    rw [decide_eq_decide]
    obtain ⟨k, a, b, c, o, v, nm, ar⟩ := x
    obtain ⟨k', a', b', c', o', v', nm', ar'⟩ := y
    simp only [Prod.mk.injEq] at q1
    simp only [IN.mk.injEq]
    exact ⟨fun e => e.2.2.2.2.2.2.2, fun e => ⟨q2, q1.1, q1.2.1, q1.2.2, q3, q4, q5, e⟩⟩
  rw [e] at this; exact this
end Go.L
namespace Go.L
open Go Go.RowKit Go.Proofs
set_option linter.unusedSimpArgs false
set_option linter.unusedVariables false

def in0 : IN := ⟨0, 0, 0, 0, 0, (0, 0, ⟨#[]⟩), ⟨#[]⟩, []⟩
/-- What else a kind names, of an instruction. -/
def bareI (k : Nat) (x : IN) : IN :=
  if k = 2 then { in0 with v := x.v } else if k = 3 then { in0 with ar := x.ar, o := x.o } else if k = 4 ∨ k = 11 ∨ k = 19 then { in0 with ar := x.ar } else if k = 5 ∨ k = 13 then { in0 with nm := x.nm } else in0
def argsB (least : Int) (x : IN) : Bool := decide ((x.ar.length : Int) ≥ least) && (decide (x.ar.length ≤ 200) && allIn 0 399 x.ar)
def sums4 : List ByteArray := [⟨#[99, 111, 117, 110, 116]⟩, ⟨#[115, 117, 109]⟩, ⟨#[109, 105, 110]⟩, ⟨#[109, 97, 120]⟩]
def restB (k : Nat) (x : IN) : Bool :=
  if k = 2 then checkE x.v == 0 else if k = 3 then decide (1 ≤ x.o ∧ x.o ≤ 20) && (argsB 0 x && decide ((x.ar.length : Int) = (infoO x.o).2.1)) else if k = 4 then argsB 1 x else if k = 11 then argsB 0 x
  else if k = 5 then decide (1 ≤ x.nm.size ∧ x.nm.size ≤ 100) else if k = 13 then sums4.any (fun t => decide (x.nm = t)) else if k = 19 then decide (x.ar.length ≤ 200) && allIn 0 1 x.ar else true
theorem RetK_50v {R : Ending → World → Prop} {w w0 : World} {L : List Own} (hS : St w0 L w) (i : Nat) {b : Nat} {cs : Array Value} {v : Value} (hi : L[i]? = some (.bx b 62 cs)) (hn : cs.size = 10) (h : R (.returned (.tuple #[.agg cs, v])) w) : RetK Tryz.prog [.cell (.pointer (some ⟨b, 0, none⟩)) 62, .val v] R w := by
  refine ⟨.tuple #[.agg cs, v], ?_, h⟩
  have := run_loadVar_row (P := Tryz.prog) w b 62 62 cs (0, 0) _ (hS.get i hi).2 Tryz.underlying62 rfl (by rw [info_of (Tryz.typeInfo62 w), hn]; rfl)
  simp [resSem, asAddr, this]
theorem builtI0 : Tryz.prog.built 62 [] = some (inC in0 none 0 0) := by kernel_rfl
theorem builtIV (v : AV) : Tryz.prog.built 62 [(5, vVal v)] = some (inC { in0 with v := v } none 0 0) := by kernel_rfl
theorem builtIN (s : ByteArray) : Tryz.prog.built 62 [(6, .string s)] = some (inC { in0 with nm := s } none 0 0) := by kernel_rfl
theorem builtIA (p : Option Addr) (n cp : Nat) : Tryz.prog.built 62 [(7, .slice p n cp)] = some (inC in0 p n cp) := by kernel_rfl
/-- What a kind's rest tells. -/
def RestR (k : Nat) (x : IN) (p : Option Addr) (w : World) (R : Ending → World → Prop) : Prop := ∀ W p' cp, Below w.heap.size w W → (p' = p ∨ (bareI k x).ar = []) → R (.returned (.tuple #[inV (bareI k x) p' cp, .bool (restB k x)])) W
theorem nothing71 (k : Nat) (x : IN) (p : Option Addr) (pc : Nat) (w : World) (hb : bareI k x = in0) (ht : restB k x = true) (R : Ending → World → Prop) (h : RestR k x p w R) : Calls Tryz.prog 67 #[inV x p pc] w R := by
  refine c67 _ _ _ _ _ _ _ _ _ _ _ _ _ _ ?_
  unfold vc67
  refine kBox_st (St.start w) fun b1 W hS => kAlloc_st Tryz.zeroValue62 hS fun b2 W hS => kBuild_i builtI0 (kStoreAR hS rfl (by simp [inC, in0, Value.oneCell']) Tryz.sizeOf62 fun W hS => RetK_50v hS 1 rfl rfl ?_)
  have := h W none 0 hS.below (.inr (by rw [hb]; rfl))
  rw [hb, ht] at this; exact this
theorem bxV {b1 : Nat} {x : IN} {p : Option Addr} {pc : Nat} {w W : World} {L : List Own} (hS : St w L W) (i : Nat) (hi : L[i]? = some (.bx b1 62 (inC x p x.ar.length pc))) : W.rangeAt b1 (0 + 5) (vVal x.v).cells.toList := hS.range i hi fun j v hj => by
  have hj3 : j < 3 := by
    have := (List.getElem?_eq_some_iff.1 hj).1
    simpa [vVal, Value.cells] using this
  match j, hj3 with
  | 0, _ => exact hj
  | 1, _ => exact hj
  | 2, _ => exact hj
theorem valued72 (x : IN) (p : Option Addr) (pc : Nat) (w : World) (R : Ending → World → Prop) (h : RestR 2 x p w R) : Calls Tryz.prog 68 #[inV x p pc] w R := by
  refine c68 _ _ _ _ _ _ _ _ _ _ _ _ _ _ ?_
  unfold vc68
  refine kBox_st (St.start w) fun b1 W hS => kAlloc_st Tryz.zeroValue62 hS fun b2 W hS => kDrawn_i (kDrawn_i ?_)
  have hS : St w [.bx b1 62 (inC x p x.ar.length pc), .bx b2 62 (inC in0 none 0 0)] W := hS
  refine xFa62_5 (xLdE59 (bxV hS 0 rfl) rfl rfl (kBuild_i (builtIV _) (xFa62_5 (xLdE59 (bxV hS 0 rfl) rfl rfl (kDrew_st hS fun W hS => ?_)))))
  refine kCall_i (Tryz.call104 _ _) (check57 x.v W _ fun W2 hB => ?_)
  have hS := hS.bel hB
  refine xFa62_5 (kSame_i (xLdE59 (bxV hS 0 rfl) rfl rfl (kSame_i (kBuild_i (builtIV _) (kSame_i (kEq_int (kDrew_st hS fun W hS => ?_)))))))
  refine kStoreA_st hS 1 rfl rfl (by simp [inC, in0, Value.oneCell']) Tryz.sizeOf62 fun W hS => kEq_int (kSame_i (kDrew_st hS fun W hS => RetK_50v hS 1 rfl rfl ?_))
  exact h W none 0 hS.below (.inr rfl)
theorem args101 (k : Nat) (least : Int) (x : IN) (p : Option Addr) (pc : Nat) (w : World) (hx : Sl w p 1 (x.ar.map vInt)) (hsm : x.ar.length ≤ 1000000) (bA : Nat) (hA : w.cell? ⟨bA, 0, none⟩ = some (.int .i64 least)) (R : Ending → World → Prop)
    (h : ∀ W, Below w.heap.size w W → R (.returned (.tuple #[inV { in0 with ar := x.ar } p pc, .bool (argsB least x)])) W) : Calls Tryz.prog 105 #[inV x p pc, .pointer (some ⟨bA, 0, none⟩)] w R := by
  refine c105 _ _ _ _ _ _ _ _ _ _ _ _ _ _ _ ?_
  unfold vc105
  have hAW : ∀ {W : World} {L : List Own}, St w L W → W.cell? ⟨bA, 0, none⟩ = some (.int .i64 least) := fun hS => by
    have hlt : bA < w.heap.size := by
      by_cases q : bA < w.heap.size
      · exact q
      · have : w.heap[bA]? = none := by simp; omega
        simp [World.cell?, this] at hA
    rw [World.cell?_of_block (w := w) (hS.below.block bA hlt)]; exact hA
  refine kBox_st (St.start w) fun b1 W hS => kAlloc_st Tryz.zeroValue62 hS fun b2 W hS => kDrawn_i (kDrawn_i ?_)
  have hS : St w [.bx b1 62 (inC x p x.ar.length pc), .bx b2 62 (inC in0 none 0 0)] W := hS
  refine xFa62_7 (kLd hS 0 rfl rfl rfl (kBuild_i (builtIA _ _ _) (xFa62_7 (kLd hS 0 rfl rfl rfl (xLen60 (kLdS rfl (hAW hS) (kBin_geq (kIf_d (fun q1 => ?_) (fun q1 => ?_)))))))))
  · refine xFa62_7 (kLd hS 0 rfl rfl rfl (xLen60 (kBin_leq (kIf_d (fun q2 => ?_) (fun q2 => ?_)))))
    · refine xFa62_7 (kLd hS 0 rfl rfl rfl (kDrew_st hS fun W hS => ?_))
      refine kCall_i (Tryz.call36 _ _) (in39 0 399 x.ar W p pc (hx.below hS.below) hsm _ fun W2 hB => ?_)
      have hS := hS.bel hB
      refine xFa62_7 (kSame_i (kLd hS 0 rfl rfl rfl (kSame_i (kBuild_i (builtIA _ _ _) (kSame_i (kDrew_st hS fun W hS => ?_))))))
      refine kStoreA_st hS 1 rfl rfl (by simp [inC, in0, Value.oneCell']) Tryz.sizeOf62 fun W hS => kDrew_st hS fun W hS => RetK_50v hS 1 rfl rfl ?_
      have := h W hS.below
      unfold argsB at this
      rw [decide_eq_true q1, decide_eq_true (by omega), Bool.true_and, Bool.true_and] at this
      exact this
    · refine kDrew_st hS fun W hS => kStoreA_st hS 1 rfl rfl (by simp [inC, in0, Value.oneCell']) Tryz.sizeOf62 fun W hS => kDrew_st hS fun W hS => RetK_50v hS 1 rfl rfl ?_
      have := h W hS.below
      unfold argsB at this
      rw [decide_eq_false (p := x.ar.length ≤ 200) (by omega), Bool.false_and, Bool.and_false] at this
      exact this
  · refine kDrew_st hS fun W hS => kStoreA_st hS 1 rfl rfl (by simp [inC, in0, Value.oneCell']) Tryz.sizeOf62 fun W hS => kDrew_st hS fun W hS => RetK_50v hS 1 rfl rfl ?_
    have := h W hS.below
    unfold argsB at this
    rw [decide_eq_false q1, Bool.false_and] at this
    exact this
end Go.L
namespace Go.L
open Go Go.RowKit Go.Proofs
set_option linter.unusedSimpArgs false
set_option linter.unusedVariables false

theorem named75 (k : Nat) (hk : k = 5) (x : IN) (p : Option Addr) (pc : Nat) (w : World) (R : Ending → World → Prop) (h : RestR k x p w R) : Calls Tryz.prog 71 #[inV x p pc] w R := by
  subst hk
  refine c71 _ _ _ _ _ _ _ _ _ _ _ _ _ _ ?_
  unfold vc71
  refine kBox_st (St.start w) fun b1 W hS => kAlloc_st Tryz.zeroValue62 hS fun b2 W hS => kDrawn_i (kDrawn_i ?_)
  have hS : St w [.bx b1 62 (inC x p x.ar.length pc), .bx b2 62 (inC in0 none 0 0)] W := hS
  refine xFa62_6 (kLd hS 0 rfl rfl rfl (kBuild_i (builtIN _) (xFa62_6 (kLd hS 0 rfl rfl rfl (kLen9 (kDrew_st hS fun W hS => ?_))))))
  refine kBS (xE60 W) hS [.int .i64 x.nm.size] rfl rfl (by omega) (by omega) (by simp [Value.cells]) fun a cp W hS hsl => ?_
  refine xFa62_6 (kSame_i (kLd hS 0 rfl rfl rfl (kSame_i (kBuild_i (builtIN _) (kSame_i (kDrew_st hS fun W hS => ?_))))))
  have hsl := hS.sl 2 (vs := [x.nm.size].map (fun n : Nat => vInt n)) rfl (by simp [vInt, Value.cells]) rfl
  refine kCall_i (Tryz.call36 _ _) (in39 1 100 [(x.nm.size : Int)] W a cp hsl (by simp) _ fun W2 hB => ?_)
  have hS := hS.bel hB
  refine xFa62_6 (kSame_i (kLd hS 0 rfl rfl rfl (kSame_i (kBuild_i (builtIN _) (kSame_i (kDrew_st hS fun W hS => ?_))))))
  refine kStoreA_st hS 1 rfl rfl (by simp [inC, in0, Value.oneCell']) Tryz.sizeOf62 fun W hS => kDrew_st hS fun W hS => RetK_50v hS 1 rfl rfl ?_
  have := h W none 0 hS.below (.inr rfl)
  have e : allIn 1 100 [(x.nm.size : Int)] = restB 5 x := by
    show allIn 1 100 [(x.nm.size : Int)] = decide (1 ≤ x.nm.size ∧ x.nm.size ≤ 100)
    simp only [allIn, outOf, List.all_cons, List.all_nil, Bool.and_true]
    by_cases h1 : 1 ≤ x.nm.size <;> by_cases h2 : x.nm.size ≤ 100 <;> simp [h1, h2] <;> omega
  rw [e]; exact this
theorem sorted77 (k : Nat) (hk : k = 19) (x : IN) (p : Option Addr) (pc : Nat) (w : World) (hx : Sl w p 1 (x.ar.map vInt)) (hsm : x.ar.length ≤ 1000000) (R : Ending → World → Prop) (h : RestR k x p w R) : Calls Tryz.prog 73 #[inV x p pc] w R := by
  subst hk
  refine c73 _ _ _ _ _ _ _ _ _ _ _ _ _ _ ?_
  unfold vc73
  refine kBox_st (St.start w) fun b1 W hS => kAlloc_st Tryz.zeroValue62 hS fun b2 W hS => kDrawn_i (kDrawn_i ?_)
  have hS : St w [.bx b1 62 (inC x p x.ar.length pc), .bx b2 62 (inC in0 none 0 0)] W := hS
  refine xFa62_7 (kLd hS 0 rfl rfl rfl (kBuild_i (builtIA _ _ _) (xFa62_7 (kLd hS 0 rfl rfl rfl (xLen60 (kBin_leq (kIf_d (fun q2 => ?_) (fun q2 => ?_))))))))
  · refine xFa62_7 (kLd hS 0 rfl rfl rfl (kDrew_st hS fun W hS => ?_))
    refine kCall_i (Tryz.call36 _ _) (in39 0 1 x.ar W p pc (hx.below hS.below) hsm _ fun W2 hB => ?_)
    have hS := hS.bel hB
    refine xFa62_7 (kSame_i (kLd hS 0 rfl rfl rfl (kSame_i (kBuild_i (builtIA _ _ _) (kSame_i (kDrew_st hS fun W hS => ?_))))))
    refine kStoreA_st hS 1 rfl rfl (by simp [inC, in0, Value.oneCell']) Tryz.sizeOf62 fun W hS => kDrew_st hS fun W hS => RetK_50v hS 1 rfl rfl ?_
    have := h W p pc hS.below (.inl rfl)
    have e : allIn 0 1 x.ar = restB 19 x := by
      show _ = (decide (x.ar.length ≤ 200) && allIn 0 1 x.ar)
      rw [decide_eq_true (by omega), Bool.true_and]
    rw [e]; exact this
  · refine kDrew_st hS fun W hS => kStoreA_st hS 1 rfl rfl (by simp [inC, in0, Value.oneCell']) Tryz.sizeOf62 fun W hS => kDrew_st hS fun W hS => RetK_50v hS 1 rfl rfl ?_
    have := h W p pc hS.below (.inl rfl)
    have e : false = restB 19 x := by
      show _ = (decide (x.ar.length ≤ 200) && allIn 0 1 x.ar)
      rw [decide_eq_false (p := x.ar.length ≤ 200) (by omega), Bool.false_and]
    rw [e]; exact this
theorem index118 (l : List ByteArray) (s : ByteArray) (w : World) (lo : Option Addr) (lc : Nat) (hl : Sl w lo 1 (l.map Value.string)) (hsm : l.length ≤ 1000000) (R : Ending → World → Prop)
    (h : ∀ z : Int, (decide (z ≥ 0) = l.any (fun t => decide (s = t))) → R (.returned (.int .i64 z)) w) : Calls Tryz.prog 131 #[.slice lo l.length lc, .string s] w R := by
  refine c131 _ _ _ _ _ _ ?_
  unfold vc131
  refine kLen_sl (c := ⟨Tryz.prog, _, false⟩) Tryz.underlying74 ⟨⟨fun cs V => ∃ i : Nat, cs = [.int .i64 i] ∧ i ≤ l.length ∧ V = w ∧ (l.take i).any (fun t => decide (s = t)) = false, fun cs _ => l.length - (match cs with | [.int _ i] => i.toNat | _ => 0), ⟨0, rfl, Nat.zero_le _, rfl, by simp⟩, ?_⟩⟩
  rintro cs ds V ⟨i, rfl, hi, rfl, hall⟩
  dsimp only [List.getD_cons_zero]
  refine kBin_lss (kIf_d (fun e => ?_) (fun e => ?_))
  · have hil : i < l.length := by omega
    obtain ⟨pb, po, rfl, hpb, hpr⟩ := hl.elem (i := i) (v := .string l[i]) (by simp [hil])
    refine kIa_sl (c := ⟨Tryz.prog, _, false⟩) Tryz.underlying74 Tryz.sizeOf9 hil (kLdS rfl (hpr 0 (.string l[i]) rfl) (kEq_str (kIf_d (fun q => h i ?_) (fun q => kBin_add (kD_i ⟨⟨i + 1, ?_, hil, rfl, ?_⟩, ?_⟩)))))
    · have : l.any (fun t => decide (s = t)) = true := List.any_eq_true.2 ⟨l[i], List.getElem_mem hil, by simp [q]⟩
      rw [this]; simp
    · rw [wrap_id (by omega) (by omega)]; rfl
    · rw [List.take_succ_eq_append_getElem hil]
      rw [List.any_append, hall]; simp [q]
    · rw [wrap_id (by omega) (by omega)]; show l.length - ((i : Int) + 1).toNat < l.length - (i : Int).toNat; omega
  · have : i = l.length := by omega
    rw [this, List.take_length] at hall
    exact h (-1) (by rw [hall]; rfl)
theorem summed76 (k : Nat) (hk : k = 13) (x : IN) (p : Option Addr) (pc : Nat) (w : World) (R : Ending → World → Prop) (h : RestR k x p w R) : Calls Tryz.prog 72 #[inV x p pc] w R := by
  subst hk
  refine c72 _ _ _ _ _ _ _ _ _ _ _ _ _ _ ?_
  unfold vc72
  refine kBox_st (St.start w) fun b1 W hS => kAlloc_st Tryz.zeroValue62 hS fun b2 W hS => kDrawn_i (kDrawn_i ?_)
  have hS : St w [.bx b1 62 (inC x p x.ar.length pc), .bx b2 62 (inC in0 none 0 0)] W := hS
  refine xFa62_6 (kLd hS 0 rfl rfl rfl (kBuild_i (builtIN _) (xFa62_6 (kLd hS 0 rfl rfl rfl (kDrew_st hS fun W hS => ?_)))))
  refine kBS (t := 74) (e := 9) (sz := 1) (by_ := 16) ⟨Tryz.underlying74, ⟨Tryz.t9, _, info_of (Tryz.typeInfo9 W), rfl, rfl, rfl, rfl⟩, by omega, by omega⟩ hS (sums4.map Value.string) rfl rfl (by omega) (by omega) (by simp [sums4, Value.cells]) fun a cp W hS hsl => ?_
  refine xFa62_6 (kSame_i (kLd hS 0 rfl rfl rfl (kSame_i (kBuild_i (builtIN _) (kSame_i (xFa62_6 (kSame_i (kLd hS 0 rfl rfl rfl (kSame_i (kDrew_st hS fun W hS => ?_))))))))))
  have hsl := hS.sl 2 (vs := sums4.map Value.string) rfl (by simp [sums4, Value.cells]) rfl
  refine kCall_i (Tryz.call106 _ _) ?_
  refine c106 _ _ _ _ _ _ ?_
  unfold vc106
  refine kCall_i (Tryz.call131 _ _) (index118 sums4 x.nm W a cp hsl (by decide) _ fun z hz => kBin_geq ?_)
  rw [hz]
  refine xFa62_6 (kSame_i (kLd hS 0 rfl rfl rfl (kSame_i (kBuild_i (builtIN _) (kSame_i (kDrew_st hS fun W hS => ?_))))))
  refine kStoreA_st hS 1 rfl rfl (by simp [inC, in0, Value.oneCell']) Tryz.sizeOf62 fun W hS => kDrew_st hS fun W hS => RetK_50v hS 1 rfl rfl ?_
  exact h W none 0 hS.below (.inr rfl)
theorem operated73 (k : Nat) (hk : k = 3) (x : IN) (p : Option Addr) (pc : Nat) (w : World) (hx : Sl w p 1 (x.ar.map vInt)) (hsm : x.ar.length ≤ 1000000) (R : Ending → World → Prop) (h : RestR k x p w R) : Calls Tryz.prog 69 #[inV x p pc] w R := by
  subst hk
  refine c69 _ _ _ _ _ _ _ _ _ _ _ _ _ _ ?_
  unfold vc69
  refine kBox_st (St.start w) fun b1 W hS => kAlloc_st Tryz.zeroValue62 hS fun b2 W hS => ?_
  have hS : St w [.bx b1 62 (inC x p x.ar.length pc), .bx b2 62 (inC in0 none 0 0)] W := hS
  refine xFa62_4 (kLd hS 0 rfl rfl rfl (kCall_i (Tryz.call29 _ _) (Info28 x.o W _ fun W2 hB => kExt_0 (kExt_1 (kAlloc_st Tryz.zeroValue82 (hS.bel hB) fun b4 W hS => kStoreAR hS rfl (by simp [iVal, Value.oneCell']) Tryz.sizeOf82 fun W hS => kDrawn_i (kDrawn_i ?_))))))
  have hS : St w [.bx b1 62 (inC x p x.ar.length pc), .bx b2 62 (inC in0 none 0 0), .bx b4 82 (iVal (infoO x.o)).cells] W := hS
  refine kJn_inv (fun cs V => ∃ a0 a1 a2 a3 a4 b6, cs = [a0, a1, a2, a3, a4, .bool (argsB 0 x), .pointer (some ⟨b6, 0, none⟩), undef] ∧ St w [.bx b1 62 (inC x p x.ar.length pc), .bx b2 62 (inC in0 none 0 0), .bx b4 82 (iVal (infoO x.o)).cells, .bx b6 62 (inC { in0 with ar := x.ar } p x.ar.length pc)] V) ?_ ?_
  rotate_left
  · intro J hJ
    refine xLdB62 hS 0 rfl rfl (kBoth_i ?_ ?_)
    · refine kDrew_st hS fun W hS => kCall_i (Tryz.call70 _ _) (args74 0 W _ fun bA W2 hSA => ?_)
      have hS := hS.join hSA
      refine xLdB62 hS 0 rfl rfl (kSame_i (kBoth_i ?_ ?_))
      · refine kDrew_st hS fun W hS => kCallV_i (Tryz.call105 _ _) (args101 4 0 x p pc W (hx.below hS.below) hsm bA (hS.cell 3 rfl 0 rfl) _ fun W2 hB => kExt_0 (kExt_1 ?_))
        have hS := (hS.bel hB).take 3
        refine kDrew_st hS fun W hS => kAlloc_st Tryz.zeroValue62 hS fun b6 W hS => kDrew_st hS fun W hS => kStoreAR hS rfl (by simp [Value.oneCell']) Tryz.sizeOf62 fun W hS => kDrew_st hS fun W hS => hJ _ _ ⟨_, _, _, _, _, b6, rfl, hS⟩
      · refine kDrew_st hS fun W hS => kAlloc_st Tryz.zeroValue62 hS fun b6 W hS => xLdB62 hS 0 rfl rfl (kSame_i (kDrew_st hS fun W hS => kCallV_i (Tryz.call105 _ _) (args101 4 0 x p pc W (hx.below hS.below) hsm bA (hS.cell 3 rfl 0 rfl) _ fun W2 hB => kExt_0 (kExt_1 ?_))))
        have hS := (hS.bel hB).del 3
        refine kDrew_st hS fun W hS => kStoreA_st hS 3 rfl rfl (by simp [inC, in0, Value.oneCell']) Tryz.sizeOf62 fun W hS => kDrew_st hS fun W hS => hJ _ _ ⟨_, _, _, _, _, b6, rfl, hS⟩
    · refine kDrew_st hS fun W hS => kAlloc_st Tryz.zeroValue62 hS fun b6 W hS => xLdB62 hS 0 rfl rfl (kSame_i (kDrew_st hS fun W hS => kCall_i (Tryz.call70 _ _) (args74 0 W _ fun bA W2 hSA => ?_)))
      have hS := hS.join hSA
      refine xLdB62 hS 0 rfl rfl (kSame_i (kDrew_st hS fun W hS => kCallV_i (Tryz.call105 _ _) (args101 4 0 x p pc W (hx.below hS.below) hsm bA (hS.cell 4 rfl 0 rfl) _ fun W2 hB => kExt_0 (kExt_1 ?_))))
      have hS := (hS.bel hB).take 4
      refine kDrew_st hS fun W hS => kStoreA_st hS 3 rfl rfl (by simp [inC, in0, Value.oneCell']) Tryz.sizeOf62 fun W hS => kDrew_st hS fun W hS => hJ _ _ ⟨_, _, _, _, _, b6, rfl, hS⟩
  rintro cs V ⟨a0, a1, a2, a3, a4, b6, rfl, hS⟩
  try dsimp only [List.getD_cons_zero, List.getD_cons_succ]
  refine xFa62_4 (kLd hS 0 rfl rfl rfl (xFa62_4 (kSt hS 3 rfl (by simp [inC]) rfl rfl rfl fun W hS => kDrawn_i (kDrawn_i ?_))))
  have hS : St w [.bx b1 62 (inC x p x.ar.length pc), .bx b2 62 (inC in0 none 0 0), .bx b4 82 (iVal (infoO x.o)).cells, .bx b6 62 (inC { in0 with ar := x.ar, o := x.o } p x.ar.length pc)] W := hS
  have fin : ∀ (bb : Bool) (W : World), bb = restB 3 x → St w [.bx b1 62 (inC x p x.ar.length pc), .bx b2 62 (inC { in0 with ar := x.ar, o := x.o } p x.ar.length pc), .bx b4 82 (iVal (infoO x.o)).cells, .bx b6 62 (inC { in0 with ar := x.ar, o := x.o } p x.ar.length pc)] W → RetK Tryz.prog [.cell (.pointer (some ⟨b2, 0, none⟩)) 62, .val (.bool bb)] R W := fun bb W hb hS => RetK_50v hS 1 rfl rfl (by rw [hb]; exact h W p pc hS.below (.inl rfl))
  have e3 : restB 3 x = (decide (1 ≤ x.o ∧ x.o ≤ 20) && (argsB 0 x && decide ((x.ar.length : Int) = (infoO x.o).2.1))) := rfl
  refine xLdB62 hS 3 rfl rfl (kIf_b (fun q1 => kIf_b (fun q2 => ?_) (fun q2 => ?_)) (fun q1 => ?_))
  · refine xFa62_7 (kLd hS 0 rfl rfl rfl (xLen60 (xFa82_1 (kLd hS 2 rfl rfl rfl (kEq_int (kDrew_st hS fun W hS => ?_))))))
    refine kStoreA_st hS 1 rfl rfl (by simp [inC, in0, Value.oneCell']) Tryz.sizeOf62 fun W hS => ?_
    refine xFa62_7 (kSame_i (kLd hS 0 rfl rfl rfl (kSame_i (xLen60 (kSame_i (xFa82_1 (kSame_i (kLd hS 2 rfl rfl rfl (kSame_i (kEq_int (kSame_i (kDrew_st hS fun W hS => fin _ W ?_ hS))))))))))))
    rw [e3, q1, q2, Bool.true_and, Bool.true_and]; rfl
  · refine kDrew_st hS fun W hS => kStoreA_st hS 1 rfl rfl (by simp [inC, in0, Value.oneCell']) Tryz.sizeOf62 fun W hS => kDrew_st hS fun W hS => fin _ W ?_ hS
    rw [e3, q2, Bool.false_and, Bool.and_false]
  · refine kDrew_st hS fun W hS => kStoreA_st hS 1 rfl rfl (by simp [inC, in0, Value.oneCell']) Tryz.sizeOf62 fun W hS => kDrew_st hS fun W hS => fin _ W ?_ hS
    rw [e3, q1, Bool.false_and]
end Go.L
namespace Go.L
open Go Go.RowKit Go.Proofs
set_option linter.unusedSimpArgs false
set_option linter.unusedVariables false

/-- An instruction that lies. -/
def InsAt (W : World) (v : Value) (x : IN) : Prop := ∃ p pc, v = inV x p pc ∧ Sl W p 1 (x.ar.map vInt)
theorem InsAt.below {W W' : World} {v : Value} {x : IN} (h : InsAt W v x) (hB : Below W.heap.size W W') : InsAt W' v x := by
  obtain ⟨p, pc, e, hs⟩ := h
  exact ⟨p, pc, e, hs.below hB⟩
def InsL (W : World) (lo : Option Addr) (l : List IN) : Prop := ∃ vs, Sl W lo 10 vs ∧ vs.length = l.length ∧ ∀ (i : Nat) (x : IN), l[i]? = some x → ∃ v, vs[i]? = some v ∧ InsAt W v x
theorem InsL.below {W W' : World} {lo : Option Addr} {l : List IN} (h : InsL W lo l) (hB : Below W.heap.size W W') : InsL W' lo l := by
  obtain ⟨vs, hs, hl, hx⟩ := h
  exact ⟨vs, hs.below hB, hl, fun i x hi => by obtain ⟨v, hv, ha⟩ := hx i x hi; exact ⟨v, hv, ha.below hB⟩⟩
theorem InsL.elem {W : World} {lo : Option Addr} {l : List IN} (h : InsL W lo l) {i : Nat} (hi : i < l.length) : ∃ b o p pc, lo = some ⟨b, o, none⟩ ∧ b < W.heap.size ∧ W.rangeAt b (o + i * 10) (inV l[i] p pc).cells.toList ∧ Sl W p 1 (l[i].ar.map vInt) := by
  obtain ⟨vs, hs, hl, hx⟩ := h
  obtain ⟨v, hv, p, pc, rfl, hp⟩ := hx i l[i] (by simp [hi])
  obtain ⟨b, o, e, hb, hr⟩ := hs.elem hv
  exact ⟨b, o, p, pc, e, hb, hr, hp⟩
def getF (f : Nat) (x : IN) : Int := if f = 58 then x.a else if f = 59 then x.b else x.c
def setF (f : Nat) (z : Int) (x : IN) : IN := if f = 58 then { x with a := z } else if f = 59 then { x with b := z } else { x with c := z }
def atF (f : Nat) : Prop := f = 58 ∨ f = 59 ∨ f = 60
theorem inC_get {f : Nat} (hf : atF f) (x : IN) (p : Option Addr) (n cp : Nat) : (inC x p n cp)[f - 57]? = some (.int .i64 (getF f x)) := by
  rcases hf with rfl | rfl | rfl <;> rfl
theorem inC_set {f : Nat} (hf : atF f) (x : IN) (p : Option Addr) (n cp : Nat) (z : Int) : (inC x p n cp).setIfInBounds (f - 57) (.int .i64 z) = inC (setF f z x) p n cp := by
  rcases hf with rfl | rfl | rfl <;> rfl
theorem setF_ar (f : Nat) (z : Int) (x : IN) : (setF f z x).ar = x.ar := by
  unfold setF; split
  · rfl
  · split <;> rfl
theorem at_call {f : Nat} (hf : atF f) {X : Chain → World → Prop} {w : World} {b : Nat} {k : Value → World → Prop} (h : k (.pointer (some ⟨b, f - 57, none⟩)) w) : kCallV ⟨Tryz.prog, X, false⟩ w (.func (.func f) #[] #[]) #[.pointer (some ⟨b, 0, none⟩)] k := by
  rcases hf with rfl | rfl | rfl
  · refine kCallV_i (Tryz.call58 _ _) (c58 _ _ _ ?_)
    unfold vc58
    exact kNil_p (xFa62_1 h)
  · refine kCallV_i (Tryz.call59 _ _) (c59 _ _ _ ?_)
    unfold vc59
    exact kNil_p (xFa62_2 h)
  · refine kCallV_i (Tryz.call60 _ _) (c60 _ _ _ ?_)
    unfold vc60
    exact kNil_p (xFa62_3 h)
theorem kParts_at {k : Nat} {p : PT} (h : p ∈ kParts k) : atF p.1 := by
  have : ∀ k, k ≤ 22 → ∀ p ∈ kParts k, atF p.1 := by
    intro k hk
    have : ∀ k, k < 23 → (kParts k).all (fun p => p.1 == 58 || p.1 == 59 || p.1 == 60) = true := by decide
    intro p hp
    have := List.all_eq_true.1 (this k (by omega)) p hp
    simp only [Bool.or_eq_true, beq_iff_eq, or_assoc] at this
    exact this
  by_cases hk : k ≤ 22
  · exact this k hk p h
  · have e : kParts k = [] := by
      unfold kParts
      rw [List.getD_eq_getElem?_getD, List.getElem?_eq_none (by simp; omega)]; rfl
    rw [e] at h; cases h
/-- What else is named, called by the map's function. -/
theorem rest_call {k : Nat} (h1 : 1 ≤ k) (h2 : k ≤ 21) {w W : World} {L N : List Own} {r : Value} (hr : RestOk N k r) (hN : ∀ o ∈ N, o ∈ L) (hS : St w L W) (x : IN) (p : Option Addr) (pc : Nat) (hx : Sl W p 1 (x.ar.map vInt)) (hsm : x.ar.length ≤ 1000000) {X : Chain → World → Prop} {kk : Value → World → Prop}
    (h : ∀ W' p' cp', Below W.heap.size W W' → (p' = p ∨ (bareI k x).ar = []) → kk (.tuple #[inV (bareI k x) p' cp', .bool (restB k x)]) W') : kCallV ⟨Tryz.prog, X, false⟩ W r #[inV x p pc] kk := by
  have hR : ∀ {k' : Nat}, k' = k → RestR k' x p W (after kk X) := fun e => by subst e; exact fun W' p' cp' hB hs => h W' p' cp' hB hs
  unfold RestOk at hr
  by_cases q : k = 4 ∨ k = 11
  · rw [if_pos q] at hr
    obtain ⟨b, rfl, hb⟩ := hr
    have hc := (hS.all _ (hN _ hb)).2
    have hcell : W.cell? ⟨b, 0, none⟩ = some (.int .i64 (leastA k)) := by simp [World.cell?, hc]
    refine kCallV_i (Tryz.call105 _ _) (args101 k (leastA k) x p pc W hx hsm b hcell _ fun W' hB => ?_)
    have := hR rfl W' p pc hB (.inl rfl)
    rcases q with rfl | rfl <;> exact this
  · rw [if_neg q] at hr
    subst hr
    have hz : k ≠ 2 ∧ k ≠ 3 ∧ k ≠ 5 ∧ k ≠ 13 ∧ k ≠ 19 → restF k = 67 := by
      intro hk
      have : ∀ k, k < 22 → 1 ≤ k → (k ≠ 2 ∧ k ≠ 3 ∧ k ≠ 5 ∧ k ≠ 13 ∧ k ≠ 19) → ¬ (k = 4 ∨ k = 11) → restF k = 67 := by decide
      exact this k (by omega) h1 hk q
    by_cases k2 : k = 2
    · subst k2; exact kCallV_i (Tryz.call68 _ _) (valued72 x p pc W _ (hR rfl))
    by_cases k3 : k = 3
    · subst k3; exact kCallV_i (Tryz.call69 _ _) (operated73 3 rfl x p pc W hx hsm _ (hR rfl))
    by_cases k5 : k = 5
    · subst k5; exact kCallV_i (Tryz.call71 _ _) (named75 5 rfl x p pc W _ (hR rfl))
    by_cases k13 : k = 13
    · subst k13; exact kCallV_i (Tryz.call72 _ _) (summed76 13 rfl x p pc W _ (hR rfl))
    by_cases k19 : k = 19
    · subst k19; exact kCallV_i (Tryz.call73 _ _) (sorted77 19 rfl x p pc W hx hsm _ (hR rfl))
    rw [hz ⟨k2, k3, k5, k13, k19⟩]
    refine kCallV_i (Tryz.call67 _ _) (nothing71 k x p pc W ?_ ?_ _ (hR rfl))
    · unfold bareI; rw [if_neg k2, if_neg k3, if_neg (by omega), if_neg (by omega)]
    · unfold restB; rw [if_neg k2, if_neg k3, if_neg (by omega), if_neg (by omega), if_neg k5, if_neg k13, if_neg k19]
end Go.L
namespace Go.L
open Go Go.RowKit Go.Proofs
set_option linter.unusedSimpArgs false
set_option linter.unusedVariables false

theorem kLook2_none {P : Program} {X : Chain → World → Prop} {q : Bool} {w : World} {k : Value → World → Prop} {t kt et : TypeId} {d : TypeDesc} {key z : Value} {b clock : Nat} {es : Array MapEntry} (hb : w.heap[b]? = some (.map es clock)) (hm : P.underlying t = some (.map kt et)) (hk : P.underlying kt = some d)
    (hkey : MapKept.IsKey d key) (hf : Instr.findNow d key es.toList 0 = some none) (hz : ∀ w, (zeroValue et).run P w = .ok z w) (h : k (.tuple #[z, .bool false]) w) : kLook ⟨P, X, q⟩ w t (.map (some b)) key true k :=
  ⟨kVal_look (c := ⟨P, X, q⟩) (fun n => by
    have hg : (w.drewN n).heap[b]? = some (.map es clock) := hb
    have hc : ∀ e, (Instr.checkKey e 10000 kt key).run P (w.drewN n) = .ok () (w.drewN n) := fun e => MapKept.run_checkKey hk hkey e 9999
    simp [Instr.lookup, run_underlying hm, MapKept.run_getObj_map hg, hc, MapKept.run_findKey hk hf, Result.andThen, hz]) h⟩
def topP (n : Nat) (p : PT) : Int := if p.2.2.2 then n else p.2.2.1
def inP (n : Nat) (x : IN) (p : PT) : Bool := allIn p.2.1 (topP n p) [getF p.1 x]
def bareP (x : IN) (ps : List PT) (y : IN) : IN := ps.foldl (fun y p => setF p.1 (getF p.1 x) y) y
/-- May an instruction be, in code of so many? -/
def rightC (n : Nat) (x : IN) : Bool :=
  decide (1 ≤ x.k ∧ x.k ≤ 21) && ((restB x.k.toNat x && (kParts x.k.toNat).all (inP n x)) && decide (bareP x (kParts x.k.toNat) { bareI x.k.toNat x with k := x.k } = x))
def chkC (l : List IN) : Int := if l.length > 2000 then 2 else if l.all (rightC l.length) then 0 else 2
theorem bareP_ar (x : IN) (ps : List PT) (y : IN) : (bareP x ps y).ar = y.ar := by
  induction ps generalizing y with
  | nil => rfl
  | cons p ps ih => unfold bareP at ih ⊢; rw [List.foldl_cons, ih, setF_ar]
theorem bareI_ar_len (k : Nat) (x : IN) : (bareI k x).ar.length ≤ x.ar.length := by
  unfold bareI
  repeat' split
  all_goals simp [in0]
theorem bareI_ar (k : Nat) (x : IN) : (bareI k x).ar = x.ar ∨ (bareI k x).ar = [] := by
  unfold bareI
  repeat' split
  all_goals simp [in0]
theorem bareP_snoc (x : IN) (ps : List PT) (y : IN) {j : Nat} (hj : j < ps.length) : bareP x (ps.take (j + 1)) y = setF ps[j].1 (getF ps[j].1 x) (bareP x (ps.take j) y) := by
  unfold bareP
  rw [List.take_succ_eq_append_getElem hj, List.foldl_append]; rfl
theorem Check19 (l : List IN) (w : World) (lo : Option Addr) (lc : Nat) (hl : InsL w lo l) (hsm : ∀ x ∈ l, x.ar.length ≤ 1000000) (R : Ending → World → Prop)
    (h : ∀ W, Below w.heap.size w W → R (.returned (.int .i64 (chkC l))) W) : Calls Tryz.prog 14 #[.slice lo l.length lc] w R := by
  refine c14 _ _ _ _ _ ?_
  unfold vc14
  refine kCall_i (Tryz.call27 _ _) (kinds38 w _ fun b es N W hS hK => ?_)
  refine xLen22 (kBin_gtr (kIf_d (fun hbig => ?_) (fun hbig => ?_)))
  · have := h W hS.below
    rwa [show chkC l = 2 from if_pos (by omega)] at this
  have hbad : ∀ W, Below w.heap.size w W → l.all (rightC l.length) = false → R (.returned (.int .i64 2)) W := fun W hB hf => by
    have := h W hB
    rwa [show chkC l = 2 by unfold chkC; rw [hf]; simp] at this
  obtain ⟨L0, hL0⟩ : ∃ L0, L0 = Own.ob b (.map es 21) :: N := ⟨_, rfl⟩
  have hN : ∀ o ∈ N, o ∈ L0 := fun o ho => by rw [hL0]; exact List.mem_cons_of_mem _ ho
  have i0 : L0[0]? = some (.ob b (.map es 21)) := by rw [hL0]; rfl
  rw [← hL0] at hS
  clear hL0
  refine xLen22 ⟨⟨fun cs V => ∃ i : Nat, cs = [.int .i64 i] ∧ i ≤ l.length ∧ (l.take i).all (rightC l.length) = true ∧ St w L0 V, fun cs _ => l.length - (match cs with | [.int _ i] => i.toNat | _ => 0), ⟨0, rfl, Nat.zero_le _, rfl, hS⟩, ?_⟩⟩
  rintro cs ds V ⟨i, rfl, hi, hall, hS⟩
  dsimp only [List.getD_cons_zero]
  refine kBin_lss (kIf_d (fun e => ?_) (fun e => ?_))
  rotate_left
  · have : i = l.length := by omega
    rw [this, List.take_length] at hall
    have := h V hS.below
    rwa [show chkC l = 0 by unfold chkC; rw [hall, if_neg (by omega)]; rfl] at this
  have hil : i < l.length := by omega
  have hxsm := hsm l[i] (List.getElem_mem hil)
  have hno : ∀ {V : World}, St w L0 V → rightC l.length l[i] = false → R (.returned (.int .i64 2)) V := fun hS hf => hbad _ hS.below (List.all_eq_false.2 ⟨l[i], List.getElem_mem hil, by rw [hf]; simp⟩)
  have hyes : rightC l.length l[i] = true → (l.take (i + 1)).all (rightC l.length) = true := fun hr => by
    rw [List.take_succ_eq_append_getElem hil, List.all_append, hall]; simp [hr]
  obtain ⟨pb, po, p, pc, rfl, hpb, hpr, hpx⟩ := hl.elem hil
  have hpr : V.rangeAt pb (po + i * 10) (inV l[i] p pc).cells.toList := fun j v hj => by
    rw [World.cell?_of_block (w := w) (hS.below.block pb hpb)]; exact hpr j v hj
  generalize l[i] = x at *
  refine xIa22 hil (xLdE62 hpr rfl rfl (kAlloc_st Tryz.zeroValue62 hS fun b5 V hS => kStoreAR (cs' := inC x p x.ar.length pc) hS rfl (by simp [inC, Value.oneCell']) Tryz.sizeOf62 fun V hS => ?_))
  refine xFa62_0 (kLd hS L0.length at_r rfl rfl ?_)
  by_cases hk : 1 ≤ x.k ∧ x.k ≤ 21
  rotate_left
  · refine kLook2_none (hS.get 0 (at_l i0)).2 Tryz.underlying68 Tryz.underlying33 rfl (hK.none hk) Tryz.zeroValue73 (kExt_0 (kExt_1 (kAlloc_st Tryz.zeroValue73 hS fun b6 V hS => kStoreAR hS rfl (by simp [Value.oneCell']) Tryz.sizeOf73 fun V hS => kUn_not (kIf_t ?_))))
    refine hno hS.init.init ?_
    unfold rightC
    rw [decide_eq_false hk, Bool.false_and]
  obtain ⟨k, hkx⟩ : ∃ k : Nat, x.k = (k : Int) := ⟨x.k.toNat, by omega⟩
  have hk1 : 1 ≤ k := by omega
  have hk2 : k ≤ 21 := by omega
  have hkt : x.k.toNat = k := by omega
  obtain ⟨j, v, hf, a, cp, r, rfl, hrow, hr⟩ := hK.some hk1 hk2
  rw [← hkx] at hf
  refine kLook2_map (c := ⟨Tryz.prog, _, false⟩) (hS.get 0 (at_l i0)).2 Tryz.underlying68 Tryz.underlying33 rfl hf (kExt_0 (kExt_1 (kAlloc_st Tryz.zeroValue73 hS fun b6 V hS => kStoreAR (cs' := #[.string (kNameB k), .slice a (kParts k).length cp, r]) hS rfl ?_ Tryz.sizeOf73 fun V hS => kUn_not (kIf_f ?_))))
  · unfold RestOk at hr
    split at hr
    · obtain ⟨bA, rfl, _⟩ := hr; simp [Value.oneCell']
    · subst hr; simp [Value.oneCell']
  refine xFa73_2 (kLd hS _ at_r rfl rfl (xLdB62 hS L0.length (at_l at_r) rfl ?_))
  refine rest_call hk1 hk2 hr (fun o ho => List.mem_append_left _ (List.mem_append_left _ (hN o ho))) hS x p pc (hpx.below hS.below) hxsm fun V2 p' cp' hB hsl' => kExt_0 (kExt_1 ?_)
  have hS := hS.bel hB
  refine kAlloc_st Tryz.zeroValue62 hS fun b8 V hS => kStoreAR (cs' := inC (bareI k x) p' (bareI k x).ar.length cp') hS rfl (by simp [inC, Value.oneCell']) Tryz.sizeOf62 fun V hS => ?_
  -- the boxes of this round
  have hbar := bareI_ar_len k x
  have a2 : ∀ {A : List Own} {x y z : Own}, A ++ [x] ++ [y] ++ [z] = A ++ [x, y, z] := by simp
  rw [a2] at hS
  have j5 : ∀ {x y z : Own} {M : List Own}, (L0 ++ [x, y, z] ++ M)[L0.length]? = some x := by intro x y z M; rw [List.append_assoc, List.getElem?_append_right (Nat.le_refl _)]; simp
  have j6 : ∀ {x y z : Own} {M : List Own}, (L0 ++ [x, y, z] ++ M)[L0.length + 1]? = some y := by intro x y z M; rw [List.append_assoc, List.getElem?_append_right (by omega)]; simp
  have j8 : ∀ {x y z : Own} {M : List Own}, (L0 ++ [x, y, z] ++ M)[L0.length + 2]? = some z := by intro x y z M; rw [List.append_assoc, List.getElem?_append_right (by omega)]; simp
  have s8 : ∀ {x y z z' : Own} {M : List Own}, (L0 ++ [x, y, z] ++ M).set (L0.length + 2) z' = L0 ++ [x, y, z'] ++ M := by
    intro x y z z' M
    rw [List.append_assoc, List.append_assoc, List.set_append_right _ _ (by omega), Nat.add_sub_cancel_left]; rfl
  have hS : St w (L0 ++ [.bx b5 62 (inC x p x.ar.length pc), .bx b6 73 #[.string (kNameB k), .slice a (kParts k).length cp, r], .bx b8 62 (inC (bareI k x) p' (bareI k x).ar.length cp')] ++ []) V := by rw [List.append_nil]; exact hS
  refine xFa62_0 (kLd hS L0.length j5 rfl rfl (xFa62_0 (kSt hS (L0.length + 2) j8 (by simp [inC]) rfl rfl rfl fun V hS => ?_)))
  rw [s8] at hS
  obtain ⟨y0, hy0⟩ : ∃ y0 : IN, y0 = { bareI k x with k := x.k } := ⟨_, rfl⟩
  have hy0a : y0.ar = (bareI k x).ar := by rw [hy0]
  have hS : St w (L0 ++ [.bx b5 62 (inC x p x.ar.length pc), .bx b6 73 #[.string (kNameB k), .slice a (kParts k).length cp, r], .bx b8 62 (inC y0 p' (bareI k x).ar.length cp')] ++ []) V := by rw [hy0]; exact hS
  refine xFa73_1 (kLd hS (L0.length + 1) j6 rfl rfl (xLen70 ?_))
  refine ⟨⟨fun cs V => ∃ j : Nat, cs = [.bool (restB k x && ((kParts k).take j).all (inP l.length x)), .int .i64 j] ∧ j ≤ (kParts k).length ∧ St w (L0 ++ [.bx b5 62 (inC x p x.ar.length pc), .bx b6 73 #[.string (kNameB k), .slice a (kParts k).length cp, r], .bx b8 62 (inC (bareP x ((kParts k).take j) y0) p' (bareI k x).ar.length cp')] ++ []) V, fun cs _ => (kParts k).length - (match cs with | [_, .int _ i] => i.toNat | _ => 0), ⟨0, by simp, Nat.zero_le _, by simpa [bareP] using hS⟩, ?_⟩⟩
  rintro cs ds V ⟨j, rfl, hj, hS⟩
  dsimp only [List.getD_cons_zero, List.getD_cons_succ]
  refine kBin_lss (kIf_d (fun e => ?_) (fun e => ?_))
  · have hjl : j < (kParts k).length := by omega
    obtain ⟨qb, qo, rfl, hqb, hqr⟩ : ∃ b o, a = some ⟨b, o, none⟩ ∧ b < V.heap.size ∧ V.rangeAt b (o + j * 4) (partV (kParts k)[j]).cells.toList := by
      have := Sl.of_owns (partV_size _) (hS.all _ (List.mem_append_left _ (List.mem_append_left _ (hN _ hrow)))) (by simp)
      obtain ⟨a', c', he, hs⟩ := this
      cases he
      exact hs.elem (i := j) (by simp [hjl])
    have hf := kParts_at (List.getElem_mem hjl)
    have hsn := bareP_snoc x (kParts k) y0 hjl
    have hal : ((kParts k).take (j + 1)).all (inP l.length x) = (((kParts k).take j).all (inP l.length x) && inP l.length x (kParts k)[j]) := by
      rw [List.take_succ_eq_append_getElem hjl, List.all_append]; simp
    generalize (kParts k)[j] = q at hqr hf hsn hal
    rw [List.append_nil] at hS
    refine xIa70 hjl (xLdE77 hqr rfl rfl (kAlloc_st Tryz.zeroValue77 hS fun b11 V hS => kStoreAR (cs' := #[.func (.func q.1) #[] #[], .int .i64 q.2.1, .int .i64 q.2.2.1, .bool q.2.2.2]) hS rfl (by simp [Value.oneCell']) Tryz.sizeOf77 fun V hS => ?_))
    refine xFa77_2 (kLd hS _ at_r rfl rfl ?_)
    refine kJn_inv (fun cs V => cs = [.int .i64 (topP l.length q)] ∧ St w (L0 ++ [.bx b5 62 (inC x p x.ar.length pc), .bx b6 73 #[.string (kNameB k), .slice (some ⟨qb, qo, none⟩) (kParts k).length cp, r], .bx b8 62 (inC (bareP x ((kParts k).take j) y0) p' (bareI k x).ar.length cp')] ++ [.bx b11 77 #[.func (.func q.1) #[] #[], .int .i64 q.2.1, .int .i64 q.2.2.1, .bool q.2.2.2]]) V) ?_ ?_
    rotate_left
    · intro J hJ
      refine xFa77_3 (kLd hS _ at_r rfl rfl (kIf_b (fun hq => xLen22 (kD_i (hJ _ _ ⟨?_, hS⟩))) (fun hq => kD_i (hJ _ _ ⟨?_, hS⟩))))
      · simp [topP, hq]
      · simp [topP, hq]
    rintro cs V ⟨rfl, hS⟩ ds2
    try dsimp only [List.getD_cons_zero]
    refine xFa77_0 (kLd hS _ at_r rfl rfl (at_call hf (kNil_p (kLd hS L0.length j5 (inC_get hf _ _ _ _) rfl ?_))))
    refine kJn_inv (fun cs V => cs = [.bool (restB k x && ((kParts k).take (j + 1)).all (inP l.length x))] ∧ St w (L0 ++ [.bx b5 62 (inC x p x.ar.length pc), .bx b6 73 #[.string (kNameB k), .slice (some ⟨qb, qo, none⟩) (kParts k).length cp, r], .bx b8 62 (inC (bareP x ((kParts k).take j) y0) p' (bareI k x).ar.length cp')] ++ [.bx b11 77 #[.func (.func q.1) #[] #[], .int .i64 q.2.1, .int .i64 q.2.2.1, .bool q.2.2.2]]) V) ?_ ?_
    rotate_left
    · intro J hJ
      refine kIf_b (fun hF => ?_) (fun hF => kD_i (hJ _ _ ⟨?_, hS⟩))
      · refine xFa77_1 (kLd hS _ at_r rfl rfl (kBS (xE60 V) hS [.int .i64 (getF q.1 x)] rfl rfl (by omega) (by omega) (by simp [Value.cells]) fun a2 cp2 V hS hsl => ?_))
        refine kCall_i (Tryz.call36 _ _) (in39 q.2.1 (topP l.length q) [getF q.1 x] V a2 cp2 hsl (by simp) _ fun W hB => kD_i (hJ _ _ ⟨?_, (hS.bel hB).init⟩))
        rw [hal, ← Bool.and_assoc, hF, Bool.true_and]; rfl
      · rw [hal, ← Bool.and_assoc, hF, Bool.false_and]
    rintro cs V ⟨rfl, hS⟩ ds3
    try dsimp only [List.getD_cons_zero]
    refine xFa77_0 (kLd hS _ at_r rfl rfl (at_call hf (kNil_p (kSt hS (L0.length + 2) j8 (by rcases hf with q | q | q <;> rw [q] <;> simp [inC]) rfl rfl rfl fun V hS => kBin_add (kD_i ⟨⟨j + 1, ?_, hjl, ?_⟩, ?_⟩)))))
    · rw [wrap_id (by omega) (by have := hjl; have : (kParts k).length ≤ 3 := (by
        have : ∀ k, k < 22 → (kParts k).length ≤ 3 := by decide
        exact this k (by omega)); omega)]; rfl
    · rw [s8, inC_set hf, ← hsn] at hS
      rw [List.append_nil]; exact hS.init
    · have : (kParts k).length ≤ 3 := (by
        have : ∀ k, k < 22 → (kParts k).length ≤ 3 := by decide
        exact this k (by omega))
      rw [wrap_id (by omega) (by omega)]; show (kParts k).length - ((j : Int) + 1).toNat < (kParts k).length - (j : Int).toNat; omega
  · have hje : j = (kParts k).length := by omega
    rw [hje, List.take_length] at hS
    rw [hje, List.take_length]
    have hr1 : rightC l.length x = ((restB k x && (kParts k).all (inP l.length x)) && decide (bareP x (kParts k) y0 = x)) := by
      unfold rightC
      rw [decide_eq_true hk, Bool.true_and, hkt, hy0]
    have drop3 : ∀ {V : World} {M : List Own}, St w (L0 ++ M ++ []) V → St w L0 V := fun h => by rw [List.append_nil] at h; exact h.init
    refine kUn_not (kIf_b (fun hF => kIf_t (hno (drop3 hS) ?_)) (fun hF => ?_))
    · simp only [Bool.not_eq_true'] at hF
      rw [hr1, hF, Bool.false_and]
    simp only [Bool.not_eq_false'] at hF
    rw [hF, Bool.true_and] at hr1
    have hlen : (bareI k x).ar.length = (bareP x (kParts k) y0).ar.length := by rw [bareP_ar, hy0a]
    rw [hlen] at hS
    refine xLdB62 hS (L0.length + 2) j8 rfl (xLdB62 hS L0.length j5 rfl ?_)
    have hslp : Sl V p' 1 ((bareP x (kParts k) y0).ar.map vInt) := by
      rw [bareP_ar, hy0a]
      rcases bareI_ar k x with q | q
      · rcases hsl' with q2 | q2
        · rw [q, q2]; exact hpx.below hS.below
        · rw [q2]; exact ⟨by simp, .inl rfl⟩
      · rw [q]; exact ⟨by simp, .inl rfl⟩
    refine kCall_i (Tryz.call37 _ _) (same40 (bareP x (kParts k) y0) x V p' p cp' pc hslp (hpx.below hS.below) (by omega) _ fun W hB => kUn_not (kIf_nd (fun hne => hno (drop3 (hS.bel hB)) ?_) (fun heq => kBin_add (kD_i ⟨⟨i + 1, ?_, hil, ?_, drop3 (hS.bel hB)⟩, ?_⟩))))
    · rw [hr1, decide_eq_false hne]
    · rw [wrap_id (by omega) (by omega)]; rfl
    · refine hyes ?_
      rw [hr1, decide_eq_true heq]
    · rw [wrap_id (by omega) (by omega)]; show l.length - ((i : Int) + 1).toNat < l.length - (i : Int).toNat; omega
end Go.L
namespace Go.L
open Go Go.RowKit Go.Proofs
set_option linter.unusedSimpArgs false
set_option linter.unusedVariables false

theorem kEq_pnil {X : Chain → World → Prop} {q : Bool} {w : World} {k : Value → World → Prop} {ox oy : Operand} (h : k (.bool true) w) : kEq ⟨Tryz.prog, X, q⟩ w .eql 65 ox oy (.pointer none) (.pointer none) k :=
  ⟨kVal_pure (c := ⟨Tryz.prog, X, q⟩) (v := .bool true) (fun w' => by
    simp only [go_sem]
    show Sem.run Tryz.prog (do pure (.bool (← Op.equal 65 (.pointer none) (.pointer none))) : Sem Value) w' = _
    have : (Op.equal 65 (.pointer none) (.pointer none)).run Tryz.prog w' = .ok true w' := by
      unfold Op.equal Op.maxDepth Op.equalIn
      simp [run_underlying Tryz.underlying65]
    simp [this]) h⟩
theorem kNoEscP {P : Program} {X : Chain → World → Prop} {w : World} {k : Value → World → Prop} {x : Value} {f : FuncId} {fn : Func} (hf : P.funcs[f]? = some fn) (hname : (fn.name == "runtime.NumGoroutine") = false) (hb : fn.body.isNone = true) (hn : Extern.findNext fn = none) (he : Extern.find fn = some Extern.AbiNoEscape.same) (h : k x w) : kCall ⟨P, X, false⟩ w f #[x] k := ⟨by
  show kNext _ _ _
  rw [run_callFunc_extern hf hname hb hn (e := Extern.AbiNoEscape.same) he, Lib.run_noEscape]
  exact h⟩
theorem kNoEsc {X : Chain → World → Prop} {w : World} {k : Value → World → Prop} {x : Value} (h : k x w) : kCall ⟨Tryz.prog, X, false⟩ w 119 #[x] k := kNoEscP Tryz.func119 (by kernel_rfl) (by kernel_rfl) (by kernel_rfl) (by kernel_rfl) h
theorem kToUnsP {P : Program} {X : Chain → World → Prop} {w : World} {k : Value → World → Prop} {src dst t e : TypeId} {j : TypeInfo} {cells : Nat} {a : Addr} (hs : P.underlying src = some (.pointer t)) (hd : P.underlying dst = some .unsafePointer) (ht : P.info? t = some j) (hj : j.size ≠ 0)
    (hsh : w.shape? a.block = some (e, cells)) (hoff : a.off < cells) (h : k (.pointer (some a)) w) : kConv ⟨P, X, false⟩ w src dst (.pointer (some a)) k := ⟨kVal_do (Lib.run_to_unsafe w a hs hd ht hj hsh hoff) h⟩
theorem kFromUnsP {P : Program} {X : Chain → World → Prop} {w : World} {k : Value → World → Prop} {src dst u e : TypeId} {j : TypeInfo} {cells : Nat} {a : Addr} (hs : P.underlying src = some .unsafePointer) (hd : P.underlying dst = some (.pointer u)) (hu : P.info? u = some j)
    (hsh : w.shape? a.block = some (e, cells)) (hlies : liesAt P P.depth e (cells / P.cellsOf e) a.off u 1 = true) (h : k (.pointer (some a)) w) : kConv ⟨P, X, false⟩ w src dst (.pointer (some a)) k := ⟨kVal_do (Lib.run_from_unsafe w a hs hd hu hsh hlies) h⟩
theorem lies109 : liesAt Tryz.prog Tryz.prog.depth 67 (2 / Tryz.prog.cellsOf 67) 0 67 1 = true := by kernel_rfl
theorem St.shape {w0 w : World} {L : List Own} (hS : St w0 L w) (i : Nat) {b : Nat} {t : TypeId} {cs : Array Value} (hi : L[i]? = some (.bx b t cs)) : w.shape? b = some (t, cs.size) := by
  simp [World.shape?, (hS.get i hi).2]
theorem check99 {w0 w : World} {L : List Own} (hS : St w0 L w) (i : Nat) {b : Nat} {p : Option Addr} {v : Value} (hp : p = none ∨ p = some ⟨b, 0, none⟩) (hi : L[i]? = some (.bx b 67 #[.pointer p, v])) (R : Ending → World → Prop)
    (h : ∀ W, St w0 (L.set i (.bx b 67 #[.pointer (some ⟨b, 0, none⟩), v])) W → R (.returned (.tuple #[])) W) : Calls Tryz.prog 80 #[.pointer (some ⟨b, 0, none⟩)] w R := by
  rcases hp with rfl | rfl
  · have hsh := hS.shape i hi
    refine c80 _ _ _ ?_
    unfold vc80
    refine kNil_p (kFa179_0 (kLoad_st hS i hi rfl (fun w => Tryz.isAgg65 w) (kEq_pnil (kIf_t ?_))))
    refine kToUnsP Tryz.underlying65 Tryz.underlying169 (info_of (Tryz.typeInfo67 w)) (by decide) hsh (by simp) (kNoEsc ?_)
    refine kFromUnsP (cells := 2) Tryz.underlying169 Tryz.underlying65 (info_of (Tryz.typeInfo67 w)) hsh lies109 ?_
    exact kNil_p (kFa179_0 (kSt hS i hi (by simp) rfl rfl rfl fun W hS => h W hS))
  · refine check142 hS i hi R (h w ?_)
    have : L.set i (.bx b 67 #[.pointer (some ⟨b, 0, none⟩), v]) = L := by
      apply List.ext_getElem?
      intro j
      by_cases q : j = i
      · subst q
        have hlt := (List.getElem?_eq_some_iff.1 hi).1
        rw [List.getElem?_set_self hlt, hi]
      · rw [List.getElem?_set_ne (Ne.symm q)]
    rw [this]; exact hS
/-- A builder that has taken some text: its box, its row. -/
theorem Write56 {w0 w : World} {b n : Nat} {p : Option Addr} {v : Value} {bs : List Value} {s : ByteArray} {M : List Own} (hp : p = none ∨ p = some ⟨b, 0, none⟩) (hS : St w0 (.bx b 67 #[.pointer p, v] :: .row v 5 1 n bs :: M) w) (hm : n + s.size ≤ 140737488355328) (R : Ending → World → Prop)
    (h : ∀ v' W, St w0 (.bx b 67 #[.pointer (some ⟨b, 0, none⟩), v'] :: .row v' 5 1 (n + s.size) (bs ++ Lib.strCells s) :: M) W → R (.returned (.tuple #[.int .i64 s.size, .nilIface])) W) : Calls Tryz.prog 31 #[.pointer (some ⟨b, 0, none⟩), .string s] w R := by
  refine c31 _ _ _ _ ?_
  unfold vc31
  refine kCall_i (Tryz.call80 _ _) (check99 hS 0 hp rfl _ fun W hS => ?_)
  have hS : St w0 (.bx b 67 #[.pointer (some ⟨b, 0, none⟩), v] :: .row v 5 1 n bs :: M) W := hS
  refine kNil_p (kFa179_1 (kLd hS 0 rfl rfl rfl (kAppStr_st hS 1 rfl hm fun x' W hS => ?_)))
  exact kNil_p (kFa179_1 (kSt hS 0 rfl (by simp) (row_cells (hS.get 1 rfl)).1 (row_cells (hS.get 1 rfl)).2 rfl fun W hS => kLen9 (h x' W hS)))
end Go.L
namespace Go.L
open Go Go.RowKit Go.Proofs
set_option linter.unusedSimpArgs false
set_option linter.unusedVariables false

/-- The table of tens. -/
structure Tab (w : World) : Prop where
  is : Lib.TabIs Tryz.prog w "internal/strconv.uint64pow10" .u64 Lib.pow10Tab
theorem Tab.below {w w' : World} (h : Tab w) (hB : Below w.heap.size w w') : Tab w' := ⟨Lib.tabBelow_of_tabIs h.is w' hB⟩
def itoaB (n : Int) : ByteArray := ⟨(Lib.itoa n).toArray⟩
def I64 (n : Int) : Prop := -9223372036854775808 ≤ n ∧ n ≤ 9223372036854775807
theorem Itoa53 (n : Int) (hn : I64 n) (w : World) (hT : Tab w) (R : Ending → World → Prop) (h : ∀ W, Below w.heap.size w W → R (.returned (.string (itoaB n))) W) : Calls Tryz.prog 28 #[.int .i64 n] w R := by
  refine (Tryz.strconv_Itoa n hn.1 hn.2 w hT.is).mono ?_
  rintro e W ⟨rfl, k, os, rfl⟩
  exact h _ (Lib.below_grow _ w (Nat.le_refl _) k os)
theorem Format111 (n : Int) (hn : I64 n) (w : World) (hT : Tab w) (R : Ending → World → Prop) (h : ∀ W, Below w.heap.size w W → R (.returned (.string (itoaB n))) W) : Calls Tryz.prog 113 #[.int .i64 n, .int .i64 10] w R := by
  refine c113 _ _ _ _ ?_
  unfold vc113
  refine kCall_i (Tryz.call107 _ _) ((Tryz.internal_strconv_FormatInt_10 n hn.1 hn.2 w hT.is).mono ?_)
  rintro e W ⟨rfl, k, os, rfl⟩
  exact h _ (Lib.below_grow _ w (Nat.le_refl _) k os)
theorem itoaB_size (n : Int) (hn : I64 n) : (itoaB n).size ≤ 21 := by
  show (Lib.itoa n).toArray.size ≤ 21
  rw [List.size_toArray]; exact Lib.itoa_length_le n hn.1 hn.2
def vStr (s : ByteArray) : Value := .string s
theorem vStr_size (l : List ByteArray) : ∀ v ∈ l.map vStr, v.cells.size = 1 := by
  intro v hv; obtain ⟨r, _, rfl⟩ := List.mem_map.1 hv; rfl
theorem flatS (l : List ByteArray) : flat (l.map vStr) = l.map vStr := by
  induction l with
  | nil => rfl
  | cons a l ih =>
    have : flat ((a :: l).map vStr) = vStr a :: flat (l.map vStr) := by simp [flat, vStr, Value.cells]
    rw [this, ih]; rfl
/-- Appending a text to texts that one has made. -/
theorem kAppS {w w0 : World} {L : List Own} {X : Chain → World → Prop} {k : Value → World → Prop} {x : Value} {ss : List ByteArray} {s : ByteArray} (hS : St w0 (L ++ [.row x 9 1 ss.length (ss.map vStr)]) w) (hsm : ss.length ≤ 1000000)
    (h : ∀ x' W, St w0 (L ++ [.row x' 9 1 (ss ++ [s]).length ((ss ++ [s]).map vStr)]) W → k x' W) : kBuildS ⟨Tryz.prog, X, false⟩ w 74 1 #[(0, .string s)] (fun v23 w_11 => kBlt ⟨Tryz.prog, X, false⟩ w_11 .append #[74, 74] 74 #[false, false] #[x, v23] k) := by
  refine kBuildS_st (xE74 w) hS [vStr s] rfl rfl (by omega) (by omega) (by simp [vStr, Value.cells]) fun y V hS => ?_
  have i0 : (L ++ [Own.row x 9 1 ss.length (ss.map vStr)] ++ [Own.row y 9 1 1 (flat [vStr s])])[L.length]? = some (.row x 9 1 ss.length (ss.map vStr)) := at_l at_r
  have i1 : (L ++ [Own.row x 9 1 ss.length (ss.map vStr)] ++ [Own.row y 9 1 1 (flat [vStr s])])[(L ++ [Own.row x 9 1 ss.length (ss.map vStr)]).length]? = some (.row y 9 1 1 (flat [vStr s])) := at_r
  refine kAppRow_st (xE74 w) hS _ _ i0 i1 (by simp [flat, vStr, Value.cells, Value.oneCell']) (by simp [maxLen]; omega) (by omega) fun x' V hS => h x' V ?_
  rw [set_l _ at_r, set_r] at hS
  have hS := hS.init
  have e : (ss ++ [s]).map vStr = ss.map vStr ++ flat [vStr s] := by simp [flat, vStr, Value.cells]
  rw [e, List.length_append]; exact hS
def itoas (l : List Int) : List ByteArray := l.map itoaB
theorem some58 (l : List Int) (hl64 : ∀ n ∈ l, I64 n) (w : World) (hT : Tab w) (lo : Option Addr) (lc : Nat) (hl : Sl w lo 1 (l.map vInt)) (hsm : l.length ≤ 1000000) (R : Ending → World → Prop)
    (h : ∀ x W, St w [.row x 9 1 l.length ((itoas l).map vStr)] W → R (.returned x) W) : Calls Tryz.prog 33 #[.slice lo l.length lc, .func (.func 28) #[] #[]] w R := by
  refine c33 _ _ _ _ _ _ ?_
  unfold vc33
  have hS := (St.start w).adopt (o := .row (.slice none 0 0) 9 1 0 []) (World.ownsRow_nil _ _ _ _) (fun p hp => by cases hp)
  refine xLen60 ⟨⟨fun cs V => ∃ (i : Nat) (x : Value), cs = [x, .int .i64 i] ∧ i ≤ l.length ∧ St w [.row x 9 1 (itoas (l.take i)).length ((itoas (l.take i)).map vStr)] V, fun cs _ => l.length - (match cs with | [_, .int _ i] => i.toNat | _ => 0), ⟨0, _, rfl, Nat.zero_le _, hS⟩, ?_⟩⟩
  rintro cs ds V ⟨i, x, rfl, hi, hS⟩
  dsimp only [List.getD_cons_zero, List.getD_cons_succ]
  refine kBin_lss (kIf_d (fun e => ?_) (fun e => ?_))
  · have hil : i < l.length := by omega
    obtain ⟨pb, po, rfl, hpb, hpr⟩ := (hl.below hS.below).elem (i := i) (v := vInt l[i]) (by simp [hil])
    refine xIa60 hil (kLdS rfl (hpr 0 (.int .i64 l[i]) rfl) (kCallV_i (Tryz.call28 _ _) (Itoa53 l[i] (hl64 _ (List.getElem_mem hil)) V (hT.below hS.below) _ fun W hB => ?_)))
    have hS := hS.bel hB
    refine kAppS (L := []) (ss := itoas (l.take i)) (s := itoaB l[i]) hS (by simp [itoas]; omega) fun x' W hS => kBin_add (kD_i ⟨⟨i + 1, x', ?_, hil, ?_⟩, ?_⟩)
    · rw [wrap_id (by omega) (by omega)]; rfl
    · have e : itoas (l.take (i + 1)) = itoas (l.take i) ++ [itoaB l[i]] := by unfold itoas; rw [List.take_succ_eq_append_getElem hil, List.map_append]; rfl
      rw [e]; exact hS
    · rw [wrap_id (by omega) (by omega)]; show l.length - ((i : Int) + 1).toNat < l.length - (i : Int).toNat; omega
  · have : i = l.length := by omega
    rw [this, List.take_length] at hS
    have hS' : St w [.row x 9 1 l.length ((itoas l).map vStr)] V := by simpa [itoas] using hS
    exact h x V hS'
end Go.L
namespace Go.L
open Go Go.RowKit Go.Proofs
set_option linter.unusedSimpArgs false
set_option linter.unusedVariables false

theorem kBin_quoI {c : Cx} {w : World} {k : Value → World → Prop} {t : TypeId} {q : IntKind} {a b : Int} (hb : b ≠ 0) (h : k (.int q (q.wrap (Int.tdiv a b))) w) : kBin c w .quo t (.int q a) (.int q b) k := ⟨kVal_pure (fun _ => by
  rw [binOp_quo]; unfold Op.intDiv
  rw [if_neg (by simpa using hb)]; rfl) h⟩
theorem Sl.dropS {w : World} {a : Option Addr} {cp : Nat} {l : List ByteArray} (h : Sl w a 1 (l.map vStr)) (hc : l.length ≤ cp) (h1 : 1 < l.length) : Sl w (if cp = 1 then a else a.map (·.add (1 * 1))) 1 ((l.drop 1).map vStr) := by
  refine ⟨vStr_size _, .inr ?_⟩
  rcases h.at_ with he | ⟨b, o, ha, hb, hr⟩
  · rw [List.map_eq_nil_iff] at he; subst he; simp at h1
  · refine ⟨b, o + 1, ?_, hb, ?_⟩
    · rw [if_neg (by omega), ha]; simp [Addr.add_mid]
    · have e1 : ∀ l : List ByteArray, (l.map vStr).flatMap (·.cells.toList) = l.map vStr := flatS
      rw [e1] at hr ⊢
      intro j v hj
      have := hr (1 + j) v (by rw [← hj, List.map_drop, List.getElem?_drop])
      rwa [← Nat.add_assoc] at this
def catB (sep : ByteArray) : List ByteArray → ByteArray
  | [] => ⟨#[]⟩
  | x :: r => sep ++ x ++ catB sep r
def joinB (sep : ByteArray) : List ByteArray → ByteArray
  | [] => ⟨#[]⟩
  | x :: r => x ++ catB sep r
theorem app_nil (s : ByteArray) : s ++ (⟨#[]⟩ : ByteArray) = s := ByteArray.append_empty
theorem nil_app (s : ByteArray) : (⟨#[]⟩ : ByteArray) ++ s = s := ByteArray.empty_append
theorem catB_snoc (sep : ByteArray) (r : List ByteArray) (y : ByteArray) : catB sep (r ++ [y]) = catB sep r ++ sep ++ y := by
  induction r with
  | nil => simp [catB, app_nil, nil_app]
  | cons x r ih => simp only [List.cons_append, catB, ih, ByteArray.append_assoc]
def sumS (l : List ByteArray) : Nat := (l.map ByteArray.size).sum
theorem sumS_take (l : List ByteArray) {i : Nat} (hi : i < l.length) : sumS (l.take (i + 1)) = sumS (l.take i) + l[i].size := by
  unfold sumS
  rw [List.take_succ_eq_append_getElem hi, List.map_append, List.sum_append]; rfl
theorem sumS_le (l : List ByteArray) (i : Nat) : sumS (l.take i) ≤ sumS l := by
  induction l generalizing i with
  | nil => simp [sumS]
  | cons a l ih =>
    cases i with
    | zero => simp [sumS]
    | succ i => have := ih i; simp [sumS] at this ⊢; omega
theorem catB_size (sep : ByteArray) (r : List ByteArray) : (catB sep r).size = sumS r + sep.size * r.length := by
  induction r with
  | nil => simp [catB, sumS]; rfl
  | cons x r ih => simp only [catB, ByteArray.size_append, ih, sumS, List.map_cons, List.sum_cons, List.length_cons, Nat.mul_succ]; omega
theorem strCells_app (a b : ByteArray) : Lib.strCells (a ++ b) = Lib.strCells a ++ Lib.strCells b := by simp [Lib.strCells, Lib.byteCells]
/-- A builder that holds a text. -/
def BuiltS (w0 : World) (p : Nat) (c : ByteArray) (M : List Own) (W : World) : Prop := ∃ v, St w0 (.bx p 67 #[.pointer (some ⟨p, 0, none⟩), v] :: .row v 5 1 c.size (Lib.strCells c) :: M) W
theorem BuiltS.write {w0 W : World} {p : Nat} {c s : ByteArray} {M : List Own} (h : BuiltS w0 p c M W) (hm : c.size + s.size ≤ 140737488355328) (R : Ending → World → Prop)
    (hk : ∀ W, BuiltS w0 p (c ++ s) M W → R (.returned (.tuple #[.int .i64 s.size, .nilIface])) W) : Calls Tryz.prog 31 #[.pointer (some ⟨p, 0, none⟩), .string s] W R := by
  obtain ⟨v, hS⟩ := h
  refine Write56 (.inr rfl) hS hm R fun v' W hS => hk W ⟨v', ?_⟩
  rw [strCells_app, ByteArray.size_append]; exact hS
theorem BuiltS.tell {w0 W : World} {p : Nat} {c : ByteArray} {M : List Own} (h : BuiltS w0 p c M W) (R : Ending → World → Prop)
    (hk : ∀ W', Below W.heap.size W W' ∨ Below w0.heap.size w0 W' → Below w0.heap.size w0 W' → R (.returned (.string c)) W') : Calls Tryz.prog 34 #[.pointer (some ⟨p, 0, none⟩)] W R := by
  obtain ⟨v, hS⟩ := h
  have hl : Lib.strCells c = Lib.byteCells c.data.toList := by simp [Lib.strCells, Lib.byteCells]
  have hn : (Lib.byteCells c.data.toList).length = c.size := by rw [Lib.byteCells_length, Array.length_toList]; rfl
  have hrow : W.ownsRow w0.heap.size 5 1 v (Lib.byteCells c.data.toList).length (Lib.byteCells c.data.toList) := by
    rw [hn, ← hl]; exact hS.get 1 rfl
  have hap := hS.apart 1 0 _ _ rfl rfl (by omega)
  have hne : v.ownBlock ≠ some p := by
    rcases hap with e | e
    · intro q; rw [show v.ownBlock = none from e] at q; cases q
    · exact e
  refine (Tryz.Builder_String_any w0.heap.size p c.data.toList W (.inr ⟨(hS.get 0 rfl).1, v, (hS.get 0 rfl).2, hrow, hne⟩) hS.size).mono ?_
  rintro e W5 ⟨rfl, hB5⟩
  exact hk W5 (.inr (hS.below.trans hB5)) (hS.below.trans hB5)
theorem Join57 (l : List ByteArray) (sep : ByteArray) (w : World) (lo : Option Addr) (lc : Nat) (hl : Sl w lo 1 (l.map vStr)) (hlc : l.length ≤ lc) (hn : l.length ≤ 1000000) (hsep : sep.size ≤ 1000) (hsum : sumS l ≤ 1000000000000) (R : Ending → World → Prop)
    (h : ∀ W, Below w.heap.size w W → R (.returned (.string (joinB sep l))) W) : Calls Tryz.prog 32 #[.slice lo l.length lc, .string sep] w R := by
  refine c32 _ _ _ _ _ _ ?_
  unfold vc32
  refine xLen74 (kEq_int (kIf_eq (fun e => ?_) (fun e0 => kEq_int (kIf_eq (fun e => ?_) (fun e1 => ?_)))))
  · have : l = [] := List.eq_nil_of_length_eq_zero (by omega)
    subst this
    exact h w (Below.refl _ _)
  · obtain ⟨x, rfl⟩ : ∃ x, l = [x] := List.length_eq_one_iff.1 (by omega)
    obtain ⟨pb, po, rfl, hpb, hpr⟩ := hl.elem (i := 0) (v := vStr x) rfl
    refine xIa74 (i := 0) (by simp) (kLdS rfl (hpr 0 (.string x) rfl) ?_)
    have := h w (Below.refl _ _)
    rwa [show joinB sep [x] = x from app_nil x] at this
  obtain ⟨x, r, hxr⟩ : ∃ x r, l = x :: r := by
    cases l with
    | nil => simp at e0
    | cons x r => exact ⟨x, r, rfl⟩
  have hlr : l.length = r.length + 1 := by rw [hxr]; simp
  have hsr : sumS l = x.size + sumS r := by rw [hxr]; simp [sumS]
  have hmul : sep.size * r.length ≤ 1000 * 1000000 := Nat.mul_le_mul hsep (by omega)
  refine kJn_inv (fun cs V => V = w ∧ cs = [.int .i64 ((sep.size * r.length : Nat) : Int)]) ?_ ?_
  rotate_left
  · intro J hJ
    refine kLen9 (kBin_gtr (kIf_d (fun q => ?_) (fun q => kD_i (hJ _ _ ⟨rfl, ?_⟩))))
    · refine kJn_inv (fun cs V => V = w) ?_ ?_
      rotate_left
      · intro J2 hJ2
        refine kLen9 (xLen74 (kBin_sub ?_))
        rw [wrap_id (by omega) (by omega)]
        refine kBin_quoI (by omega) (kBin_geq (kIf_d (fun q2 => ?_) (fun q2 => kD_i (hJ2 _ _ rfl))))
        exfalso
        have e2 : ((l.length : Int) - 1) = ((r.length : Nat) : Int) := by omega
        rw [e2, show (9223372036854775807 : Int) = ((9223372036854775807 : Nat) : Int) by rfl, ← Int.ofNat_tdiv] at q2
        have hd : 9223372036854775807 / r.length ≥ 9223372036854775807 / 1000000 := Nat.div_le_div_left (by omega) (by omega)
        have hd2 : 9223372036854775807 / r.length ≤ 9223372036854775807 := Nat.div_le_self _ _
        rw [wrap_id (by omega) (by omega)] at q2
        omega
      rintro cs V rfl ds
      refine kLen9 (xLen74 (kBin_sub ?_))
      rw [wrap_id (by omega) (by omega)]
      have e2 : ((l.length : Int) - 1) = ((r.length : Nat) : Int) := by omega
      rw [e2]
      refine kBin_mul (kBin_add (kD_i (hJ _ _ ⟨rfl, ?_⟩)))
      rw [show ((sep.size : Int) * (r.length : Nat)) = ((sep.size * r.length : Nat) : Int) by simp]
      generalize sep.size * r.length = T at hmul
      rw [wrap_id (a := ((T : Nat) : Int)) (by omega) (by omega), wrap_id (by omega) (by omega), Int.zero_add]
    · have : sep.size = 0 := by omega
      rw [this]; simp
  rintro cs V ⟨rfl, rfl⟩ ds
  try dsimp only [List.getD_cons_zero]
  obtain ⟨T, hT⟩ : ∃ T, T = sep.size * r.length := ⟨_, rfl⟩
  rw [← hT] at hmul ⊢
  have hle := sumS_le l
  refine xLen74 ⟨⟨fun cs W => W = V ∧ ∃ i : Nat, cs = [.int .i64 ((T + sumS (l.take i) : Nat) : Int), .int .i64 i] ∧ i ≤ l.length, fun cs _ => l.length - (match cs with | [_, .int _ i] => i.toNat | _ => 0), ⟨rfl, 0, by simp [sumS], Nat.zero_le _⟩, ?_⟩⟩
  rintro cs ds W ⟨rfl, i, rfl, hi⟩
  dsimp only [List.getD_cons_zero, List.getD_cons_succ]
  have hlei := hle i
  refine kBin_lss (kIf_d (fun e => ?_) (fun e => ?_))
  · have hil : i < l.length := by omega
    obtain ⟨pb, po, rfl, hpb, hpr⟩ := hl.elem (i := i) (v := vStr l[i]) (by simp [hil])
    have hst := sumS_take l hil
    have hlei2 := hle (i + 1)
    refine xIa74 hil (kLdS rfl (hpr 0 (.string l[i]) rfl) ?_)
    refine kJn_inv (fun cs V => V = W) ?_ (fun J hJ => kLen9 (kBin_sub (kBin_gtr (kIf_d (fun e => ?_) (fun e => kD_i (hJ _ _ rfl))))))
    · rintro cs V rfl ds
      refine kLen9 (kBin_add (kBin_add (kD_i ⟨⟨rfl, i + 1, ?_, hil⟩, ?_⟩)))
      · rw [hst, wrap_id (by omega) (by omega), wrap_id (by omega) (by omega), show ((T + (sumS (l.take i) + l[i].size) : Nat) : Int) = ((T + sumS (l.take i) : Nat) : Int) + (l[i].size : Int) by omega]; rfl
      · rw [wrap_id (a := (i : Int) + 1) (by omega) (by omega)]; show l.length - ((i : Int) + 1).toNat < l.length - (i : Int).toNat; omega
    · rw [wrap_id (by omega) (by omega)] at e; omega
  have hie : i = l.length := by omega
  rw [hie, List.take_length]
  refine kAlloc_st Tryz.zeroValue67 (St.start W) fun p V hS => ?_
  have hS : St W [.bx p 67 #[.pointer none, .slice none 0 0]] V := hS
  refine kCall_i (Tryz.call81 _ _) ((Tryz.Builder_Grow_fresh W.heap.size p (T + sumS l) V (hS.get 0 rfl).1 (hS.get 0 rfl).2 hS.size (by omega)).mono ?_)
  rintro e V2 ⟨rfl, ⟨hB, v, hbk, hown, hne⟩, hbel⟩
  have hA : St W [] V2 := ⟨hS.below.trans hbel, by simp, by simp⟩
  have hA := hA.adopt (o := .bx p 67 #[.pointer (some ⟨p, 0, none⟩), v]) ⟨hB, hbk⟩ (by simp)
  have hA := hA.adopt (o := .row v 5 1 0 []) hown (fun q hq => by simp at hq; subst hq; exact .inr (fun e => hne e.symm))
  have hS2 : BuiltS W p ⟨#[]⟩ [] V2 := ⟨v, hA⟩
  have hbl : ∀ {c : ByteArray} {W4 : World}, BuiltS W p c [] W4 → Below W.heap.size W W4 := fun h => by obtain ⟨v, h⟩ := h; exact h.below
  obtain ⟨pb, po, rfl, hpb, hpr⟩ := (hl.below (hbl hS2)).elem (i := 0) (v := vStr x) (by rw [hxr]; rfl)
  refine xIa74 (i := 0) (by omega) (kLdS rfl (hpr 0 (.string x) rfl) (kCall_i (Tryz.call31 _ _) (hS2.write (by show 0 + x.size ≤ _; omega) _ fun W3 hS3 => ?_)))
  rw [nil_app] at hS3
  refine xSl74_l (l := 1) (by omega) hlc (xLen74 ?_)
  have hd := (hl.dropS hlc (by omega))
  have hdr : l.drop 1 = r := by rw [hxr]; rfl
  rw [hdr] at hd
  have hl1 : l.length - 1 = r.length := by omega
  rw [hl1]
  generalize (if lc = 1 then (some ⟨pb, po, none⟩ : Option Addr) else (some ⟨pb, po, none⟩ : Option Addr).map (·.add (1 * 1))) = a1 at hd ⊢
  refine ⟨⟨fun cs W4 => ∃ i : Nat, cs = [.int .i64 i] ∧ i ≤ r.length ∧ BuiltS W p (x ++ catB sep (r.take i)) [] W4, fun cs _ => r.length - (match cs with | [.int _ i] => i.toNat | _ => 0), ⟨0, rfl, Nat.zero_le _, by rw [show catB sep (r.take 0) = ⟨#[]⟩ from rfl, app_nil]; exact hS3⟩, ?_⟩⟩
  rintro cs ds W4 ⟨i, rfl, hi, hS4⟩
  dsimp only [List.getD_cons_zero, List.getD_cons_succ]
  refine kBin_lss (kIf_d (fun e => ?_) (fun e => ?_))
  · have hil : i < r.length := by omega
    obtain ⟨qb, qo, rfl, hqb, hqr⟩ := (hd.below (hbl hS4)).elem (i := i) (v := vStr r[i]) (by simp [hil])
    have hcs := catB_size sep (r.take i)
    have h1 := sumS_le r i
    have h2 := sumS_le r (i + 1)
    rw [sumS_take r hil] at h2
    have h3 : sep.size * (r.take i).length ≤ T := by rw [hT]; exact Nat.mul_le_mul_left _ (by simp; omega)
    refine xIa74 hil (kLdS rfl (hqr 0 (.string r[i]) rfl) (kCall_i (Tryz.call31 _ _) (hS4.write (by rw [ByteArray.size_append]; omega) _ fun W5 hS5 => ?_)))
    refine kCall_i (Tryz.call31 _ _) (hS5.write (by rw [ByteArray.size_append, ByteArray.size_append]; omega) _ fun W6 hS6 => kBin_add (kD_i ⟨⟨i + 1, ?_, hil, ?_⟩, ?_⟩))
    · rw [wrap_id (by omega) (by omega)]; rfl
    · rw [List.take_succ_eq_append_getElem hil, catB_snoc, ← ByteArray.append_assoc, ← ByteArray.append_assoc]; exact hS6
    · rw [wrap_id (by omega) (by omega)]; show r.length - ((i : Int) + 1).toNat < r.length - (i : Int).toNat; omega
  · have hir : i = r.length := by omega
    rw [hir, List.take_length] at hS4
    refine kCall_i (Tryz.call34 _ _) (hS4.tell _ fun W' _ hB => ?_)
    have := h W' hB
    rwa [show joinB sep l = x ++ catB sep r by rw [hxr]; rfl] at this
end Go.L
namespace Go.L
open Go Go.RowKit Go.Proofs
set_option linter.unusedSimpArgs false
set_option linter.unusedVariables false

def laidEs : Array MapEntry := #[{ key := .int .i64 0, val := .func (.func 109) #[] #[], born := 0 }, { key := .int .i64 1, val := .func (.func 110) #[] #[], born := 1 }, { key := .int .i64 2, val := .func (.func 112) #[] #[], born := 2 }, { key := .int .i64 3, val := .func (.func 114) #[] #[], born := 3 }, { key := .int .i64 4, val := .func (.func 117) #[] #[], born := 4 }]
theorem laid98 (w : World) (R : Ending → World → Prop) (h : ∀ b W, St w [.ob b (.map laidEs 5)] W → R (.returned (.map (some b))) W) : Calls Tryz.prog 79 #[] w R := by
  refine c79 _ _ ?_
  unfold vc79
  refine kMkMap_st (St.start w) fun b W hS => ?_
  refine kUpd_st hS 0 rfl Tryz.underlying131 Tryz.underlying57 rfl rfl fun W hS => ?_
  refine kUpd_st hS 0 rfl Tryz.underlying131 Tryz.underlying57 rfl rfl fun W hS => ?_
  refine kUpd_st hS 0 rfl Tryz.underlying131 Tryz.underlying57 rfl rfl fun W hS => ?_
  refine kUpd_st hS 0 rfl Tryz.underlying131 Tryz.underlying57 rfl rfl fun W hS => ?_
  refine kUpd_st hS 0 rfl Tryz.underlying131 Tryz.underlying57 rfl rfl fun W hS => ?_
  exact h b W hS
def litF (t : Int) : Nat := if t = 0 then 109 else if t = 1 then 110 else if t = 2 then 112 else if t = 3 then 114 else 117
theorem laid_find {t : Int} (h0 : 0 ≤ t) (h4 : t ≤ 4) : ∃ j, Instr.findNow (.int .i64) (.int .i64 t) laidEs.toList 0 = some (some (j, .func (.func (litF t)) #[] #[])) := by
  have : t = 0 ∨ t = 1 ∨ t = 2 ∨ t = 3 ∨ t = 4 := by omega
  rcases this with rfl | rfl | rfl | rfl | rfl <;> exact ⟨_, rfl⟩
theorem lit_enter {t : Int} (h0 : 0 ≤ t) (h4 : t ≤ 4) (args : Array Value) (w : World) : (callFunc (litF t) args).run Tryz.prog w = .ok (.enter (litF t) args) w := by
  have : t = 0 ∨ t = 1 ∨ t = 2 ∨ t = 3 ∨ t = 4 := by omega
  rcases this with rfl | rfl | rfl | rfl | rfl
  · exact Tryz.call109 _ _
  · exact Tryz.call110 _ _
  · exact Tryz.call112 _ _
  · exact Tryz.call114 _ _
  · exact Tryz.call117 _ _
theorem checkE_rng {r : AV} (h : checkE r = 0) : 0 ≤ r.1 ∧ r.1 ≤ 4 := by
  unfold checkE at h
  split at h
  · omega
  · split at h
    · omega
    · omega
theorem Lv_ret82 {p c : Value} {rs : List RV} {R : Ending → World → Prop} {w : World} (h : RetK Tryz.prog rs R w) : Lv Tryz.prog rs R [{ target := .fn (.func 76) #[], args := #[p, c] }] .returning w :=
  ⟨rfl, Tryz.call76, (caught_idle87 p c w).mono (by rintro e u' w' ⟨rfl, rfl, rfl⟩; exact h)⟩
/-- value.Literal, of what may be, by what its kind's function tells. -/
theorem Literal55 (r : AV) (hc : checkE r = 0) (s : ByteArray) (w : World) (R : Ending → World → Prop)
    (hcall : ∀ W, Below w.heap.size w W → ∀ R', (∀ W', Below W.heap.size W W' → R' (.returned (.string s)) W') → Calls Tryz.prog (litF r.1) #[vVal r] W R')
    (h : ∀ W, Below w.heap.size w W → R (.returned (.tuple #[.string s, .int .i64 0])) W) : Calls Tryz.prog 30 #[vVal r] w R := by
  have hr := checkE_rng hc
  refine c30 _ _ _ _ _ ?_
  unfold vc30
  refine kBox_st (St.start w) fun b1 W hS => kAlloc_st Tryz.zeroValue9 hS fun b2 W hS => kAlloc_st Tryz.zeroValue26 hS fun b3 W hS => ?_
  have hS : St w [.bx b1 59 (vVal r).cells, .bx b2 9 #[.string ⟨#[]⟩], .bx b3 26 #[.int .i64 0]] W := hS
  refine xLdB59 hS 0 rfl rfl (kCall_i (Tryz.call78 _ _) (right89 r W _ (fun _ W2 hB => ?_) (fun hne => absurd hc hne)))
  have hS := hS.bel hB
  refine kDrawn_i (kDrawn_i (xFa59_0 (kLd hS 0 rfl rfl rfl (xLdB59 hS 0 rfl rfl (kDrew_st hS fun W hS => kCall_i (Tryz.call79 _ _) (laid98 W _ fun bm W2 hSm => ?_))))))
  have hS := hS.join hSm
  have hS : St w [.bx b1 59 (vVal r).cells, .bx b2 9 #[.string ⟨#[]⟩], .bx b3 26 #[.int .i64 0], .ob bm (.map laidEs 5)] W2 := hS
  obtain ⟨j, hj⟩ := laid_find hr.1 hr.2
  refine xFa59_0 (kSame_i (kLd hS 0 rfl rfl rfl (kSame_i (xLdB59 hS 0 rfl rfl (kSame_i (kLook_map (c := ⟨Tryz.prog, _, true⟩) (hS.get 3 rfl).2 Tryz.underlying131 Tryz.underlying57 rfl hj (kDrew_st hS fun W hS => ?_)))))))
  refine kCallV_i (lit_enter hr.1 hr.2 _ _) (hcall W hS.below _ fun W' hB => ?_)
  have hS := hS.bel hB
  refine kDrew_st hS fun W hS => kSt hS 1 rfl (by simp) rfl rfl rfl fun W hS => kSt hS 2 rfl (by simp) rfl rfl rfl fun W hS => Lv_ret82 (RetK_cell2 rfl rfl (hS.cell 1 rfl 0 rfl) (hS.cell 2 rfl 0 rfl) (h W hS.below))
theorem lit110 (r : AV) (hr : I64 r.2.1) (w : World) (hT : Tab w) (R : Ending → World → Prop) (h : ∀ W, Below w.heap.size w W → R (.returned (.string (itoaB r.2.1))) W) : Calls Tryz.prog 112 #[vVal r] w R := by
  refine c112 _ _ _ _ _ ?_
  unfold vc112
  exact kBox_st (St.start w) fun b W hS => xFa59_1 (kLd hS 0 rfl rfl rfl (kCall_i (Tryz.call113 _ _) (Format111 r.2.1 hr W (hT.below hS.below) _ fun W2 hB => h W2 (hS.bel hB).below)))
end Go.L
