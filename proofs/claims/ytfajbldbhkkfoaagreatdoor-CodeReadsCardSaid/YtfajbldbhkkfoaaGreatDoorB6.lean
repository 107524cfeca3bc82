/- Contracts of single functions: no condition but those that each states. -/
import Derived.Test.YtfajbldbhkkfoaaGreatDoorB5
set_option linter.unusedVariables false
set_option linter.unusedSimpArgs false
namespace Go.L
open Go Go.RowKit Go.Proofs
set_option linter.unusedSimpArgs false
set_option linter.unusedVariables false

theorem bl_drop2 (s : ByteArray) {k : Nat} (h : k + 1 < s.size) : (bl s).drop k = (s[k]'(by omega)).toNat :: (s[k + 1]).toNat :: (bl s).drop (k + 2) := by
  have hl : (bl s).length = s.size := bl_length s
  rw [List.drop_eq_getElem_cons (by omega), List.drop_eq_getElem_cons (by omega)]
  have g : ∀ i (hi : i < s.size), (bl s)[i]'(by omega) = (s[i]).toNat := fun i hi => by simp [bl]; rfl
  rw [g k (by omega), g (k + 1) h]
theorem ins48 (r : List AV) (w : World) (lo : Option Addr) (lc : Nat) (hl : Sl w lo 3 (r.map vVal)) (hsm : r.length ≤ 1000) (hts : ∀ v ∈ r, v.2.2.size ≤ 1000000) (R : Ending → World → Prop)
    (h0 : ∀ x, insOf r = some x → ∀ p pc W, St w [.row (.slice p x.ar.length pc) 3 1 x.ar.length (x.ar.map vInt)] W → R (.returned (.tuple #[inV x p pc, .bool (decide ((x.ar.length : Int) ≤ 200))])) W)
    (h1 : insOf r = none → ∀ W, Below w.heap.size w W → R (.returned (.tuple #[inV in0 none 0, .bool false])) W) : Calls Tryz.prog 48 #[.slice lo r.length lc] w R := by
  refine c48 _ _ _ _ _ ?_
  unfold vc48
  refine kAlloc_st Tryz.zeroValue62 (St.start w) fun b2 W hS => ?_
  have hS : St w [.bx b2 62 (inC in0 none 0 0)] W := hS
  have bad : ∀ {V : World} {X : Chain → World → Prop}, St w [.bx b2 62 (inC in0 none 0 0)] V → insOf r = none → kBuild ⟨Tryz.prog, X, false⟩ V 62 #[] fun v w => kStore ⟨Tryz.prog, X, false⟩ w 62 (.pointer (some ⟨b2, 0, none⟩)) v fun w => RetK Tryz.prog [.cell (.pointer (some ⟨b2, 0, none⟩)) 62, .val (.bool false)] R w := fun hS hn =>
    kBuild_i builtI0 (kStoreA_st hS 0 rfl rfl (by simp [inC, in0, Value.oneCell']) Tryz.sizeOf62 fun W hS => RetK_50v hS 0 rfl rfl (h1 hn W hS.below))
  refine xLen104 (kBin_lss (kIf_d (fun q => bad hS (by unfold insOf; rw [if_neg (by omega)])) (fun q => ?_)))
  have h7 : 7 ≤ r.length := by omega
  have rg : ∀ i, i < r.length → r[i]? = some (r.getD i (0, 0, ⟨#[]⟩)) := fun i hi => by simp [hi]
  have er : ∀ i, i < r.length → (r.map vVal)[i]? = some (vVal (r.getD i (0, 0, ⟨#[]⟩))) := fun i hi => by rw [List.getElem?_map, rg i hi]; rfl
  obtain ⟨rb, ro, hlo, hrb, _⟩ := hl.elem (er 0 (by omega))
  have rk : ∀ {V : World} {L : List Own}, St w L V → ∀ i, i < r.length → V.rangeAt rb (ro + i * 3) (vVal (r.getD i (0, 0, ⟨#[]⟩))).cells.toList := fun hV i hi => by
    obtain ⟨b', o', e, _, hr⟩ := (hl.below hV.below).elem (er i hi)
    rw [hlo] at e
    cases e; exact hr
  rw [hlo]
  refine ⟨⟨fun cs V => ∃ i : Nat, cs = [.int .i64 i] ∧ i ≤ 5 ∧ (r.take i).all okN = true ∧ St w [.bx b2 62 (inC in0 none 0 0)] V, fun cs _ => 5 - (match cs with | [.int _ i] => i.toNat | _ => 0), ⟨0, rfl, Nat.zero_le _, rfl, hS⟩, ?_⟩⟩
  rintro cs ds V ⟨i, rfl, hi, hall, hS⟩
  dsimp only [List.getD_cons_zero]
  refine kBin_lss (kIf_d (fun e => ?_) (fun e => ?_))
  · have hi5 : i < 5 := by omega
    have hir : i < r.length := by omega
    have hri : r.getD i (0, 0, ⟨#[]⟩) = r[i] := by simp [hir]
    have no : okN (r.getD i (0, 0, ⟨#[]⟩)) = false → insOf r = none := fun q => by
      unfold insOf
      rw [if_neg]
      rintro ⟨_, q2⟩
      have := List.all_eq_true.1 q2 r[i] (List.mem_take_iff_getElem.2 ⟨i, by omega, rfl⟩)
      rw [hri, this] at q; cases q
    have yes : okN (r.getD i (0, 0, ⟨#[]⟩)) = true → (r.take (i + 1)).all okN = true := fun q => by
      rw [List.take_succ_eq_append_getElem hir, List.all_append, hall]; rw [hri] at q; simp [q]
    have hk := rk hS i hir
    generalize r.getD i (0, 0, ⟨#[]⟩) = v at *
    refine xIa104 hir (xFa59_0 (kLdS rfl (hk 0 _ rfl) (kNe_int (kIf_ne (fun q => kIf_t (bad hS (no ?_))) (fun q => ?_)))))
    · unfold okN; rw [decide_eq_false q]; rfl
    refine xIa104 hir (xFa59_1 (kLdS rfl (hk 1 _ rfl) (kBin_lss (kIf_d (fun q1 => kIf_t (bad hS (no ?_))) (fun q1 => ?_)))))
    · unfold okN; rw [decide_eq_false (show ¬ -1 ≤ v.2.1 by omega)]; simp
    refine xIa104 hir (xFa59_1 (kLdS rfl (hk 1 _ rfl) (kBin_gtr (kIf_d (fun q2 => bad hS (no ?_)) (fun q2 => kBin_add (kD_i ⟨⟨i + 1, ?_, hi5, yes ?_, hS⟩, ?_⟩))))))
    · unfold okN; rw [decide_eq_false (show ¬ v.2.1 ≤ 2147483647 by omega)]; simp
    · rw [wrap_id (by omega) (by omega)]; rfl
    · unfold okN; rw [decide_eq_true q, decide_eq_true (show -1 ≤ v.2.1 by omega), decide_eq_true (show v.2.1 ≤ 2147483647 by omega)]; rfl
    · rw [wrap_id (by omega) (by omega)]; show 5 - ((i : Int) + 1).toNat < 5 - (i : Int).toNat; omega
  have hi5 : i = 5 := by omega
  subst hi5
  obtain ⟨x0, hx0⟩ : ∃ x0 : IN, x0 = ⟨(r.getD 0 (0, 0, ⟨#[]⟩)).2.1, (r.getD 1 (0, 0, ⟨#[]⟩)).2.1, (r.getD 2 (0, 0, ⟨#[]⟩)).2.1, (r.getD 3 (0, 0, ⟨#[]⟩)).2.1, (r.getD 4 (0, 0, ⟨#[]⟩)).2.1, r.getD 5 (0, 0, ⟨#[]⟩), (r.getD 6 (0, 0, ⟨#[]⟩)).2.2, []⟩ := ⟨_, rfl⟩
  have hio : insOf r = some { x0 with ar := (r.drop 7).flatMap fun v => pairs (bl v.2.2) } := by
    unfold insOf; rw [if_pos ⟨h7, hall⟩, hx0]
  have h0 := h0 _ hio
  refine kDrawn_i (kDrawn_i ?_)
  refine xIa104 (i := 0) (by omega) (xFa59_1 (kLdS rfl (rk hS 0 (by omega) 1 _ rfl) ?_))
  refine xIa104 (i := 1) (by omega) (xFa59_1 (kLdS rfl (rk hS 1 (by omega) 1 _ rfl) ?_))
  refine xIa104 (i := 2) (by omega) (xFa59_1 (kLdS rfl (rk hS 2 (by omega) 1 _ rfl) ?_))
  refine xIa104 (i := 3) (by omega) (xFa59_1 (kLdS rfl (rk hS 3 (by omega) 1 _ rfl) ?_))
  refine xIa104 (i := 4) (by omega) (xFa59_1 (kLdS rfl (rk hS 4 (by omega) 1 _ rfl) ?_))
  refine xIa104 (i := 5) (by omega) (xLdE59 (rk hS 5 (by omega)) rfl rfl ?_)
  refine xIa104 (i := 6) (by omega) (xFa59_2 (kLdS rfl (rk hS 6 (by omega) 2 _ rfl) ?_))
  refine kBuild_i (built62f _ _ _ _ _ _ _) (kDrew_st hS fun W hS => ?_)
  refine kAlloc_st Tryz.zeroValue62 hS fun b5 W hS => ?_
  have hS : St w [.bx b2 62 (inC in0 none 0 0), .bx b5 62 (inC in0 none 0 0)] W := hS
  refine xIa104 (i := 0) (by omega) (kSame_i (xFa59_1 (kSame_i (kLdS rfl (rk hS 0 (by omega) 1 _ rfl) (kSame_i ?_)))))
  refine xIa104 (i := 1) (by omega) (kSame_i (xFa59_1 (kSame_i (kLdS rfl (rk hS 1 (by omega) 1 _ rfl) (kSame_i ?_)))))
  refine xIa104 (i := 2) (by omega) (kSame_i (xFa59_1 (kSame_i (kLdS rfl (rk hS 2 (by omega) 1 _ rfl) (kSame_i ?_)))))
  refine xIa104 (i := 3) (by omega) (kSame_i (xFa59_1 (kSame_i (kLdS rfl (rk hS 3 (by omega) 1 _ rfl) (kSame_i ?_)))))
  refine xIa104 (i := 4) (by omega) (kSame_i (xFa59_1 (kSame_i (kLdS rfl (rk hS 4 (by omega) 1 _ rfl) (kSame_i ?_)))))
  refine xIa104 (i := 5) (by omega) (kSame_i (xLdE59 (rk hS 5 (by omega)) rfl rfl (kSame_i ?_)))
  refine xIa104 (i := 6) (by omega) (kSame_i (xFa59_2 (kSame_i (kLdS rfl (rk hS 6 (by omega) 2 _ rfl) (kSame_i ?_)))))
  refine kBuild_i (built62f _ _ _ _ _ _ _) (kSame_i (kDrew_st hS fun W hS => ?_))
  rw [← hx0]
  refine kStoreA_st hS 1 rfl rfl (by simp [inC, Value.oneCell']) Tryz.sizeOf62 fun W hS => ?_
  have hS : St w [.bx b2 62 (inC in0 none 0 0), .bx b5 62 (inC x0 none 0 0)] W := hS
  have hS := hS.adopt (o := .row (.slice none 0 0) 3 1 0 []) (World.ownsRow_nil _ _ _ _) (fun p hp => by
    simp at hp
    rcases hp with rfl | rfl
    · exact .inr (fun e => by cases e)
    · exact .inr (fun e => by cases e))
  have hS : St w [.bx b2 62 (inC in0 none 0 0), .bx b5 62 (inC x0 none 0 0), .row (.slice none 0 0) 3 1 0 []] W := hS
  have e0 : { x0 with ar := ([] : List Int) } = x0 := by rw [hx0]
  refine ⟨⟨fun cs V => ∃ (i : Nat) (args : List Int) (p : Option Addr) (pc : Nat), cs = [.int .i64 ((7 + i : Nat) : Int)] ∧ 7 + i ≤ r.length ∧ args = ((r.drop 7).take i).flatMap (fun v => pairs (bl v.2.2)) ∧ args.length ≤ 1000000 * i ∧ St w [.bx b2 62 (inC in0 none 0 0), .bx b5 62 (inC { x0 with ar := args } p args.length pc), .row (.slice p args.length pc) 3 1 args.length (args.map vInt)] V, fun cs _ => r.length - (match cs with | [.int _ i] => i.toNat | _ => 0), ⟨0, [], none, 0, rfl, h7, rfl, Nat.le_refl _, by rw [e0]; exact hS⟩, ?_⟩⟩
  rintro cs ds V ⟨i, args, p, pc, rfl, hi, hargs, hal, hS⟩
  dsimp only [List.getD_cons_zero]
  refine xLen104 (kBin_lss (kIf_d (fun e => ?_) (fun e => ?_)))
  rotate_left
  · have hie : i = r.length - 7 := by omega
    rw [hie, List.take_of_length_le (by simp)] at hargs
    rw [← hargs] at h0
    refine kDrawn_i (kDrawn_i (xLdB62 hS 1 rfl rfl (xFa62_7 (kLd hS 1 rfl rfl rfl (xLen60 (kBin_leq (kDrew_st hS fun V hS => ?_)))))))
    refine kStoreA_st hS 0 rfl rfl (by simp [inC, Value.oneCell']) Tryz.sizeOf62 fun V hS => ?_
    have hS : St w [.bx b2 62 (inC { x0 with ar := args } p args.length pc), .bx b5 62 (inC { x0 with ar := args } p args.length pc), .row (.slice p args.length pc) 3 1 args.length (args.map vInt)] V := hS
    refine xFa62_7 (kSame_i (kLd hS 1 rfl rfl rfl (kSame_i (xLen60 (kSame_i (kBin_leq (kSame_i (kDrew_st hS fun V hS => ?_))))))))
    exact RetK_50v hS 0 rfl rfl (h0 p pc V ((hS.del 0).del 0))
  have hir : 7 + i < r.length := by omega
  have hrk := fun {V : World} {L : List Own} (hV : St w L V) => rk hV (7 + i) hir
  have hget : (r.drop 7)[i]? = some (r.getD (7 + i) (0, 0, ⟨#[]⟩)) := by rw [List.getElem?_drop, rg _ hir]
  have htk : ((r.drop 7).take (i + 1)).flatMap (fun v => pairs (bl v.2.2)) = args ++ pairs (bl (r.getD (7 + i) (0, 0, ⟨#[]⟩)).2.2) := by
    obtain ⟨hlt, he⟩ := List.getElem?_eq_some_iff.1 hget
    rw [flatMap_snoc _ _ hlt, ← hargs, he]
  have htz := hts (r.getD (7 + i) (0, 0, ⟨#[]⟩)) (by
    have := rg (7 + i) hir
    exact List.mem_of_getElem? this)
  generalize r.getD (7 + i) (0, 0, ⟨#[]⟩) = v at *
  refine ⟨⟨fun cs V => ∃ (k : Nat) (args' : List Int) (p : Option Addr) (pc : Nat), cs = [.int .i64 k] ∧ k ≤ v.2.2.size + 1 ∧ args' ++ pairs ((bl v.2.2).drop k) = args ++ pairs (bl v.2.2) ∧ args'.length ≤ 1000000 * i + k ∧ St w [.bx b2 62 (inC in0 none 0 0), .bx b5 62 (inC { x0 with ar := args' } p args'.length pc), .row (.slice p args'.length pc) 3 1 args'.length (args'.map vInt)] V, fun cs _ => v.2.2.size + 1 - (match cs with | [.int _ k] => k.toNat | _ => 0), ⟨0, args, p, pc, rfl, Nat.zero_le _, rfl, by omega, hS⟩, ?_⟩⟩
  rintro cs2 ds2 V ⟨k, args', p, pc, rfl, hk, hpr, hln, hS⟩
  try dsimp only [List.getD_cons_zero]
  refine kBin_add ?_
  rw [wrap_id (by omega) (by omega)]
  refine xIa104 hir (xFa59_2 (kLdS rfl (hrk hS 2 _ rfl) (xLen9 (kBin_lss (kIf_d (fun g => ?_) (fun g => ?_))))))
  rotate_left
  · have hp0 : pairs ((bl v.2.2).drop k) = [] := by
      have hl : ((bl v.2.2).drop k).length ≤ 1 := by rw [List.length_drop, bl_length]; omega
      match (bl v.2.2).drop k, hl with
      | [], _ => rfl
      | [a], _ => rfl
      | a :: b :: t, h => simp at h
    rw [hp0, List.append_nil] at hpr
    have hpl := pairs_len (bl v.2.2)
    rw [bl_length] at hpl
    refine kBin_add (kD_i ⟨⟨i + 1, args', p, pc, ?_, hir, ?_, ?_, hS⟩, ?_⟩)
    · rw [wrap_id (by omega) (by omega)]; rfl
    · rw [htk, hpr]
    · rw [hpr, List.length_append]; omega
    · rw [wrap_id (by omega) (by omega)]; show r.length - (((7 + i : Nat) : Int) + 1).toNat < r.length - ((7 + i : Nat) : Int).toNat; omega
  have hk1 : k + 1 < v.2.2.size := by omega
  have hd2 := bl_drop2 v.2.2 hk1
  have ha : (v.2.2[k]'(by omega)).toNat < 256 := (v.2.2[k]'(by omega)).toNat_lt
  have hb : (v.2.2[k + 1]).toNat < 256 := (v.2.2[k + 1]).toNat_lt
  refine kDrawn_i (kDrawn_i (xFa62_7 (kLd hS 1 rfl rfl rfl (xIa104 hir (xFa59_2 (kLdS rfl (hrk hS 2 _ rfl) (kIxS (s := v.2.2) (i := k) Tryz.underlying9 (by omega) ?_)))))))
  generalize (v.2.2[k]'(by omega)).toNat = a at *
  refine kCv5_3 ha (kBin_mul (xIa104 hir (xFa59_2 (kLdS rfl (hrk hS 2 _ rfl) (kBin_add ?_)))))
  rw [wrap_id (by omega) (by omega), wrap_id (by omega) (by omega), show (k : Int) + 1 = ((k + 1 : Nat) : Int) by omega]
  refine kIxS (s := v.2.2) (i := k + 1) Tryz.underlying9 hk1 ?_
  generalize (v.2.2[k + 1]).toNat = b at *
  refine kCv5_3 hb (kBin_add ?_)
  rw [wrap_id (by omega) (by omega), show (256 : Int) * (a : Int) + (b : Int) = ((a * 256 + b : Nat) : Int) by omega]
  refine kDrew_st hS fun V hS => ?_
  refine kBS (xE60 V) hS [vInt ((a * 256 + b : Nat) : Int)] rfl rfl (by omega) (by omega) (by simp [vInt, Value.cells]) fun an cn V hS _ => ?_
  refine xFa62_7 (kSame_i (kLd hS 1 rfl rfl rfl (kSame_i (kDrew_st hS fun V hS => ?_))))
  refine kAppRow_st (xE60 V) hS 2 3 rfl rfl (by simp [flat, vInt, Value.cells, Value.oneCell']) (by simp only [maxLen]; omega) (by omega) fun z V hS => ?_
  have hS : St w ([.bx b2 62 (inC in0 none 0 0), .bx b5 62 (inC { x0 with ar := args' } p args'.length pc), .row z 3 1 (args'.length + 1) (args'.map vInt ++ flat [vInt ((a * 256 + b : Nat) : Int)])] ++ [.row (.slice an 1 cn) 3 1 1 (flat [vInt ((a * 256 + b : Nat) : Int)])]) V := hS
  have hS := hS.init
  have hz : args'.map vInt ++ flat [vInt ((a * 256 + b : Nat) : Int)] = (args' ++ [((a * 256 + b : Nat) : Int)]).map vInt := by simp [flat, vInt, Value.cells]
  rw [hz] at hS
  obtain ⟨az, cz, rfl, _⟩ := Sl.of_owns (vs := (args' ++ [((a * 256 + b : Nat) : Int)]).map vInt) (n := args'.length + 1) (by intro v hv; obtain ⟨z, _, rfl⟩ := List.mem_map.1 hv; rfl) (by have := hS.get 2 rfl; rw [← flatI] at this; exact this) (by simp)
  refine kDrew_st hS fun V hS => xFa62_7 (kSt hS 1 rfl (by simp [inC]) rfl rfl rfl fun V hS => ?_)
  have hS : St w [.bx b2 62 (inC in0 none 0 0), .bx b5 62 (inC { x0 with ar := args' ++ [((a * 256 + b : Nat) : Int)] } az (args'.length + 1) cz), .row (.slice az (args'.length + 1) cz) 3 1 (args'.length + 1) ((args' ++ [((a * 256 + b : Nat) : Int)]).map vInt)] V := hS
  refine kBin_add (kD_i ⟨⟨k + 2, args' ++ [((a * 256 + b : Nat) : Int)], az, cz, ?_, by omega, ?_, ?_, ?_⟩, ?_⟩)
  · rw [wrap_id (by omega) (by omega)]; rfl
  · rw [hd2] at hpr
    rw [List.append_assoc]; exact hpr
  · rw [List.length_append]; simp; omega
  · rw [show (args' ++ [((a * 256 + b : Nat) : Int)]).length = args'.length + 1 by simp]; exact hS
  · rw [wrap_id (by omega) (by omega)]; show v.2.2.size + 1 - ((k : Int) + 2).toNat < v.2.2.size + 1 - (k : Int).toNat; omega
end Go.L
namespace Go.L
open Go Go.RowKit Go.Proofs
set_option linter.unusedSimpArgs false
set_option linter.unusedVariables false

theorem recB_256 {x : IN} (h : PutOk x) : ∀ b ∈ recB x, b < 256 := by
  intro b hb
  unfold recB at hb
  rcases List.mem_append.1 hb with hb | hb
  · simp at hb; omega
  · exact encB_256 (encE_bad h.e) b hb
theorem decC_bad {bs L rest : List Nat} {A : List IN} {c : Nat} {x : IN} (hd : decP 0 bs = (decP c rest).map ((A ++ [x]) ++ ·)) (hx : 200 < x.ar.length) : decC bs = none := by
  unfold decC
  rw [hd]
  cases decP c rest with
  | none => rfl
  | some l =>
    show (if chkC ((A ++ [x]) ++ l) = 0 ∧ _ then _ else none) = none
    refine if_neg fun e => ?_
    have hr := (chkC_all e.1).2 x (by simp)
    rw [← rightEq] at hr
    have := (right_facts hr).2.2.1
    omega
theorem CodeDecode20 (bs : List Nat) (w : World) (a : Option Addr) (cp : Nat) (hB : Bs w a bs.length cp bs) (hbyte : ∀ b ∈ bs, b < 256) (hcp : cp ≤ 9223372036854775807) (hbl : bs.length ≤ 100000000) (R : Ending → World → Prop)
    (h0 : ∀ l, decC bs = some l → ∀ lo lc W, Below w.heap.size w W → InsP W lo l → R (.returned (.tuple #[.slice lo l.length lc, .int .i64 0])) W)
    (h1 : decC bs = none → ∀ W, Below w.heap.size w W → R (.returned (.tuple #[.slice none 0 0, .int .i64 390])) W) : Calls Tryz.prog 20 #[.slice a bs.length cp] w R := by
  refine c20 _ _ _ _ _ ?_
  unfold vc20
  have hS := (St.start w).adopt (o := .row (.slice none 0 0) 62 10 0 []) (World.ownsRow_nil _ _ _ _) (fun p hp => by simp at hp)
  have hS : St w ([.row (.slice none ([] : List INQ).length 0) 62 10 ([] : List INQ).length (flat (([] : List INQ).map inP3))] ++ ([] : List INQ).map argO) w := hS
  refine ⟨⟨fun cs V => ∃ (rest : List Nat) (a' : Option Addr) (cp' : Nat) (ps : List INQ) (lo : Option Addr) (cl : Nat), cs = [.slice lo ps.length cl, .slice a' rest.length cp'] ∧ Bs w a' rest.length cp' rest ∧ cp' ≤ 9223372036854775807 ∧ (∀ b ∈ rest, b < 256) ∧ rest.length ≤ bs.length ∧ decP 0 bs = (decP ps.length rest).map ((ps.map (·.1)) ++ ·) ∧ (∀ q ∈ ps, InsRd q.1) ∧ ps.length ≤ 2000 ∧ St w ([.row (.slice lo ps.length cl) 62 10 ps.length (flat (ps.map inP3))] ++ ps.map argO) V, fun cs _ => (match cs with | [_, .slice _ n _] => n | _ => 0), ⟨bs, a, cp, [], none, 0, rfl, hB, hcp, hbyte, Nat.le_refl _, by simp, by simp, by simp, hS⟩, ?_⟩⟩
  rintro cs ds V ⟨rest, a', cp', ps, lo, cl, rfl, hBr, hcp', hby, hrl, hdec, hrd, hps, hS⟩
  dsimp only [List.getD_cons_zero, List.getD_cons_succ]
  have dnone : decP ps.length rest = none → decC bs = none := fun q => by
    unfold decC; rw [hdec, q]; rfl
  have hcap := hBr.cap
  refine xLen44 (kBin_gtr (kIf_d (fun e => ?_) (fun e => ?_)))
  rotate_left
  · have hr0 : rest = [] := List.eq_nil_of_length_eq_zero (by omega)
    subst hr0
    rw [decP_nil] at hdec
    have hdec : decP 0 bs = some (ps.map (·.1)) := by simpa using hdec
    have own : ∀ {V : World} {K : List Own}, St w ([.row (.slice lo ps.length cl) 62 10 ps.length (flat (ps.map inP3))] ++ ps.map argO ++ K) V → InsP V lo (ps.map (·.1)) := fun hS => insP_own (u := .bool true) (L := []) hS
    have hIP : InsP V lo (ps.map (·.1)) := own (K := []) (by rw [List.append_nil]; exact hS)
    have hrdl : ∀ x ∈ ps.map (·.1), InsRd x := fun x hx => by obtain ⟨q, hq, rfl⟩ := List.mem_map.1 hx; exact hrd q hq
    have hput : chkC (ps.map (·.1)) = 0 → ∀ x ∈ ps.map (·.1), PutOk x := fun hc x hx => by
      have hr := (chkC_all hc).2 x hx
      rw [← rightEq] at hr
      exact putOk_of hr (hrdl x hx).w (hrdl x hx).k (hrdl x hx).o
    have hE := Encode23 (ps.map (·.1)) V lo cl hIP.ins (fun x hx => (hrdl x hx).len) hput
    rw [List.length_map] at hE
    refine kCall_i (Tryz.call23 _ _) (hE _ (fun hc x W hBe hown => ?_) (fun hc W hBe => ?_))
    · have hS3 := hS.made hBe hown
      obtain ⟨ax, cx, rfl, hBx⟩ := Bs.of_owns hown
      refine kExt_0 (kExt_1 (kNe_int (kIf_ne (fun q => absurd rfl q) (fun _ => ?_))))
      refine kCv_str hBx (kCv_str (hB.keep hS3.below) (kNe_str (kIf_b (fun q => ?_) (fun q => ?_))))
      · refine h1 ?_ W hS3.below
        unfold decC; rw [hdec]
        refine if_neg fun e => ?_
        rw [e.2] at q; simp at q
      · have q : mkS (codeB (ps.map (·.1))) = mkS bs := by simpa using q
        have q := mkS_inj (fun b hb => by
          unfold codeB at hb
          obtain ⟨x, hx, hb⟩ := List.mem_flatMap.1 hb
          exact recB_256 (hput hc x hx) b hb) hbyte q
        have := h0 (ps.map (·.1)) (by unfold decC; rw [hdec]; exact if_pos ⟨hc, q⟩) lo cl W hS3.below (own hS3)
        rwa [List.length_map] at this
    · have hS3 := hS.bel hBe
      refine kExt_0 (kExt_1 (kNe_int (kIf_ne (fun _ => kIf_t (h1 ?_ W hS3.below)) (fun q => by cases q))))
      unfold decC; rw [hdec]; exact if_neg fun e => hc e.1
  have hne : rest ≠ [] := fun q => by subst q; simp at e
  refine kJn_inv (fun cs V => 1 < rest.length ∧ ps.length < 2000 ∧ St w ([.row (.slice lo ps.length cl) 62 10 ps.length (flat (ps.map inP3))] ++ ps.map argO) V) ?_ ?_
  rotate_left
  · intro J hJ
    refine xLen44 (kBin_lss (kIf_d (fun e1 => kIf_t (h1 (dnone (decP_none hne ?_)) V hS.below)) (fun e1 => ?_)))
    · match rest, hne, e1 with
      | [x], _, _ => rfl
      | x :: y :: t, _, e1 => simp at e1; omega
    · exact xLen22 (kBin_geq (kIf_d (fun q => h1 (dnone (decP_full hne (by omega))) V hS.below) (fun q => kD_i (hJ _ _ ⟨by omega, by omega, hS⟩))))
  rintro cs V2 ⟨h2, hp2, hS⟩ ds2
  obtain ⟨x, y, t, rfl⟩ : ∃ x y t, rest = x :: y :: t := by
    match rest, h2 with
    | x :: y :: t, _ => exact ⟨x, y, t, rfl⟩
    | [x], h => simp at h
    | [], h => simp at h
  have hx := hby x (by simp)
  have hy := hby y (by simp)
  obtain ⟨pb, po, rfl, hpb, hr0⟩ := hBr.sl.elem (i := 0) (v := vB x) rfl
  have hr1 : w.rangeAt pb (po + 1 * 1) (vB y).cells.toList := by
    obtain ⟨b', o', e', _, hr⟩ := hBr.sl.elem (i := 1) (v := vB y) rfl
    cases e'; exact hr
  have c0 : V2.cell? ⟨pb, po + 0 * 1, none⟩ = some (.int .u8 x) := by
    rw [World.cell?_of_block (w := w) (hS.below.block pb hpb)]; exact hr0 0 _ rfl
  have c1 : V2.cell? ⟨pb, po + 1 * 1, none⟩ = some (.int .u8 y) := by
    rw [World.cell?_of_block (w := w) (hS.below.block pb hpb)]; exact hr1 0 _ rfl
  refine kDrawn_i (xIa44 (i := 0) (by omega) (kLdS rfl c0 (kCv5_3 hx (kBin_mul (xIa44 (i := 1) (by omega) (kLdS rfl c1 (kCv5_3 hy (kBin_add ?_))))))))
  rw [wrap_id (a := 256 * (x : Int)) (by omega) (by omega), wrap_id (by omega) (by omega), show (256 : Int) * (x : Int) + (y : Int) = ((x * 256 + y : Nat) : Int) by omega]
  refine kDrew_st hS fun V hS => ?_
  have hlen : (x :: y :: t).length = t.length + 2 := rfl
  rw [hlen]
  rw [hlen] at hBr hcap hrl
  refine xLen44 (kBin_sub ?_)
  rw [wrap_id (by omega) (by omega)]
  refine kBin_gtr (kIf_d (fun q => h1 (dnone (decP_none hne ?_)) V hS.below) (fun q => ?_))
  · rw [rec1_cons, if_neg (by omega)]
  have hn : x * 256 + y ≤ t.length := by omega
  obtain ⟨n, hnn⟩ : ∃ n, n = x * 256 + y := ⟨_, rfl⟩
  rw [← hnn] at hn ⊢
  have hw2 : IntKind.i64.wrap (2 + ((n : Nat) : Int)) = ((2 + n : Nat) : Int) := by rw [wrap_id (by omega) (by omega)]; omega
  refine kBin_add ?_
  rw [hw2]
  refine xSl44_lh (l := 2) (by omega) (by omega) ?_
  rw [show 2 + n - 2 = n by omega]
  have hBt : Bs w (if cp' = 2 then some ⟨pb, po, none⟩ else (some (⟨pb, po, none⟩ : Addr)).map (·.add (2 * 1))) n (cp' - 2) (t.take n) := by
    refine ⟨?_, by simp; omega, by omega⟩
    by_cases h0 : n = 0
    · subst h0; exact ⟨by simp, .inl (by simp)⟩
    · rw [if_neg (by omega)]
      have := (hBr.sl.dropG 2 (by simp; omega)).takeG n
      rw [← List.map_drop, ← List.map_take] at this
      exact this
  have hbt : ∀ b ∈ t.take n, b < 256 := fun b hb => hby b (by simp [List.mem_of_mem_take hb])
  refine kCall_i (Tryz.call47 _ _) (refDecode20 (t.take n) V _ n (cp' - 2) (hBt.keep hS.below) hbt (by omega) _ (fun rs hrs xr W hBe hown => ?_) (fun hrs W hBe => ?_))
  rotate_left
  · have hS := hS.bel hBe
    have hd : decC bs = none := dnone (decP_none hne (by rw [rec1_cons, if_pos (by omega), ← hnn, hrs]; rfl))
    have h48 := ins48 [] W none 0 (Sl.nil _ _) (by simp) (by simp)
    refine kExt_0 (kExt_1 (kCall_i (Tryz.call48 _ _) (h48 _ (fun x hx => by simp [insOf] at hx) (fun _ W hBe => ?_))))
    have hS := hS.bel hBe
    refine kExt_0 (kExt_1 (kAlloc_st Tryz.zeroValue62 hS fun b9 W hS => kStoreAR (cs' := inC in0 none 0 0) hS rfl (by simp [inC, in0, Value.oneCell']) Tryz.sizeOf62 fun W hS => ?_))
    refine kJn_i ?_
    exact kNe_int (kIf_ne (fun _ => kIf_t (h1 hd W hS.below)) (fun q => by cases q))
  obtain ⟨hr32, hrf⟩ := decR_facts hbt hrs
  have hS := hS.made hBe hown
  obtain ⟨ar, cr, rfl, hslr⟩ := Sl.of_owns (flatMap_vVal_size _) (hS.get _ at_r) (by simp)
  refine kExt_0 (kExt_1 (kCall_i (Tryz.call48 _ _) (ins48 rs W ar cr hslr (by omega) (fun v hv => Nat.le_trans (checkE_sz (hrf v hv).1) (by omega)) _ (fun xx hxx p pc W hSt => ?_) (fun hxx W hBe => ?_))))
  rotate_left
  · have hS := hS.bel hBe
    have hd : decC bs = none := dnone (decP_none hne (by
      rw [rec1_cons, if_pos (by omega), ← hnn, hrs]
      show ((some rs).bind insOf).map _ = none
      rw [Option.bind_some, hxx]; rfl))
    refine kExt_0 (kExt_1 (kAlloc_st Tryz.zeroValue62 hS fun b9 W hS => kStoreAR (cs' := inC in0 none 0 0) hS rfl (by simp [inC, in0, Value.oneCell']) Tryz.sizeOf62 fun W hS => ?_))
    refine kJn_i ?_
    exact kNe_int (kIf_ne (fun q => absurd rfl q) (fun _ => kUn_not (kIf_t (h1 hd W hS.below))))
  have hr1' : rec1 (x :: y :: t) = some (xx, 2 + n) := by
    rw [rec1_cons, if_pos (by omega), ← hnn, hrs]
    show ((some rs).bind insOf).map _ = _
    rw [Option.bind_some, hxx]; rfl
  have hxrd := insOf_rd hrf hr32 hxx
  have hnext : decP 0 bs = (decP (ps.length + 1) ((x :: y :: t).drop (2 + n))).map ((ps.map (·.1) ++ [xx]) ++ ·) := by
    rw [hdec, decP_cons hp2 hr1']
    cases decP (ps.length + 1) ((x :: y :: t).drop (2 + n)) with
    | none => rfl
    | some l => simp
  have hS := hS.join hSt
  refine kExt_0 (kExt_1 (kAlloc_st Tryz.zeroValue62 hS fun b9 W hS => kStoreAR (cs' := inC xx p xx.ar.length pc) hS rfl (by simp [inC, Value.oneCell']) Tryz.sizeOf62 fun W hS => ?_))
  refine kJn_inv (fun cs V => xx.ar.length ≤ 200 ∧ St w ([.row (.slice lo ps.length cl) 62 10 ps.length (flat (ps.map inP3))] ++ ps.map argO ++ [.row (.slice ar rs.length cr) 59 3 rs.length (flat (rs.map vVal))] ++ [.row (.slice p xx.ar.length pc) 3 1 xx.ar.length (xx.ar.map vInt)] ++ [.bx b9 62 (inC xx p xx.ar.length pc)]) V) ?_ ?_
  rotate_left
  · intro J hJ
    refine kNe_int (kIf_ne (fun q => absurd rfl q) (fun _ => kUn_not (kIf_b (fun q => ?_) (fun q => kD_i (hJ _ _ ⟨by simp at q; omega, hS⟩)))))
    exact h1 (decC_bad (L := []) hnext (by simp at q; omega)) W hS.below
  rintro cs V3 ⟨h200, hS⟩ ds3
  have hsl2 : ∀ {q : Bool} {X : Chain → World → Prop} {V : World} {k : Value → World → Prop}, k (.slice (if cp' = 2 + n then some ⟨pb, po, none⟩ else (some (⟨pb, po, none⟩ : Addr)).map (·.add ((2 + n) * 1))) (t.length + 2 - (2 + n)) (cp' - (2 + n))) V → kSl ⟨Tryz.prog, X, q⟩ V 44 (.slice (some ⟨pb, po, none⟩) (t.length + 2) cp') (some (.int .i64 ((2 + n : Nat) : Int))) none none k := fun h => xSl44_l (l := 2 + n) (by omega) hcap h
  have hBn := hBr.drop (l := 2 + n) (by omega)
  refine kDrawn_i (kDrawn_i (xLdB62 hS _ at_r rfl (kBin_add ?_)))
  rw [hw2]
  refine hsl2 (kDrew_st hS fun V hS => ?_)
  refine kBS (xE22 V) hS [inP3 (xx, p, pc)] rfl rfl (by omega) (by omega) (by intro v hv; simp at hv; subst hv; rfl) fun a1 c1 V hS _ => kBin_add ?_
  rw [hw2]
  refine kSame_i (hsl2 (kSame_i (kDrew_st hS fun V hS => ?_)))
  refine kAppRow_st (xE22 V) hS 0 _ rfl at_r (by intro u hu; simp [flat, inP3, inV, Value.cells] at hu; rcases hu with rfl | rfl | rfl | rfl | rfl | rfl | rfl | rfl | rfl | rfl <;> rfl) (by simp only [maxLen]; omega) (by omega) fun z V hS => ?_
  have hS : St w ([.row z 62 10 (ps.length + 1) (flat (ps.map inP3) ++ flat [inP3 (xx, p, pc)])] ++ ps.map argO ++ [.row (.slice ar rs.length cr) 59 3 rs.length (flat (rs.map vVal))] ++ [.row (.slice p xx.ar.length pc) 3 1 xx.ar.length (xx.ar.map vInt)] ++ [.bx b9 62 (inC xx p xx.ar.length pc)] ++ [.row (.slice a1 1 c1) 62 10 1 (flat [inP3 (xx, p, pc)])]) V := hS
  have hS := hS.init.init
  have hfl : flat (ps.map inP3) ++ flat [inP3 (xx, p, pc)] = flat ((ps ++ [(xx, p, pc)]).map inP3) := by simp [flat]
  rw [hfl] at hS
  have hS : St w ([.row z 62 10 (ps.length + 1) (flat ((ps ++ [(xx, p, pc)]).map inP3))] ++ (ps ++ [(xx, p, pc)]).map argO) V := by
    rw [show (ps ++ [(xx, p, pc)]).map argO = ps.map argO ++ [argO (xx, p, pc)] by simp, ← List.append_assoc]
    exact hS.sub (List.Sublist.append (List.sublist_append_left _ _) (List.Sublist.refl _))
  obtain ⟨az, cz, rfl, _⟩ := Sl.of_owns (vs := (ps ++ [(xx, p, pc)]).map inP3) (n := ps.length + 1) (by intro v hv; obtain ⟨q, _, rfl⟩ := List.mem_map.1 hv; rfl) (hS.get 0 rfl) (by simp)
  refine kBin_add ?_
  rw [hw2]
  refine kSame_i (hsl2 (kSame_i (kDrew_st hS fun V hS => ?_)))
  have hdl : ((x :: y :: t).drop (2 + n)).length = t.length + 2 - (2 + n) := by simp
  have hpl1 : (ps ++ [(xx, p, pc)]).length = ps.length + 1 := by simp
  refine kD_i ⟨⟨(x :: y :: t).drop (2 + n), _, _, ps ++ [(xx, p, pc)], az, cz, by rw [hdl, hpl1], by rw [hdl]; exact hBn, by omega, fun b hb => hby b (List.mem_of_mem_drop hb), by rw [hdl]; omega, ?_, ?_, by simp; omega, ?_⟩, ?_⟩
  · rw [hnext, hpl1, List.map_append]; rfl
  · intro q hq
    rcases List.mem_append.1 hq with hq | hq
    · exact hrd q hq
    · rw [List.mem_singleton.1 hq]; exact hxrd
  · rw [hpl1]; exact hS
  · show t.length + 2 - (2 + n) < t.length + 2
    omega
end Go.L
namespace Go.L
open Go Go.RowKit Go.Proofs
set_option linter.unusedSimpArgs false
set_option linter.unusedVariables false

theorem range_st {w V : World} {L : List Own} (hS : St w L V) {pb o : Nat} {cs : List Value} (hb : pb < w.heap.size) (h : w.rangeAt pb o cs) : V.rangeAt pb o cs := fun j v hj => by
  rw [World.cell?_of_block (w := w) (hS.below.block pb hb)]; exact h j v hj
theorem Same21 (la lb : List IN) (w : World) (ao bo : Option Addr) (ac bc : Nat) (ha : InsL w ao la) (hb : InsL w bo lb) (hal : la.length ≤ 9223372036854775806) (harl : ∀ x ∈ la, x.ar.length ≤ 1000000) (R : Ending → World → Prop)
    (h : ∀ W, Below w.heap.size w W → R (.returned (.bool (decide (la = lb)))) W) : Calls Tryz.prog 21 #[.slice ao la.length ac, .slice bo lb.length bc] w R := by
  refine c21 _ _ _ _ _ _ _ _ ?_
  unfold vc21
  refine xLen22 (xLen22 (kNe_int (kIf_ne (fun q => ?_) (fun q => ?_))))
  · have := h w (Below.refl _ _)
    rwa [decide_eq_false (fun e => q (by rw [e]))] at this
  have hlen : la.length = lb.length := by omega
  refine ⟨⟨fun cs V => ∃ i : Nat, cs = [.int .i64 i] ∧ i ≤ la.length ∧ la.take i = lb.take i ∧ St w [] V, fun cs _ => la.length - (match cs with | [.int _ i] => i.toNat | _ => 0), ⟨0, rfl, Nat.zero_le _, rfl, St.start w⟩, ?_⟩⟩
  rintro cs ds V ⟨i, rfl, hi, heq, hS⟩
  dsimp only [List.getD_cons_zero]
  refine xLen22 (kBin_lss (kIf_d (fun e => ?_) (fun e => ?_)))
  rotate_left
  · have hie : i = la.length := by omega
    rw [hie, List.take_length, hlen, List.take_length] at heq
    have := h V hS.below
    rwa [decide_eq_true heq] at this
  have hil : i < la.length := by omega
  have hil' : i < lb.length := by omega
  obtain ⟨pb, po, p, pc, rfl, hpb, hpr, hpx⟩ := ha.elem hil
  obtain ⟨qb, qo, q', qc, rfl, hqb, hqr, hqx⟩ := hb.elem hil'
  have hxa := harl la[i] (List.getElem_mem hil)
  have hnext : la[i] = lb[i] → la.take (i + 1) = lb.take (i + 1) := fun q => by
    rw [List.take_succ_eq_append_getElem hil, List.take_succ_eq_append_getElem hil', heq, q]
  have hno : la[i] ≠ lb[i] → la ≠ lb := fun q e => q (by subst e; rfl)
  generalize la[i] = x at *
  generalize lb[i] = y at *
  have no : ∀ {V : World} {L : List Own}, St w L V → x ≠ y → R (.returned (.bool false)) V := fun hS q => by
    have := h _ hS.below
    rwa [decide_eq_false (hno q)] at this
  refine kDrawn_i (kDrawn_i (kJn_inv (fun cs V => ∃ b6 b7, cs.getD 7 undef = inV y q' qc ∧ cs.getD 8 undef = .pointer (some ⟨b6, 0, none⟩) ∧ cs.getD 9 undef = .pointer (some ⟨b7, 0, none⟩) ∧ St w [.bx b6 62 (inC x p x.ar.length pc), .bx b7 62 (inC in0 none 0 0)] V) ?_ ?_))
  rotate_left
  · intro J hJ
    refine xIa22 hil (xLdE62 (range_st hS hpb hpr) rfl rfl (xIa22 hil' (xLdE62 (range_st hS hqb hqr) rfl rfl (kBoth_i ?_ ?_))))
    · refine kDrew_st hS fun V hS => kAlloc_st Tryz.zeroValue62 hS fun b6 V hS => ?_
      refine xIa22 hil (kSame_i (xLdE62 (range_st hS hpb hpr) rfl rfl (kSame_i (xIa22 hil' (kSame_i (xLdE62 (range_st hS hqb hqr) rfl rfl (kSame_i (kDrew_st hS fun V hS => ?_))))))))
      refine kAlloc_st Tryz.zeroValue62 hS fun b7 V hS => ?_
      refine xIa22 hil (kSame_i (xLdE62 (range_st hS hpb hpr) rfl rfl (kSame_i (xIa22 hil' (kSame_i (xLdE62 (range_st hS hqb hqr) rfl rfl (kSame_i (kDrew_st hS fun V hS => ?_))))))))
      have hS : St w [.bx b6 62 (inC in0 none 0 0), .bx b7 62 (inC in0 none 0 0)] V := hS
      refine kStoreA_st hS 0 rfl (cs' := inC x p x.ar.length pc) rfl (by simp [inC, Value.oneCell']) Tryz.sizeOf62 fun V hS => ?_
      have hS : St w [.bx b6 62 (inC x p x.ar.length pc), .bx b7 62 (inC in0 none 0 0)] V := hS
      exact xIa22 hil' (kSame_i (xLdE62 (range_st hS hqb hqr) rfl rfl (kSame_i (kDrew_st hS fun V hS => hJ _ _ ⟨b6, b7, rfl, rfl, rfl, hS⟩))))
    · refine kDrew_st hS fun V hS => kAlloc_st Tryz.zeroValue62 hS fun b7 V hS => ?_
      refine xIa22 hil (kSame_i (xLdE62 (range_st hS hpb hpr) rfl rfl (kSame_i (xIa22 hil' (kSame_i (xLdE62 (range_st hS hqb hqr) rfl rfl (kSame_i (kDrew_st hS fun V hS => ?_))))))))
      refine kAlloc_st Tryz.zeroValue62 hS fun b6 V hS => ?_
      refine xIa22 hil (kSame_i (xLdE62 (range_st hS hpb hpr) rfl rfl (kSame_i (xIa22 hil' (kSame_i (xLdE62 (range_st hS hqb hqr) rfl rfl (kSame_i (kDrew_st hS fun V hS => ?_))))))))
      have hS : St w [.bx b7 62 (inC in0 none 0 0), .bx b6 62 (inC in0 none 0 0)] V := hS
      refine kStoreA_st hS 1 rfl (cs' := inC x p x.ar.length pc) rfl (by simp [inC, Value.oneCell']) Tryz.sizeOf62 fun V hS => ?_
      have hS : St w [.bx b7 62 (inC in0 none 0 0), .bx b6 62 (inC x p x.ar.length pc)] V := hS
      have hS : St w [.bx b6 62 (inC x p x.ar.length pc), .bx b7 62 (inC in0 none 0 0)] V := hS.perm (List.Perm.swap _ _ _)
      exact xIa22 hil' (kSame_i (xLdE62 (range_st hS hqb hqr) rfl rfl (kSame_i (kDrew_st hS fun V hS => hJ _ _ ⟨b6, b7, rfl, rfl, rfl, hS⟩))))
  rintro cs V1 ⟨b6, b7, e7, e8, e9, hS⟩
  rw [e7, e8, e9]
  refine kStoreA_st hS 1 rfl (cs' := inC y q' y.ar.length qc) rfl (by simp [inC, Value.oneCell']) Tryz.sizeOf62 fun V hS => ?_
  have hS : St w [.bx b6 62 (inC x p x.ar.length pc), .bx b7 62 (inC y q' y.ar.length qc)] V := hS
  refine kJn_inv (fun cs V => (x.k = y.k ∧ x.a = y.a ∧ x.b = y.b ∧ x.c = y.c ∧ x.o = y.o ∧ x.v = y.v ∧ x.nm = y.nm ∧ x.ar.length = y.ar.length) ∧ St w [.bx b6 62 (inC x p x.ar.length pc), .bx b7 62 (inC y q' y.ar.length qc)] V) ?_ ?_
  rotate_left
  · intro J hJ
    refine xFa62_0 (kLd hS 0 rfl rfl rfl (xFa62_0 (kLd hS 1 rfl rfl rfl (kNe_int (kIf_ne (fun q => kIf_t (no hS (fun e => q (by rw [e])))) (fun q0 => ?_))))))
    refine xFa62_1 (kLd hS 0 rfl rfl rfl (xFa62_1 (kLd hS 1 rfl rfl rfl (kNe_int (kIf_ne (fun q => kIf_t (no hS (fun e => q (by rw [e])))) (fun q1 => ?_))))))
    refine xFa62_2 (kLd hS 0 rfl rfl rfl (xFa62_2 (kLd hS 1 rfl rfl rfl (kNe_int (kIf_ne (fun q => kIf_t (no hS (fun e => q (by rw [e])))) (fun q2 => ?_))))))
    refine xFa62_3 (kLd hS 0 rfl rfl rfl (xFa62_3 (kLd hS 1 rfl rfl rfl (kNe_int (kIf_ne (fun q => kIf_t (no hS (fun e => q (by rw [e])))) (fun q3 => ?_))))))
    refine xFa62_4 (kLd hS 0 rfl rfl rfl (xFa62_4 (kLd hS 1 rfl rfl rfl (kNe_int (kIf_ne (fun q => kIf_t (no hS (fun e => q (by rw [e])))) (fun q4 => ?_))))))
    refine xFa62_5 (xLdE59 (bxV hS 0 rfl) rfl rfl (xFa62_5 (xLdE59 (bxV hS 1 rfl) rfl rfl (kNe_49 (a := x.v) (b := y.v) (kIf_b (fun q => kIf_t (no hS (fun e => by rw [e] at q; simp at q))) (fun q5 => ?_))))))
    refine xFa62_6 (kLd hS 0 rfl rfl rfl (xFa62_6 (kLd hS 1 rfl rfl rfl (kNe_str (kIf_b (fun q => kIf_t (no hS (fun e => by rw [e] at q; simp at q))) (fun q6 => ?_))))))
    refine xFa62_7 (kLd hS 0 rfl rfl rfl (xLen60 (xFa62_7 (kLd hS 1 rfl rfl rfl (xLen60 (kNe_int (kIf_ne (fun q => no hS (fun e => q (by rw [e]))) (fun q7 => kD_i (hJ _ _ ⟨⟨q0, q1, q2, q3, q4, by simpa using q5, by simpa using q6, by omega⟩, hS⟩)))))))))
  rintro cs V2 ⟨⟨q0, q1, q2, q3, q4, q5, q6, q7⟩, hS⟩ ds2
  refine ⟨⟨fun cs V => ∃ j : Nat, cs = [.int .i64 j] ∧ j ≤ x.ar.length ∧ x.ar.take j = y.ar.take j ∧ St w [.bx b6 62 (inC x p x.ar.length pc), .bx b7 62 (inC y q' y.ar.length qc)] V, fun cs _ => x.ar.length - (match cs with | [.int _ i] => i.toNat | _ => 0), ⟨0, rfl, Nat.zero_le _, rfl, hS⟩, ?_⟩⟩
  rintro cs2 ds3 V3 ⟨j, rfl, hj, hje, hS⟩
  try dsimp only [List.getD_cons_zero]
  refine xFa62_7 (kLd hS 0 rfl rfl rfl (xLen60 (kBin_lss (kIf_d (fun g => ?_) (fun g => ?_)))))
  rotate_left
  · have hjl : j = x.ar.length := by omega
    rw [hjl, List.take_length, q7, List.take_length] at hje
    have hxy : x = y := by
      cases x; cases y; simp only at q0 q1 q2 q3 q4 q5 q6 hje; subst q0; subst q1; subst q2; subst q3; subst q4; subst q5; subst q6; subst hje; rfl
    refine kBin_add (kD_i ⟨⟨i + 1, ?_, hil, hnext hxy, (hS.del 0).del 0⟩, ?_⟩)
    · rw [wrap_id (by omega) (by omega)]; rfl
    · rw [wrap_id (by omega) (by omega)]; show la.length - ((i : Int) + 1).toNat < la.length - (i : Int).toNat; omega
  have hjx : j < x.ar.length := by omega
  have hjy : j < y.ar.length := by omega
  obtain ⟨rb, ro, hp, hrb, hr⟩ := (hpx.below hS.below).elem (i := j) (v := vInt x.ar[j]) (by simp [hjx])
  obtain ⟨sb, so, hq, hsb, hs⟩ := (hqx.below hS.below).elem (i := j) (v := vInt y.ar[j]) (by simp [hjy])
  refine kDrawn_i (xFa62_7 (kLd hS 0 rfl rfl rfl ?_))
  rw [hp]
  refine xIa60 hjx (kLdS rfl (hr 0 (.int .i64 x.ar[j]) rfl) (xFa62_7 (kLd hS 1 rfl rfl rfl ?_)))
  rw [hq]
  refine xIa60 hjy (kLdS rfl (hs 0 (.int .i64 y.ar[j]) rfl) (kNe_int (kDrew_st hS fun V hS => kIf_ne (fun q => no hS fun e => q (by subst e; rfl)) (fun q => kBin_add (kD_i ⟨⟨j + 1, ?_, hjx, ?_, ?_⟩, ?_⟩)))))
  · rw [wrap_id (by omega) (by omega)]; rfl
  · rw [List.take_succ_eq_append_getElem hjx, List.take_succ_eq_append_getElem hjy, hje, q]
  · rw [← hp, ← hq]; exact hS
  · rw [wrap_id (by omega) (by omega)]; show x.ar.length - ((j : Int) + 1).toNat < x.ar.length - (j : Int).toNat; omega
end Go.L
namespace Go.L
open Go Go.RowKit Go.Proofs
set_option linter.unusedSimpArgs false
set_option linter.unusedVariables false

theorem bTr {w W W1 : World} (h : Below w.heap.size w W) (h1 : Below W.heap.size W W1) : Below w.heap.size w W1 := (((St.start w).bel h).bel h1).below
theorem putOk_rd {l : List IN} (hr : ∀ x ∈ l, InsRd x) (hc : chkC l = 0) : ∀ x ∈ l, PutOk x := fun x hx => by
  have h := (chkC_all hc).2 x hx
  rw [← rightEq] at h
  exact putOk_of h (hr x hx).w (hr x hx).k (hr x hx).o
theorem decC_some {bs : List Nat} {l : List IN} (h : decC bs = some l) : chkC l = 0 ∧ codeB l = bs := by
  unfold decC at h
  split at h
  · split at h
    · rename_i q; cases h; exact q
    · cases h
  · cases h
theorem CodeReads5 (bs : List Nat) (w : World) (hT : Tab w) (a : Option Addr) (cp : Nat) (hB : Bs w a bs.length cp bs) (hbyte : ∀ b ∈ bs, b < 256) (hcp : cp ≤ 9223372036854775807) (R : Ending → World → Prop)
    (h : ∀ W, Below w.heap.size w W → R (.returned (.bool true)) W) : Calls Tryz.prog 5 #[.slice a bs.length cp] w R := by
  refine c5 _ _ _ _ _ ?_
  unfold vc5
  refine xLen44 (kBin_gtr (kIf_d (fun q => kCall_i (Tryz.call9 _ _) (works17 _ hT _ fun W hB' => h _ hB')) (fun q => ?_)))
  cases hd : decC bs with
  | none =>
    refine kCall_i (Tryz.call19 _ _) (CodeDecode19 bs w a cp hB hbyte hcp (by omega) _ (fun l hl => by rw [hd] at hl; cases hl) (fun _ W hW => ?_))
    refine kExt_0 (kExt_1 (kCall_i (Tryz.call20 _ _) (CodeDecode20 bs W a cp (hB.keep hW) hbyte hcp (by omega) _ (fun l hl => by rw [hd] at hl; cases hl) (fun _ W1 hW1 => ?_))))
    have hW1 := bTr hW hW1
    have hS := Same21 [] [] W1 none none 0 0 ⟨[], Sl.nil _ _, rfl, by simp⟩ ⟨[], Sl.nil _ _, rfl, by simp⟩ (by simp) (by simp)
    refine kExt_0 (kExt_1 (kJn_i (kCall_i (Tryz.call21 _ _) (hS _ fun W2 hW2 => kUn_not (kIf_f (kCall_i (Tryz.call13 _ _) (num18 _ _ _ (kNe_int (kIf_ne (fun q => absurd rfl q) (fun _ => kD_i ?_))))))))))
    intro _
    exact kNe_int (kIf_ne (fun _ => kCall_i (Tryz.call9 _ _) (works17 _ (hT.below (bTr hW1 hW2)) _ fun W3 hW3 => h _ (bTr (bTr hW1 hW2) hW3))) (fun q => by cases q))
  | some l =>
    obtain ⟨hc, hbl⟩ := decC_some hd
    refine kCall_i (Tryz.call19 _ _) (CodeDecode19 bs w a cp hB hbyte hcp (by omega) _ (fun l' hl' hrd lo lc W hW hP hlc => ?_) (fun hl => by rw [hd] at hl; cases hl))
    rw [hd] at hl'; cases hl'
    refine kExt_0 (kExt_1 (kCall_i (Tryz.call20 _ _) (CodeDecode20 bs W a cp (hB.keep hW) hbyte hcp (by omega) _ (fun l' hl' lo' lc' W1 hW1 hP' => ?_) (fun hl => by rw [hd] at hl; cases hl))))
    rw [hd] at hl'; cases hl'
    have hP := hP.below hW1
    have hW1 := bTr hW hW1
    have hlen := (chkC_all hc).1
    have harl : ∀ x ∈ l, x.ar.length ≤ 1000000 := fun x hx => (hrd x hx).len
    refine kExt_0 (kExt_1 (kJn_i (kCall_i (Tryz.call21 _ _) (Same21 l l W1 lo lo' lc lc' hP.ins hP'.ins (by omega) harl _ fun W2 hW2 => ?_))))
    rw [decide_eq_true rfl]
    refine kUn_not (kIf_f (kCall_i (Tryz.call13 _ _) (num18 _ _ _ (kNe_int (kIf_ne (fun q => absurd rfl q) (fun _ => kD_i ?_))))))
    intro _
    refine kNe_int (kIf_ne (fun q => absurd rfl q) (fun _ => ?_))
    have hW2' := bTr hW1 hW2
    refine kCall_i (Tryz.call22 _ _) (Encode22 l W2 lo lc (hP.below hW2) harl (putOk_rd hrd) _ (fun _ x W3 hW3 hown => ?_) (fun q => absurd hc q))
    obtain ⟨ax, cx, rfl, hBx⟩ := Bs.of_owns hown
    refine kExt_0 (kExt_1 (kCall_i (Tryz.call13 _ _) (num18 _ _ _ (kEq_int (kIf_eq (fun _ => ?_) (fun q => absurd rfl q))))))
    refine kCv_str hBx (kCv_str (hB.keep (bTr hW2' hW3)) (kEq_str ?_))
    rw [hbl, decide_eq_true rfl]
    exact kIf_t (kCall_i (Tryz.call9 _ _) (works17 _ (hT.below (bTr hW2' hW3)) _ fun W4 hW4 => h _ (bTr (bTr hW2' hW3) hW4)))
end Go.L
