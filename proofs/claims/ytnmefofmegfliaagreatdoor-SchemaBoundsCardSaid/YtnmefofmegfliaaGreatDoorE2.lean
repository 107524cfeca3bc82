/- An evaluation of the translation's functions, shown sound: no condition. -/
import Derived.Test.YtnmefofmegfliaaGreatDoorE1
import Derived.Test.YtnmefofmegfliaaGreatDoorA2
import Derived.Laws.Cover1
import Derived.Laws.IdiomCopy
import Derived.Laws.StructEq
import Derived.Laws.BytesString
set_option linter.unusedVariables false
set_option linter.unusedSimpArgs false
set_option linter.unusedSectionVars false
namespace Go.L.Ev
open Go Go.RowKit
set_option linter.unusedSimpArgs false
set_option linter.unusedVariables false

theorem natF_eq (n : Nat) (κ : Nat → Bool) : natF n κ = κ n := by cases n <;> rfl
theorem boolF_eq (b : Bool) (κ : Bool → Bool) : boolF b κ = κ b := by cases b <;> rfl
theorem intF_eq (n : Int) (κ : Int → Bool) : intF n κ = κ n := by
  cases n with
  | ofNat m => exact natF_eq m (fun m => κ (.ofNat m))
  | negSucc m => exact natF_eq m (fun m => κ (.negSucc m))
theorem iff_eq (b x y : Bool) : iff b x y = if b = true then x else y := by cases b <;> rfl
theorem iff_inv {b x y : Bool} (h : iff b x y = true) : (b = true ∧ x = true) ∨ (b = false ∧ y = true) := by cases b <;> simp_all [iff]
theorem iff_t {b x : Bool} (h : iff b x false = true) : b = true ∧ x = true := by cases b <;> simp_all [iff]
theorem iff_f {b x : Bool} (h : iff b false x = true) : b = false ∧ x = true := by cases b <;> simp_all [iff]
theorem getK_eq {α : Type} (z : α) (t : Tr α) : ∀ (n : Nat) (κ : α → Bool), t.getK z n κ = κ (t.get z n) := by
  induction t with
  | lf => intro n κ; rfl
  | nd l v r ihl ihr =>
    intro n κ
    cases n with
    | zero => rfl
    | succ m =>
      show (@Bool.rec (fun _ => Bool) (r.getK z (m / 2) κ) (l.getK z (m / 2) κ) (Nat.beq (m % 2) 0)) = κ (@Bool.rec (fun _ => α) (r.get z (m / 2)) (l.get z (m / 2)) (Nat.beq (m % 2) 0))
      rw [ihl, ihr]
      cases Nat.beq (m % 2) 0 <;> rfl
theorem nthK_inv {α : Type} {κ : α → Bool} : ∀ {l : List α} {n : Nat}, nthK l n κ = true → ∃ a, l[n]? = some a ∧ κ a = true
  | [], n, h => by simp [nthK] at h
  | a :: l, 0, h => ⟨a, rfl, h⟩
  | a :: l, n + 1, h => by
    obtain ⟨b, h1, h2⟩ := nthK_inv (l := l) (n := n) h
    exact ⟨b, by simpa using h1, h2⟩
theorem dropK_inv {α : Type} {κ : List α → Bool} : ∀ {l : List α} {n : Nat}, dropK l n κ = true → n ≤ l.length ∧ κ (l.drop n) = true
  | [], 0, h => ⟨Nat.le_refl _, h⟩
  | [], n + 1, h => by simp [dropK] at h
  | a :: l, 0, h => ⟨Nat.zero_le _, h⟩
  | a :: l, n + 1, h => by
    obtain ⟨h1, h2⟩ := dropK_inv (l := l) (n := n) h
    exact ⟨by simpa using h1, by simpa using h2⟩
theorem takeK_inv {α : Type} : ∀ {l : List α} {n : Nat} {κ : List α → Bool}, takeK l n κ = true → n ≤ l.length ∧ κ (l.take n) = true
  | [], 0, _, h => ⟨Nat.le_refl _, h⟩
  | [], n + 1, _, h => by simp [takeK] at h
  | a :: l, 0, _, h => ⟨Nat.zero_le _, h⟩
  | a :: l, n + 1, κ, h => by
    obtain ⟨h1, h2⟩ := takeK_inv (l := l) (n := n) (κ := fun r => κ (a :: r)) h
    exact ⟨by simpa using h1, by simpa using h2⟩
theorem appK_eq {α : Type} : ∀ (l m : List α) (κ : List α → Bool), appK l m κ = κ (l ++ m)
  | [], m, κ => rfl
  | a :: l, m, κ => appK_eq l m (fun r => κ (a :: r))
theorem overK_inv {α : Type} : ∀ {l m : List α} {κ : List α → Bool}, overK l m κ = true → l.length ≤ m.length ∧ κ (l ++ m.drop l.length) = true
  | [], m, _, h => ⟨Nat.zero_le _, h⟩
  | a :: l, [], _, h => by simp [overK] at h
  | a :: l, b :: m, κ, h => by
    obtain ⟨h1, h2⟩ := overK_inv (l := l) (m := m) (κ := fun r => κ (a :: r)) h
    exact ⟨by simpa using h1, by simpa using h2⟩
theorem spliceK_inv {α : Type} : ∀ {l : List α} {n : Nat} {new : List α} {κ : List α → Bool}, spliceK l n new κ = true → n + new.length ≤ l.length ∧ κ (l.take n ++ new ++ l.drop (n + new.length)) = true
  | [], 0, new, κ, h => by
    obtain ⟨h1, h2⟩ := overK_inv (l := new) (m := []) h
    exact ⟨by simpa using h1, by simpa using h2⟩
  | [], n + 1, _, _, h => by simp [spliceK] at h
  | a :: l, 0, new, κ, h => by
    obtain ⟨h1, h2⟩ := overK_inv (l := new) (m := a :: l) h
    exact ⟨by simpa using h1, by simpa using h2⟩
  | a :: l, n + 1, new, κ, h => by
    obtain ⟨h1, h2⟩ := spliceK_inv (l := l) (n := n) (new := new) (κ := fun r => κ (a :: r)) h
    refine ⟨by simp; omega, ?_⟩
    rw [show n + 1 + new.length = n + new.length + 1 by omega]
    simpa using h2
theorem lenK_eq {α : Type} (l : List α) (κ : Nat → Bool) : lenK l κ = κ l.length := by
  unfold lenK
  rw [natF_eq]
  congr 1
  induction l with
  | nil => rfl
  | cons a l ih => show Nat.succ _ = _; rw [ih]; rfl
theorem lenIs_inv {α : Type} : ∀ {l : List α} {n : Nat}, lenIs l n = true → l.length = n
  | [], n, h => (Nat.eq_of_beq_eq_true (show Nat.beq n 0 = true from h)).symm
  | a :: l, 0, h => by simp [lenIs] at h
  | a :: l, n + 1, h => by simpa using lenIs_inv (l := l) (n := n) h
theorem repK_eq {α : Type} (l : List α) : ∀ (n : Nat) (κ : List α → Bool), repK l n κ = κ (List.replicate n l).flatten
  | 0, κ => rfl
  | n + 1, κ => by
    show repK l n (fun r => appK l r κ) = _
    rw [repK_eq l n, appK_eq, List.replicate_succ, List.flatten_cons]

/-! ### Texts -/
theorem bytesOf_natOf : ∀ l : List UInt8, bytesOf l.length (natOf l) = l
  | [] => rfl
  | b :: l => by
    show UInt8.ofNat ((b.toNat + 256 * natOf l) % 256) :: bytesOf l.length ((b.toNat + 256 * natOf l) / 256) = _
    have hb : b.toNat < 256 := b.toNat_lt
    rw [show (b.toNat + 256 * natOf l) % 256 = b.toNat by omega, show (b.toNat + 256 * natOf l) / 256 = natOf l by omega, bytesOf_natOf l]
    simp
theorem bytesOf_len : ∀ (k n : Nat), (bytesOf k n).length = k
  | 0, _ => rfl
  | k + 1, n => by simp [bytesOf, bytesOf_len k]
theorem strOf_size (n k : Nat) : (strOf n k).size = k := by show (bytesOf k n).toArray.size = k; simp [bytesOf_len]
theorem bytesOf_get : ∀ (k n i : Nat), i < k → (bytesOf k n)[i]? = some (UInt8.ofNat (n / 256 ^ i % 256))
  | 0, _, _, h => absurd h (Nat.not_lt_zero _)
  | k + 1, n, 0, _ => by simp [bytesOf]
  | k + 1, n, i + 1, h => by
    simp only [bytesOf, List.getElem?_cons_succ]
    rw [bytesOf_get k (n / 256) i (by omega), Nat.div_div_eq_div_mul, Nat.pow_succ, Nat.mul_comm 256]
theorem bytesOf_mod : ∀ (k n : Nat), bytesOf k (n % 256 ^ k) = bytesOf k n
  | 0, _ => rfl
  | k + 1, n => by
    simp only [bytesOf]
    rw [Nat.pow_succ, Nat.mul_comm, Nat.mod_mul_right_div_self, bytesOf_mod k]
    rw [Nat.mod_mul_right_mod]
theorem bytesOf_take : ∀ (j k n : Nat), j ≤ k → (bytesOf k n).take j = bytesOf j n
  | 0, _, _, _ => by simp [bytesOf]
  | j + 1, 0, _, h => absurd h (by omega)
  | j + 1, k + 1, n, h => by simp [bytesOf, bytesOf_take j k (n / 256) (by omega)]
theorem bytesOf_drop : ∀ (j k n : Nat), (bytesOf (j + k) n).drop j = bytesOf k (n / 256 ^ j)
  | 0, k, n => by simp
  | j + 1, k, n => by
    rw [show j + 1 + k = (j + k) + 1 by omega]
    simp only [bytesOf, List.drop_succ_cons]
    rw [bytesOf_drop j k, Nat.div_div_eq_div_mul, Nat.pow_succ, Nat.mul_comm 256]
theorem bytesOf_append : ∀ (i j m n : Nat), bytesOf (i + j) (m % 256 ^ i + n * 256 ^ i) = bytesOf i m ++ bytesOf j n
  | 0, j, m, n => by simp [Nat.mod_one, bytesOf]
  | i + 1, j, m, n => by
    rw [show i + 1 + j = (i + j) + 1 by omega]
    simp only [bytesOf, List.cons_append]
    have e : m % 256 ^ (i + 1) + n * 256 ^ (i + 1) = m % 256 + 256 * (m / 256 % 256 ^ i + n * 256 ^ i) := by
      rw [Nat.pow_succ, Nat.mul_comm (256 ^ i) 256, Nat.mod_mul]
      rw [Nat.mul_add]
      have : n * (256 * 256 ^ i) = 256 * (n * 256 ^ i) := by rw [Nat.mul_left_comm]
      omega
    rw [e]
    have h1 : m % 256 < 256 := Nat.mod_lt _ (by omega)
    rw [show (m % 256 + 256 * (m / 256 % 256 ^ i + n * 256 ^ i)) % 256 = m % 256 by omega, show (m % 256 + 256 * (m / 256 % 256 ^ i + n * 256 ^ i)) / 256 = m / 256 % 256 ^ i + n * 256 ^ i by omega,
      bytesOf_append i j]
theorem bytesOf_inj : ∀ (k m n : Nat), bytesOf k m = bytesOf k n → m % 256 ^ k = n % 256 ^ k
  | 0, m, n, _ => by simp [Nat.mod_one]
  | k + 1, m, n, h => by
    simp only [bytesOf, List.cons.injEq] at h
    have h1 : m % 256 = n % 256 := by
      have := congrArg UInt8.toNat h.1
      simpa using this
    have h2 := bytesOf_inj k _ _ h.2
    rw [Nat.pow_succ, Nat.mul_comm, Nat.mod_mul, Nat.mod_mul, h1, h2]
theorem strOf_natOf (s : ByteArray) : strOf (natOf s.data.toList) s.data.toList.length = s := by
  obtain ⟨⟨l⟩⟩ := s
  show (⟨(bytesOf l.length (natOf l)).toArray⟩ : ByteArray) = _
  rw [bytesOf_natOf]

/-! ### Constants -/
variable [Ext]
theorem ofStr_inv {s : ByteArray} {κ : RV → Bool} (h : ofStr s κ = true) : ∃ r, κ r = true ∧ ∀ δ, dec δ r = some (.string s) := by
  unfold ofStr at h
  rw [lenK_eq, natF_eq] at h
  exact ⟨_, h, fun δ => by
    rw [str_dec (fun e => by rw [List.eq_nil_of_length_eq_zero e]; rfl), strOf_natOf]⟩
mutual
theorem ofV_inv : ∀ (v : Value) {κ : RV → Bool}, ofV v κ = true → ∃ r, κ r = true ∧ ∀ δ, dec δ r = some v
  | .bool b, κ, h => ⟨.bool b, h, fun δ => by simp [dec]⟩
  | .int k n, κ, h => ⟨.int k n, h, fun δ => by simp [dec]⟩
  | .float _ _, κ, h => by simp [ofV] at h
  | .complex _ _ _, κ, h => by simp [ofV] at h
  | .string s, κ, h => ofStr_inv h
  | .pointer none, κ, h => ⟨.nilp, h, fun δ => by simp [dec]⟩
  | .pointer (some _), κ, h => by simp [ofV, ofPtr] at h
  | .slice none 0 0, κ, h => ⟨.nils, h, fun δ => by simp [dec]⟩
  | .slice none (_ + 1) _, κ, h => absurd (show false = true from h) (by decide)
  | .slice none 0 (_ + 1), κ, h => absurd (show false = true from h) (by decide)
  | .slice (some _) _ _, κ, h => by simp [ofV, ofSl] at h
  | .map none, κ, h => ⟨.nilm, h, fun δ => by simp [dec]⟩
  | .map (some _), κ, h => by simp [ofV, ofMp] at h
  | .chan _, κ, h => by simp [ofV] at h
  | .func fn a b, κ, h => by
    obtain ⟨x, h1, hx⟩ := ofVA_inv a (κ := fun x => ofVA b fun y => ofFn fn x y κ) h
    obtain ⟨y, h2, hy⟩ := ofVA_inv b h1
    cases fn with
    | func f => exact ⟨_, h2, fun δ => by simp [dec, hx, hy]⟩
    | method _ => simp [ofFn] at h2
    | methodOf _ _ => simp [ofFn] at h2
    | via _ _ _ _ => simp [ofFn] at h2
    | yield _ => simp [ofFn] at h2
  | .nilFunc, κ, h => ⟨.nilf, h, fun δ => by simp [dec]⟩
  | .iface t v, κ, h => by
    obtain ⟨r, h1, hr⟩ := ofV_inv v (κ := fun r => κ (.ifc t r)) h
    exact ⟨_, h1, fun δ => by simp [dec, hr]⟩
  | .nilIface, κ, h => ⟨.nili, h, fun δ => by simp [dec]⟩
  | .agg a, κ, h => by
    obtain ⟨l, h1, hl⟩ := ofVA_inv a (κ := fun l => κ (.agg l)) h
    exact ⟨_, h1, fun δ => by simp [dec, hl]⟩
  | .tuple a, κ, h => by
    obtain ⟨l, h1, hl⟩ := ofVA_inv a (κ := fun l => κ (.tup l)) h
    exact ⟨_, h1, fun δ => by simp [dec, hl]⟩
theorem ofVA_inv : ∀ (v : Array Value) {κ : List RV → Bool}, ofVA v κ = true → ∃ l, κ l = true ∧ ∀ δ, decL δ l = some v.toList
  | ⟨l⟩, κ, h => ofVl_inv l h
theorem ofVl_inv : ∀ (v : List Value) {κ : List RV → Bool}, ofVl v κ = true → ∃ l, κ l = true ∧ ∀ δ, decL δ l = some v
  | [], κ, h => ⟨[], h, fun δ => decL_nil⟩
  | a :: l, κ, h => by
    obtain ⟨x, h1, hx⟩ := ofV_inv a (κ := fun x => ofVl l fun y => κ (x :: y)) h
    obtain ⟨y, h2, hy⟩ := ofVl_inv l h1
    exact ⟨_, h2, fun δ => decL_cons (hx δ) (hy δ)⟩
end

/-! ### The program's tables -/
def InT (ty : TyT) (t : TypeId) : Prop := ∃ i, ty.t.get none t = some i
structure Pg (P : Program) (ty : TyT) (fu : FuT) : Prop where
  tyOk : ∀ t i, ty.t.get none t = some i → P.info? t = some i
  qOk : ∀ t fs, memN ty.q t = true → P.underlying t = some (.struct fs) → P.stoodInHeld t = false ∧ P.eqGuardType P.depth t = false ∧ ∀ f ∈ fs.toList, f.name ≠ "_"
  fuOk : ∀ f fn, fu.get none f = some fn → P.funcs[f]? = some fn
  nmOk : ∀ (f : Nat) (fn : Func), P.funcs[f]? = some fn → (fn.name == "runtime.NumGoroutine") = false
  fsOk : ∀ (t : TypeId) (fs : Array Field), InT ty t → P.underlying t = some (.struct fs) → ∀ f ∈ fs.toList, (P.info? f.type).isSome = true
  zOk : ∀ (t e : TypeId) (i : TypeInfo), InT ty t → P.underlying t = some (.slice e) → P.info? e = some i → i.size ≤ 1024 → i.bytes ≤ 65536 ∧ ∃ z, i.zero = some z ∧ z.cells.size = i.size
  mixed : P.follows .mixedOrders = true

section
variable {P : Program} {ty : TyT} {fu : FuT}
theorem tinf_inv {t : TypeId} {κ : TypeInfo → Bool} (h : tinf ty t κ = true) : ∃ i, ty.t.get none t = some i ∧ κ i = true := by
  unfold tinf at h
  rw [getK_eq] at h
  cases hi : ty.t.get none t with
  | none => rw [hi] at h; simp at h
  | some i => rw [hi] at h; exact ⟨i, rfl, h⟩
theorem undK_mem {t : TypeId} {q : TypeDesc → Bool} (h : undK ty t q = true) : InT ty t := by
  obtain ⟨i, hi, _⟩ := tinf_inv h
  exact ⟨i, hi⟩
theorem sizeK_inv (p : Pg P ty fu) {t : TypeId} {κ : Nat → Bool} (h : sizeK ty t κ = true) : ∃ i, P.info? t = some i ∧ κ i.size = true := by
  obtain ⟨i, hi, h⟩ := tinf_inv h
  rw [natF_eq] at h
  exact ⟨i, p.tyOk _ _ hi, h⟩
theorem zeroK_inv (p : Pg P ty fu) {t : TypeId} {κ : RV → Bool} (h : zeroK ty t κ = true) : ∃ i z r, P.info? t = some i ∧ i.zero = some z ∧ κ r = true ∧ ∀ δ, dec δ r = some z := by
  obtain ⟨i, hi, h⟩ := tinf_inv h
  cases hz : i.zero with
  | none => simp [hz] at h
  | some z =>
    simp only [hz] at h
    obtain ⟨r, h1, hr⟩ := ofV_inv z h
    exact ⟨i, z, r, p.tyOk _ _ hi, hz, h1, hr⟩
theorem undK_inv (p : Pg P ty fu) {t : TypeId} {q : TypeDesc → Bool} (h : undK ty t q = true) : ∃ d, P.underlying t = some d ∧ q d = true := by
  obtain ⟨i, hi, h⟩ := tinf_inv h
  have hp := p.tyOk _ _ hi
  obtain ⟨d, str, size, bytes, hpt, al, fal, zero, cmp, ms⟩ := i
  cases d
  case named n u =>
    obtain ⟨j, hj, h⟩ := tinf_inv h
    exact ⟨j.desc, by simp [Program.underlying, hp, p.tyOk _ _ hj], h⟩
  all_goals exact ⟨_, by simp [Program.underlying, hp], h⟩
end
theorem tdSlice_inv {d : TypeDesc} {κ} (h : tdSlice d κ = true) : ∃ e, d = .slice e ∧ κ e = true := by
  cases d <;> first | exact ⟨_, rfl, h⟩ | exact absurd h (by simp [tdSlice])
theorem tdPtr_inv {d : TypeDesc} {κ} (h : tdPtr d κ = true) : ∃ e, d = .pointer e ∧ κ e = true := by
  cases d <;> first | exact ⟨_, rfl, h⟩ | exact absurd h (by simp [tdPtr])
theorem tdArr_inv {d : TypeDesc} {κ} (h : tdArr d κ = true) : ∃ n e, d = .array n e ∧ κ n e = true := by
  cases d <;> first | exact ⟨_, _, rfl, h⟩ | exact absurd h (by simp [tdArr])
theorem tdMap_inv {d : TypeDesc} {κ} (h : tdMap d κ = true) : ∃ k e, d = .map k e ∧ κ k e = true := by
  cases d <;> first | exact ⟨_, _, rfl, h⟩ | exact absurd h (by simp [tdMap])
theorem tdStr_inv {d : TypeDesc} {κ} (h : tdStr d κ = true) : ∃ fs, d = .struct fs ∧ κ fs.toList = true := by
  cases d <;> first | exact ⟨_, rfl, h⟩ | exact absurd h (by simp [tdStr])
theorem tdInt_inv {d : TypeDesc} {κ} (h : tdInt d κ = true) : ∃ k, d = .int k ∧ κ k = true := by
  cases d <;> first | exact ⟨_, rfl, h⟩ | exact absurd h (by simp [tdInt])

/-! ### Operands -/
theorem opd_inv {x : Operand} {e : VE} {κ : RV → Bool} (h : opd x e κ = true) : ∃ r, κ r = true ∧ ∀ δ E, EnvR δ e E → dec δ r = some (ev E x) := by
  cases x with
  | tmp t =>
    have h : e.getK (.tup []) t κ = true := h
    rw [getK_eq] at h
    exact ⟨_, h, fun δ E hE => hE t⟩
  | const v =>
    obtain ⟨r, h1, hr⟩ := ofV_inv v h
    exact ⟨r, h1, fun δ E _ => hr δ⟩
  | global g =>
    obtain ⟨hg, h⟩ := iff_t h
    have hg : g < 1000000 := Nat.le_of_ble_eq_true hg
    exact ⟨_, h, fun δ E _ => by simp [dec, ev, gnum, hg]⟩
  | func f => exact ⟨_, h, fun δ E _ => by simp [dec, decL, ev]⟩
theorem opds_inv : ∀ {l : List Operand} {e : VE} {κ : List RV → Bool}, opds l e κ = true → ∃ r, κ r = true ∧ ∀ δ E, EnvR δ e E → decL δ r = some (l.map (ev E))
  | [], e, κ, h => ⟨[], h, fun δ E _ => decL_nil⟩
  | x :: l, e, κ, h => by
    obtain ⟨r, h1, hr⟩ := opd_inv (κ := fun v => opds l e fun r => κ (v :: r)) h
    obtain ⟨s, h2, hs⟩ := opds_inv h1
    exact ⟨_, h2, fun δ E hE => decL_cons (hr δ E hE) (hs δ E hE)⟩

/-! ### Things -/
theorem push_inv {o : Ob} {h : Hp} {κ : Nat → Hp → Bool} (hk : push o h κ = true) : ∃ h', κ h.next h' = true ∧ h'.next = h.next + 1 ∧ h'.at h.next = o ∧ ∀ j, j ≠ h.next → h'.at j = h.at j := by
  unfold push at hk
  rw [natF_eq] at hk
  obtain ⟨t, h1, h2, h3⟩ := Tr.set_inv .no _ _ _ _ hk
  exact ⟨_, h1, rfl, h2, h3⟩
theorem setO_inv {i : Nat} {o : Ob} {h : Hp} {κ : Hp → Bool} (hk : setO i o h κ = true) : ∃ h', κ h' = true ∧ h'.next = h.next ∧ h'.at i = o ∧ ∀ j, j ≠ i → h'.at j = h.at j := by
  obtain ⟨t, h1, h2, h3⟩ := Tr.set_inv .no _ _ _ _ hk
  exact ⟨_, h1, rfl, h2, h3⟩
theorem obK_inv {h : Hp} {i : Nat} {κ : List RV → Bool} (hk : obK h i κ = true) : (∃ t cs, h.at i = .bx t cs ∧ κ cs = true) ∨ ∃ e sz n cs, h.at i = .row e sz n cs ∧ κ cs = true := by
  unfold obK at hk
  rw [getK_eq] at hk
  show (∃ t cs, Tr.get .no h.t i = .bx t cs ∧ κ cs = true) ∨ ∃ e sz n cs, Tr.get .no h.t i = .row e sz n cs ∧ κ cs = true
  cases ho : Tr.get .no h.t i <;> rw [ho] at hk <;> first | exact .inl ⟨_, _, rfl, hk⟩ | exact .inr ⟨_, _, _, _, rfl, hk⟩ | simp at hk
theorem obM_inv {h : Hp} {i : Nat} {κ : List RV → (List RV → Ob) → Bool} (hk : obM h i κ = true) : (∃ t cs, h.at i = .bx t cs ∧ κ cs (.bx t) = true) ∨ ∃ e sz n cs, h.at i = .row e sz n cs ∧ κ cs (.row e sz n) = true := by
  unfold obM at hk
  rw [getK_eq] at hk
  show (∃ t cs, Tr.get .no h.t i = .bx t cs ∧ κ cs (.bx t) = true) ∨ ∃ e sz n cs, Tr.get .no h.t i = .row e sz n cs ∧ κ cs (.row e sz n) = true
  cases ho : Tr.get .no h.t i <;> rw [ho] at hk <;> first | exact .inl ⟨_, _, rfl, hk⟩ | exact .inr ⟨_, _, _, _, rfl, hk⟩ | simp at hk
theorem obRow_inv {h : Hp} {i : Nat} {κ : TypeId → Nat → Nat → List RV → Bool} (hk : obRow h i κ = true) : ∃ e sz n cs, h.at i = .row e sz n cs ∧ κ e sz n cs = true := by
  unfold obRow at hk
  rw [getK_eq] at hk
  show ∃ e sz n cs, Tr.get .no h.t i = .row e sz n cs ∧ κ e sz n cs = true
  cases ho : Tr.get .no h.t i <;> rw [ho] at hk <;> first | exact ⟨_, _, _, _, rfl, hk⟩ | simp at hk
theorem obMap_inv {h : Hp} {i : Nat} {κ : Nat → List (RV × RV × Nat) → Bool} (hk : obMap h i κ = true) : ∃ c es, h.at i = .mp c es ∧ κ c es = true := by
  unfold obMap at hk
  rw [getK_eq] at hk
  show ∃ c es, Tr.get .no h.t i = .mp c es ∧ κ c es = true
  cases ho : Tr.get .no h.t i <;> rw [ho] at hk <;> first | exact ⟨_, _, rfl, hk⟩ | simp at hk
end Go.L.Ev
namespace Go.L.Ev
open Go Go.RowKit
variable [Ext]
set_option linter.unusedSimpArgs false
set_option linter.unusedVariables false

/-! ### Scalars -/
theorem ikEq_inv {j k : IntKind} (h : ikEq j k = true) : j = k := by cases j <;> cases k <;> first | rfl | exact absurd h (by decide)
theorem fits_wrap {k : IntKind} {n : Int} (h : fits k n = true) : k.wrap n = n := by
  cases k <;> cases n <;> simp only [fits, Nat.blt_eq, Nat.not_lt_zero] at h <;> simp only [IntKind.wrap, IntKind.bits, IntKind.signed] <;> simp <;> omega
theorem wrapK_inv {k : IntKind} {n : Int} {κ : RV → Bool} (h : wrapK k n κ = true) : κ (.int k (k.wrap n)) = true := by
  unfold wrapK at h
  rw [intF_eq] at h
  replace h := iff_inv h
  rcases h with ⟨h1, h2⟩ | ⟨_, h2⟩
  · rw [fits_wrap h1]; exact h2
  · rwa [intF_eq] at h2
theorem iLt_eq (a b : Int) : iLt a b = decide (a < b) := by
  cases a with
  | ofNat m => cases b with
    | ofNat n => show Nat.blt m n = _; rw [Bool.eq_iff_iff]; simp [Nat.blt_eq]
    | negSucc n => show false = _; symm; simp; omega
  | negSucc m => cases b with
    | ofNat n => show true = _; symm; simp; omega
    | negSucc n => show Nat.blt n m = _; rw [Bool.eq_iff_iff]; simp [Nat.blt_eq]; omega
theorem iEq_eq (a b : Int) : iEq a b = (a == b) := by
  cases a with
  | ofNat m => cases b with
    | ofNat n => show Nat.beq m n = _; rw [Bool.eq_iff_iff]; simp; omega
    | negSucc n => show false = _; symm; simp
  | negSucc m => cases b with
    | ofNat n => show false = _; symm; simp
    | negSucc n => show Nat.beq n m = _; rw [Bool.eq_iff_iff]; simp; omega
theorem iNat_inv {a : Int} {κ : Nat → Bool} (h : iNat a κ = true) : ∃ n : Nat, a = n ∧ κ n = true := by
  cases a with
  | ofNat n => exact ⟨n, rfl, h⟩
  | negSucc n => simp [iNat] at h
theorem bNot_eq (a : Bool) : bNot a = !a := by cases a <;> rfl
theorem bAnd_eq (a b : Bool) : bAnd a b = (a && b) := by cases a <;> rfl
theorem bOr_eq (a b : Bool) : bOr a b = (a || b) := by cases a <;> rfl
theorem bEq_eq (a b : Bool) : bEq a b = (a == b) := by cases a <;> cases b <;> rfl
theorem boolK_eq (b : Bool) (κ : RV → Bool) : boolK b κ = κ (.bool b) := by cases b <;> rfl
theorem isInt_t {v : RV} (h : isInt v = true) : ∃ k n, v = .int k n := by
  obtain ⟨k, n, h, _⟩ := rvInt_inv h
  exact ⟨k, n, h⟩
theorem ints_inv {f} {x y : RV} {κ : RV → Bool} (h : ints f x y κ = true) : ∃ k a b, x = .int k a ∧ y = .int k b ∧ f k a b κ = true := by
  replace h := rvInt_inv h
  obtain ⟨j, a, rfl, h⟩ := h
  replace h := rvInt_inv h
  obtain ⟨k, b, rfl, h⟩ := h
  obtain ⟨h1, h2⟩ := iff_t h
  cases ikEq_inv h1
  exact ⟨_, _, _, rfl, rfl, h2⟩
theorem strs_inv {f} {x y : RV} {κ : RV → Bool} (h : strs f x y κ = true) : ∃ m i n j, x = .str m i ∧ y = .str n j ∧ strW m i ∧ strW n j ∧ f m i n j κ = true := by
  replace h := rvStr_inv h
  obtain ⟨m, i, rfl, hw, h⟩ := h
  replace h := rvStr_inv h
  obtain ⟨n, j, rfl, hw', h⟩ := h
  exact ⟨_, _, _, _, rfl, rfl, hw, hw', h⟩
theorem strOf_toList (n k : Nat) : (strOf n k).toList = bytesOf k n := by rw [ByteArray.toList_eq]; rfl
theorem sEq_eq (m i n j : Nat) : sEq m i n j = ((strOf m i).toList == (strOf n j).toList) := by
  rw [strOf_toList, strOf_toList]
  unfold sEq
  rw [bAnd_eq]
  by_cases h : bytesOf i m = bytesOf j n
  · have hij : i = j := by rw [← bytesOf_len i m, h, bytesOf_len]
    subst hij
    rw [h, show m.mod (Nat.pow 256 i) = n.mod (Nat.pow 256 i) from bytesOf_inj _ _ _ h]
    simp
  · have : (bytesOf i m == bytesOf j n) = false := by simpa using h
    rw [this]
    simp only [Bool.and_eq_false_iff]
    by_cases hij : i = j
    · subst hij
      right
      apply Bool.eq_false_iff.2
      intro he
      apply h
      have he := Nat.eq_of_beq_eq_true he
      rw [← bytesOf_mod i m, ← bytesOf_mod i n]
      show bytesOf i (m % 256 ^ i) = _
      rw [show m % 256 ^ i = n % 256 ^ i from he]
    · left
      exact Bool.eq_false_iff.2 fun he => hij (Nat.eq_of_beq_eq_true he)
theorem byte_lt (a b : Nat) : (UInt8.ofNat (a % 256) < UInt8.ofNat (b % 256)) ↔ a % 256 < b % 256 := by
  rw [UInt8.lt_iff_toNat_lt]
  simp
theorem sLt_eq : ∀ (i m j n : Nat), sLt i m j n = Op.bytesLess (bytesOf i m) (bytesOf j n)
  | 0, m, 0, n => by simp only [bytesOf, Op.bytesLess]; rfl
  | 0, m, j + 1, n => by simp only [bytesOf, Op.bytesLess]; rfl
  | i + 1, m, 0, n => by simp only [bytesOf, Op.bytesLess]; rfl
  | i + 1, m, j + 1, n => by
    show iff (Nat.beq (m % 256) (n % 256)) (sLt i (m / 256) j (n / 256)) (Nat.blt (m % 256) (n % 256)) = _
    rw [sLt_eq i, iff_eq]
    simp only [bytesOf, Op.bytesLess]
    by_cases h : m % 256 = n % 256
    · simp [h]
    · have h1 : Nat.beq (m % 256) (n % 256) = false := Bool.eq_false_iff.2 fun he => h (Nat.eq_of_beq_eq_true he)
      have h2 : (UInt8.ofNat (m % 256) == UInt8.ofNat (n % 256)) = false := by
        simp only [beq_eq_false_iff_ne, ne_eq]
        intro he
        have := congrArg UInt8.toNat he
        simp at this
        exact h this
      rw [h1, h2]
      simp only [Bool.false_eq_true, if_false, Bool.false_and, Bool.or_false]
      by_cases hl : m % 256 < n % 256
      · rw [decide_eq_true ((byte_lt m n).2 hl)]; simpa [Nat.blt_eq] using hl
      · rw [decide_eq_false (fun hh => hl ((byte_lt m n).1 hh))]; exact Bool.eq_false_iff.2 fun he => hl (by simpa [Nat.blt_eq] using he)

/-! ### Binary operations -/
def BinOK (P : Program) (op : BinOp) (t : TypeId) (x y r : RV) : Prop := ∀ δ a b, dec δ x = some a → dec δ y = some b → ∃ c, dec δ r = some c ∧ ∀ w, (binOp op t a b).run P w = .ok c w
theorem dec_int {δ : Pl} {k : IntKind} {n : Int} {a : Value} (h : dec δ (.int k n) = some a) : a = .int k n := by simpa [dec] using h.symm
theorem dec_str {δ : Pl} {m i : Nat} {a : Value} (hw : strW m i) (h : dec δ (.str m i) = some a) : a = .string (strOf m i) := by
  rw [str_dec hw] at h
  exact (Option.some.inj h).symm
theorem strW_add {m i n j : Nat} (h : strW n j) : strW (m % 256 ^ i + n * 256 ^ i) (i + j) := fun e => by
  have hi : i = 0 := by omega
  have hj : j = 0 := by omega
  subst hi hj
  rw [h rfl]
  simp [Nat.mod_one]
theorem dec_bool {δ : Pl} {b : Bool} {a : Value} (h : dec δ (.bool b) = some a) : a = .bool b := by simpa [dec] using h.symm
theorem strOf_append (m i n j : Nat) : strOf (m % 256 ^ i + n * 256 ^ i) (i + j) = strOf m i ++ strOf n j := by
  apply ByteArray.ext
  show (bytesOf (i + j) _).toArray = _
  rw [bytesOf_append]
  simp [strOf, ByteArray.data_append]
variable {P : Program}
theorem bAdd_ok {t : TypeId} {x y : RV} {κ : RV → Bool} (h : bAdd x y κ = true) : ∃ r, κ r = true ∧ BinOK P .add t x y r := by
  replace h := iff_inv h
  rcases h with ⟨_, h⟩ | ⟨_, h⟩
  · replace h := ints_inv h
    obtain ⟨k, a, b, rfl, rfl, h⟩ := h
    refine ⟨_, wrapK_inv h, fun δ u v hu hv => ?_⟩
    cases dec_int hu; cases dec_int hv
    exact ⟨.int k (k.wrap (a + b)), by simp [dec], fun w => by rw [binOp_add]; simp [Op.intArith]⟩
  · replace h := strs_inv h
    obtain ⟨m, i, n, j, rfl, rfl, hw, hw', h⟩ := h
    simp only [natF_eq] at h
    obtain ⟨h1, h2⟩ := iff_t h
    refine ⟨_, h2, fun δ u v hu hv => ?_⟩
    cases dec_str hw hu; cases dec_str hw' hv
    refine ⟨.string (strOf m i ++ strOf n j), by rw [← strOf_append]; exact str_dec (strW_add hw'), fun w => ?_⟩
    rw [binOp_string_add]
    have hl : i + j < 1000000 := by simpa [Nat.blt_eq] using h1
    have : ¬ (((strOf m i).size + (strOf n j).size : Nat) : Int) > IntKind.i64.max := by
      rw [strOf_size, strOf_size]; simp [IntKind.max, IntKind.bits, IntKind.signed]; omega
    simp only [Op.stringOp, if_neg this, Sem.run_pure]
theorem arith_ok {op : BinOp} {f : Int → Int → Int} {t : TypeId} {x y : RV} {κ : RV → Bool} (h : ints (fun k a b κ => wrapK k (f a b) κ) x y κ = true)
    (hop : ∀ k a b w, (binOp op t (.int k a) (.int k b)).run P w = .ok (.int k (k.wrap (f a b))) w) : ∃ r, κ r = true ∧ BinOK P op t x y r := by
  replace h := ints_inv h
  obtain ⟨k, a, b, rfl, rfl, h⟩ := h
  refine ⟨_, wrapK_inv h, fun δ u v hu hv => ?_⟩
  cases dec_int hu; cases dec_int hv
  exact ⟨_, by simp [dec], hop k a b⟩
theorem bDiv_ok {op : BinOp} {f : Int → Int → Int} {t : TypeId} {x y : RV} {κ : RV → Bool} (h : bDiv f x y κ = true)
    (hop : ∀ k a b w, b ≠ 0 → (binOp op t (.int k a) (.int k b)).run P w = .ok (.int k (k.wrap (f a b))) w) : ∃ r, κ r = true ∧ BinOK P op t x y r := by
  replace h := ints_inv h
  obtain ⟨k, a, b, rfl, rfl, h⟩ := h
  obtain ⟨h1, h2⟩ := iff_f h
  refine ⟨_, wrapK_inv h2, fun δ u v hu hv => ?_⟩
  cases dec_int hu; cases dec_int hv
  rw [iEq_eq] at h1
  exact ⟨_, by simp [dec], fun w => hop k a b w (by simpa using h1)⟩
theorem bBit_ok {op : BinOp} {f : (n : Nat) → BitVec n → BitVec n → BitVec n} {t : TypeId} {x y : RV} {κ : RV → Bool} (h : bBit f x y κ = true)
    (hop : ∀ k a b w, (binOp op t (.int k a) (.int k b)).run P w = .ok (.int k (k.wrap (f k.bits (BitVec.ofInt k.bits a) (BitVec.ofInt k.bits b)).toNat)) w) : ∃ r, κ r = true ∧ BinOK P op t x y r := by
  replace h := ints_inv h
  obtain ⟨k, a, b, rfl, rfl, h⟩ := h
  refine ⟨_, wrapK_inv h, fun δ u v hu hv => ?_⟩
  cases dec_int hu; cases dec_int hv
  exact ⟨_, by simp [dec], hop k a b⟩
theorem bCmp_ok {op : BinOp} {f : Int → Int → Bool} {g : Nat → Nat → Nat → Nat → Bool} {t : TypeId} {x y : RV} {κ : RV → Bool} (h : bCmp f g x y κ = true)
    (hi : ∀ k a b w, (binOp op t (.int k a) (.int k b)).run P w = .ok (.bool (f a b)) w)
    (hs : ∀ m i n j w, (binOp op t (.string (strOf m i)) (.string (strOf n j))).run P w = .ok (.bool (g m i n j)) w) : ∃ r, κ r = true ∧ BinOK P op t x y r := by
  replace h := iff_inv h
  rcases h with ⟨_, h⟩ | ⟨_, h⟩
  · replace h := ints_inv h
    obtain ⟨k, a, b, rfl, rfl, h⟩ := h
    rw [boolK_eq] at h
    refine ⟨_, h, fun δ u v hu hv => ?_⟩
    cases dec_int hu; cases dec_int hv
    exact ⟨_, by simp [dec], hi k a b⟩
  · replace h := strs_inv h
    obtain ⟨m, i, n, j, rfl, rfl, hw, hw', h⟩ := h
    rw [boolK_eq] at h
    refine ⟨_, h, fun δ u v hu hv => ?_⟩
    cases dec_str hw hu; cases dec_str hw' hv
    exact ⟨_, by simp [dec], hs m i n j⟩
theorem bShl_ok {t : TypeId} {x y : RV} {κ : RV → Bool} (h : bShl x y κ = true) : ∃ r, κ r = true ∧ BinOK P .shl t x y r := by
  replace h := rvInt_inv h
  obtain ⟨k, a, rfl, h⟩ := h
  replace h := rvInt_inv h
  obtain ⟨l, b, rfl, h⟩ := h
  replace h := iNat_inv h
  obtain ⟨n, rfl, h⟩ := h
  refine ⟨_, wrapK_inv h, fun δ u v hu hv => ?_⟩
  cases dec_int hu; cases dec_int hv
  have hn : ¬ ((n : Int) < 0) := by omega
  exact ⟨.int k (k.wrap (a * 2 ^ (min n k.bits))), by simp [dec], fun w => by rw [binOp_shl]; simp [Op.shift, hn]⟩
theorem bShr_ok {t : TypeId} {x y : RV} {κ : RV → Bool} (h : bShr x y κ = true) : ∃ r, κ r = true ∧ BinOK P .shr t x y r := by
  replace h := rvInt_inv h
  obtain ⟨k, a, rfl, h⟩ := h
  replace h := rvInt_inv h
  obtain ⟨l, b, rfl, h⟩ := h
  replace h := iNat_inv h
  obtain ⟨n, rfl, h⟩ := h
  rw [intF_eq] at h
  refine ⟨_, h, fun δ u v hu hv => ?_⟩
  cases dec_int hu; cases dec_int hv
  have hn : ¬ ((n : Int) < 0) := by omega
  exact ⟨.int k (a.fdiv (2 ^ (min n k.bits))), by simp [dec], fun w => by rw [binOp_shr]; simp [Op.shift, hn]⟩
theorem le_not (a b : Int) : decide (a ≤ b) = !decide (b < a) := by rw [Bool.eq_iff_iff]; simp [Int.not_lt]
theorem binR_ok {op : BinOp} {t : TypeId} {x y : RV} {κ : RV → Bool} (h : binR op x y κ = true) : ∃ r, κ r = true ∧ BinOK P op t x y r := by
  cases op with
  | add => exact bAdd_ok h
  | sub => exact arith_ok (f := fun a b => a - b) h fun k a b w => by rw [binOp_sub]; simp [Op.intArith]
  | mul => exact arith_ok (f := fun a b => a * b) h fun k a b w => by rw [binOp_mul]; simp [Op.intArith]
  | quo => exact bDiv_ok (f := Int.tdiv) h fun k a b w hb => by rw [binOp_quo]; simp [Op.intDiv, hb]
  | rem =>
    replace h := ints_inv (f := fun k a b κ => iff (iEq b 0) false (intF (a.tmod b) fun r => κ (.int k r))) h
    obtain ⟨k, a, b, rfl, rfl, h⟩ := h
    obtain ⟨h1, h2⟩ := iff_f h
    rw [intF_eq] at h2
    refine ⟨_, h2, fun δ u v hu hv => ?_⟩
    cases dec_int hu; cases dec_int hv
    rw [iEq_eq] at h1
    have h1 : b ≠ 0 := by simpa using h1
    exact ⟨.int k (a.tmod b), by simp [dec], fun w => by rw [binOp_rem]; simp [Op.intDiv, h1]⟩
  | and => exact bBit_ok (f := fun _ a b => a &&& b) h fun k a b w => by rw [binOp_and]; simp only [Op.intBits, Sem.run_pure]
  | or => exact bBit_ok (f := fun _ a b => a ||| b) h fun k a b w => by rw [binOp_or]; simp only [Op.intBits, Sem.run_pure]
  | xor => exact bBit_ok (f := fun _ a b => a ^^^ b) h fun k a b w => by rw [binOp_xor]; simp only [Op.intBits, Sem.run_pure]
  | shl => exact bShl_ok h
  | shr => exact bShr_ok h
  | andNot => exact bBit_ok (f := fun _ a b => a &&& ~~~b) h fun k a b w => by rw [binOp_andNot]; simp only [Op.intBits, Sem.run_pure]
  | eql => exact absurd h (by simp [binR, noBin])
  | neq => exact absurd h (by simp [binR, noBin])
  | lss => exact bCmp_ok h (fun k a b w => by rw [binOp_lss, iLt_eq]; rfl) (fun m i n j w => by rw [binOp_string_lss, sLt_eq, strOf_toList, strOf_toList]; rfl)
  | leq => exact bCmp_ok h (fun k a b w => by rw [binOp_leq, bNot_eq, iLt_eq, le_not a b]; rfl) (fun m i n j w => by rw [binOp_string_leq, bOr_eq, sLt_eq, sEq_eq, strOf_toList, strOf_toList]; rfl)
  | gtr => exact bCmp_ok h (fun k a b w => by rw [binOp_gtr, iLt_eq]; rfl) (fun m i n j w => by rw [binOp_string_gtr, bNot_eq, bOr_eq, sLt_eq, sEq_eq, strOf_toList, strOf_toList]; rfl)
  | geq => exact bCmp_ok h (fun k a b w => by rw [binOp_geq, bNot_eq, iLt_eq, ← le_not b a]; rfl) (fun m i n j w => by rw [binOp_string_geq, bNot_eq, sLt_eq, strOf_toList, strOf_toList]; rfl)
end Go.L.Ev
namespace Go.L.Ev
open Go Go.RowKit
variable [Ext]
set_option linter.unusedSimpArgs false
set_option linter.unusedVariables false

/-! ### Cells -/
theorem dec_cells {δ : Pl} : ∀ {v : RV} {x : Value}, dec δ v = some x → decL δ (cellsR v) = some x.cells.toList := by
  intro v x h
  have one : ∀ y : Value, (∀ cs, y ≠ .agg cs) → y.cells.toList = [y] := by
    intro y hy
    cases y <;> first | rfl | exact absurd rfl (hy _)
  have go : (∀ cs, x ≠ .agg cs) → cellsR v = [v] → decL δ (cellsR v) = some x.cells.toList := by
    intro h1 h2
    rw [h2, one x h1]; exact decL_cons h decL_nil
  cases v with
  | agg l =>
    simp only [dec] at h
    cases hl : decL δ l with
    | none => simp [hl] at h
    | some y =>
      rw [hl] at h; cases h
      show decL δ l = some _
      rw [hl]; simp [Value.cells]
  | fn f a b =>
    refine go ?_ rfl
    simp only [dec] at h
    split at h <;> simp at h
    subst h; simp
  | ifc t u =>
    refine go ?_ rfl
    simp only [dec] at h
    split at h <;> simp at h
    subst h; simp
  | tup l =>
    refine go ?_ rfl
    simp only [dec] at h
    split at h <;> simp at h
    subst h; simp
  | str m i => refine go ?_ rfl; obtain ⟨_, rfl⟩ := dec_str_any h; simp
  | ptr i o => refine go ?_ rfl; simp only [dec, Option.map_eq_some_iff] at h; obtain ⟨p, _, rfl⟩ := h; simp
  | slc i o a b => refine go ?_ rfl; obtain ⟨_, _, _, _, rfl⟩ := dec_slc h; simp
  | asl i o a b => refine go ?_ rfl; simp only [dec, Option.map_eq_some_iff] at h; obtain ⟨p, _, rfl⟩ := h; simp
  | map i => refine go ?_ rfl; simp only [dec, Option.map_eq_some_iff] at h; obtain ⟨p, _, rfl⟩ := h; simp
  | yld i => refine go ?_ rfl; simp only [dec, Option.map_eq_some_iff] at h; obtain ⟨p, _, rfl⟩ := h; simp
  | emp i o a b c => refine go ?_ rfl; simp only [dec, Option.map_eq_some_iff] at h; obtain ⟨p, _, rfl⟩ := h; split <;> simp
  | _ => refine go ?_ rfl; simp only [dec, Option.some.injEq] at h; subst h; simp [undef]
theorem dec_one {δ : Pl} {v : RV} {x : Value} (h : dec δ v = some x) (ho : isOne v = true) : x.oneCell' = true := by
  cases v with
  | agg l => simp [isOne] at ho
  | tup l => simp [isOne] at ho
  | skp => simp [isOne] at ho
  | fn f a b => simp only [dec] at h; split at h <;> simp at h; subst h; rfl
  | ifc t u => simp only [dec] at h; split at h <;> simp at h; subst h; rfl
  | str m i => obtain ⟨_, rfl⟩ := dec_str_any h; rfl
  | ptr i o => simp only [dec, Option.map_eq_some_iff] at h; obtain ⟨p, _, rfl⟩ := h; rfl
  | slc i o a b => obtain ⟨_, _, _, _, rfl⟩ := dec_slc h; rfl
  | asl i o a b => simp only [dec, Option.map_eq_some_iff] at h; obtain ⟨p, _, rfl⟩ := h; rfl
  | map i => simp only [dec, Option.map_eq_some_iff] at h; obtain ⟨p, _, rfl⟩ := h; rfl
  | yld i => simp only [dec, Option.map_eq_some_iff] at h; obtain ⟨p, _, rfl⟩ := h; rfl
  | emp i o a b c => simp only [dec, Option.map_eq_some_iff] at h; obtain ⟨p, _, rfl⟩ := h; split <;> rfl
  | _ => simp only [dec, Option.some.injEq] at h; subst h; rfl
theorem decL_one {δ : Pl} : ∀ {l : List RV} {y : List Value}, decL δ l = some y → allOne l = true → ∀ u ∈ y, u.oneCell' = true
  | [], y, h, _ => by rw [decL_nil] at h; cases h; simp
  | v :: l, z, h, ho => by
    replace h := decL_cons_inv h
    obtain ⟨x, y, hv, hl, rfl⟩ := h
    obtain ⟨h1, h2⟩ := iff_t (b := isOne v) (x := allOne l) ho
    intro u hu
    rcases List.mem_cons.1 hu with rfl | hu
    · exact dec_one hv h1
    · exact decL_one hl h2 u hu

/-- The cells of a thing, if it is a block of cells. -/
def Ob.cs : Ob → Option (List RV)
  | .bx _ cs => some cs
  | .row _ _ _ cs => some cs
  | _ => none
theorem obK_cs {h : Hp} {i : Nat} {κ : List RV → Bool} (hk : obK h i κ = true) : ∃ cs, (h.at i).cs = some cs ∧ κ cs = true := by
  rcases obK_inv hk with ⟨t, cs, h1, h2⟩ | ⟨e, sz, n, cs, h1, h2⟩
  · exact ⟨cs, by rw [h1]; rfl, h2⟩
  · exact ⟨cs, by rw [h1]; rfl, h2⟩
theorem Ob.cs_ne {o : Ob} {cs : List RV} (h : o.cs = some cs) : o ≠ .no := by rintro rfl; simp [Ob.cs] at h
theorem ObR.cells {F : Frm} {δ : Pl} {b c : Nat} {W : World} {o : Ob} (h : ObR F δ b c W o) {cs : List RV} (hc : o.cs = some cs) : ∃ vs, decL δ cs = some vs ∧ W.rangeAt b 0 vs := by
  cases o with
  | bx t l =>
    cases hc
    obtain ⟨_, vs, rest, fr, h1, h2, _⟩ := h
    refine ⟨vs, h1, fun j v hj => ?_⟩
    rw [cell_of_row W b (0 + j) _ t fr h2, Nat.zero_add]
    have hlt := (List.getElem?_eq_some_iff.1 hj).1
    simp only [List.getElem?_toArray]
    rw [List.getElem?_append_left hlt]; exact hj
  | row e sz n l =>
    cases hc
    obtain ⟨_, vs, h1, h2⟩ := h
    refine ⟨vs, h1, fun j v hj => ?_⟩
    have := h2.cells (g := b) rfl j v hj
    rwa [Addr.add_mid] at this
  | _ => simp [Ob.cs] at hc
theorem RelA.cells {F : Frm} {δ : Pl} {h : Hp} {W : World} (H : RelA F δ h W) {i : Nat} {cs : List RV} (hc : (h.at i).cs = some cs) {b c : Nat} (hb : δ i = some (b, c)) : ∃ vs, decL δ cs = some vs ∧ W.rangeAt b 0 vs := by
  obtain ⟨b', c', hb', ho⟩ := H.own i (Ob.cs_ne hc)
  rw [hb] at hb'; cases hb'
  exact ho.cells hc
theorem rangeAt_drop {W : World} {b o n : Nat} {vs : List Value} (h : W.rangeAt b o vs) : W.rangeAt b (o + n) (vs.drop n) := fun j v hj => by
  rw [Nat.add_assoc]; exact h (n + j) v (by simpa using hj)
theorem rangeAt_take {W : World} {b o n : Nat} {vs : List Value} (h : W.rangeAt b o vs) : W.rangeAt b o (vs.take n) := fun j v hj => h j v (by
  rw [List.getElem?_take] at hj; split at hj
  · exact hj
  · cases hj)

section
variable {P : Program} {ty : TyT} {fu : FuT}
theorem sizeOf_run {t : TypeId} {i : TypeInfo} (hi : P.info? t = some i) (w : World) : (sizeOf t).run P w = .ok i.size w := by simp [sizeOf, typeInfo, hi]
theorem typeInfo_run {t : TypeId} {i : TypeInfo} (hi : P.info? t = some i) (w : World) : (typeInfo t).run P w = .ok i w := by simp [typeInfo, hi]
theorem zeroValue_run {t : TypeId} {i : TypeInfo} {z : Value} (hi : P.info? t = some i) (hz : i.zero = some z) (w : World) : (zeroValue t).run P w = .ok z w := by simp [zeroValue, typeInfo, hi, hz]
theorem aggD_row {d : TypeDesc} (h : aggD d = true) : d.isRow = true := by cases d <;> first | rfl | exact absurd h (by simp [aggD])
theorem isAgg_f {t : TypeId} {d : TypeDesc} (hu : P.underlying t = some d) (h : aggD d = false) (w : World) : (isAgg t).run P w = .ok false w := by
  cases d <;> first | (simp [isAgg, run_underlying hu]; done) | exact absurd h (by simp [aggD])
theorem isAgg_t {t : TypeId} {d : TypeDesc} (hu : P.underlying t = some d) (h : aggD d = true) (w : World) : (isAgg t).run P w = .ok true w := by
  cases d <;> first | (simp [isAgg, run_underlying hu]; done) | exact absurd h (by simp [aggD])

theorem ldAt_ok (p : Pg P ty fu) {t : TypeId} {h : Hp} {i off : Nat} {κ : RV → Bool} (hk : ldAt ty t h i off κ = true) : ∃ r, κ r = true ∧ ∀ F δ W b c, RelA F δ h W → δ i = some (b, c) →
    ∃ x, dec δ r = some x ∧ ∀ cx k, cx.P = P → k x W → kLoad cx W t (.pointer (some ⟨b, off, none⟩)) k := by
  obtain ⟨cs, hcs, hk⟩ := obK_cs hk
  obtain ⟨d, hu, hk⟩ := undK_inv p hk
  replace hk := iff_inv hk
  rcases hk with ⟨hd, hk⟩ | ⟨hd, hk⟩
  · obtain ⟨ti, hti, hk⟩ := sizeK_inv p hk
    obtain ⟨h1, hk⟩ := dropK_inv hk
    obtain ⟨h2, hk⟩ := takeK_inv hk
    refine ⟨_, hk, fun F δ W b c H hb => ?_⟩
    obtain ⟨vs, hvs, hr⟩ := H.cells hcs hb
    have hl := decL_take ti.size (decL_drop off hvs)
    refine ⟨.agg ((vs.drop off).take ti.size).toArray, by simp [dec, hl], fun cx k hP hkx => ?_⟩
    subst hP
    have hlen := decL_len hvs
    refine kLoad_agg (i := ti) (by simpa using rangeAt_take (rangeAt_drop (n := off) hr)) hu (aggD_row hd) (typeInfo_run hti) ?_ hkx
    simp at h2 ⊢; omega
  · obtain ⟨v, hv, hk⟩ := nthK_inv hk
    refine ⟨v, hk, fun F δ W b c H hb => ?_⟩
    obtain ⟨vs, hvs, hr⟩ := H.cells hcs hb
    obtain ⟨x, hx, hdx⟩ := decL_get hvs hv
    refine ⟨x, hdx, fun cx k hP hkx => ?_⟩
    subst hP
    exact kLoad_cell (isAgg_f hu hd) (by simpa using hr off x hx) hkx
end
end Go.L.Ev
namespace Go.L.Ev
open Go Go.RowKit
variable [Ext]
set_option linter.unusedSimpArgs false
set_option linter.unusedVariables false

/-- What an operation's operands hold. -/
def EnvO (δ : Pl) (e : VE) (E : Env) (xs : Array Operand) : Prop := ∀ t, .tmp t ∈ xs → dec δ (e.at t) = some (E t)
theorem EnvR.on {δ : Pl} {e : VE} {E : Env} (h : EnvR δ e E) (xs : Array Operand) : EnvO δ e E xs := fun t _ => h t
theorem opd_o {x : Operand} {e : VE} {κ : RV → Bool} (h : opd x e κ = true) : ∃ r, κ r = true ∧ ∀ δ E xs, EnvO δ e E xs → x ∈ xs → dec δ r = some (ev E x) := by
  cases x with
  | tmp t =>
    have h : e.getK (.tup []) t κ = true := h
    rw [getK_eq] at h
    exact ⟨_, h, fun δ E xs hE hx => hE t hx⟩
  | const v =>
    obtain ⟨r, h1, hr⟩ := ofV_inv v h
    exact ⟨r, h1, fun δ E _ _ _ => hr δ⟩
  | global g =>
    obtain ⟨hg, h⟩ := iff_t h
    have hg : g < 1000000 := Nat.le_of_ble_eq_true hg
    exact ⟨_, h, fun δ E _ _ _ => by simp [dec, ev, gnum, hg]⟩
  | func f => exact ⟨_, h, fun δ E _ _ _ => by simp [dec, decL, ev]⟩
theorem opds_o : ∀ {l : List Operand} {e : VE} {κ : List RV → Bool}, opds l e κ = true → ∃ r, κ r = true ∧ ∀ δ E xs, EnvO δ e E xs → (∀ x ∈ l, x ∈ xs) → decL δ r = some (l.map (ev E))
  | [], e, κ, h => ⟨[], h, fun δ E _ _ _ => decL_nil⟩
  | x :: l, e, κ, h => by
    obtain ⟨r, h1, hr⟩ := opd_o (κ := fun v => opds l e fun r => κ (v :: r)) h
    obtain ⟨s, h2, hs⟩ := opds_o h1
    exact ⟨_, h2, fun δ E xs hE hx => decL_cons (hr δ E xs hE (hx x (List.mem_cons_self ..))) (hs δ E xs hE fun y hy => hx y (List.mem_cons_of_mem _ hy))⟩

section
variable {P : Program} {ty : TyT} {fu : FuT}

/-- What may be asked behind an operation that yields 'x' and leaves the world at 'W'. -/
def Yields (P : Program) (o : Oper) (E : Env) (w : World) (x : Value) (W : World) (q : Bool) : Prop :=
  ∀ rd X kn kb kdd, KnOk kn E → (∀ b, (∀ c, b = some c → x = .bool c) → kb b x W) → vcOpV P rd q X o kn E w kb kdd

/-- A quiet operation's answer. -/
def QAns (P : Program) (o : Oper) (e : VE) (h : Hp) (r : RV) : Prop :=
  ∀ F δ W E, RelA F δ h W → EnvO δ e E o.op.operands → ∃ x, dec δ r = some x ∧ ∀ q, Yields P o E W x W q
/-- One that makes something. -/
def AAns (P : Program) (o : Oper) (e : VE) (ob : Ob) (mk : Nat → RV) : Prop :=
  ∀ δ W E, EnvO δ e E o.op.operands → ∃ c x W', W.grownBy W' none ∧ W.heap.size < W'.heap.size ∧ (∀ (F : Frm) δ', F.free W.heap.size → Pl.le δ δ' → ObR F δ' W.heap.size c W' ob) ∧
    (∀ i δ', δ' i = some (W.heap.size, c) → dec δ' (mk i) = some x) ∧ Yields P o E W x W' false
/-- One that changes a thing. -/
def SAns (P : Program) (o : Oper) (e : VE) (i : Nat) (ob ob' : Ob) : Prop :=
  ∀ (F : Frm) δ W E b c, EnvO δ e E o.op.operands → δ i = some (b, c) → ObR F δ b c W ob → ∃ W', W.grownBy W' (some b) ∧ ObR F δ b c W' ob' ∧ Yields P o E W undef W' false
/-- Any other one. -/
def EAns (P : Program) (o : Oper) (e : VE) (h : Hp) (r : RV) (h' : Hp) : Prop :=
  Grow h h' ∧ ∀ F δ W E, Rel F δ h W → EnvO δ e E o.op.operands → ∀ rd X kn kb kdd, KnOk kn E → (∀ δ' x W' b, Ex h δ δ' → dec δ' r = some x → Rel F δ' h' W' → (∀ c, b = some c → x = .bool c) → kb b x W') → vcOpV P rd false X o kn E W kb kdd
theorem QAns.eff {o : Oper} {e : VE} {h : Hp} {r : RV} (H : QAns P o e h r) : EAns P o e h r h := ⟨Grow.refl h, fun F δ W E hR hE rd X kn kb kdd hk hkb => by
  obtain ⟨x, hx, hy⟩ := H F δ W E hR.toRelA hE
  exact hy false rd X kn kb kdd hk fun b hb => hkb δ x W b (Ex.refl _ _) hx hR hb⟩
theorem AAns.eff {o : Oper} {e : VE} {h h' : Hp} {ob : Ob} {mk : Nat → RV} (H : AAns P o e ob mk) (hn : h'.next = h.next + 1) (hat : h'.at h.next = ob) (hold : ∀ j, j ≠ h.next → h'.at j = h.at j) : EAns P o e h (mk h.next) h' :=
  ⟨Grow.push hn hold, fun F δ W E hR hE rd X kn kb kdd hk hkb => by
    obtain ⟨c, x, W', hg, hs, hob, hx, hy⟩ := H δ W E hE
    have hf := (hR.fresh h.next (Nat.le_refl _)).1
    refine hy rd X kn kb kdd hk fun b hb => hkb (δ.put h.next W.heap.size c) x W' b (Ex.put hf) (hx _ _ Pl.put_self) ?_ hb
    exact hR.push hg (Nat.le_refl _) hn hat hold (hob F _ (hR.ok.new (Nat.le_refl _)) (Pl.le_put hf))⟩
theorem SAns.eff {o : Oper} {e : VE} {h h' : Hp} {i : Nat} {ob ob' : Ob} (H : SAns P o e i ob ob') (hi : h.at i = ob) (ho : ob ≠ .no) (hn : h'.next = h.next) (hat : h'.at i = ob') (hold : ∀ j, j ≠ i → h'.at j = h.at j) : EAns P o e h undefR h' :=
  ⟨Grow.set (by rw [hi]; exact ho) hn hold, fun F δ W E hR hE rd X kn kb kdd hk hkb => by
    obtain ⟨b, c, hb, hO⟩ := hR.get hi ho
    obtain ⟨W', hg, hO', hy⟩ := H F δ W E b c hE hb hO
    refine hy rd X kn kb kdd hk fun u hu => hkb δ undef W' u (Ex.refl _ _) (by simp [dec, decL, undef]) ?_ hu
    exact hR.put (by rw [hi]; exact ho) hb hg hn hat hold hO'⟩

/-- A yield without a known Bool. -/
theorem Yields.of {o : Oper} {E : Env} {w W : World} {x : Value} {q : Bool} (h : ∀ rd X kn kb kdd, kb none x W → vcOpV P rd q X o kn E w kb kdd) : Yields P o E w x W q :=
  fun rd X kn kb kdd _ hkb => h rd X kn kb kdd (hkb none (by simp))

theorem oMove_ok {o : Oper} {x : Operand} (ho : o.op = .move x ∨ o.op = .assign x) {call e h k kd kp} (hk : oMove x ty call e h k kd kp = true) : ∃ r, k r h = true ∧ QAns P o e h r := by
  obtain ⟨r, hk, hr⟩ := opd_o hk
  have hmem : x ∈ o.op.operands := by rcases ho with ho | ho <;> simp [ho, Op.operands]
  refine ⟨r, hk, fun F δ W E _ hE => ⟨_, hr δ E _ hE hmem, fun q rd X kn kb kdd hkn hkb => ?_⟩⟩
  have := hkb (knOf kn x) fun c hc => knOf_ok hkn hc
  rcases ho with ho | ho <;> (unfold vcOpV; rw [ho]; exact this)
theorem oPick_ok {o : Oper} {c a b : Operand} (ho : o.op = .pick c a b) {call e h k kd kp} (hk : oPick c a b ty call e h k kd kp = true) : ∃ r, k r h = true ∧ QAns P o e h r := by
  obtain ⟨v, hk, hv⟩ := opd_o hk
  replace hk := rvBool_inv hk
  obtain ⟨t, rfl, hk⟩ := hk
  have hm : c ∈ o.op.operands ∧ a ∈ o.op.operands ∧ b ∈ o.op.operands := by simp [ho, Op.operands]
  have key : ∀ (y : Operand), y ∈ o.op.operands → (t = true → y = a) → (t = false → y = b) → (opd y e fun v => k v h) = true → ∃ r, k r h = true ∧ QAns P o e h r := by
    intro y hy h1 h2 hk
    obtain ⟨r, hk, hr⟩ := opd_o hk
    refine ⟨r, hk, fun F δ W E _ hE => ⟨_, hr δ E _ hE hy, fun q rd X kn kb kdd hkn hkb => ?_⟩⟩
    have hc : ev E c = .bool t := (dec_bool (hv δ E _ hE hm.1))
    have := hkb (knOf kn y) fun c hc => knOf_ok hkn hc
    unfold vcOpV
    rw [ho]
    simp only
    cases hkc : knOf kn c with
    | none =>
      simp only
      rw [hc]
      cases t with
      | true => exact kIf_t (by rw [← h1 rfl]; exact this)
      | false => exact kIf_f (by rw [← h2 rfl]; exact this)
    | some s =>
      have : s = t := by
        have := knOf_ok hkn hkc
        rw [hc] at this; cases this; rfl
      subst this
      cases s with
      | true => simp only; rw [← h1 rfl]; assumption
      | false => simp only; rw [← h2 rfl]; assumption
  replace hk := iff_inv hk
  rcases hk with ⟨rfl, hk⟩ | ⟨rfl, hk⟩
  · exact key a hm.2.1 (fun _ => rfl) (by simp) hk
  · exact key b hm.2.2 (by simp) (fun _ => rfl) hk
end
end Go.L.Ev
namespace Go.L.Ev
open Go Go.RowKit
variable [Ext]
set_option linter.unusedSimpArgs false
set_option linter.unusedVariables false
section
variable {P : Program} {ty : TyT} {fu : FuT}

theorem obR_bx {F : Frm} {δ : Pl} {W : World} {b c : Nat} {t : TypeId} {cs : List RV} {vs : List Value} (hf : F.free b) (h : decL δ cs = some vs) (hh : W.heap[b]? = some (.cells vs.toArray t (0, 0))) : ObR F δ b c W (.bx t cs) :=
  ⟨hf, vs, [], (0, 0), h, by simpa using hh, fun i _ hi => by simp at hi⟩
theorem oAlloc_ok (p : Pg P ty fu) {o : Oper} {t : TypeId} (ho : o.op = .alloc t) {call e h k kd kp} (hk : oAlloc t ty call e h k kd kp = true) :
    ∃ ob h', k (.ptr h.next 0) h' = true ∧ h'.next = h.next + 1 ∧ h'.at h.next = ob ∧ (∀ j, j ≠ h.next → h'.at j = h.at j) ∧ AAns P o e ob (fun N => .ptr N 0) := by
  obtain ⟨i, z, r, hi, hz, hk, hr⟩ := zeroK_inv p hk
  obtain ⟨h', hk, h1, h2, h3⟩ := push_inv hk
  refine ⟨_, h', hk, h1, h2, h3, fun δ W E hE => ⟨0, .pointer (some ⟨W.heap.size, 0, none⟩), W.alloc (.cells z.cells t), World.grownBy_alloc W _ _, by simp, fun F δ' hf _ => ?_, fun N δ' hN => by simp [dec, hN], Yields.of fun rd X kn kb kdd hkb => ?_⟩⟩
  · exact obR_bx hf (dec_cells (hr δ')) (by simpa using World.alloc_heap_new W (.cells z.cells t))
  · unfold vcOpV
    rw [ho]
    exact ⟨kVal_do (w' := W.alloc (.cells z.cells t)) (by simp [Instr.alloc, zeroValue_run hi hz, newVar, newRow]) hkb⟩
theorem oBox_ok {o : Oper} {t : TypeId} {x : Operand} (ho : o.op = .box t x) {call e h k kd kp} (hk : oBox t x ty call e h k kd kp = true) :
    ∃ ob h', k (.ptr h.next 0) h' = true ∧ h'.next = h.next + 1 ∧ h'.at h.next = ob ∧ (∀ j, j ≠ h.next → h'.at j = h.at j) ∧ AAns P o e ob (fun N => .ptr N 0) := by
  obtain ⟨r, hk, hr⟩ := opd_o hk
  obtain ⟨h', hk, h1, h2, h3⟩ := push_inv hk
  have hm : x ∈ o.op.operands := by simp [ho, Op.operands]
  refine ⟨_, h', hk, h1, h2, h3, fun δ W E hE => ⟨0, .pointer (some ⟨W.heap.size, 0, none⟩), W.alloc (.cells (ev E x).cells t), World.grownBy_alloc W _ _, by simp, fun F δ' hf hle => ?_, fun N δ' hN => by simp [dec, hN], Yields.of fun rd X kn kb kdd hkb => ?_⟩⟩
  · exact obR_bx hf (dec_cells (dec_mono hle _ _ (hr δ E _ hE hm))) (by simpa using World.alloc_heap_new W (.cells (ev E x).cells t))
  · unfold vcOpV
    rw [ho]
    exact ⟨kVal_do (w' := W.alloc (.cells (ev E x).cells t)) (by simp [Instr.box, newVar, newRow]) hkb⟩
theorem oLoad_ok (p : Pg P ty fu) {o : Oper} {t : TypeId} {a : Operand} (ho : o.op = .load t a) {call e h k kd kp} (hk : oLoad t a ty call e h k kd kp = true) : ∃ r, k r h = true ∧ QAns P o e h r := by
  obtain ⟨v, hk, hv⟩ := opd_o hk
  replace hk := rvPtr_inv hk
  obtain ⟨i, off, rfl, hk⟩ := hk
  obtain ⟨r, hk, hr⟩ := ldAt_ok p hk
  have hm : a ∈ o.op.operands := by simp [ho, Op.operands]
  refine ⟨r, hk, fun F δ W E hR hE => ?_⟩
  have ha := hv δ E _ hE hm
  simp only [dec, Option.map_eq_some_iff] at ha
  obtain ⟨⟨b, c⟩, hb, ha⟩ := ha
  obtain ⟨x, hx, hK⟩ := hr F δ W b c hR hb
  refine ⟨x, hx, fun q => Yields.of fun rd X kn kb kdd hkb => ?_⟩
  unfold vcOpV
  rw [ho]
  show kLoad _ W t (ev E a) _
  rw [← ha]
  exact hK _ _ rfl hkb
theorem oNil_ok {o : Oper} {x : Operand} (ho : o.op = .nilCheck x) {call e h k kd kp} (hk : oNil x ty call e h k kd kp = true) : ∃ r, k r h = true ∧ QAns P o e h r := by
  obtain ⟨v, hk, hv⟩ := opd_o hk
  obtain ⟨ht, hk⟩ := iff_t hk
  have hm : x ∈ o.op.operands := by simp [ho, Op.operands]
  refine ⟨v, hk, fun F δ W E hR hE => ⟨_, hv δ E _ hE hm, fun q => Yields.of fun rd X kn kb kdd hkb => ?_⟩⟩
  have hd := hv δ E _ hE hm
  unfold vcOpV
  rw [ho]
  refine ⟨?_⟩
  cases v with
  | ptr i off =>
    simp only [dec, Option.map_eq_some_iff] at hd
    obtain ⟨⟨b, c⟩, hb, hd⟩ := hd
    rw [← hd] at hkb ⊢; exact hkb
  | glob g off =>
    simp only [dec, Option.some.injEq] at hd
    rw [← hd] at hkb ⊢; exact hkb
  | fn f a b =>
    cases f with
    | func f =>
      simp only [dec] at hd
      split at hd
      · simp only [Option.some.injEq] at hd
        rw [← hd] at hkb ⊢; exact hkb
      · cases hd
    | _ => exact absurd (show false = true from ht) (by decide)
  | _ => exact absurd (show false = true from ht) (by decide)
theorem unR_ok {op : UnOp} {v : RV} {κ : RV → Bool} (h : unR op v κ = true) : ∃ r, κ r = true ∧ ∀ δ a, dec δ v = some a → ∃ c, dec δ r = some c ∧ ∀ w, (Op.unary op a).run P w = .ok c w := by
  cases op with
  | neg =>
    replace h := rvInt_inv h
    obtain ⟨k, n, rfl, h⟩ := h
    refine ⟨_, wrapK_inv h, fun δ a ha => ?_⟩
    cases dec_int ha
    exact ⟨.int k (k.wrap (0 - n)), by simp only [dec], fun w => by simp only [Op.unary, Op.intArith, Sem.run_pure]⟩
  | xor => exact absurd h (by simp [unR])
  | not =>
    replace h := rvBool_inv h
    obtain ⟨b, rfl, h⟩ := h
    rw [boolK_eq] at h
    refine ⟨_, h, fun δ a ha => ?_⟩
    cases dec_bool ha
    exact ⟨.bool (bNot b), by simp only [dec], fun w => by simp only [Op.unary, bNot_eq, Sem.run_pure]⟩
  | plus => exact absurd h (by simp [unR])
theorem oUn_ok {o : Oper} {op : UnOp} {t : TypeId} {x : Operand} (ho : o.op = .unOp op t x) {call e h k kd kp} (hk : oUn op x ty call e h k kd kp = true) : ∃ r, k r h = true ∧ QAns P o e h r := by
  obtain ⟨v, hk, hv⟩ := opd_o hk
  obtain ⟨r, hk, hr⟩ := unR_ok (P := P) hk
  have hm : x ∈ o.op.operands := by simp [ho, Op.operands]
  refine ⟨r, hk, fun F δ W E hR hE => ?_⟩
  obtain ⟨c, hc, hrun⟩ := hr δ _ (hv δ E _ hE hm)
  refine ⟨c, hc, fun q => Yields.of fun rd X kn kb kdd hkb => ?_⟩
  unfold vcOpV
  rw [ho]
  exact ⟨kVal_pure hrun hkb⟩
theorem oExt_ok {o : Oper} {x : Operand} {i : Nat} (ho : o.op = .extract x i) {call e h k kd kp} (hk : oExt x i ty call e h k kd kp = true) : ∃ r, k r h = true ∧ QAns P o e h r := by
  obtain ⟨v, hk, hv⟩ := opd_o hk
  replace hk := rvTup_inv hk
  obtain ⟨l, rfl, hk⟩ := hk
  obtain ⟨r, hi, hk⟩ := nthK_inv hk
  have hm : x ∈ o.op.operands := by simp [ho, Op.operands]
  refine ⟨r, hk, fun F δ W E hR hE => ?_⟩
  have hd := hv δ E _ hE hm
  simp only [dec] at hd
  split at hd
  · rename_i y hy
    simp only [Option.some.injEq] at hd
    obtain ⟨u, hu, hdu⟩ := decL_get hy hi
    refine ⟨u, hdu, fun q => Yields.of fun rd X kn kb kdd hkb => ?_⟩
    unfold vcOpV
    rw [ho]
    show kExt (ev E x) i _
    rw [← hd]
    exact kExt_i (by simpa using hu) hkb
  · cases hd
theorem oMkI_ok (p : Pg P ty fu) {o : Oper} {t : TypeId} {x : Operand} (ho : o.op = .makeInterface t x) {call e h k kd kp} (hk : oMkI t x ty call e h k kd kp = true) : ∃ r, k r h = true ∧ QAns P o e h r := by
  obtain ⟨v, hk, hv⟩ := opd_o hk
  obtain ⟨d, hu, hk⟩ := undK_inv p hk
  obtain ⟨hd, hk⟩ := iff_f hk
  have hm : x ∈ o.op.operands := by simp [ho, Op.operands]
  refine ⟨_, hk, fun F δ W E hR hE => ⟨.iface t (ev E x), by simp [dec, hv δ E _ hE hm], fun q => Yields.of fun rd X kn kb kdd hkb => ?_⟩⟩
  unfold vcOpV
  rw [ho]
  refine ⟨kVal_pure (fun w => ?_) hkb⟩
  simp only [Instr.makeInterface, Sem.run_bind, run_underlying hu, Result.andThen_ok]
  cases d <;> first | rfl | exact absurd (show true = false from hd) (by decide)
theorem oMkF_ok {o : Oper} {fn : Fn} {a b : Array Operand} (ho : o.op = .makeFunc fn a b) {call e h k kd kp} (hk : oMkF fn a b ty call e h k kd kp = true) : ∃ r, k r h = true ∧ QAns P o e h r := by
  obtain ⟨hf, hk⟩ := iff_t hk
  obtain ⟨l, hk, hl⟩ := opds_o hk
  obtain ⟨m, hk, hmm⟩ := opds_o hk
  refine ⟨_, hk, fun F δ W E hR hE => ?_⟩
  have h1 := hl δ E _ hE (fun y hy => by simp [ho, Op.operands]; exact .inl (by simpa using hy))
  have h2 := hmm δ E _ hE (fun y hy => by simp [ho, Op.operands]; exact .inr (by simpa using hy))
  refine ⟨.func fn (a.map (ev E)) (b.map (ev E)), ?_, fun q => Yields.of fun rd X kn kb kdd hkb => ?_⟩
  · simp only [dec, h1, h2]
    congr 2 <;> (apply Array.toList_inj.1; simp)
  · unfold vcOpV
    rw [ho]
    exact hkb
theorem oFa_ok (p : Pg P ty fu) {o : Oper} {s : TypeId} {x : Operand} {f : Nat} (ho : o.op = .fieldAddr s x f) {call e h k kd kp} (hk : oFa s x f ty call e h k kd kp = true) : ∃ r, k r h = true ∧ QAns P o e h r := by
  obtain ⟨v, hk, hv⟩ := opd_o hk
  replace hk := rvPtr_inv hk
  obtain ⟨i, off, rfl, hk⟩ := hk
  obtain ⟨d, hu, hk⟩ := undK_inv p hk
  replace hk := tdStr_inv hk
  obtain ⟨fs, rfl, hk⟩ := hk
  obtain ⟨fd, hfd, hk⟩ := nthK_inv hk
  obtain ⟨ti, hti, hk⟩ := sizeK_inv p hk
  obtain ⟨hz, hk⟩ := iff_f hk
  rw [natF_eq] at hk
  have hm : x ∈ o.op.operands := by simp [ho, Op.operands]
  refine ⟨_, hk, fun F δ W E hR hE => ?_⟩
  have ha := hv δ E _ hE hm
  simp only [dec, Option.map_eq_some_iff] at ha
  obtain ⟨⟨b, c⟩, hb, ha⟩ := ha
  refine ⟨.pointer (some ⟨b, off + fd.offset, none⟩), by simp [dec, hb], fun q => Yields.of fun rd X kn kb kdd hkb => ?_⟩
  unfold vcOpV
  rw [ho]
  show kFa _ W s (ev E x) f _
  rw [← ha]
  obtain ⟨m, hm⟩ : ∃ m, ti.size = m + 1 := ⟨ti.size - 1, by
    have : ti.size ≠ 0 := fun e => by rw [e] at hz; cases hz
    omega⟩
  exact kFa_i hu (by simpa using hfd) (n := m) (fun w => by rw [← hm]; exact sizeOf_run hti w) hkb
end
end Go.L.Ev
namespace Go.L.Ev
open Go Go.RowKit
variable [Ext]
set_option linter.unusedSimpArgs false
set_option linter.unusedVariables false

/-! ### Stores -/
def setLs (old : Array Value) : Nat → List Value → Array Value
  | _, [] => old
  | o, v :: r => setLs (old.setIfInBounds o v) (o + 1) r
theorem setLs_mid : ∀ (vs mid : List Value) (pre post : List Value), vs.length = mid.length → setLs (pre ++ mid ++ post).toArray pre.length vs = (pre ++ vs ++ post).toArray
  | [], [], pre, post, _ => by simp [setLs]
  | v :: vs, m :: mid, pre, post, h => by
    have ih := setLs_mid vs mid (pre ++ [v]) post (by simpa using h)
    rw [setLs]
    have e : (pre ++ m :: mid ++ post).toArray.setIfInBounds pre.length v = (pre ++ [v] ++ mid ++ post).toArray := by
      apply Array.toList_inj.1
      simp
    rw [e]
    have : (pre ++ [v]).length = pre.length + 1 := by simp
    rw [this] at ih
    rw [ih]; simp
  | [], _ :: _, _, _, h => by simp at h
  | _ :: _, [], _, _, h => by simp at h
theorem setCs_heap {b : Nat} {t : TypeId} {fr : Nat × Nat} : ∀ (vs : List Value) (o : Nat) (w : World) (old : Array Value), w.heap[b]? = some (.cells old t fr) → (w.setCells b o vs).heap[b]? = some (.cells (setLs old o vs) t fr)
  | [], _, _, _, h => h
  | v :: r, o, w, old, h => setCs_heap r (o + 1) _ _ (by simp [World.setCell, Array.getElem?_modify, h])
theorem grown_setCs {b : Nat} : ∀ (vs : List Value) (o : Nat) (w : World), w.grownBy (w.setCells b o vs) (some b)
  | [], _, w => World.grownBy.refl w _
  | v :: r, o, w => by
    refine World.grownBy.trans ?_ (grown_setCs r (o + 1) _)
    refine ⟨rfl, rfl, rfl, by simp [World.setCell], fun k hk hne => ?_⟩
    exact Below.heap_setCell w ⟨b, o, none⟩ v k (fun e => hne (by rw [e]))
theorem store_core {P : Program} {W : World} {b : Nat} {t : TypeId} {fr : Nat × Nat} {vs rest new : List Value} {off : Nat} (hh : W.heap[b]? = some (.cells (vs ++ rest).toArray t fr)) (hfr : ∀ i, i < vs.length → ¬ (fr.1 ≤ i ∧ i < fr.2))
    (hl : off + new.length ≤ vs.length) (h1 : ∀ v ∈ new, v.oneCell' = true) :
    (storeCells ⟨b, off, none⟩ new).run P W = .ok () (W.setCells b off new) ∧ (W.setCells b off new).heap[b]? = some (.cells ((vs.take off ++ new ++ vs.drop (off + new.length)) ++ rest).toArray t fr) := by
  constructor
  · have := run_storeCells_cells (P := P) b off new 0 W (fun j hj => by
      rw [cell_of_row W b _ _ t fr hh]
      have : off + 0 + j < (vs ++ rest).length := by simp; omega
      simp only [List.getElem?_toArray, List.getElem?_eq_getElem this, Option.isSome_some])
      (fun j hj => by
        have h2 := hfr (off + 0 + j) (by omega)
        simp only [World.frozen?, hh]
        simp at h2 ⊢
        omega) h1
    simpa using this
  · have hs := setCs_heap new off W _ hh
    have hsplit : (vs ++ rest) = vs.take off ++ (vs.drop off).take new.length ++ (vs.drop (off + new.length) ++ rest) := by
      rw [← List.drop_drop, ← List.append_assoc, List.append_assoc (vs.take off), List.take_append_drop, List.take_append_drop]
    rw [hsplit] at hs
    have hm := setLs_mid new ((vs.drop off).take new.length) (vs.take off) (vs.drop (off + new.length) ++ rest) (by simp; omega)
    rw [show (vs.take off).length = off by simp; omega] at hm
    rw [hm] at hs
    rw [hs]
    simp
/-- A block of cells with other cells of the same number. -/
def IsMk (ob : Ob) (cs : List RV) (mk : List RV → Ob) : Prop := (∃ t, ob = .bx t cs ∧ mk = .bx t) ∨ ∃ e sz n, ob = .row e sz n cs ∧ mk = .row e sz n
theorem obM_mk {h : Hp} {i : Nat} {κ : List RV → (List RV → Ob) → Bool} (hk : obM h i κ = true) : ∃ cs mk, IsMk (h.at i) cs mk ∧ κ cs mk = true := by
  rcases obM_inv hk with ⟨t, cs, h1, h2⟩ | ⟨e, sz, n, cs, h1, h2⟩
  · exact ⟨cs, _, .inl ⟨t, h1, rfl⟩, h2⟩
  · exact ⟨cs, _, .inr ⟨e, sz, n, h1, rfl⟩, h2⟩
theorem IsMk.ne {ob : Ob} {cs : List RV} {mk : List RV → Ob} (h : IsMk ob cs mk) : ob ≠ .no := by
  rcases h with ⟨t, rfl, _⟩ | ⟨e, sz, n, rfl, _⟩ <;> simp
theorem decL_splice {δ : Pl} {cs new : List RV} {vs nv : List Value} (off : Nat) (h : decL δ cs = some vs) (k : decL δ new = some nv) : decL δ (cs.take off ++ new ++ cs.drop (off + new.length)) = some (vs.take off ++ nv ++ vs.drop (off + nv.length)) := by
  rw [decL_len k]
  exact decL_append (decL_append (decL_take off h) k) (decL_drop _ h)
theorem ObR.storeE {P : Program} {F : Frm} {δ : Pl} {b c : Nat} {W : World} {ob : Ob} {cs new : List RV} {mk : List RV → Ob} {nv : List Value} {off : Nat} (hO : ObR F δ b c W ob) (hm : IsMk ob cs mk) (hl : off + new.length ≤ cs.length) (hn : decL δ new = some nv) (h1 : ∀ v ∈ nv, v.oneCell' = true) :
    (storeCells ⟨b, off, none⟩ nv).run P W = .ok () (W.setCells b off nv) ∧ W.grownBy (W.setCells b off nv) (some b) ∧ ObR F δ b c (W.setCells b off nv) (mk (cs.take off ++ new ++ cs.drop (off + new.length))) := by
  have hnl := decL_len hn
  rcases hm with ⟨t, rfl, rfl⟩ | ⟨e, sz, n, rfl, rfl⟩
  · obtain ⟨hf, vs, rest, fr, hd, hh, hfr⟩ := hO
    have hvl := decL_len hd
    obtain ⟨r1, r2⟩ := store_core (P := P) (off := off) hh hfr (by omega) h1
    refine ⟨r1, grown_setCs _ _ _, hf, _, rest, fr, decL_splice off hd hn, r2, fun i hi => hfr i ?_⟩
    simp at hi; omega
  · obtain ⟨hf, vs, hd, hxl, ho⟩ := hO
    have hvl := decL_len hd
    rcases ho with ⟨hv, _⟩ | ⟨g, cap, cur, hv, hg, hgg, hnc, hcap, hcs, htk⟩
    · cases hv
    · cases hv
      have hcur : cur = (vs ++ cur.toList.drop (n * sz)).toArray := by
        apply Array.toList_inj.1
        simp only [← htk, List.take_append_drop]
      have hgg' := hgg
      rw [hcur] at hgg'
      obtain ⟨r1, r2⟩ := store_core (P := P) (off := off) hgg' (fun i _ hi => by simp at hi) (by omega) h1
      refine ⟨r1, grown_setCs _ _ _, hf, _, decL_splice off hd hn, ?_, .inr ⟨b, c, _, rfl, Nat.zero_le _, r2, hnc, hcap, ?_, ?_⟩⟩
      · simp; omega
      · have : cur.size = vs.length + (cur.toList.drop (n * sz)).length := by
          have := congrArg Array.size hcur
          simpa using this
        simp at this ⊢; omega
      · simp only
        rw [List.take_append_of_le_length (by simp; omega), List.take_of_length_le (by simp; omega)]
theorem ObR.store {P : Program} {F : Frm} {δ : Pl} {b c : Nat} {W : World} {ob : Ob} {cs new : List RV} {mk : List RV → Ob} {nv : List Value} {off : Nat} (hO : ObR F δ b c W ob) (hm : IsMk ob cs mk) (hl : off + new.length ≤ cs.length) (hn : decL δ new = some nv) (h1 : ∀ v ∈ nv, v.oneCell' = true) :
    ∃ W', (storeCells ⟨b, off, none⟩ nv).run P W = .ok () W' ∧ W.grownBy W' (some b) ∧ ObR F δ b c W' (mk (cs.take off ++ new ++ cs.drop (off + new.length))) := ⟨_, hO.storeE hm hl hn h1⟩
section
variable {P : Program} {ty : TyT} {fu : FuT}
theorem oStore_ok (p : Pg P ty fu) {o : Oper} {t : TypeId} {a x : Operand} (ho : o.op = .store t a x) {call e h k kd kp} (hk : oStore t a x ty call e h k kd kp = true) :
    ∃ i off ob' h', k undefR h' = true ∧ h.at i ≠ .no ∧ h'.next = h.next ∧ h'.at i = ob' ∧ (∀ j, j ≠ i → h'.at j = h.at j) ∧ SAns P o e i (h.at i) ob' ∧ ∀ δ E xs, EnvO δ e E xs → a ∈ xs → dec δ (.ptr i off) = some (ev E a) := by
  obtain ⟨v, hk, hv⟩ := opd_o hk
  replace hk := rvPtr_inv hk
  obtain ⟨i, off, rfl, hk⟩ := hk
  obtain ⟨r, hk, hr⟩ := opd_o hk
  obtain ⟨ti, hti, hk⟩ := sizeK_inv p hk
  obtain ⟨hlen, hk⟩ := iff_t hk
  obtain ⟨hone, hk⟩ := iff_t hk
  obtain ⟨cs, mk, hmk, hk⟩ := obM_mk hk
  obtain ⟨hle, hk⟩ := spliceK_inv hk
  obtain ⟨h', hk, h1, h2, h3⟩ := setO_inv hk
  have hma : a ∈ o.op.operands := by simp [ho, Op.operands]
  have hmx : x ∈ o.op.operands := by simp [ho, Op.operands]
  refine ⟨i, off, _, h', hk, hmk.ne, h1, h2, h3, fun F δ W E b c hE hb hO => ?_, hv⟩
  have ha := hv δ E _ hE hma
  have hx := hr δ E _ hE hmx
  have hc := dec_cells hx
  obtain ⟨W', r1, r2, r3⟩ := hO.store (P := P) hmk hle hc (decL_one hc hone)
  refine ⟨W', r2, r3, Yields.of fun rd X kn kb kdd hkb => ?_⟩
  unfold vcOpV
  rw [ho]
  show kStore _ W t (ev E a) (ev E x) _
  simp only [dec, hb, Option.map_some, Option.some.injEq] at ha
  rw [← ha]
  refine ⟨kUnit_do (w' := W') ?_ hkb⟩
  have hsz : ¬ (ev E x).cells.size ≠ ti.size := by
    have h4 := decL_len hc
    have h5 := lenIs_inv hlen
    simp at h4
    omega
  simp only [Instr.storeAt, Instr.sureAddr, Sem.run_bind, Sem.run_pure, Result.andThen_ok, storeVar, sizeOf_run hti, if_neg hsz]
  exact r1
end
end Go.L.Ev
namespace Go.L.Ev
open Go Go.RowKit
variable [Ext]
set_option linter.unusedSimpArgs false
set_option linter.unusedVariables false

theorem kind1 {d : TypeDesc} (h : Nat.beq (kindD d) 1 = true) : d = .bool := by cases d <;> first | rfl | exact absurd (show false = true from h) (by decide)
theorem kind2 {d : TypeDesc} (h : Nat.beq (kindD d) 2 = true) : ∃ k, d = .int k := by cases d <;> first | exact ⟨_, rfl⟩ | exact absurd (show false = true from h) (by decide)
theorem kind3 {d : TypeDesc} (h : Nat.beq (kindD d) 3 = true) : d = .string := by cases d <;> first | rfl | exact absurd (show false = true from h) (by decide)
theorem kind4 {d : TypeDesc} (h : Nat.beq (kindD d) 4 = true) : ∃ e, d = .pointer e := by cases d <;> first | exact ⟨_, rfl⟩ | exact absurd (show false = true from h) (by decide)
theorem kind5 {d : TypeDesc} (h : Nat.beq (kindD d) 5 = true) : ∃ e, d = .slice e := by cases d <;> first | exact ⟨_, rfl⟩ | exact absurd (show false = true from h) (by decide)
theorem kind7 {d : TypeDesc} (h : Nat.beq (kindD d) 7 = true) : ∃ k e, d = .map k e := by cases d <;> first | exact ⟨_, _, rfl⟩ | exact absurd (show false = true from h) (by decide)
theorem kind8 {d : TypeDesc} (h : Nat.beq (kindD d) 8 = true) : ∃ fs, d = .struct fs := by cases d <;> first | exact ⟨_, rfl⟩ | exact absurd (show false = true from h) (by decide)
theorem kind9 {d : TypeDesc} (h : Nat.beq (kindD d) 9 = true) : ∃ p r v, d = .func p r v := by cases d <;> first | exact ⟨_, _, _, rfl⟩ | exact absurd (show false = true from h) (by decide)
theorem kind10 {d : TypeDesc} (h : Nat.beq (kindD d) 10 = true) : ∃ m, d = .interface m := by cases d <;> first | exact ⟨_, rfl⟩ | exact absurd (show false = true from h) (by decide)

theorem dec_opt {α : Type} {o : Option α} {f : α → Value} {a : Value} (h : o.map f = some a) : ∃ p, a = f p := by
  cases o with
  | none => cases h
  | some p => exact ⟨p, (Option.some.inj h).symm⟩
theorem dec_emp {δ : Pl} {i off ce dl sz : Nat} {a : Value} (h : dec δ (.emp i off ce dl sz) = some a) : ∃ ad cp, a = .slice (some ad) 0 cp := by
  simp only [dec] at h
  obtain ⟨p, rfl⟩ := dec_opt h
  split
  · exact ⟨_, _, rfl⟩
  · exact ⟨_, _, rfl⟩
section
variable {P : Program} {ty : TyT} {fu : FuT}
/-- The answer of an equality. -/
def EqA (P : Program) (t : TypeId) (d : Nat) (x y : RV) (b : Bool) : Prop := ∀ δ a c, dec δ x = some a → dec δ y = some c → ∀ N w, d ≤ N → (Op.equalIn (N + 1) t a c).run P w = .ok b w
theorem eqS_ok {t : TypeId} {td : TypeDesc} (hu : P.underlying t = some td) {x y : RV} {κ : Bool → Bool} (h : eqS (kindD td) x y κ = true) : ∃ b, κ b = true ∧ EqA P t 0 x y b := by
  cases x with
  | bool a =>
    obtain ⟨h1, h2⟩ := iff_t (b := Nat.beq (kindD td) 1) h
    cases kind1 h1
    obtain ⟨b, rfl, h3⟩ := rvBool_inv h2
    rw [boolF_eq] at h3
    refine ⟨_, h3, fun δ u v hu' hv N w _ => ?_⟩
    cases dec_bool hu'; cases dec_bool hv
    rw [run_equalIn_bool' w N t a b hu, bEq_eq]
  | int k n =>
    obtain ⟨h1, h2⟩ := iff_t (b := Nat.beq (kindD td) 2) h
    obtain ⟨k', hk'⟩ := kind2 h1
    obtain ⟨j, m, rfl, h3⟩ := rvInt_inv h2
    obtain ⟨h4, h5⟩ := iff_t h3
    cases ikEq_inv h4
    rw [boolF_eq] at h5
    refine ⟨_, h5, fun δ u v hu' hv N w _ => ?_⟩
    cases dec_int hu'; cases dec_int hv
    rw [run_equalIn_int w N t k k' n m (by rw [hu, hk']), iEq_eq]
  | str m i =>
    obtain ⟨h1, h2⟩ := iff_t (b := Nat.beq (kindD td) 3) h
    cases kind3 h1
    obtain ⟨hw, h2⟩ := iff_t h2
    obtain ⟨n, j, rfl, hw', h3⟩ := rvStr_inv h2
    rw [boolF_eq] at h3
    refine ⟨_, h3, fun δ u v hu' hv N w _ => ?_⟩
    cases dec_str (strB_w hw) hu'; cases dec_str hw' hv
    rw [run_equalIn_string w N t _ _ hu, sEq_eq]
  | ptr i off =>
    obtain ⟨h1, h2⟩ := iff_t (b := Nat.beq (kindD td) 4) h
    obtain ⟨e, rfl⟩ := kind4 h1
    cases y <;> first | exact absurd (show false = true from h2) (by decide) | skip
    refine ⟨false, h2, fun δ u v hu' hv N w _ => ?_⟩
    simp only [dec] at hu' hv
    obtain ⟨p, rfl⟩ := dec_opt hu'
    cases hv
    simp [Op.equalIn, run_underlying hu]
  | nilp =>
    obtain ⟨h1, h2⟩ := iff_t (b := Nat.beq (kindD td) 4) h
    obtain ⟨e, rfl⟩ := kind4 h1
    cases y <;> first | exact absurd (show false = true from h2) (by decide) | skip
    case ptr =>
      refine ⟨false, h2, fun δ u v hu' hv N w _ => ?_⟩
      simp only [dec] at hu' hv
      obtain ⟨p, rfl⟩ := dec_opt hv
      cases hu'
      simp [Op.equalIn, run_underlying hu]
    case nilp =>
      refine ⟨true, h2, fun δ u v hu' hv N w _ => ?_⟩
      simp only [dec] at hu' hv
      cases hu'; cases hv
      simp [Op.equalIn, run_underlying hu]
    case glob =>
      refine ⟨false, h2, fun δ u v hu' hv N w _ => ?_⟩
      simp only [dec] at hu' hv
      cases hu'; cases hv
      simp [Op.equalIn, run_underlying hu]
  | slc i off ce len =>
    obtain ⟨h1, h2⟩ := iff_t (b := Nat.beq (kindD td) 5) h
    obtain ⟨e, rfl⟩ := kind5 h1
    cases y <;> first | exact absurd (show false = true from h2) (by decide) | skip
    refine ⟨false, h2, fun δ u v hu' hv N w _ => ?_⟩
    obtain ⟨_, _, _, _, rfl⟩ := dec_slc hu'
    simp only [dec] at hv
    cases hv
    simp [Op.equalIn, run_underlying hu]
  | asl i off len cap =>
    obtain ⟨h1, h2⟩ := iff_t (b := Nat.beq (kindD td) 5) h
    obtain ⟨e, rfl⟩ := kind5 h1
    cases y <;> first | exact absurd (show false = true from h2) (by decide) | skip
    refine ⟨false, h2, fun δ u v hu' hv N w _ => ?_⟩
    simp only [dec] at hu' hv
    obtain ⟨p, rfl⟩ := dec_opt hu'
    cases hv
    simp [Op.equalIn, run_underlying hu]
  | nils =>
    obtain ⟨h1, h2⟩ := iff_t (b := Nat.beq (kindD td) 5) h
    obtain ⟨e, rfl⟩ := kind5 h1
    cases y <;> first | exact absurd (show false = true from h2) (by decide) | skip
    case slc =>
      refine ⟨false, h2, fun δ u v hu' hv N w _ => ?_⟩
      obtain ⟨_, _, _, _, rfl⟩ := dec_slc hv
      simp only [dec] at hu'
      cases hu'
      simp [Op.equalIn, run_underlying hu]
    case asl =>
      refine ⟨false, h2, fun δ u v hu' hv N w _ => ?_⟩
      simp only [dec] at hu' hv
      obtain ⟨p, rfl⟩ := dec_opt hv
      cases hu'
      simp [Op.equalIn, run_underlying hu]
    case nils =>
      refine ⟨true, h2, fun δ u v hu' hv N w _ => ?_⟩
      simp only [dec] at hu' hv
      cases hu'; cases hv
      simp [Op.equalIn, run_underlying hu]
  | nilm =>
    obtain ⟨h1, h2⟩ := iff_t (b := Nat.beq (kindD td) 7) h
    obtain ⟨k, e, rfl⟩ := kind7 h1
    cases y <;> first | exact absurd (show false = true from h2) (by decide) | skip
    case nilm =>
      refine ⟨true, h2, fun δ u v hu' hv N w _ => ?_⟩
      simp only [dec] at hu' hv
      cases hu'; cases hv
      simp [Op.equalIn, run_underlying hu]
    case map =>
      refine ⟨false, h2, fun δ u v hu' hv N w _ => ?_⟩
      simp only [dec] at hu' hv
      obtain ⟨p, rfl⟩ := dec_opt hv
      cases hu'
      simp [Op.equalIn, run_underlying hu]
  | map i =>
    obtain ⟨h1, h2⟩ := iff_t (b := Nat.beq (kindD td) 7) h
    obtain ⟨k, e, rfl⟩ := kind7 h1
    cases y <;> first | exact absurd (show false = true from h2) (by decide) | skip
    refine ⟨false, h2, fun δ u v hu' hv N w _ => ?_⟩
    simp only [dec] at hu' hv
    obtain ⟨p, rfl⟩ := dec_opt hu'
    cases hv
    simp [Op.equalIn, run_underlying hu]
  | fn f a b =>
    obtain ⟨h1, h2⟩ := iff_t (b := Nat.beq (kindD td) 9) h
    obtain ⟨p, r, vv, rfl⟩ := kind9 h1
    cases y <;> first | exact absurd (show false = true from h2) (by decide) | skip
    refine ⟨false, h2, fun δ u v hu' hv N w _ => ?_⟩
    simp only [dec] at hu' hv
    cases hv
    split at hu'
    · cases hu'
      simp [Op.equalIn, run_underlying hu]
    · cases hu'
  | nilf =>
    obtain ⟨h1, h2⟩ := iff_t (b := Nat.beq (kindD td) 9) h
    obtain ⟨p, r, vv, rfl⟩ := kind9 h1
    cases y <;> first | exact absurd (show false = true from h2) (by decide) | skip
    case fn =>
      refine ⟨false, h2, fun δ u v hu' hv N w _ => ?_⟩
      simp only [dec] at hu' hv
      cases hu'
      split at hv
      · cases hv
        simp [Op.equalIn, run_underlying hu]
      · cases hv
    case nilf =>
      refine ⟨true, h2, fun δ u v hu' hv N w _ => ?_⟩
      simp only [dec] at hu' hv
      cases hu'; cases hv
      simp [Op.equalIn, run_underlying hu]
  | _ => exact absurd (show false = true from h) (by decide)

theorem rvI_inv {v : RV} {z : Bool} {κ : TypeId → RV → Bool} (h : rvI v z κ = true) : (v = .nili ∧ z = true) ∨ ∃ t w, v = .ifc t w ∧ κ t w = true := by
  cases v <;> first | exact .inl ⟨rfl, h⟩ | exact .inr ⟨_, _, rfl, h⟩ | exact absurd (show false = true from h) (by decide)
end
end Go.L.Ev
namespace Go.L.Ev
open Go Go.RowKit
variable [Ext]
set_option linter.unusedSimpArgs false
set_option linter.unusedVariables false
section
variable {P : Program} {ty : TyT} {fu : FuT}

theorem dec_agg {δ : Pl} {l : List RV} {a : Value} (h : dec δ (.agg l) = some a) : ∃ xs, decL δ l = some xs ∧ a = .agg xs.toArray := by
  simp only [dec] at h
  split at h
  · rename_i y hy; exact ⟨y, hy, (Option.some.inj h).symm⟩
  · cases h
theorem dec_ifc {δ : Pl} {t : TypeId} {v : RV} {a : Value} (h : dec δ (.ifc t v) = some a) : ∃ x, dec δ v = some x ∧ a = .iface t x := by
  simp only [dec] at h
  split at h
  · rename_i y hy; exact ⟨y, hy, (Option.some.inj h).symm⟩
  · cases h
/-- A part of a struct. -/
theorem part_agg {t : TypeId} {d : TypeDesc} {i : TypeInfo} (hu : P.underlying t = some d) (hd : aggD d = true) (hi : P.info? t = some i) (cs : List Value) (off : Nat) (w : World) :
    (part t cs.toArray off).run P w = .ok (.agg ((cs.drop off).take i.size).toArray) w := by
  simp only [part, Sem.run_bind, isAgg_t hu hd, Result.andThen_ok, if_true, sizeOf_run hi, Sem.run_pure]
  congr 2
  apply Array.toList_inj.1
  simp [List.drop_take]
theorem part_one {t : TypeId} {d : TypeDesc} (hu : P.underlying t = some d) (hd : aggD d = false) {cs : List Value} {off : Nat} {v : Value} (hv : cs[off]? = some v) (w : World) :
    (part t cs.toArray off).run P w = .ok v w := by
  simp [part, isAgg_f hu hd, hv]

/-- What is asked of a struct's parts. -/
noncomputable def eqG (ty : TyT) (ih : TyT → TypeId → RV → RV → (Bool → Bool) → Bool) (xs ys : List RV) (κ : Bool → Bool) (fs : List Field) : Bool :=
  @List.rec Field (fun _ => Bool) (κ true)
          (fun f _ ihf => undK ty f.type fun fd => iff (aggD fd)
            (dropK xs f.offset fun xa => dropK ys f.offset fun ya => sizeK ty f.type fun n => takeK xa n fun xb => takeK ya n fun yb => ih ty f.type (.agg xb) (.agg yb) fun b => iff b ihf (κ false))
            (nthK xs f.offset fun xa => nthK ys f.offset fun ya => ih ty f.type xa ya fun b => iff b ihf (κ false))) fs
theorem eqG_ok (p : Pg P ty fu) {d : Nat} (hd : ∀ t x y κ, eqK d ty t x y κ = true → ∃ b, κ b = true ∧ EqA P t d x y b) {xs ys : List RV} {κ : Bool → Bool} : ∀ (fs : List Field), (∀ f ∈ fs, f.name ≠ "_") → eqG ty (eqK d) xs ys κ fs = true →
    ∃ b, κ b = true ∧ ∀ δ us vs, decL δ xs = some us → decL δ ys = some vs → ∀ N w, d ≤ N → (Op.eqFields (N + 1) us.toArray vs.toArray fs).run P w = .ok b w
  | [], _, h => ⟨true, h, fun δ us vs _ _ N w _ => rfl⟩
  | f :: fs, hf, h => by
    have hname := hf f (List.mem_cons_self ..)
    have h : (undK ty f.type fun fd => iff (aggD fd)
            (dropK xs f.offset fun xa => dropK ys f.offset fun ya => sizeK ty f.type fun n => takeK xa n fun xb => takeK ya n fun yb => eqK d ty f.type (.agg xb) (.agg yb) fun b => iff b (eqG ty (eqK d) xs ys κ fs) (κ false))
            (nthK xs f.offset fun xa => nthK ys f.offset fun ya => eqK d ty f.type xa ya fun b => iff b (eqG ty (eqK d) xs ys κ fs) (κ false))) = true := h
    obtain ⟨fd, hu, h1⟩ := undK_inv p h
    have fin : ∀ (x y : RV) (b : Bool), iff b (eqG ty (eqK d) xs ys κ fs) (κ false) = true → EqA P f.type d x y b →
        (∀ δ us vs, decL δ xs = some us → decL δ ys = some vs → ∃ a c, dec δ x = some a ∧ dec δ y = some c ∧ (∀ w, (part f.type us.toArray f.offset).run P w = .ok a w) ∧ ∀ w, (part f.type vs.toArray f.offset).run P w = .ok c w) →
        ∃ b, κ b = true ∧ ∀ δ us vs, decL δ xs = some us → decL δ ys = some vs → ∀ N w, d ≤ N → (Op.eqFields (N + 1) us.toArray vs.toArray (f :: fs)).run P w = .ok b w := by
      intro x y b hb hE hp
      rcases iff_inv hb with ⟨rfl, hb⟩ | ⟨rfl, hb⟩
      · obtain ⟨b', hb', hr⟩ := eqG_ok p hd fs (fun g hg => hf g (List.mem_cons_of_mem _ hg)) hb
        refine ⟨b', hb', fun δ us vs hus hvs N w hN => ?_⟩
        obtain ⟨a, c, ha, hc, pa, pc⟩ := hp δ us vs hus hvs
        simp only [Op.eqFields, if_pos hname, Sem.run_bind, pa, pc, Result.andThen_ok, hE δ a c ha hc N w hN, Bool.not_true, Bool.false_eq_true, if_false]
        exact hr δ us vs hus hvs N w hN
      · refine ⟨false, hb, fun δ us vs hus hvs N w hN => ?_⟩
        obtain ⟨a, c, ha, hc, pa, pc⟩ := hp δ us vs hus hvs
        simp only [Op.eqFields, if_pos hname, Sem.run_bind, pa, pc, Result.andThen_ok, hE δ a c ha hc N w hN, Bool.not_false, if_true, Sem.run_pure]
    rcases iff_inv h1 with ⟨ha, h2⟩ | ⟨ha, h2⟩
    · obtain ⟨_, h3⟩ := dropK_inv h2
      obtain ⟨_, h4⟩ := dropK_inv h3
      obtain ⟨ti, hti, h5⟩ := sizeK_inv p h4
      obtain ⟨_, h6⟩ := takeK_inv h5
      obtain ⟨_, h7⟩ := takeK_inv h6
      obtain ⟨b, hb, hE⟩ := hd _ _ _ _ h7
      refine fin _ _ b hb hE fun δ us vs hus hvs => ⟨_, _, ?_, ?_, part_agg hu ha hti us f.offset, part_agg hu ha hti vs f.offset⟩
      · simp [dec, decL_take ti.size (decL_drop f.offset hus)]
      · simp [dec, decL_take ti.size (decL_drop f.offset hvs)]
    · obtain ⟨x, hx, h3⟩ := nthK_inv h2
      obtain ⟨y, hy, h4⟩ := nthK_inv h3
      obtain ⟨b, hb, hE⟩ := hd _ _ _ _ h4
      refine fin _ _ b hb hE fun δ us vs hus hvs => ?_
      obtain ⟨a, ha', hda⟩ := decL_get hus hx
      obtain ⟨c, hc', hdc⟩ := decL_get hvs hy
      exact ⟨a, c, hda, hdc, part_one hu ha ha', part_one hu ha hc'⟩
theorem eqK_ok (p : Pg P ty fu) : ∀ (d : Nat) (t : TypeId) (x y : RV) (κ : Bool → Bool), eqK d ty t x y κ = true → ∃ b, κ b = true ∧ EqA P t d x y b
  | 0, t, x, y, κ, h => absurd (show false = true from h) (by decide)
  | d + 1, t, x, y, κ, h => by
    have ih := eqK_ok p d
    have h : (undK ty t fun td => iff (aggD td)
      (rvAgg x fun xs => rvAgg y fun ys => iff (memN ty.q t) (tdStr td fun fs => eqG ty (eqK d) xs ys κ fs) false)
      (iff (Nat.beq (kindD td) 10) (rvI x (rvI y (κ true) fun _ _ => κ false) fun t v => rvI y (κ false) fun u w => iff (Nat.beq t u) (tinf ty t fun i => iff i.comparable (eqK d ty t v w κ) false) (κ false)) (eqS (kindD td) x y κ))) = true := h
    obtain ⟨td, hu, h1⟩ := undK_inv p h
    rcases iff_inv h1 with ⟨ha, h2⟩ | ⟨ha, h2⟩
    · obtain ⟨xs, rfl, h3⟩ := rvAgg_inv h2
      obtain ⟨ys, rfl, h4⟩ := rvAgg_inv h3
      obtain ⟨hq, h5⟩ := iff_t h4
      obtain ⟨fs, rfl, h6⟩ := tdStr_inv h5
      obtain ⟨q1, q2, q3⟩ := p.qOk t fs hq hu
      obtain ⟨b, hb, hr⟩ := eqG_ok p ih fs.toList q3 h6
      refine ⟨b, hb, fun δ a c hda hdc N w hN => ?_⟩
      obtain ⟨us, hus, rfl⟩ := dec_agg hda
      obtain ⟨vs, hvs, rfl⟩ := dec_agg hdc
      have hfo : P.fieldsOf t = fs := by simp [Program.fieldsOf, hu]
      rw [run_equalIn_struct w N t _ _ (by rw [hfo]; exact hu) q1, hfo]
      obtain ⟨M, rfl⟩ : ∃ M, N = M + 1 := ⟨N - 1, by omega⟩
      exact hr δ us vs hus hvs M w (by omega)
    · rcases iff_inv h2 with ⟨hk, h3⟩ | ⟨hk, h3⟩
      · obtain ⟨ms, rfl⟩ := kind10 hk
        rcases rvI_inv h3 with ⟨rfl, h4⟩ | ⟨tx, vx, rfl, h4⟩
        · rcases rvI_inv h4 with ⟨rfl, h5⟩ | ⟨tu, vu, rfl, h5⟩
          · refine ⟨true, h5, fun δ a c hda hdc N w hN => ?_⟩
            simp only [dec] at hda hdc
            cases hda; cases hdc
            simp [Op.equalIn, run_underlying hu]
          · refine ⟨false, h5, fun δ a c hda hdc N w hN => ?_⟩
            obtain ⟨z, _, rfl⟩ := dec_ifc hdc
            simp only [dec] at hda
            cases hda
            simp [Op.equalIn, run_underlying hu]
        · rcases rvI_inv h4 with ⟨rfl, h5⟩ | ⟨tu, vu, rfl, h5⟩
          · refine ⟨false, h5, fun δ a c hda hdc N w hN => ?_⟩
            obtain ⟨z, _, rfl⟩ := dec_ifc hda
            simp only [dec] at hdc
            cases hdc
            simp [Op.equalIn, run_underlying hu]
          · rcases iff_inv h5 with ⟨he, h6⟩ | ⟨he, h6⟩
            · cases Nat.eq_of_beq_eq_true he
              obtain ⟨ti, hti, h7⟩ := tinf_inv h6
              obtain ⟨hcmp, h8⟩ := iff_t h7
              obtain ⟨b, hb, hE⟩ := ih _ _ _ _ h8
              refine ⟨b, hb, fun δ a c hda hdc N w hN => ?_⟩
              obtain ⟨z, hz, rfl⟩ := dec_ifc hda
              obtain ⟨z', hz', rfl⟩ := dec_ifc hdc
              obtain ⟨M, rfl⟩ : ∃ M, N = M + 1 := ⟨N - 1, by omega⟩
              have := hE δ z z' hz hz' M w (by omega)
              rw [Op.equalIn]
              simp only [Sem.run_bind, run_underlying hu, Result.andThen_ok, ne_eq, not_true_eq_false, if_false, typeInfo_run (p.tyOk _ _ hti), hcmp, Bool.not_true, Bool.false_eq_true]
              exact this
            · refine ⟨false, h6, fun δ a c hda hdc N w hN => ?_⟩
              obtain ⟨z, hz, rfl⟩ := dec_ifc hda
              obtain ⟨z', hz', rfl⟩ := dec_ifc hdc
              have hne : tx ≠ tu := fun e => by rw [e] at he; simp at he
              simp [Op.equalIn, run_underlying hu, hne]
      · obtain ⟨b, hb, hE⟩ := eqS_ok hu h3
        exact ⟨b, hb, fun δ a c hda hdc N w hN => hE δ a c hda hdc N w (Nat.zero_le _)⟩
end
end Go.L.Ev
namespace Go.L.Ev
open Go Go.RowKit
variable [Ext]
set_option linter.unusedSimpArgs false
set_option linter.unusedVariables false
section
variable {P : Program} {ty : TyT} {fu : FuT}

/-- A binary operation with its guard. -/
def GBin (P : Program) (op : BinOp) (t : TypeId) (ox oy : Operand) (x y r : RV) : Prop := ∀ δ a b, dec δ x = some a → dec δ y = some b → ∃ c, dec δ r = some c ∧
  ∀ w, (do eqGuard op t ox oy a b; binOp op t a b : Sem Value).run P w = .ok c w

theorem eqT_inv {t : TypeId} {x y : RV} {κ : Bool → Bool} (h : eqT ty t x y κ = true) :
    (∃ k a b, x = .int k a ∧ y = .int k b ∧ κ (a == b) = true) ∨ (∃ m i n j, x = .str m i ∧ y = .str n j ∧ strW m i ∧ strW n j ∧ κ ((strOf m i).toList == (strOf n j).toList) = true) ∨ (∃ m i, x = .str m i ∧ y = .str m i ∧ κ true = true) ∨ (isInt x = false ∧ isStrQ x = false ∧ eqK 40 ty t x y κ = true) := by
  rcases iff_inv h with ⟨h1, h2⟩ | ⟨h1, h2⟩
  · obtain ⟨j, a, rfl, h3⟩ := rvInt_inv h2
    obtain ⟨k, b, rfl, h4⟩ := rvInt_inv h3
    obtain ⟨h5, h6⟩ := iff_t h4
    cases ikEq_inv h5
    rw [boolF_eq, iEq_eq] at h6
    exact .inl ⟨_, _, _, rfl, rfl, h6⟩
  · rcases iff_inv h2 with ⟨h3, h4⟩ | ⟨h3, h4⟩
    · obtain ⟨m, i, rfl, hw, h5⟩ := rvStr_inv h4
      obtain ⟨n, j, rfl, hw', h6⟩ := rvStr_inv h5
      rw [boolF_eq, sEq_eq] at h6
      exact .inr (.inl ⟨_, _, _, _, rfl, rfl, hw, hw', h6⟩)
    · rcases iff_inv h4 with ⟨h5, h6⟩ | ⟨h5, h6⟩
      · obtain ⟨m, i, rfl, h7⟩ := rvStrQ_inv h6
        obtain ⟨n, j, rfl, h8⟩ := rvStrQ_inv h7
        obtain ⟨e1, h9⟩ := iff_t h8
        obtain ⟨e2, h10⟩ := iff_t h9
        cases Nat.eq_of_beq_eq_true e1
        cases Nat.eq_of_beq_eq_true e2
        exact .inr (.inr (.inl ⟨_, _, rfl, rfl, h10⟩))
      · exact .inr (.inr (.inr ⟨h1, h5, h6⟩))
theorem eqK_mem {d : Nat} {t : TypeId} (p : Pg P ty fu) {l : List RV} {y : RV} {κ : Bool → Bool} (h : eqK (d + 1) ty t (.agg l) y κ = true) : P.eqGuardType P.depth t = false := by
  have h : (undK ty t fun td => iff (aggD td)
      (rvAgg (.agg l) fun xs => rvAgg y fun ys => iff (memN ty.q t) (tdStr td fun fs => eqG ty (eqK d) xs ys κ fs) false)
      (iff (Nat.beq (kindD td) 10) (rvI (.agg l) (rvI y (κ true) fun _ _ => κ false) fun t v => rvI y (κ false) fun u w => iff (Nat.beq t u) (tinf ty t fun i => iff i.comparable (eqK d ty t v w κ) false) (κ false)) (eqS (kindD td) (.agg l) y κ))) = true := h
  obtain ⟨td, hu, h1⟩ := undK_inv p h
  rcases iff_inv h1 with ⟨ha, h2⟩ | ⟨ha, h2⟩
  · have h2 : (rvAgg y fun ys => iff (memN ty.q t) (tdStr td fun fs => eqG ty (eqK d) l ys κ fs) false) = true := h2
    obtain ⟨ys, _, h4⟩ := rvAgg_inv h2
    obtain ⟨hq, h5⟩ := iff_t h4
    obtain ⟨fs, rfl, _⟩ := tdStr_inv h5
    exact (p.qOk t fs hq hu).2.1
  · rcases iff_inv h2 with ⟨_, h3⟩ | ⟨_, h3⟩
    · exact absurd (show false = true from h3) (by decide)
    · exact absurd (show false = true from h3) (by decide)
theorem dec_kind {δ : Pl} {x : RV} {a : Value} (h : dec δ x = some a) : (∃ k n, x = .int k n) ∨ (∃ m i, x = .str m i) ∨ (∃ l, x = .agg l) ∨ x = .nili ∨
    ((∀ k n, a ≠ .int k n) ∧ (∀ s, a ≠ .string s) ∧ (∀ k n, a ≠ .float k n) ∧ (∀ k n m, a ≠ .complex k n m) ∧ (∀ cs, a ≠ .agg cs) ∧ a ≠ .nilIface) := by
  cases x with
  | int k n => exact .inl ⟨_, _, rfl⟩
  | str m i => exact .inr (.inl ⟨_, _, rfl⟩)
  | agg l => exact .inr (.inr (.inl ⟨_, rfl⟩))
  | nili => exact .inr (.inr (.inr (.inl rfl)))
  | fn f u v => simp only [dec] at h; split at h <;> simp at h; subst h; simp
  | ifc t u => simp only [dec] at h; split at h <;> simp at h; subst h; simp
  | tup l => simp only [dec] at h; split at h <;> simp at h; subst h; simp
  | ptr i o => simp only [dec] at h; obtain ⟨p, rfl⟩ := dec_opt h; simp
  | slc i o u v => obtain ⟨_, _, _, _, rfl⟩ := dec_slc h; simp
  | asl i o u v => simp only [dec] at h; obtain ⟨p, rfl⟩ := dec_opt h; simp
  | map i => simp only [dec] at h; obtain ⟨p, rfl⟩ := dec_opt h; simp
  | yld i => simp only [dec] at h; obtain ⟨p, rfl⟩ := dec_opt h; simp
  | emp i o u v w => obtain ⟨ad, cp, rfl⟩ := dec_emp h; simp
  | _ => simp only [dec, Option.some.injEq] at h; subst h; simp [undef]
theorem eq_other {t : TypeId} {a b : Value} (h : (∀ k n, a ≠ .int k n) ∧ (∀ s, a ≠ .string s) ∧ (∀ k n, a ≠ .float k n) ∧ (∀ k n m, a ≠ .complex k n m)) :
    binOp .eql t a b = (do pure (.bool (← Op.equal t a b))) ∧ binOp .neq t a b = (do pure (.bool (!(← Op.equal t a b)))) := by
  obtain ⟨h1, h2, h3, h4⟩ := h
  cases a <;> first | exact absurd rfl (h1 _ _) | exact absurd rfl (h2 _) | exact absurd rfl (h3 _ _) | exact absurd rfl (h4 _ _ _) | exact ⟨rfl, rfl⟩
theorem guard_other {op : BinOp} {t : TypeId} {ox oy : Operand} {a b : Value} (h : (∀ cs, a ≠ .agg cs) ∧ a ≠ .nilIface) (w : World) : (eqGuard op t ox oy a b).run P w = .ok () w := by
  obtain ⟨h1, h2⟩ := h
  cases a <;> first | exact absurd rfl (h1 _) | exact absurd rfl h2 | (cases op <;> rfl)
theorem eqB_ok (p : Pg P ty fu) {neg : Bool} {t : TypeId} {ox oy : Operand} {x y : RV} {κ : RV → Bool} (hn : iff (bAnd (isNili x) (bAnd (isNili y) (bNot (bOr (cst ox) (cst oy))))) false true = true)
    (h : (eqT ty t x y fun b => boolK (if neg then bNot b else b) κ) = true) : ∃ r, κ r = true ∧ GBin P (if neg then .neq else .eql) t ox oy x y r := by
  rcases eqT_inv h with ⟨k, a, b, rfl, rfl, h1⟩ | ⟨m, i, n, j, rfl, rfl, hw, hw', h1⟩ | ⟨m, i, rfl, rfl, h1⟩ | ⟨h1, h2, h3⟩
  · rw [boolK_eq] at h1
    refine ⟨_, h1, fun δ u v hu hv => ?_⟩
    cases dec_int hu; cases dec_int hv
    refine ⟨_, (by simp only [dec]; rfl), fun w => ?_⟩
    cases neg
    · simp only [Bool.false_eq_true, if_false]; rw [eqGuard_at_int, binOp_eql]; rfl
    · simp only [if_true]; rw [eqGuard_at_int, binOp_neq, bNot_eq]; rfl
  · rw [boolK_eq] at h1
    refine ⟨_, h1, fun δ u v hu hv => ?_⟩
    cases dec_str hw hu; cases dec_str hw' hv
    refine ⟨_, (by simp only [dec]; rfl), fun w => ?_⟩
    cases neg
    · simp only [Bool.false_eq_true, if_false]; rw [eqGuard_at_string, binOp_string_eql]; rfl
    · simp only [if_true]; rw [eqGuard_at_string, binOp_string_neq, bNot_eq]; rfl
  · rw [boolK_eq] at h1
    refine ⟨_, h1, fun δ u v hu hv => ?_⟩
    obtain ⟨s, rfl⟩ := dec_str_any hu
    rw [hu] at hv; cases hv
    refine ⟨_, (by simp only [dec]; rfl), fun w => ?_⟩
    cases neg
    · simp only [Bool.false_eq_true, if_false]; rw [eqGuard_at_string, binOp_string_eql]; simp
    · simp only [if_true]; rw [eqGuard_at_string, binOp_string_neq, bNot_eq]; simp
  · obtain ⟨b, hb, hE⟩ := eqK_ok p 40 t x y _ h3
    rw [boolK_eq] at hb
    refine ⟨_, hb, fun δ u v hu hv => ⟨_, (by simp only [dec]; rfl), fun w => ?_⟩⟩
    have heq : ∀ w, (Op.equal t u v).run P w = .ok b w := fun w => hE δ u v hu hv 9999 w (by omega)
    have hother : ((∀ k n, u ≠ .int k n) ∧ (∀ s, u ≠ .string s) ∧ (∀ k n, u ≠ .float k n) ∧ (∀ k n m, u ≠ .complex k n m)) ∧ ∀ w, (eqGuard (if neg then .neq else .eql) t ox oy u v).run P w = .ok () w := by
      rcases dec_kind hu with ⟨k, n, rfl⟩ | ⟨m, i, rfl⟩ | ⟨l, rfl⟩ | rfl | hk
      · exact absurd (show true = false from h1) (by decide)
      · exact absurd (show true = false from h2) (by decide)
      · obtain ⟨xs, _, rfl⟩ := dec_agg hu
        have hg := eqK_mem p h3
        refine ⟨by simp, fun w => ?_⟩
        rcases dec_kind hv with ⟨k, n, rfl⟩ | ⟨m, i, rfl⟩ | ⟨l', rfl⟩ | rfl | hk
        · cases dec_int hv; cases neg <;> rfl
        · obtain ⟨_, rfl⟩ := dec_str_any hv; cases neg <;> rfl
        · obtain ⟨ys, _, rfl⟩ := dec_agg hv
          exact run_eqGuard_agg w _ t ox oy _ _ hg
        · simp only [dec, Option.some.injEq] at hv; subst hv; cases neg <;> rfl
        · cases v <;> first | exact absurd rfl (hk.2.2.2.2.1 _) | (cases neg <;> rfl)
      · simp only [dec, Option.some.injEq] at hu
        subst hu
        refine ⟨by simp, fun w => ?_⟩
        rcases dec_kind hv with ⟨k, n, rfl⟩ | ⟨m, i, rfl⟩ | ⟨l', rfl⟩ | rfl | hk
        · cases dec_int hv; cases neg <;> rfl
        · obtain ⟨_, rfl⟩ := dec_str_any hv; cases neg <;> rfl
        · obtain ⟨ys, _, rfl⟩ := dec_agg hv; cases neg <;> rfl
        · simp only [dec, Option.some.injEq] at hv
          subst hv
          obtain ⟨hc, _⟩ := iff_f hn
          have hc : bNot (bOr (cst ox) (cst oy)) = false := hc
          rw [bNot_eq, bOr_eq] at hc
          cases ox <;> cases oy <;> first | (cases neg <;> rfl) | exact absurd (show true = false from hc) (by decide)
        · cases v <;> first | exact absurd rfl hk.2.2.2.2.2 | (cases neg <;> rfl)
      · exact ⟨⟨hk.1, hk.2.1, hk.2.2.1, hk.2.2.2.1⟩, fun w => guard_other ⟨hk.2.2.2.2.1, hk.2.2.2.2.2⟩ w⟩
    obtain ⟨ho, hg⟩ := hother
    simp only [Sem.run_bind, hg, Result.andThen_ok]
    cases neg
    · simp only [Bool.false_eq_true, if_false, (eq_other ho).1, Sem.run_bind, heq, Result.andThen_ok, Sem.run_pure]
    · simp only [if_true, (eq_other ho).2, Sem.run_bind, heq, Result.andThen_ok, Sem.run_pure, bNot_eq]
theorem oBin_ok (p : Pg P ty fu) {o : Oper} {op : BinOp} {t u : TypeId} {x y : Operand} (ho : o.op = .binOp op t x y u) {call e h k kd kp} (hk : oBin op t x y ty call e h k kd kp = true) : ∃ r, k r h = true ∧ QAns P o e h r := by
  obtain ⟨a, hk, ha⟩ := opd_o hk
  obtain ⟨b, hk, hb⟩ := opd_o hk
  obtain ⟨hn, hk⟩ := iff_f hk
  have hmx : x ∈ o.op.operands := by simp [ho, Op.operands]
  have hmy : y ∈ o.op.operands := by simp [ho, Op.operands]
  have plain : (∃ r, k r h = true ∧ BinOK P op t a b r) → op ≠ .eql → op ≠ .neq → ∃ r, k r h = true ∧ QAns P o e h r := by
    rintro ⟨r, hkr, hr⟩ h1 h2
    refine ⟨r, hkr, fun F δ W E hR hE => ?_⟩
    obtain ⟨c, hc, hrun⟩ := hr δ _ _ (ha δ E _ hE hmx) (hb δ E _ hE hmy)
    refine ⟨c, hc, fun q => Yields.of fun rd X kn kb kdd hkb => ?_⟩
    unfold vcOpV
    rw [ho]
    cases op <;> first | exact absurd rfl h1 | exact absurd rfl h2 | exact ⟨kVal_pure hrun hkb⟩
  have hN : iff (bAnd (isNili a) (bAnd (isNili b) (bNot (bOr (cst x) (cst y))))) false true = true := by rw [hn]; rfl
  have eqq : ∀ neg : Bool, op = (if neg then .neq else .eql) → (eqT ty t a b fun b => boolK (if neg then bNot b else b) fun r => k r h) = true → ∃ r, k r h = true ∧ QAns P o e h r := by
    intro neg hop h1
    obtain ⟨r, hkr, hr⟩ := eqB_ok p (ox := x) (oy := y) hN h1
    refine ⟨r, hkr, fun F δ W E hR hE => ?_⟩
    obtain ⟨c, hc, hrun⟩ := hr δ _ _ (ha δ E _ hE hmx) (hb δ E _ hE hmy)
    refine ⟨c, hc, fun q => Yields.of fun rd X kn kb kdd hkb => ?_⟩
    unfold vcOpV
    rw [ho, hop]
    cases neg
    · exact ⟨kVal_pure hrun hkb⟩
    · exact ⟨kVal_pure hrun hkb⟩
  cases op with
  | eql => exact eqq false rfl hk
  | neq => exact eqq true rfl hk
  | add => exact plain (binR_ok hk) (by simp) (by simp)
  | sub => exact plain (binR_ok hk) (by simp) (by simp)
  | mul => exact plain (binR_ok hk) (by simp) (by simp)
  | quo => exact plain (binR_ok hk) (by simp) (by simp)
  | rem => exact plain (binR_ok hk) (by simp) (by simp)
  | and => exact plain (binR_ok hk) (by simp) (by simp)
  | or => exact plain (binR_ok hk) (by simp) (by simp)
  | xor => exact plain (binR_ok hk) (by simp) (by simp)
  | shl => exact plain (binR_ok hk) (by simp) (by simp)
  | shr => exact plain (binR_ok hk) (by simp) (by simp)
  | andNot => exact plain (binR_ok hk) (by simp) (by simp)
  | lss => exact plain (binR_ok hk) (by simp) (by simp)
  | leq => exact plain (binR_ok hk) (by simp) (by simp)
  | gtr => exact plain (binR_ok hk) (by simp) (by simp)
  | geq => exact plain (binR_ok hk) (by simp) (by simp)
end
end Go.L.Ev
namespace Go.L.Ev
open Go Go.RowKit
variable [Ext]
set_option linter.unusedSimpArgs false
set_option linter.unusedVariables false
section
variable {P : Program} {ty : TyT} {fu : FuT}

theorem partK_ok (p : Pg P ty fu) {t : TypeId} {cs : List RV} {off : Nat} {κ : RV → Bool} (h : partK ty t cs off κ = true) : ∃ r, κ r = true ∧ ∀ δ us, decL δ cs = some us → ∃ x, dec δ r = some x ∧ ∀ w, (part t us.toArray off).run P w = .ok x w := by
  obtain ⟨d, hu, h1⟩ := undK_inv p h
  rcases iff_inv h1 with ⟨hd, h2⟩ | ⟨hd, h2⟩
  · obtain ⟨ti, hti, h3⟩ := sizeK_inv p h2
    obtain ⟨_, h4⟩ := dropK_inv h3
    obtain ⟨_, h5⟩ := takeK_inv h4
    exact ⟨_, h5, fun δ us hus => ⟨_, by simp only [dec, decL_take ti.size (decL_drop off hus)], part_agg hu hd hti us off⟩⟩
  · obtain ⟨v, hv, h3⟩ := nthK_inv h2
    refine ⟨v, h3, fun δ us hus => ?_⟩
    obtain ⟨x, hx, hdx⟩ := decL_get hus hv
    exact ⟨x, hdx, part_one hu hd hx⟩
theorem oFd_ok (p : Pg P ty fu) {o : Oper} {s : TypeId} {x : Operand} {f : Nat} (ho : o.op = .field s x f) {call e h k kd kp} (hk : oFd s x f ty call e h k kd kp = true) : ∃ r, k r h = true ∧ QAns P o e h r := by
  obtain ⟨v, hk1, hv⟩ := opd_o hk
  obtain ⟨cs, rfl, hk2⟩ := rvAgg_inv hk1
  obtain ⟨d, hu, hk3⟩ := undK_inv p hk2
  obtain ⟨fs, rfl, hk4⟩ := tdStr_inv hk3
  obtain ⟨fd, hfd, hk5⟩ := nthK_inv hk4
  obtain ⟨r, hk6, hr⟩ := partK_ok p hk5
  have hm : x ∈ o.op.operands := by simp [ho, Op.operands]
  refine ⟨r, hk6, fun F δ W E hR hE => ?_⟩
  obtain ⟨us, hus, ha⟩ := dec_agg (hv δ E _ hE hm)
  obtain ⟨y, hy, hrun⟩ := hr δ us hus
  refine ⟨y, hy, fun q => Yields.of fun rd X kn kb kdd hkb => ?_⟩
  unfold vcOpV
  rw [ho]
  refine ⟨kVal_pure (fun w => ?_) hkb⟩
  rw [ha]
  have hfd' : fs[f]? = some fd := by simpa using hfd
  simp only [Instr.field, Sem.run_bind, run_underlying hu, Result.andThen_ok, hfd', asAgg, Sem.run_pure]
  exact hrun w
theorem oIa_ok (p : Pg P ty fu) {o : Oper} {t : TypeId} {x ix : Operand} (ho : o.op = .indexAddr t x ix) {call e h k kd kp} (hk : oIa t x ix ty call e h k kd kp = true) : ∃ r, k r h = true ∧ QAns P o e h r := by
  obtain ⟨v, hk1, hv⟩ := opd_o hk
  obtain ⟨iv, hk2, hiv⟩ := opd_o hk1
  obtain ⟨q, z, rfl, hk3⟩ := rvInt_inv hk2
  obtain ⟨j, rfl, hk4⟩ := iNat_inv hk3
  obtain ⟨d, hu, hk5⟩ := undK_inv p hk4
  have hmx : x ∈ o.op.operands := by simp [ho, Op.operands]
  have hmi : ix ∈ o.op.operands := by simp [ho, Op.operands]
  rcases iff_inv hk5 with ⟨hd, hk6⟩ | ⟨hd, hk6⟩
  · obtain ⟨el, rfl, hk7⟩ := tdSlice_inv hk6
    have key : ∀ i off len, (iff (Nat.blt j len) (sizeK ty el fun sz => natF (Nat.add off (Nat.mul j sz)) fun o => k (.ptr i o) h) false) = true →
        (∀ δ a, dec δ v = some a → ∃ b c cp, δ i = some (b, c) ∧ a = .slice (some ⟨b, off, none⟩) len cp) → ∃ r, k r h = true ∧ QAns P o e h r := by
      intro i off len h1 h2
      obtain ⟨hlt, h3⟩ := iff_t h1
      obtain ⟨ti, hti, h4⟩ := sizeK_inv p h3
      rw [natF_eq] at h4
      refine ⟨_, h4, fun F δ W E hR hE => ?_⟩
      obtain ⟨b, c, cp, hb, ha⟩ := h2 δ _ (hv δ E _ hE hmx)
      refine ⟨.pointer (some ⟨b, off + j * ti.size, none⟩), by simp only [dec, hb]; rfl, fun q => Yields.of fun rd X kn kb kdd hkb => ?_⟩
      unfold vcOpV
      rw [ho]
      show kIa _ W t (ev E x) (ev E ix) _
      rw [ha, dec_int (hiv δ E _ hE hmi)]
      exact kIa_sl hu (fun w => sizeOf_run hti w) (by simpa [Nat.blt_eq] using hlt) hkb
    cases v with
    | slc i off ce len =>
      refine key i off len hk7 fun δ a ha => ?_
      obtain ⟨b, c, hb, _, ha⟩ := dec_slc ha
      exact ⟨b, c, _, hb, ha⟩
    | asl i off len cap =>
      refine key i off len hk7 fun δ a ha => ?_
      simp only [dec, Option.map_eq_some_iff] at ha
      obtain ⟨⟨b, c⟩, hb, ha⟩ := ha
      exact ⟨b, c, _, hb, ha.symm⟩
    | _ => exact absurd (show false = true from hk7) (by decide)
  · obtain ⟨len, el, rfl, hk7⟩ := tdArr_inv hk6
    obtain ⟨i, off, rfl, hk8⟩ := rvPtr_inv hk7
    obtain ⟨hlt, hk9⟩ := iff_t hk8
    obtain ⟨ti, hti, hk10⟩ := sizeK_inv p hk9
    rw [natF_eq] at hk10
    refine ⟨_, hk10, fun F δ W E hR hE => ?_⟩
    have ha := hv δ E _ hE hmx
    simp only [dec, Option.map_eq_some_iff] at ha
    obtain ⟨⟨b, c⟩, hb, ha⟩ := ha
    refine ⟨.pointer (some ⟨b, off + j * ti.size, none⟩), by simp only [dec, hb]; rfl, fun q => Yields.of fun rd X kn kb kdd hkb => ?_⟩
    unfold vcOpV
    rw [ho]
    show kIa _ W t (ev E x) (ev E ix) _
    rw [← ha, dec_int (hiv δ E _ hE hmi)]
    exact kIa_arr hu (fun w => sizeOf_run hti w) (by simpa [Nat.blt_eq] using hlt) hkb
theorem strOf_get {n k i : Nat} (h : i < (strOf n k).size) : ((strOf n k)[i]'h).toNat = n / 256 ^ i % 256 := by
  have hk : i < k := by rwa [strOf_size] at h
  have h2 : (strOf n k)[i]'h = (bytesOf k n)[i]'(by rw [bytesOf_len]; exact hk) := rfl
  have h3 := bytesOf_get k n i hk
  rw [List.getElem?_eq_getElem (by rw [bytesOf_len]; exact hk)] at h3
  rw [h2, Option.some.inj h3]
  simp
theorem oIx_ok (p : Pg P ty fu) {o : Oper} {t : TypeId} {x ix : Operand} (ho : o.op = .index t x ix) {call e h k kd kp} (hk : oIx t x ix ty call e h k kd kp = true) : ∃ r, k r h = true ∧ QAns P o e h r := by
  obtain ⟨v, hk1, hv⟩ := opd_o hk
  obtain ⟨iv, hk2, hiv⟩ := opd_o hk1
  obtain ⟨q, z, rfl, hk3⟩ := rvInt_inv hk2
  obtain ⟨j, rfl, hk4⟩ := iNat_inv hk3
  obtain ⟨d, hu, hk5⟩ := undK_inv p hk4
  have hmx : x ∈ o.op.operands := by simp [ho, Op.operands]
  have hmi : ix ∈ o.op.operands := by simp [ho, Op.operands]
  rcases iff_inv hk5 with ⟨hd, hk6⟩ | ⟨hd, hk6⟩
  · cases kind3 hd
    obtain ⟨m, len, rfl, hw, hk7⟩ := rvStr_inv hk6
    obtain ⟨hlt, hk8⟩ := iff_t hk7
    rw [natF_eq] at hk8
    have hlt : j < len := by simpa [Nat.blt_eq] using hlt
    refine ⟨_, hk8, fun F δ W E hR hE => ⟨_, by simp only [dec]; rfl, fun qq => Yields.of fun rd X kn kb kdd hkb => ?_⟩⟩
    unfold vcOpV
    rw [ho]
    refine ⟨kVal_pure (fun w => ?_) hkb⟩
    rw [dec_str hw (hv δ E _ hE hmx), dec_int (hiv δ E _ hE hmi)]
    rw [run_index_string w t _ q j hu, dif_pos (by rw [strOf_size]; omega)]
    exact congrArg (fun n : Nat => Result.ok (Value.int .u8 (n : Int)) w) (strOf_get (n := m) (k := len) (i := j) (by rw [strOf_size]; exact hlt))
  · obtain ⟨len, el, rfl, hk7⟩ := tdArr_inv hk6
    obtain ⟨cs, rfl, hk8⟩ := rvAgg_inv hk7
    obtain ⟨hlt, hk9⟩ := iff_t hk8
    obtain ⟨ti, hti, hk10⟩ := sizeK_inv p hk9
    obtain ⟨r, hk11, hr⟩ := partK_ok p hk10
    have hlt : j < len := by simpa [Nat.blt_eq] using hlt
    refine ⟨r, hk11, fun F δ W E hR hE => ?_⟩
    obtain ⟨us, hus, ha⟩ := dec_agg (hv δ E _ hE hmx)
    obtain ⟨y, hy, hrun⟩ := hr δ us hus
    refine ⟨y, hy, fun q => Yields.of fun rd X kn kb kdd hkb => ?_⟩
    unfold vcOpV
    rw [ho]
    refine ⟨kVal_pure (fun w => ?_) hkb⟩
    rw [ha, dec_int (hiv δ E _ hE hmi)]
    have hc : (0 : Int) ≤ (j : Int) ∧ (j : Int) < (len : Int) := by omega
    simp only [Instr.index, asIntOf, Sem.run_bind, Sem.run_pure, Result.andThen_ok, run_underlying hu, if_pos hc, sizeOf_run hti, Int.toNat_natCast]
    exact hrun w
end
end Go.L.Ev
namespace Go.L.Ev
open Go Go.RowKit
variable [Ext]
set_option linter.unusedSimpArgs false
set_option linter.unusedVariables false
section
variable {P : Program} {ty : TyT} {fu : FuT}

/-- A bound of a slice: what the operand tells. -/
theorem bnd_inv {x : Option Operand} {dflt : Nat} {e : VE} {κ : Nat → Bool} (h : bnd x dflt e κ = true) : ∃ n, κ n = true ∧
    ((x = none ∧ n = dflt) ∨ ∃ y, x = some y ∧ ∀ δ E xs, EnvO δ e E xs → y ∈ xs → ∃ q, ev E y = .int q n) := by
  cases x with
  | none => exact ⟨dflt, h, .inl ⟨rfl, rfl⟩⟩
  | some y =>
    obtain ⟨v, h1, hv⟩ := opd_o (κ := fun v => rvInt v fun _ n => iNat n κ) h
    obtain ⟨q, z, rfl, h2⟩ := rvInt_inv h1
    obtain ⟨n, rfl, h3⟩ := iNat_inv h2
    exact ⟨n, h3, .inr ⟨y, rfl, fun δ E xs hE hy => ⟨q, dec_int (hv δ E xs hE hy)⟩⟩⟩
/-- What a bound is, as a value. -/
def BV (x : Option Value) (dflt n : Nat) : Prop := (x = none ∧ n = dflt) ∨ ∃ q, x = some (.int q n)
theorem BV.of {x : Option Operand} {dflt n : Nat} {δ : Pl} {e : VE} {E : Env} {xs : Array Operand} (h : (x = none ∧ n = dflt) ∨ ∃ y, x = some y ∧ ∀ δ E xs, EnvO δ e E xs → y ∈ xs → ∃ q, ev E y = .int q n) (hE : EnvO δ e E xs) (hx : ∀ y, x = some y → y ∈ xs) : BV (x.map (ev E)) dflt n := by
  rcases h with ⟨rfl, rfl⟩ | ⟨y, rfl, hy⟩
  · exact .inl ⟨rfl, rfl⟩
  · obtain ⟨q, hq⟩ := hy δ E xs hE (hx y rfl)
    exact .inr ⟨q, by simp [hq]⟩
theorem bounds_run {isS : Bool} {len cap : Nat} {lo hi mx : Option Value} {l r m : Nat} (hl : BV lo 0 l) (hr : BV hi len r) (hm : BV mx cap m) (hx : mx = none ∨ hi.isSome = true) (h1 : l ≤ r) (h2 : r ≤ m) (h3 : m ≤ cap) (w : World) :
    (Instr.sliceBounds isS len cap lo hi mx).run P w = .ok (l, r, m) w := by
  have sb : ∀ (k : IntKind) (i y : Nat) (code : BoundsCode) (w : World), i ≤ y → (Instr.sliceBound (.int k i) y code).run P w = .ok i w := fun k i y code w hi => by
    rw [run_sliceBound w k i y code (by omega) (by omega)]; rfl
  rcases hm with ⟨rfl, rfl⟩ | ⟨qm, rfl⟩
  · rcases hr with ⟨rfl, rfl⟩ | ⟨qr, rfl⟩
    · rcases hl with ⟨rfl, rfl⟩ | ⟨ql, rfl⟩
      · simp [Instr.sliceBounds]
      · simp [Instr.sliceBounds, sb _ _ _ _ _ h1]
    · rcases hl with ⟨rfl, rfl⟩ | ⟨ql, rfl⟩
      · simp [Instr.sliceBounds, sb _ _ _ _ _ h2]
      · simp [Instr.sliceBounds, sb _ _ _ _ _ h2, sb _ _ _ _ _ h1]
  · rcases hr with ⟨rfl, rfl⟩ | ⟨qr, rfl⟩
    · simp at hx
    · rcases hl with ⟨rfl, rfl⟩ | ⟨ql, rfl⟩
      · simp [Instr.sliceBounds, sb _ _ _ _ _ h3, sb _ _ _ _ _ h2]
      · simp [Instr.sliceBounds, sb _ _ _ _ _ h3, sb _ _ _ _ _ h2, sb _ _ _ _ _ h1]
theorem optIs_f {α : Type} {x : Option α} (h : optIs x = false) : x = none := by cases x <;> first | rfl | exact absurd (show true = false from h) (by decide)
theorem optIs_t {α : Type} {x : Option α} (h : optIs x = true) : x.isSome = true := by cases x <;> first | rfl | exact absurd (show false = true from h) (by decide)
theorem slice_row {t e : TypeId} {ti : TypeInfo} (hu : P.underlying t = some (.slice e)) (hti : P.info? e = some ti) {a : Option Addr} {len cap : Nat} {lo hi mx : Option Value} {l r m : Nat}
    (hb : ∀ w, (Instr.sliceBounds true len cap lo hi mx).run P w = .ok (l, r, m) w) (w : World) :
    (Instr.sliceAt t (.slice a len cap) lo hi mx).run P w = .ok (.slice (if m = l then a else a.map (·.add (l * ti.size))) (r - l) (m - l)) w := by
  have he : P.elem t = e := by simp [Program.elem, hu]
  rw [run_sliceAt_slice w t _ lo hi mx (by rw [he]; exact hu), run_slice_any w t a len cap (by rw [he]; exact hu), hb]
  simp only [Result.andThen, he, sizeOf_run hti, sliced]
theorem slice_str {t : TypeId} (hu : P.underlying t = some .string) {s : ByteArray} {lo hi : Option Value} {l r m : Nat} (hb : ∀ w, (Instr.sliceBounds false s.size s.size lo hi none).run P w = .ok (l, r, m) w) (w : World) :
    (Instr.sliceAt t (.string s) lo hi none).run P w = .ok (.string (s.extract l r)) w := by
  rw [run_sliceAt_string w t _ lo hi none hu]
  simp only [Instr.slice, Sem.run_bind, run_underlying hu, Result.andThen_ok, Option.isSome_none, Bool.false_eq_true, if_false, hb, Sem.run_pure]
theorem strOf_extract {m i l r : Nat} (h1 : l ≤ r) (h2 : r ≤ i) : (strOf m i).extract l r = strOf (m / 256 ^ l % 256 ^ (r - l)) (r - l) := by
  apply ByteArray.ext
  apply Array.toList_inj.1
  rw [ByteArray.data_extract]
  show ((bytesOf i m).toArray.extract l r).toList = bytesOf (r - l) _
  rw [bytesOf_mod, Array.toList_extract]
  have := bytesOf_drop l (i - l) m
  rw [show l + (i - l) = i by omega] at this
  have h3 := bytesOf_take (r - l) (i - l) (m / 256 ^ l) (by omega)
  rw [← this] at h3
  simpa [List.extract_eq_take_drop] using h3
end
end Go.L.Ev
namespace Go.L.Ev
open Go Go.RowKit
variable [Ext]
set_option linter.unusedSimpArgs false
set_option linter.unusedVariables false
section
variable {P : Program} {ty : TyT} {fu : FuT}

theorem iff_or {a b x : Bool} (h : iff (bOr a b) x false = true) : (a = true ∨ b = true) ∧ x = true := by
  obtain ⟨h1, h2⟩ := iff_t h
  rw [bOr_eq] at h1
  exact ⟨by simpa using h1, h2⟩
theorem mx_ok {mx hi : Option Operand} {E : Env} (h : bNot (optIs mx) = true ∨ optIs hi = true) : mx.map (ev E) = none ∨ (hi.map (ev E)).isSome = true := by
  rcases h with h | h
  · left
    rw [bNot_eq] at h
    have hn : mx = none := optIs_f (by simpa using h)
    rw [hn]; rfl
  · right
    have := optIs_t h
    simpa using this
theorem add_mul (b off l s : Nat) : (⟨b, off, none⟩ : Addr).add (l * s) = ⟨b, off + l * s, none⟩ := Addr.add_mid b off (l * s)
theorem oSl_ok (p : Pg P ty fu) {o : Oper} {t : TypeId} {x : Operand} {lo hi mx : Option Operand} (ho : o.op = .slice t x lo hi mx) {call e h k kd kp} (hk : oSl t x lo hi mx ty call e h k kd kp = true) : ∃ r, k r h = true ∧ QAns P o e h r := by
  obtain ⟨v, hk1, hv⟩ := opd_o hk
  have hmx : x ∈ o.op.operands := by simp [ho, Op.operands]
  have hlo : ∀ y, lo = some y → y ∈ o.op.operands := fun y hy => by simp [ho, Op.operands, hy]
  have hhi : ∀ y, hi = some y → y ∈ o.op.operands := fun y hy => by simp [ho, Op.operands, hy]
  have hmm : ∀ y, mx = some y → y ∈ o.op.operands := fun y hy => by simp [ho, Op.operands, hy]
  have fin : ∀ r, k r h = true → (∀ F δ W E, RelA F δ h W → EnvO δ e E o.op.operands → ∃ y, dec δ r = some y ∧ ∀ w, (Instr.sliceAt t (ev E x) (lo.map (ev E)) (hi.map (ev E)) (mx.map (ev E))).run P w = .ok y w) → ∃ r, k r h = true ∧ QAns P o e h r := by
    intro r hkr hr
    refine ⟨r, hkr, fun F δ W E hR hE => ?_⟩
    obtain ⟨y, hy, hrun⟩ := hr F δ W E hR hE
    refine ⟨y, hy, fun q => Yields.of fun rd X kn kb kdd hkb => ?_⟩
    unfold vcOpV
    rw [ho]
    exact ⟨kVal_pure hrun hkb⟩
  cases v with
  | str m i =>
    have hk1 : (undK ty t fun td => iff (Nat.beq (kindD td) 3) (iff (bOr (optIs mx) (bNot (strB m i))) false (bnd lo 0 e fun l => bnd hi i e fun r => iff (Nat.ble l r) (iff (Nat.ble r i) (natF (Nat.sub r l) fun n => natF (Nat.mod (Nat.div m (Nat.pow 256 l)) (Nat.pow 256 n)) fun m => k (.str m n) h) false) false)) false) = true := hk1
    obtain ⟨d, hu, h1⟩ := undK_inv p hk1
    obtain ⟨hd, h2⟩ := iff_t h1
    cases kind3 hd
    obtain ⟨hm, h3⟩ := iff_f h2
    rw [bOr_eq, bNot_eq] at hm
    have hm1 : optIs mx = false := by cases hh : optIs mx <;> simp_all
    have hw : strW m i := strB_w (by cases hh : strB m i <;> simp_all)
    cases optIs_f hm1
    obtain ⟨l, h4, hl⟩ := bnd_inv h3
    obtain ⟨r, h5, hr⟩ := bnd_inv h4
    obtain ⟨h6, h7⟩ := iff_t h5
    obtain ⟨h8, h9⟩ := iff_t h7
    rw [natF_eq, natF_eq] at h9
    have h6 : l ≤ r := Nat.le_of_ble_eq_true h6
    have h8 : r ≤ i := Nat.le_of_ble_eq_true h8
    refine fin _ h9 fun F δ W E hR hE => ⟨.string ((strOf m i).extract l r), ?_, fun w => ?_⟩
    · rw [strOf_extract h6 h8]; exact str_dec (fun e => by
        have e' : r - l = 0 := e
        show m / 256 ^ l % 256 ^ (r - l) = 0
        rw [e']
        exact Nat.mod_one _)
    · rw [dec_str hw (hv δ E _ hE hmx)]
      refine slice_str (m := i) hu (fun w => ?_) w
      have hr' := BV.of hr hE hhi
      rw [strOf_size]
      exact bounds_run (m := i) (BV.of hl hE hlo) hr' (.inl ⟨rfl, rfl⟩) (.inl rfl) h6 h8 (Nat.le_refl _) w
  | nils =>
    have hk1 : (undK ty t fun td => tdSlice td fun el => sizeK ty el fun _ => iff (bOr (bNot (optIs mx)) (optIs hi)) (bnd lo 0 e fun l => bnd hi 0 e fun r => bnd mx 0 e fun mm => iff (Nat.beq l 0) (iff (Nat.beq r 0) (iff (Nat.beq mm 0) (k .nils h) false) false) false) false) = true := hk1
    obtain ⟨d, hu, h1⟩ := undK_inv p hk1
    obtain ⟨el, rfl, h2⟩ := tdSlice_inv h1
    obtain ⟨ti, hti, h3⟩ := sizeK_inv p h2
    obtain ⟨hx, h4⟩ := iff_or h3
    obtain ⟨l, h5, hl⟩ := bnd_inv h4
    obtain ⟨r, h6, hr⟩ := bnd_inv h5
    obtain ⟨mm, h7, hm⟩ := bnd_inv h6
    obtain ⟨e1, h8⟩ := iff_t h7
    obtain ⟨e2, h9⟩ := iff_t h8
    obtain ⟨e3, h10⟩ := iff_t h9
    cases Nat.eq_of_beq_eq_true e1; cases Nat.eq_of_beq_eq_true e2; cases Nat.eq_of_beq_eq_true e3
    refine fin _ h10 fun F δ W E hR hE => ⟨.slice none 0 0, by simp only [dec], fun w => ?_⟩
    have ha := hv δ E _ hE hmx
    simp only [dec, Option.some.injEq] at ha
    rw [← ha, slice_row hu hti (fun w => bounds_run (BV.of hl hE hlo) (BV.of hr hE hhi) (BV.of hm hE hmm) (mx_ok hx) (Nat.le_refl 0) (Nat.le_refl 0) (Nat.le_refl 0) w) w]
    simp
  | asl i off len cap =>
    have hk1 : (undK ty t fun td => tdSlice td fun el => sizeK ty el fun sz => iff (bOr (bNot (optIs mx)) (optIs hi)) (bnd lo 0 e fun l => bnd hi len e fun r => bnd mx cap e fun mm => iff (Nat.ble mm cap) (iff (Nat.ble l r) (iff (Nat.ble r mm) (natF (Nat.sub r l) fun n => natF (Nat.sub mm l) fun cap' => iff (Nat.beq cap' 0) (k (.asl i off n cap') h) (natF (Nat.add off (Nat.mul l sz)) fun off' => k (.asl i off' n cap') h)) false) false) false) false) = true := hk1
    obtain ⟨d, hu, h1⟩ := undK_inv p hk1
    obtain ⟨el, rfl, h2⟩ := tdSlice_inv h1
    obtain ⟨ti, hti, h3⟩ := sizeK_inv p h2
    obtain ⟨hx, h4⟩ := iff_or h3
    obtain ⟨l, h5, hl⟩ := bnd_inv h4
    obtain ⟨r, h6, hr⟩ := bnd_inv h5
    obtain ⟨mm, h7, hm⟩ := bnd_inv h6
    obtain ⟨e1, h8⟩ := iff_t h7
    obtain ⟨e2, h9⟩ := iff_t h8
    obtain ⟨e3, h10⟩ := iff_t h9
    have e1 : mm ≤ cap := Nat.le_of_ble_eq_true e1
    have e2 : l ≤ r := Nat.le_of_ble_eq_true e2
    have e3 : r ≤ mm := Nat.le_of_ble_eq_true e3
    rw [natF_eq, natF_eq] at h10
    have run : ∀ F δ W E, RelA F δ h W → EnvO δ e E o.op.operands → ∃ b c, δ i = some (b, c) ∧ ∀ w, (Instr.sliceAt t (ev E x) (lo.map (ev E)) (hi.map (ev E)) (mx.map (ev E))).run P w = .ok (.slice (if mm = l then some ⟨b, off, none⟩ else some ⟨b, off + l * ti.size, none⟩) (r - l) (mm - l)) w := by
      intro F δ W E hR hE
      have ha := hv δ E _ hE hmx
      simp only [dec, Option.map_eq_some_iff] at ha
      obtain ⟨⟨b, c⟩, hb, ha⟩ := ha
      refine ⟨b, c, hb, fun w => ?_⟩
      rw [← ha, slice_row hu hti (fun w => bounds_run (BV.of hl hE hlo) (BV.of hr hE hhi) (BV.of hm hE hmm) (mx_ok hx) e2 e3 e1 w) w]
      simp only [Option.map_some, add_mul]
    rcases iff_inv h10 with ⟨e4, h11⟩ | ⟨e4, h11⟩
    · have e4 : mm - l = 0 := Nat.eq_of_beq_eq_true e4
      refine fin _ h11 fun F δ W E hR hE => ?_
      obtain ⟨b, c, hb, hrun⟩ := run F δ W E hR hE
      refine ⟨.slice (some ⟨b, off, none⟩) (r - l) (mm - l), by simp only [dec, hb]; rfl, fun w => ?_⟩
      rw [hrun, if_pos (by omega)]
    · have e4 : mm - l ≠ 0 := fun e => by
        have : Nat.beq (mm - l) 0 = false := e4
        rw [e] at this; cases this
      rw [natF_eq] at h11
      refine fin _ h11 fun F δ W E hR hE => ?_
      obtain ⟨b, c, hb, hrun⟩ := run F δ W E hR hE
      refine ⟨.slice (some ⟨b, off + l * ti.size, none⟩) (r - l) (mm - l), by simp only [dec, hb]; rfl, fun w => ?_⟩
      rw [hrun, if_neg (by omega)]
  | ptr i off =>
    have hk1 : (undK ty t fun td => tdArr td fun n el => iff (optIs mx) false (bnd lo 0 e fun l => bnd hi n e fun r => iff (Nat.ble l r) (iff (Nat.ble r n) (sizeK ty el fun sz => natF (Nat.sub r l) fun len => natF (Nat.sub n l) fun cap => iff (Nat.beq cap 0) (k (.asl i off len cap) h) (natF (Nat.add off (Nat.mul l sz)) fun off' => k (.asl i off' len cap) h)) false) false)) = true := hk1
    obtain ⟨d, hu, h1⟩ := undK_inv p hk1
    obtain ⟨n, el, rfl, h2⟩ := tdArr_inv h1
    obtain ⟨hm, h3⟩ := iff_f h2
    cases optIs_f hm
    obtain ⟨l, h5, hl⟩ := bnd_inv h3
    obtain ⟨r, h6, hr⟩ := bnd_inv h5
    obtain ⟨e2, h7⟩ := iff_t h6
    obtain ⟨e3, h8⟩ := iff_t h7
    obtain ⟨ti, hti, h10⟩ := sizeK_inv p h8
    have e2 : l ≤ r := Nat.le_of_ble_eq_true e2
    have e3 : r ≤ n := Nat.le_of_ble_eq_true e3
    rw [natF_eq, natF_eq] at h10
    have run : ∀ F δ W E, RelA F δ h W → EnvO δ e E o.op.operands → ∃ b c, δ i = some (b, c) ∧ ∀ w, (Instr.sliceAt t (ev E x) (lo.map (ev E)) (hi.map (ev E)) none).run P w = .ok (.slice (if n = l then some ⟨b, off, none⟩ else some ⟨b, off + l * ti.size, none⟩) (r - l) (n - l)) w := by
      intro F δ W E hR hE
      have ha := hv δ E _ hE hmx
      simp only [dec, Option.map_eq_some_iff] at ha
      obtain ⟨⟨b, c⟩, hb, ha⟩ := ha
      refine ⟨b, c, hb, fun w => ?_⟩
      have hbr := bounds_run (P := P) (isS := false) (m := n) (BV.of hl hE hlo) (BV.of hr hE hhi) (.inl ⟨rfl, rfl⟩) (.inl rfl) e2 e3 (Nat.le_refl _)
      rw [← ha]
      simp only [Instr.sliceAt, Sem.run_bind, run_underlying hu, Result.andThen_ok, Instr.sureAddr, Sem.run_pure, hbr, sizeOf_run hti, add_mul]
      split <;> rfl
    rcases iff_inv h10 with ⟨e4, h11⟩ | ⟨e4, h11⟩
    · have e4 : n - l = 0 := Nat.eq_of_beq_eq_true e4
      refine fin _ h11 fun F δ W E hR hE => ?_
      obtain ⟨b, c, hb, hrun⟩ := run F δ W E hR hE
      refine ⟨.slice (some ⟨b, off, none⟩) (r - l) (n - l), by simp only [dec, hb]; rfl, fun w => ?_⟩
      rw [Option.map_none, hrun, if_pos (by omega)]
    · have e4 : n - l ≠ 0 := fun e => by
        have : Nat.beq (n - l) 0 = false := e4
        rw [e] at this; cases this
      rw [natF_eq] at h11
      refine fin _ h11 fun F δ W E hR hE => ?_
      obtain ⟨b, c, hb, hrun⟩ := run F δ W E hR hE
      refine ⟨.slice (some ⟨b, off + l * ti.size, none⟩) (r - l) (n - l), by simp only [dec, hb]; rfl, fun w => ?_⟩
      rw [Option.map_none, hrun, if_neg (by omega)]
  | slc i off ce len =>
    have hk1 : (undK ty t fun td => tdSlice td fun el => sizeK ty el fun sz => bnd lo 0 e fun l => bnd hi len e fun r => iff (Nat.ble l r)
      (iff (optIs mx) (iff (optIs hi) (bnd mx 0 e fun mm => iff (Nat.ble r mm) (iff (Nat.ble mm len) (natF (Nat.sub r l) fun n => natF (Nat.sub mm l) fun cap => iff (Nat.beq cap 0) (k (.asl i off n cap) h) (natF (Nat.add off (Nat.mul l sz)) fun off' => k (.asl i off' n cap) h)) false) false) false)
        (iff (Nat.ble r len) (iff (bOr (Nat.blt l len) (Nat.beq l 0)) (natF (Nat.add off (Nat.mul l sz)) fun off' => natF (Nat.add ce l) fun ce' => natF (Nat.sub r l) fun n => k (.slc i off' ce' n) h) (k (.emp i off ce l sz) h))
          (obRow h i fun _ _ n _ => iff (Nat.ble (Nat.add ce r) n) (iff (Nat.blt l r) (natF (Nat.add off (Nat.mul l sz)) fun off' => natF (Nat.add ce l) fun ce' => natF (Nat.sub r l) fun n => k (.slc i off' ce' n) h) false) false))) false) = true := hk1
    obtain ⟨d, hu, h1⟩ := undK_inv p hk1
    obtain ⟨el, rfl, h2⟩ := tdSlice_inv h1
    obtain ⟨ti, hti, h3⟩ := sizeK_inv p h2
    obtain ⟨l, h5, hl⟩ := bnd_inv h3
    obtain ⟨r, h6, hr⟩ := bnd_inv h5
    obtain ⟨e2, h7⟩ := iff_t h6
    have e2 : l ≤ r := Nat.le_of_ble_eq_true e2
    have run : ∀ F δ W E, RelA F δ h W → EnvO δ e E o.op.operands → ∀ (_ : Nat), mx = none → (∀ b c, δ i = some (b, c) → ce + len ≤ c → r ≤ c - ce) → ∃ b c, δ i = some (b, c) ∧ ce + len ≤ c ∧ ∀ w, (Instr.sliceAt t (ev E x) (lo.map (ev E)) (hi.map (ev E)) (mx.map (ev E))).run P w = .ok (.slice (if c - ce = l then some ⟨b, off, none⟩ else some ⟨b, off + l * ti.size, none⟩) (r - l) (c - ce - l)) w := by
      intro F δ W E hR hE _ hmn hrc
      subst hmn
      obtain ⟨b, c, hb, hle, ha⟩ := dec_slc (hv δ E _ hE hmx)
      refine ⟨b, c, hb, hle, fun w => ?_⟩
      rw [ha, Option.map_none, slice_row hu hti (fun w => bounds_run (m := c - ce) (BV.of hl hE hlo) (BV.of hr hE hhi) (.inl ⟨rfl, rfl⟩) (.inl rfl) e2 (hrc b c hb hle) (Nat.le_refl _) w) w]
      simp only [Option.map_some, add_mul]
    rcases iff_inv h7 with ⟨hx, h8⟩ | ⟨hx, h8⟩
    · obtain ⟨hh, h9⟩ := iff_t h8
      obtain ⟨mm, h10, hm⟩ := bnd_inv h9
      obtain ⟨e3, h11⟩ := iff_t h10
      obtain ⟨e4, h12⟩ := iff_t h11
      have e3 : r ≤ mm := Nat.le_of_ble_eq_true e3
      have e4 : mm ≤ len := Nat.le_of_ble_eq_true e4
      have hm' : ∃ y, mx = some y ∧ ∀ δ E xs, EnvO δ e E xs → y ∈ xs → ∃ q, ev E y = .int q mm := by
        rcases hm with ⟨rfl, _⟩ | hm
        · exact absurd (show false = true from hx) (by decide)
        · exact hm
      rw [natF_eq, natF_eq] at h12
      have run2 : ∀ F δ W E, RelA F δ h W → EnvO δ e E o.op.operands → ∃ b c, δ i = some (b, c) ∧ ∀ w, (Instr.sliceAt t (ev E x) (lo.map (ev E)) (hi.map (ev E)) (mx.map (ev E))).run P w = .ok (.slice (if mm = l then some ⟨b, off, none⟩ else some ⟨b, off + l * ti.size, none⟩) (r - l) (mm - l)) w := by
        intro F δ W E hR hE
        obtain ⟨b, c, hb, hle, ha⟩ := dec_slc (hv δ E _ hE hmx)
        refine ⟨b, c, hb, fun w => ?_⟩
        obtain ⟨y, hy, hy2⟩ := hm'
        obtain ⟨qm, hqm⟩ := hy2 δ E _ hE (hmm y hy)
        have hmv : BV (mx.map (ev E)) (c - ce) mm := .inr ⟨qm, by rw [hy]; simp [hqm]⟩
        rw [ha, slice_row hu hti (fun w => bounds_run (BV.of hl hE hlo) (BV.of hr hE hhi) hmv (mx_ok (.inr hh)) e2 e3 (by omega) w) w]
        simp only [Option.map_some, add_mul]
      rcases iff_inv h12 with ⟨e5, h13⟩ | ⟨e5, h13⟩
      · have e5 : mm - l = 0 := Nat.eq_of_beq_eq_true e5
        refine fin _ h13 fun F δ W E hR hE => ?_
        obtain ⟨b, c, hb, hrun⟩ := run2 F δ W E hR hE
        refine ⟨.slice (some ⟨b, off, none⟩) (r - l) (mm - l), by simp only [dec, hb]; rfl, fun w => ?_⟩
        rw [hrun, if_pos (by omega)]
      · have e5 : mm - l ≠ 0 := fun e => by
          have : Nat.beq (mm - l) 0 = false := e5
          rw [e] at this; cases this
        rw [natF_eq] at h13
        refine fin _ h13 fun F δ W E hR hE => ?_
        obtain ⟨b, c, hb, hrun⟩ := run2 F δ W E hR hE
        refine ⟨.slice (some ⟨b, off + l * ti.size, none⟩) (r - l) (mm - l), by simp only [dec, hb]; rfl, fun w => ?_⟩
        rw [hrun, if_neg (by omega)]
    · have hxn := optIs_f hx
      rcases iff_inv h8 with ⟨e3, h9⟩ | ⟨e3, h9⟩
      · have e3 : r ≤ len := Nat.le_of_ble_eq_true e3
        rcases iff_inv h9 with ⟨e4, h10⟩ | ⟨e4, h10⟩
        · rw [bOr_eq] at e4
          have e4 : l < len ∨ l = 0 := by simpa [Nat.blt_eq] using e4
          rw [natF_eq, natF_eq, natF_eq] at h10
          refine fin _ h10 fun F δ W E hR hE => ?_
          obtain ⟨b, c, hb, hle, hrun⟩ := run F δ W E hR hE 0 hxn fun b c _ hle => by omega
          refine ⟨_, slc_dec hb (ce := ce + l) (len := r - l) (by omega), fun w => ?_⟩
          rw [hrun]
          congr 2
          · by_cases hc : c - ce = l
            · have : l = 0 := by omega
              rw [if_pos hc, this]; simp
            · rw [if_neg hc]; rfl
          · omega
        · rw [bOr_eq] at e4
          have e4 : ¬ (l < len) := fun hlt => by
            have h' : Nat.blt l len = true := by simpa [Nat.blt_eq] using hlt
            rw [h'] at e4; cases e4
          refine fin _ h10 fun F δ W E hR hE => ?_
          obtain ⟨b, c, hb, hle, hrun⟩ := run F δ W E hR hE 0 hxn fun b c _ hle => by omega
          have hrl : r - l = 0 := by omega
          by_cases hc : c - ce = l
          · refine ⟨.slice (some ⟨b, off, none⟩) 0 0, by simp only [dec, hb, Option.map_some, if_pos hc], fun w => ?_⟩
            rw [hrun, if_pos hc, hrl, show c - ce - l = 0 by omega]
          · refine ⟨.slice (some ⟨b, off + l * ti.size, none⟩) 0 (c - ce - l), by simp only [dec, hb, Option.map_some, if_neg hc], fun w => ?_⟩
            rw [hrun, if_neg hc, hrl]
      · obtain ⟨e', s', n', cs', hob, h10⟩ := obRow_inv h9
        obtain ⟨e4, h11⟩ := iff_t h10
        obtain ⟨e5, h12⟩ := iff_t h11
        rw [natF_eq, natF_eq, natF_eq] at h12
        have e4 : ce + r ≤ n' := Nat.le_of_ble_eq_true e4
        have e5 : l < r := by simpa [Nat.blt_eq] using e5
        refine fin _ h12 fun F δ W E hR hE => ?_
        have hcap : ∀ b c, δ i = some (b, c) → n' ≤ c := by
          intro b c hb
          obtain ⟨b', c', hb', _, vs, _, hO⟩ := hR.get hob (by simp)
          rw [hb] at hb'; cases hb'
          rcases hO.2 with ⟨hv, _⟩ | ⟨g, cap, cur, hv, _, _, hnc, _⟩
          · cases hv
          · cases hv; exact hnc
        obtain ⟨b, c, hb, hle, hrun⟩ := run F δ W E hR hE 0 hxn fun b c hb hle => by have := hcap b c hb; omega
        have := hcap b c hb
        refine ⟨_, slc_dec hb (ce := ce + l) (len := r - l) (by omega), fun w => ?_⟩
        rw [hrun, if_neg (by omega)]
        congr 2
        omega
  | _ => exact absurd (show false = true from hk1) (by decide)
end
end Go.L.Ev
namespace Go.L.Ev
open Go Go.RowKit
variable [Ext]
set_option linter.unusedSimpArgs false
set_option linter.unusedVariables false
section
variable {P : Program} {ty : TyT} {fu : FuT}

theorem foldl_setLs (off : Nat) : ∀ (l : List Value) (k : Nat) (cs : Array Value), (l.zipIdx k).foldl (fun cs (x : Value × Nat) => cs.setIfInBounds (off + x.2) x.1) cs = setLs cs (off + k) l
  | [], k, cs => rfl
  | v :: l, k, cs => by
    simp only [List.zipIdx_cons, List.foldl_cons, setLs]
    rw [foldl_setLs off l (k + 1)]
    rfl
theorem fill_step (place : Nat → Option (Nat × Nat)) (cells : List Value) (i off : Nat) (v : Value) (rest : List (Nat × Value)) (hp : place i = some (off, v.cells.size)) (hl : off + v.cells.size ≤ cells.length) :
    Instr.fill place cells.toArray ((i, v) :: rest) = Instr.fill place (cells.take off ++ v.cells.toList ++ cells.drop (off + v.cells.size)).toArray rest := by
  rw [Instr.fill]
  simp only [hp]
  rw [if_neg (by simp; omega)]
  congr 1
  have h1 := foldl_setLs off v.cells.toList 0 cells.toArray
  rw [Nat.add_zero] at h1
  have hs : cells = cells.take off ++ (cells.drop off).take v.cells.size ++ cells.drop (off + v.cells.size) := by
    rw [← List.drop_drop, List.append_assoc, List.take_append_drop, List.take_append_drop]
  have h2 := setLs_mid v.cells.toList ((cells.drop off).take v.cells.size) (cells.take off) (cells.drop (off + v.cells.size)) (by simp; omega)
  rw [show (cells.take off).length = off by simp; omega, ← hs] at h2
  rw [← h2, ← h1, ← Array.foldl_toList, Array.toList_zipIdx]
theorem buildS_ok (p : Pg P ty fu) {fs : List Field} {e : VE} {place : Nat → Option (Nat × Nat)} (hpl : ∀ i f ti, fs[i]? = some f → P.info? f.type = some ti → place i = some (f.offset, ti.size)) :
    ∀ (ps : List (Nat × Operand)) (cs : List RV) (κ : List RV → Bool), buildS ty fs e ps cs κ = true → ∃ r, κ r = true ∧ ∀ δ E xs us, EnvO δ e E xs → (∀ q ∈ ps, q.2 ∈ xs) → decL δ cs = some us →
      ∃ vs, decL δ r = some vs ∧ Instr.fill place us.toArray (ps.map fun q => (q.1, ev E q.2)) = some vs.toArray
  | [], cs, κ, h => ⟨cs, h, fun δ E xs us _ _ hus => ⟨us, hus, rfl⟩⟩
  | (i, x) :: ps, cs, κ, h => by
    have h : (nthK fs i fun f => sizeK ty f.type fun n => opd x e fun v => iff (lenIs (cellsR v) n) (spliceK cs f.offset (cellsR v) fun cs' => buildS ty fs e ps cs' κ) false) = true := h
    obtain ⟨f, hf, h1⟩ := nthK_inv h
    obtain ⟨ti, hti, h2⟩ := sizeK_inv p h1
    obtain ⟨v, h3, hv⟩ := opd_o h2
    obtain ⟨hlen, h4⟩ := iff_t h3
    obtain ⟨hle, h5⟩ := spliceK_inv h4
    obtain ⟨r, h6, hr⟩ := buildS_ok p hpl ps _ κ h5
    refine ⟨r, h6, fun δ E xs us hE hx hus => ?_⟩
    have hd := hv δ E xs hE (hx _ (List.mem_cons_self ..))
    have hc := dec_cells hd
    have hn := decL_len hc
    have hl := lenIs_inv hlen
    have hul := decL_len hus
    have hsz : (ev E x).cells.size = ti.size := by simp at hn; omega
    obtain ⟨vs, hvs, hfill⟩ := hr δ E xs _ hE (fun q hq => hx q (List.mem_cons_of_mem _ hq)) (decL_splice f.offset hus hc)
    refine ⟨vs, hvs, ?_⟩
    rw [List.map_cons, fill_step place us i f.offset (ev E x) _ (by rw [hsz]; exact hpl i f ti hf hti) (by omega)]
    simpa using hfill
theorem buildA_ok {s n : Nat} {e : VE} :
    ∀ (ps : List (Nat × Operand)) (cs : List RV) (κ : List RV → Bool), buildA s n e ps cs κ = true → ∃ r, κ r = true ∧ ∀ δ E xs us, EnvO δ e E xs → (∀ q ∈ ps, q.2 ∈ xs) → decL δ cs = some us →
      ∃ vs, decL δ r = some vs ∧ Instr.fill (fun i => some (i * s, s)) us.toArray (ps.map fun q => (q.1, ev E q.2)) = some vs.toArray
  | [], cs, κ, h => ⟨cs, h, fun δ E xs us _ _ hus => ⟨us, hus, rfl⟩⟩
  | (i, x) :: ps, cs, κ, h => by
    have h : (opd x e fun v => iff (lenIs (cellsR v) s) (iff (Nat.blt i n) (spliceK cs (Nat.mul i s) (cellsR v) fun cs' => buildA s n e ps cs' κ) false) false) = true := h
    obtain ⟨v, h3, hv⟩ := opd_o h
    obtain ⟨hlen, h4⟩ := iff_t h3
    obtain ⟨_, h4⟩ := iff_t h4
    obtain ⟨hle, h5⟩ := spliceK_inv h4
    obtain ⟨r, h6, hr⟩ := buildA_ok ps _ κ h5
    refine ⟨r, h6, fun δ E xs us hE hx hus => ?_⟩
    have hd := hv δ E xs hE (hx _ (List.mem_cons_self ..))
    have hc := dec_cells hd
    have hn := decL_len hc
    have hl := lenIs_inv hlen
    have hul := decL_len hus
    have hsz : (ev E x).cells.size = s := by simp at hn; omega
    have hle : i * s + (cellsR v).length ≤ cs.length := hle
    obtain ⟨vs, hvs, hfill⟩ := hr δ E xs _ hE (fun q hq => hx q (List.mem_cons_of_mem _ hq)) (decL_splice (i * s) hus hc)
    refine ⟨vs, hvs, ?_⟩
    rw [List.map_cons, fill_step _ us i (i * s) (ev E x) _ (by simp [hsz]) (by omega)]
    simpa using hfill
theorem places_ok (fs : List Field) (h : ∀ f ∈ fs, (P.info? f.type).isSome = true) : ∃ places, fs.mapM (fun f => (P.info? f.type).map fun i => (f.offset, i.size)) = some places ∧ ∀ (i : Nat) (f : Field) (ti : TypeInfo), fs[i]? = some f → P.info? f.type = some ti → places[i]? = some (f.offset, ti.size) := by
  induction fs with
  | nil => exact ⟨[], rfl, fun i f ti h => by simp at h⟩
  | cons f fs ih =>
    obtain ⟨pl, h1, h2⟩ := ih fun g hg => h g (List.mem_cons_of_mem _ hg)
    obtain ⟨ti, hti⟩ := Option.isSome_iff_exists.1 (h f (List.mem_cons_self ..))
    refine ⟨(f.offset, ti.size) :: pl, by simp [List.mapM_cons, hti, h1], fun i g tj hg hj => ?_⟩
    cases i with
    | zero => simp at hg; subst hg; rw [hti] at hj; cases hj; rfl
    | succ i => simpa using h2 i g tj (by simpa using hg) hj
theorem oBuild_ok (p : Pg P ty fu) {o : Oper} {t : TypeId} {ps : Array (Nat × Operand)} (ho : o.op = .build t ps) {call e h k kd kp} (hk : oBuild t ps ty call e h k kd kp = true) : ∃ r, k r h = true ∧ QAns P o e h r := by
  obtain ⟨d, hu, h1⟩ := undK_inv p hk
  obtain ⟨i, z, rz, hi, hz, h2, hrz⟩ := zeroK_inv p h1
  have hmem : ∀ q ∈ ps.toList, q.2 ∈ o.op.operands := fun q hq => by simp [ho, Op.operands]; exact ⟨q.1, by simpa using hq⟩
  have fin : ∀ r, k (.agg r) h = true → (∀ δ E, EnvO δ e E o.op.operands → ∃ vs, decL δ r = some vs ∧ P.built t (ps.map fun (i, x) => (i, ev E x)).toList = some vs.toArray) → ∃ r, k r h = true ∧ QAns P o e h r := by
    intro r hkr hr
    refine ⟨_, hkr, fun F δ W E hR hE => ?_⟩
    obtain ⟨vs, hvs, hb⟩ := hr δ E hE
    refine ⟨.agg vs.toArray, by simp only [dec, hvs], fun q => Yields.of fun rd X kn kb kdd hkb => ?_⟩
    unfold vcOpV
    rw [ho]
    exact kBuild_i hb hkb
  rcases iff_inv h2 with ⟨hd, h3⟩ | ⟨hd, h3⟩
  · obtain ⟨fs, rfl, h4⟩ := tdStr_inv h3
    obtain ⟨places, hpl, hpl2⟩ := places_ok fs.toList (p.fsOk t fs (undK_mem hk) hu)
    obtain ⟨r, h5, hr⟩ := buildS_ok p (place := (places.toArray[·]?)) (fun i f ti hf hti => by simpa using hpl2 i f ti hf hti) ps.toList _ _ h4
    refine fin r h5 fun δ E hE => ?_
    obtain ⟨vs, hvs, hfill⟩ := hr δ E _ _ hE hmem (dec_cells (hrz δ))
    refine ⟨vs, hvs, ?_⟩
    simp only [Program.built, hi, hu, hz, hpl, Array.toList_map]
    simpa using hfill
  · obtain ⟨n, el, rfl, h4⟩ := tdArr_inv h3
    obtain ⟨ti, hti, h5⟩ := sizeK_inv p h4
    obtain ⟨r, h6, hr⟩ := buildA_ok ps.toList _ _ h5
    refine fin r h6 fun δ E hE => ?_
    obtain ⟨vs, hvs, hfill⟩ := hr δ E _ _ hE hmem (dec_cells (hrz δ))
    refine ⟨vs, hvs, ?_⟩
    simp only [Program.built, hi, hu, hz, hti, Array.toList_map]
    simpa using hfill
end
end Go.L.Ev
namespace Go.L.Ev
open Go Go.RowKit
variable [Ext]
set_option linter.unusedSimpArgs false
set_option linter.unusedVariables false
section
variable {P : Program} {ty : TyT} {fu : FuT}

theorem flat_len {sz : Nat} : ∀ (vs : List Value), (∀ v ∈ vs, v.cells.size = sz) → (vs.flatMap fun v => v.cells.toList).length = vs.length * sz
  | [], _ => by simp
  | v :: vs, h => by
    rw [List.flatMap_cons, List.length_append, flat_len vs fun u hu => h u (List.mem_cons_of_mem _ hu), List.length_cons, Nat.succ_mul]
    have := h v (List.mem_cons_self ..)
    simp [this]; omega
theorem rowOf_ok {sz n : Nat} {e : VE} : ∀ (ps : List (Nat × Operand)) (j : Nat) (κ : List RV → Bool), rowOf sz n e ps j κ = true → ∃ r, κ r = true ∧ ∀ δ E xs, EnvO δ e E xs → (∀ q ∈ ps, q.2 ∈ xs) →
    ∃ vs : List Value, (ps.map fun q => (q.1, ev E q.2)) = (vs.zipIdx j).map (fun x => (x.2, x.1)) ∧ j + vs.length = n ∧ (∀ v ∈ vs, v.cells.size = sz) ∧ decL δ r = some (vs.flatMap fun v => v.cells.toList)
  | [], j, κ, h => by
    obtain ⟨h1, h2⟩ := iff_t (b := Nat.beq j n) h
    exact ⟨[], h2, fun δ E xs _ _ => ⟨[], rfl, by have := Nat.eq_of_beq_eq_true h1; simpa using this, by simp, decL_nil⟩⟩
  | (i, x) :: ps, j, κ, h => by
    have h : iff (Nat.beq i j) (opd x e fun v => iff (lenIs (cellsR v) sz) (rowOf sz n e ps (Nat.succ j) fun r => appK (cellsR v) r κ) false) false = true := h
    obtain ⟨h1, h2⟩ := iff_t h
    cases Nat.eq_of_beq_eq_true h1
    obtain ⟨v, h3, hv⟩ := opd_o h2
    obtain ⟨hlen, h4⟩ := iff_t h3
    obtain ⟨r, h5, hr⟩ := rowOf_ok ps (i + 1) _ h4
    rw [appK_eq] at h5
    refine ⟨_, h5, fun δ E xs hE hx => ?_⟩
    obtain ⟨vs, e1, e2, e3, e4⟩ := hr δ E xs hE fun q hq => hx q (List.mem_cons_of_mem _ hq)
    have hc := dec_cells (hv δ E xs hE (hx _ (List.mem_cons_self ..)))
    have hn := decL_len hc
    have hl := lenIs_inv hlen
    refine ⟨ev E x :: vs, by simp [e1], by simp; omega, fun u hu => ?_, by rw [List.flatMap_cons]; exact decL_append hc e4⟩
    rcases List.mem_cons.1 hu with rfl | hu
    · simp at hn; omega
    · exact e3 u hu
theorem elt_of (p : Pg P ty fu) {t e : TypeId} {ti : TypeInfo} (ht : InT ty t) (hu : P.underlying t = some (.slice e)) (hti : P.info? e = some ti) (h0 : 0 < ti.size) (h1 : ti.size ≤ 1024) : Elt P t e ti.size ti.bytes := by
  obtain ⟨_, z, hz, hzs⟩ := p.zOk t e ti ht hu hti h1
  exact ⟨hu, ⟨ti, z, hti, hz, rfl, rfl, hzs⟩, h0, h1⟩
theorem obR_row {F : Frm} {δ : Pl} {W : World} {b n cap : Nat} {e : TypeId} {sz : Nat} {cs : List RV} {vs : List Value} {cur : Array Value} (hf : F.free b) (h : decL δ cs = some vs) (hl : vs.length = n * sz) (hh : W.heap[b]? = some (.cells cur e (0, 0))) (hnc : n ≤ cap) (hcap : cap ≤ maxLen) (hcs : cur.size = cap * sz) (ht : cur.toList.take (n * sz) = vs) :
    ObR F δ b cap W (.row e sz n cs) := ⟨hf, vs, h, hl, .inr ⟨b, cap, cur, rfl, Nat.zero_le _, hh, hnc, hcap, hcs, ht⟩⟩
theorem oBuildSl_ok (p : Pg P ty fu) {o : Oper} {t : TypeId} {n : Nat} {ps : Array (Nat × Operand)} (ho : o.op = .buildSlice t n ps) {call e h k kd kp} (hk : oBuildSl t n ps ty call e h k kd kp = true) :
    ∃ ob h', k (.slc h.next 0 0 n) h' = true ∧ h'.next = h.next + 1 ∧ h'.at h.next = ob ∧ (∀ j, j ≠ h.next → h'.at j = h.at j) ∧ AAns P o e ob (fun N => .slc N 0 0 n) := by
  obtain ⟨d, hu, h1⟩ := undK_inv p hk
  obtain ⟨el, rfl, h2⟩ := tdSlice_inv h1
  obtain ⟨ti, hti, h3⟩ := sizeK_inv p h2
  obtain ⟨e1, h4⟩ := iff_t h3
  obtain ⟨e2, h5⟩ := iff_t h4
  obtain ⟨e3, h6⟩ := iff_t h5
  have e1 : n ≤ 1024 := Nat.le_of_ble_eq_true e1
  have e2 : 1 ≤ ti.size := Nat.le_of_ble_eq_true e2
  have e3 : ti.size ≤ 1024 := Nat.le_of_ble_eq_true e3
  obtain ⟨r, h7, hr⟩ := rowOf_ok ps.toList 0 _ h6
  obtain ⟨h', h8, a1, a2, a3⟩ := push_inv h7
  have El := elt_of p (undK_mem hk) hu hti e2 e3
  have hmem : ∀ q ∈ ps.toList, q.2 ∈ o.op.operands := fun q hq => by simp [ho, Op.operands]; exact ⟨q.1, by simpa using hq⟩
  refine ⟨_, h', h8, a1, a2, a3, fun δ W E hE => ?_⟩
  obtain ⟨vs, b1, b2, b3, b4⟩ := hr δ E _ hE hmem
  have hvl : vs.length = n := by omega
  have hfl : (vs.flatMap fun v => v.cells.toList).length = n * ti.size := by rw [flat_len vs b3, hvl]
  have hrun : (Instr.buildSlice t n (ps.map fun (i, x) => (i, ev E x))).run P W = .ok (.slice (some ⟨W.heap.size, 0, none⟩) n n) (W.alloc (.cells (vs.flatMap fun v => v.cells.toList).toArray el)) := by
    rcases Nat.eq_zero_or_pos n with h0 | h0
    · subst h0
      have : vs = [] := List.eq_nil_of_length_eq_zero hvl
      subst this
      have hps : ps = #[] := by
        apply Array.toList_inj.1
        simpa using b1
      subst hps
      simp [Instr.buildSlice, run_underlying hu, sizeOf, typeInfo, hti, newRow, Instr.fill]
      simp [Array.range]
    · exact run_buildSlice_row El W vs n _ (by simpa using b1) hvl h0 e1 b3
  refine ⟨n, .slice (some ⟨W.heap.size, 0, none⟩) n n, W.alloc (.cells (vs.flatMap fun v => v.cells.toList).toArray el), World.grownBy_alloc W _ _, by simp, fun F δ' hf hle => ?_, fun N δ' hN => ?_, Yields.of fun rd X kn kb kdd hkb => ?_⟩
  · refine obR_row hf (decL_mono hle _ _ b4) hfl (World.alloc_heap_new W _) (Nat.le_refl n) (by simp [maxLen]; omega) (by simpa using hfl) ?_
    exact List.take_of_length_le (Nat.le_of_eq hfl)
  · rw [slc_dec hN (by omega)]; simp
  · unfold vcOpV
    rw [ho]
    exact ⟨kVal_do hrun hkb⟩
theorem oMkMap_ok {o : Oper} {t : TypeId} {r : Option Operand} (ho : o.op = .makeMap t r) {call e h k kd kp} (hk : oMkMap t r ty call e h k kd kp = true) :
    ∃ ob h', k (.map h.next) h' = true ∧ h'.next = h.next + 1 ∧ h'.at h.next = ob ∧ (∀ j, j ≠ h.next → h'.at j = h.at j) ∧ AAns P o e ob (fun N => .map N) := by
  cases r with
  | some _ => exact absurd (show false = true from hk) (by decide)
  | none =>
    have hk : (push (.mp 0 []) h fun i h' => k (.map i) h') = true := hk
    obtain ⟨h', h8, a1, a2, a3⟩ := push_inv hk
    refine ⟨_, h', h8, a1, a2, a3, fun δ W E hE => ⟨0, .map (some W.heap.size), W.alloc (.map #[] 0), World.grownBy_alloc W _ _, by simp, fun F δ' hf hle => ⟨hf, [], rfl, World.alloc_heap_new W _⟩, fun N δ' hN => by simp [dec, hN], Yields.of fun rd X kn kb kdd hkb => ?_⟩⟩
    unfold vcOpV
    rw [ho]
    exact ⟨kVal_do (by simp [Instr.makeMap]) hkb⟩
end
end Go.L.Ev
