import PyProof.Rows.All
import Wide.All
import OpenK.AllK
import Wide.FinOn
import HandS.ForMost
import HandS.Star
import HandS.Style
import HandS.Wide
import HandS.Walk
import HandS.Conv
import HandS.Property
import HandS.Defaults
import HandS.MakeKwOnly
import HandS.DictComp
import HandS.TupLen
import HandS.TupAny
import KE.KDictWalk
import KE.KDictDisplayH
import PySem.Challenge.RW_fewestheld_k39_whole_kinds_and_rows
import HandS.Steps
set_option Elab.async false
set_option linter.all false
set_option maxRecDepth 100000
set_option maxHeartbeats 4000000
/-! FhMath: the plain law of the counts, no program in sight. -/
namespace FH
/-- a finite sum -/
def sm {γ : Type} : List γ → (γ → Int) → Int
  | [], _ => 0
  | x :: r, f => f x + sm r f
section
variable {γ δ : Type}
theorem sm_nil (f : γ → Int) : sm [] f = 0 := rfl
theorem sm_cons (x : γ) (r : List γ) (f : γ → Int) : sm (x :: r) f = f x + sm r f := rfl
theorem sm_append (f : γ → Int) : ∀ a b : List γ, sm (a ++ b) f = sm a f + sm b f
  | [], b => by simp [sm_nil]
  | x :: a, b => by rw [List.cons_append, sm_cons, sm_cons, sm_append f a b]; omega
theorem sm_map (g : δ → γ) (f : γ → Int) : ∀ l : List δ, sm (l.map g) f = sm l (fun x => f (g x))
  | [] => rfl
  | x :: l => by rw [List.map_cons, sm_cons, sm_cons, sm_map g f l]
theorem sm_flatMap (g : δ → List γ) (f : γ → Int) : ∀ l : List δ, sm (l.flatMap g) f = sm l (fun x => sm (g x) f)
  | [] => rfl
  | x :: l => by rw [List.flatMap_cons, sm_append, sm_cons, sm_flatMap g f l]
theorem sm_congr {f g : γ → Int} : ∀ {l : List γ}, (∀ x ∈ l, f x = g x) → sm l f = sm l g
  | [], _ => rfl
  | x :: l, h => by rw [sm_cons, sm_cons, h x (by simp), sm_congr fun y hy => h y (by simp [hy])]
theorem sm_add (f g : γ → Int) : ∀ l : List γ, sm l (fun x => f x + g x) = sm l f + sm l g
  | [] => rfl
  | x :: l => by rw [sm_cons, sm_cons, sm_cons, sm_add f g l]; omega
theorem sm_mul (c : Int) (f : γ → Int) : ∀ l : List γ, sm l (fun x => c * f x) = c * sm l f
  | [] => by rw [sm_nil, sm_nil, Int.mul_zero]
  | x :: l => by rw [sm_cons, sm_cons, sm_mul c f l, Int.mul_add]
theorem sm_mulr (c : Int) (f : γ → Int) (l : List γ) : sm l (fun x => f x * c) = sm l f * c := by
  rw [Int.mul_comm, ← sm_mul]
  exact sm_congr fun x _ => Int.mul_comm _ _
theorem sm_zero : ∀ l : List γ, sm l (fun _ => (0 : Int)) = 0
  | [] => rfl
  | x :: l => by rw [sm_cons, sm_zero l]; rfl
theorem sm_const (c : Int) : ∀ l : List γ, sm l (fun _ => c) = (l.length : Int) * c
  | [] => by rw [sm_nil, List.length_nil]; simp
  | x :: l => by rw [sm_cons, sm_const c l, List.length_cons, Int.natCast_add, Int.add_mul]; simp [Int.add_comm]
theorem sm_comm (f : γ → δ → Int) : ∀ (l : List γ) (m : List δ), sm l (fun x => sm m (f x)) = sm m (fun y => sm l (fun x => f x y))
  | [], m => (sm_zero m).symm
  | x :: l, m => by rw [sm_cons, sm_comm f l m, ← sm_add]; rfl
theorem sm_le {f g : γ → Int} : ∀ {l : List γ}, (∀ x ∈ l, f x ≤ g x) → sm l f ≤ sm l g
  | [], _ => Int.le_refl _
  | x :: l, h => by
    have a := h x (by simp)
    have b := sm_le (l := l) (f := f) (g := g) fun y hy => h y (by simp [hy])
    rw [sm_cons, sm_cons]; omega
theorem sum_sm (l : List Int) : l.sum = sm l id := by
  induction l with
  | nil => rfl
  | cons x l ih => rw [List.sum_cons, sm_cons, ih]; rfl
/-- one of a list without repeats -/
theorem sm_one [DecidableEq γ] (f : γ → Int) (k : γ) : ∀ {l : List γ}, l.Nodup → k ∈ l → sm l (fun x => if k = x then f x else 0) = f k
  | [], _, h => by simp at h
  | x :: l, nd, h => by
    obtain ⟨n1, n2⟩ := List.nodup_cons.mp nd
    rw [sm_cons]
    by_cases e : k = x
    · subst e
      rw [if_pos rfl]
      have : sm l (fun x => if k = x then f x else 0) = sm l (fun _ => (0 : Int)) := sm_congr fun y hy => by
        rw [if_neg]
        intro e
        subst e
        exact n1 hy
      rw [this, sm_zero, Int.add_zero]
    · have hm : k ∈ l := by
        rcases List.mem_cons.mp h with q | q
        · exact absurd q e
        · exact q
      rw [if_neg e, sm_one f k n2 hm, Int.zero_add]
end

/-- a book, as far as counts see it -/
structure Bk (α β : Type) where
  W : List β
  P : List α
  s : α → Nat
  y : α → Bool
  st : α
  g : α → β → Nat → α
/-- what a book keeps -/
structure Bk.Ok {α β : Type} (b : Bk α β) : Prop where
  nd : b.P.Nodup
  st : b.st ∈ b.P
  s0 : b.s b.st = 0
  gP : ∀ n w c, n ∈ b.P → w ∈ b.W → c ≤ b.s n → b.g n w c ∈ b.P
  g0 : ∀ n w, n ∈ b.P → w ∈ b.W → b.s (b.g n w 0) ≤ b.s n + 1
  g1 : ∀ n w c, n ∈ b.P → w ∈ b.W → 1 ≤ c → c ≤ b.s n → b.s (b.g n w c) ≤ b.s n
/-- the book of all answers turned -/
def Bk.turn {α β : Type} (b : Bk α β) : Bk α β := { b with y := fun n => !b.y n }

section
variable {α β : Type}
/-! ### kinds, as a functional of tests u -/
def opB (b : Bk α β) (u : α → Nat → Int) : α → Nat → Int := fun n d =>
  sm b.W fun w => u (b.g n w 0) (d + 1) + ((d - b.s n : Nat) : Int) * u (b.g n w 0) d + sm (List.range (b.s n)) fun c => u (b.g n w (c + 1)) d
def Hk (b : Bk α β) : Nat → (α → Nat → Int) → Int
  | 0, u => u b.st 0
  | i + 1, u => Hk b i (opB b u)
/-- where the names are that many -/
def Sup (b : Bk α β) (i : Nat) (n : α) (d : Nat) : Prop := n ∈ b.P ∧ b.s n ≤ d ∧ d ≤ i
theorem opB_congr {b : Bk α β} (ok : b.Ok) {i : Nat} {u v : α → Nat → Int} (h : ∀ n d, Sup b (i + 1) n d → u n d = v n d) : ∀ n d, Sup b i n d → opB b u n d = opB b v n d := by
  rintro n d ⟨hn, h1, h2⟩
  unfold opB
  refine sm_congr fun w hw => ?_
  have a := ok.g0 n w hn hw
  have e1 : u (b.g n w 0) (d + 1) = v (b.g n w 0) (d + 1) := h _ _ ⟨ok.gP n w 0 hn hw (Nat.zero_le _), by omega, by omega⟩
  have e2 : ((d - b.s n : Nat) : Int) * u (b.g n w 0) d = ((d - b.s n : Nat) : Int) * v (b.g n w 0) d := by
    by_cases z : d - b.s n = 0
    · rw [z]; simp
    · rw [h _ _ ⟨ok.gP n w 0 hn hw (Nat.zero_le _), by omega, by omega⟩]
  have e3 : sm (List.range (b.s n)) (fun c => u (b.g n w (c + 1)) d) = sm (List.range (b.s n)) (fun c => v (b.g n w (c + 1)) d) := sm_congr fun c hc => by
    have hc' : c < b.s n := List.mem_range.mp hc
    have q := ok.g1 n w (c + 1) hn hw (by omega) (by omega)
    exact h _ _ ⟨ok.gP n w (c + 1) hn hw (by omega), by omega, by omega⟩
  rw [e1, e2, e3]
theorem Hk_congr {b : Bk α β} (ok : b.Ok) : ∀ (i : Nat) {u v : α → Nat → Int}, (∀ n d, Sup b i n d → u n d = v n d) → Hk b i u = Hk b i v
  | 0, u, v, h => h _ _ ⟨ok.st, by rw [ok.s0]; exact Nat.le_refl _, Nat.le_refl _⟩
  | i + 1, u, v, h => Hk_congr ok i (opB_congr ok h)
theorem opB_le {b : Bk α β} {u v : α → Nat → Int} (h : ∀ n d, u n d ≤ v n d) (n : α) (d : Nat) : opB b u n d ≤ opB b v n d := by
  refine sm_le fun w _ => ?_
  have a := h (b.g n w 0) (d + 1)
  have c := Int.mul_le_mul_of_nonneg_left (h (b.g n w 0) d) (Int.natCast_nonneg (d - b.s n))
  have e := sm_le (l := List.range (b.s n)) (f := fun c => u (b.g n w (c + 1)) d) (g := fun c => v (b.g n w (c + 1)) d) fun c _ => h _ _
  omega
theorem Hk_le {b : Bk α β} : ∀ (i : Nat) {u v : α → Nat → Int}, (∀ n d, u n d ≤ v n d) → Hk b i u ≤ Hk b i v
  | 0, u, v, h => h _ _
  | i + 1, u, v, h => Hk_le i fun n d => opB_le h n d
theorem opB_add (b : Bk α β) (u v : α → Nat → Int) : opB b (fun n d => u n d + v n d) = fun n d => opB b u n d + opB b v n d := by
  funext n d
  unfold opB
  rw [← sm_add]
  refine sm_congr fun w _ => ?_
  dsimp only
  rw [sm_add, Int.mul_add]
  omega
theorem Hk_add (b : Bk α β) : ∀ (i : Nat) (u v : α → Nat → Int), Hk b i (fun n d => u n d + v n d) = Hk b i u + Hk b i v
  | 0, u, v => rfl
  | i + 1, u, v => by
    show Hk b i (opB b fun n d => u n d + v n d) = Hk b i (opB b u) + Hk b i (opB b v)
    rw [opB_add, Hk_add b i]
theorem opB_mul (b : Bk α β) (c : Int) (u : α → Nat → Int) : opB b (fun n d => c * u n d) = fun n d => c * opB b u n d := by
  funext n d
  unfold opB
  rw [← sm_mul]
  refine sm_congr fun w _ => ?_
  rw [sm_mul, Int.mul_add, Int.mul_add, Int.mul_left_comm]
theorem Hk_mul (b : Bk α β) (c : Int) : ∀ (i : Nat) (u : α → Nat → Int), Hk b i (fun n d => c * u n d) = c * Hk b i u
  | 0, u => rfl
  | i + 1, u => by
    show Hk b i (opB b fun n d => c * u n d) = c * Hk b i (opB b u)
    rw [opB_mul, Hk_mul b c i]
theorem Hk_zero (b : Bk α β) (i : Nat) : Hk b i (fun _ _ => 0) = 0 := by
  have h := Hk_mul b 0 i (fun _ _ => 0)
  simpa using h
theorem Hk_sm {γ : Type} (b : Bk α β) (i : Nat) (f : γ → α → Nat → Int) : ∀ l : List γ, Hk b i (fun n d => sm l fun k => f k n d) = sm l fun k => Hk b i (f k)
  | [] => Hk_zero b i
  | k :: l => by
    show Hk b i (fun n d => f k n d + sm l fun k => f k n d) = Hk b i (f k) + sm l fun k => Hk b i (f k)
    rw [Hk_add, Hk_sm b i f l]
/-- the answers don't matter to the functional -/
theorem Hk_turn (b : Bk α β) : ∀ (i : Nat) (u : α → Nat → Int), Hk b.turn i u = Hk b i u
  | 0, _ => rfl
  | i + 1, u => Hk_turn b i (opB b u)

/-! ### places, as a functional of tests u at N names -/
def opA (b : Bk α β) (N : Int) (u : α → Int) : α → Int := fun n =>
  sm b.W fun w => (N - (b.s n : Int)) * u (b.g n w 0) + sm (List.range (b.s n)) fun c => u (b.g n w (c + 1))
def Gk (b : Bk α β) (N : Int) : Nat → (α → Int) → Int
  | 0, u => u b.st
  | i + 1, u => Gk b N i (opA b N u)
/-- N * (N - 1) * .. -/
def wys (N : Int) : Nat → Int
  | 0 => 1
  | d + 1 => wys N d * max 0 (N - d)
theorem wys_zero {N : Int} : ∀ {d : Nat}, 0 ≤ N → N < d → wys N d = 0
  | 0, h, h' => by simp at h'; omega
  | d + 1, h, h' => by
    show wys N d * max 0 (N - d) = 0
    by_cases e : N < d
    · rw [wys_zero h e, Int.zero_mul]
    · have : N - (d : Int) = 0 := by
        simp at h'; omega
      rw [this]; simp
theorem wys_succ {N : Int} (h : 0 ≤ N) (d : Nat) : wys N (d + 1) = wys N d * (N - d) := by
  show wys N d * max 0 (N - d) = wys N d * (N - d)
  by_cases e : N < d
  · rw [wys_zero h e, Int.zero_mul, Int.zero_mul]
  · rw [Int.max_eq_right (by omega)]
theorem opB_wys {b : Bk α β} {N : Int} (hN : 0 ≤ N) (u : α → Int) (n : α) (d : Nat) (h : b.s n ≤ d) : opB b (fun m e => wys N e * u m) n d = wys N d * opA b N u n := by
  unfold opB opA
  rw [← sm_mul]
  refine sm_congr fun w _ => ?_
  dsimp only
  rw [sm_mul, wys_succ hN, Int.mul_add]
  have e : ((d - b.s n : Nat) : Int) = (d : Int) - (b.s n : Int) := by omega
  rw [e]
  have e2 : (N - (b.s n : Int)) = (N - (d : Int)) + ((d : Int) - (b.s n : Int)) := by omega
  rw [e2, Int.add_mul, Int.mul_add, Int.mul_assoc, Int.mul_left_comm (wys N d) ((d : Int) - (b.s n : Int))]
/-- kinds and places tell the same number -/
theorem Hk_Gk {b : Bk α β} (ok : b.Ok) {N : Int} (hN : 0 ≤ N) : ∀ (i : Nat) (u : α → Int), Hk b i (fun m e => wys N e * u m) = Gk b N i u
  | 0, u => by show wys N 0 * u b.st = u b.st; show (1 : Int) * _ = _; rw [Int.one_mul]
  | i + 1, u => by
    show Hk b i (opB b fun m e => wys N e * u m) = Gk b N i (opA b N u)
    rw [← Hk_Gk ok hN i]
    exact Hk_congr ok i fun n d h => opB_wys hN u n d h.2.1
theorem opA_add (b : Bk α β) (N : Int) (u v : α → Int) : opA b N (fun n => u n + v n) = fun n => opA b N u n + opA b N v n := by
  funext n
  unfold opA
  rw [← sm_add]
  refine sm_congr fun w _ => ?_
  dsimp only
  rw [sm_add, Int.mul_add]
  omega
theorem Gk_add (b : Bk α β) (N : Int) : ∀ (i : Nat) (u v : α → Int), Gk b N i (fun n => u n + v n) = Gk b N i u + Gk b N i v
  | 0, u, v => rfl
  | i + 1, u, v => by
    show Gk b N i (opA b N fun n => u n + v n) = Gk b N i (opA b N u) + Gk b N i (opA b N v)
    rw [opA_add, Gk_add b N i]
theorem Gk_turn (b : Bk α β) (N : Int) : ∀ (i : Nat) (u : α → Int), Gk b.turn N i u = Gk b N i u
  | 0, _ => rfl
  | i + 1, u => Gk_turn b N i (opA b N u)
theorem opA_const (b : Bk α β) (N c : Int) : opA b N (fun _ => c) = fun _ => (b.W.length : Int) * N * c := by
  funext n
  unfold opA
  dsimp only
  have e : ∀ w ∈ b.W, (N - (b.s n : Int)) * c + sm (List.range (b.s n)) (fun _ => c) = N * c := fun w _ => by
    rw [sm_const, List.length_range, ← Int.add_mul]
    congr 1
    omega
  rw [sm_congr e, sm_const, Int.mul_assoc]
theorem Gk_one (b : Bk α β) (N : Int) : ∀ (i : Nat) (c : Int), Gk b N i (fun _ => c) = ((b.W.length : Int) * N) ^ i * c
  | 0, c => by show c = _; simp
  | i + 1, c => by
    show Gk b N i (opA b N fun _ => c) = _
    rw [opA_const, Gk_one b N i, Int.pow_succ]
    simp only [Int.mul_assoc]

/-! ### all rows, all kinds -/
def dOp (u : Nat → Int) : Nat → Int := fun d => u (d + 1) + (d : Int) * u d
/-- numbers of Bell, by their operator -/
def bel : Nat → (Nat → Int) → Int
  | 0, u => u 0
  | i + 1, u => bel i (dOp u)
theorem opB_dOp {b : Bk α β} (u : Nat → Int) (n : α) (d : Nat) (h : b.s n ≤ d) : opB b (fun _ e => u e) n d = (b.W.length : Int) * dOp u d := by
  unfold opB dOp
  have e : ∀ w ∈ b.W, u (d + 1) + ((d - b.s n : Nat) : Int) * u d + sm (List.range (b.s n)) (fun _ => u d) = u (d + 1) + (d : Int) * u d := fun w _ => by
    rw [sm_const, List.length_range, Int.add_assoc, ← Int.add_mul]
    congr 2
    omega
  rw [sm_congr e, sm_const]
theorem Hk_bel {b : Bk α β} (ok : b.Ok) : ∀ (i : Nat) (u : Nat → Int), Hk b i (fun _ e => u e) = (b.W.length : Int) ^ i * bel i u
  | 0, u => by show u 0 = _; simp [bel]
  | i + 1, u => by
    show Hk b i (opB b fun _ e => u e) = _
    have q : Hk b i (opB b fun _ e => u e) = Hk b i (fun _ e => (b.W.length : Int) * dOp u e) := Hk_congr ok i fun n d h => opB_dOp u n d h.2.1
    rw [q, Hk_mul b (b.W.length : Int) i (fun _ e => dOp u e), Hk_bel ok i, Int.pow_succ, ← Int.mul_assoc, Int.mul_comm (b.W.length : Int)]
    rfl
end
end FH

/-! FhMirror: what the functions of counts reckon, as plain functions, and that it answers as the law says. -/
namespace FH
/-! ### polynomials -/
def ev (N : Int) : List Int → Int
  | [] => 0
  | p :: r => ev N r * N + p
theorem ev_foldl (N : Int) (c : List Int) : c.reverse.foldl (fun t p => t * N + p) 0 = ev N c := by
  rw [List.foldl_reverse]
  induction c with
  | nil => rfl
  | cons p r ih => rw [List.foldr_cons, ih]; rfl
theorem ev_sm (N : Int) : ∀ (c : List Int) (m : Nat), c.length ≤ m → ev N c = sm (List.range m) fun i => c.getD i 0 * N ^ i
  | [], m, _ => by
    have e : sm (List.range m) (fun i => ([] : List Int).getD i 0 * N ^ i) = sm (List.range m) (fun _ => (0 : Int)) := sm_congr fun i _ => by simp
    rw [e, sm_zero]
    rfl
  | p :: r, 0, h => by simp at h
  | p :: r, m + 1, h => by
    rw [List.range_succ_eq_map, sm_cons, sm_map]
    show ev N r * N + p = _
    rw [ev_sm N r m (by simpa using h), ← sm_mulr]
    have e : sm (List.range m) (fun i => (p :: r).getD (Nat.succ i) 0 * N ^ Nat.succ i) = sm (List.range m) (fun x => r.getD x 0 * N ^ x * N) := sm_congr fun i _ => by
      show r.getD i 0 * N ^ (i + 1) = _
      rw [Int.pow_succ, Int.mul_assoc]
    rw [e]
    show _ = p * N ^ 0 + _
    rw [Int.pow_zero, Int.mul_one, Int.add_comm]
def plusP (a b : List Int) : List Int :=
  if b.length ≤ a.length then (List.range a.length).map fun i => a.getD i 0 + b.getD i 0 else (List.range b.length).map fun i => b.getD i 0 + a.getD i 0
theorem plusP_length (a b : List Int) : (plusP a b).length = max a.length b.length := by
  unfold plusP
  split <;> simp <;> omega
theorem ev_map_range (N : Int) (m : Nat) (f : Nat → Int) : ev N ((List.range m).map f) = sm (List.range m) fun i => f i * N ^ i := by
  rw [ev_sm N _ m (by simp)]
  refine sm_congr fun i hi => ?_
  have : i < m := List.mem_range.mp hi
  simp [List.getD, this]
theorem ev_plusP (N : Int) (a b : List Int) : ev N (plusP a b) = ev N a + ev N b := by
  unfold plusP
  split
  · rename_i h
    rw [ev_map_range, ev_sm N a a.length (Nat.le_refl _), ev_sm N b a.length h, ← sm_add]
    exact sm_congr fun i _ => Int.add_mul ..
  · rename_i h
    rw [ev_map_range, ev_sm N b b.length (Nat.le_refl _), ev_sm N a b.length (by omega), ← sm_add]
    exact sm_congr fun i _ => by rw [Int.add_mul, Int.add_comm]
def tRest (p : List Int) (s : Nat) : List Int := plusP (0 :: p) (p.map fun c => -(s : Int) * c)
theorem tRest_length (p : List Int) (s : Nat) : (tRest p s).length = p.length + 1 := by
  unfold tRest
  rw [plusP_length, List.length_cons, List.length_map]
  omega
theorem ev_scale (N k : Int) : ∀ p : List Int, ev N (p.map fun c => k * c) = k * ev N p
  | [] => by simp [ev]
  | c :: p => by
    show ev N (p.map fun c => k * c) * N + k * c = k * (ev N p * N + c)
    rw [ev_scale N k p, Int.mul_add, Int.mul_assoc]
theorem ev_tRest (N : Int) (p : List Int) (s : Nat) : ev N (tRest p s) = (N - (s : Int)) * ev N p := by
  unfold tRest
  rw [ev_plusP, ev_scale]
  show ev N p * N + 0 + _ = _
  rw [Int.sub_mul, Int.neg_mul, Int.mul_comm N]
  omega
def trimP (l : List Int) : List Int := (l.reverse.dropWhile fun c => c == 0).reverse
theorem trimP_snoc (l : List Int) : trimP (l ++ [0]) = trimP l := by
  unfold trimP
  rw [List.reverse_append]
  rfl
theorem trimP_end {l : List Int} {c : Int} (h : c ≠ 0) : trimP (l ++ [c]) = l ++ [c] := by
  unfold trimP
  rw [List.reverse_append]
  show (List.dropWhile (fun c => c == 0) (c :: l.reverse)).reverse = _
  rw [List.dropWhile_cons_of_neg (by simpa using h)]
  simp
theorem trimP_nil : trimP [] = [] := rfl
theorem ev_snoc (N : Int) : ∀ l : List Int, ev N (l ++ [0]) = ev N l
  | [] => by simp [ev]
  | c :: l => by
    show ev N (l ++ [0]) * N + c = ev N l * N + c
    rw [ev_snoc N l]
theorem ev_drop (N : Int) : ∀ r : List Int, ev N (r.dropWhile fun c => c == 0).reverse = ev N r.reverse
  | [] => rfl
  | c :: r => by
    by_cases h : c = 0
    · subst h
      rw [List.dropWhile_cons_of_pos (by simp), ev_drop N r, List.reverse_cons, ev_snoc]
    · rw [List.dropWhile_cons_of_neg (by simpa using h)]
theorem ev_trimP (N : Int) (l : List Int) : ev N (trimP l) = ev N l := by
  unfold trimP
  rw [ev_drop, List.reverse_reverse]
theorem trimP_length (l : List Int) : (trimP l).length ≤ l.length := by
  unfold trimP
  rw [List.length_reverse]
  have h := (List.dropWhile_sublist (fun c : Int => c == 0) (l := l.reverse)).length_le
  rwa [List.length_reverse] at h

section
variable {α β : Type} [DecidableEq α]
/-- the rules of a book, in order -/
def keys (b : Bk α β) : List (α × β × Nat) := b.P.flatMap fun n => b.W.flatMap fun w => (List.range (b.s n + 1)).map fun c => (n, w, c)
def gl (b : Bk α β) (k : α × β × Nat) : α := b.g k.1 k.2.1 k.2.2
def pRule (b : Bk α β) (now beh : α → List Int) (k : α × β × Nat) : α → List Int :=
  fun m => if m = gl b k then trimP (plusP (beh (gl b k)) (if k.2.2 = 0 then tRest (now k.1) (b.s k.1) else now k.1)) else beh m
def pStep (b : Bk α β) (now : α → List Int) : α → List Int := (keys b).foldl (pRule b now) fun _ => []
def pSt (b : Bk α β) : Nat → α → List Int
  | 0 => fun m => if m = b.st then [1] else []
  | i + 1 => pStep b (pSt b i)
def wt (b : Bk α β) (N : Int) (k : α × β × Nat) : Int := if k.2.2 = 0 then N - (b.s k.1 : Int) else 1
theorem ev_pRule (b : Bk α β) (N : Int) (now beh : α → List Int) (k : α × β × Nat) (m : α) :
    ev N (pRule b now beh k m) = ev N (beh m) + (if gl b k = m then wt b N k * ev N (now k.1) else 0) := by
  unfold pRule
  by_cases e : m = gl b k
  · rw [if_pos e, if_pos e.symm, ev_trimP, ev_plusP, ← e]
    unfold wt
    by_cases z : k.2.2 = 0
    · rw [if_pos z, if_pos z, ev_tRest]
    · rw [if_neg z, if_neg z, Int.one_mul]
  · rw [if_neg e, if_neg fun q => e q.symm, Int.add_zero]
theorem ev_fold (b : Bk α β) (N : Int) (now : α → List Int) (m : α) : ∀ (ks : List (α × β × Nat)) (beh : α → List Int),
    ev N (ks.foldl (pRule b now) beh m) = ev N (beh m) + sm ks fun k => if gl b k = m then wt b N k * ev N (now k.1) else 0
  | [], beh => by rw [sm_nil, Int.add_zero]; rfl
  | k :: ks, beh => by
    rw [List.foldl_cons, ev_fold b N now m ks, ev_pRule, sm_cons]
    omega
theorem len_pRule (b : Bk α β) {now beh : α → List Int} {k : α × β × Nat} {L : Nat} (h1 : ∀ m, (now m).length ≤ L) (h2 : ∀ m, (beh m).length ≤ L + 1) (m : α) : (pRule b now beh k m).length ≤ L + 1 := by
  unfold pRule
  split
  · refine Nat.le_trans (trimP_length _) ?_
    rw [plusP_length]
    have a := h2 (gl b k)
    have c : (if k.2.2 = 0 then tRest (now k.1) (b.s k.1) else now k.1).length ≤ L + 1 := by
      have q := h1 k.1
      split
      · rw [tRest_length]; omega
      · omega
    omega
  · exact h2 m
theorem len_fold (b : Bk α β) {now : α → List Int} {L : Nat} (h1 : ∀ m, (now m).length ≤ L) : ∀ (ks : List (α × β × Nat)) (beh : α → List Int), (∀ m, (beh m).length ≤ L + 1) → ∀ m, (ks.foldl (pRule b now) beh m).length ≤ L + 1
  | [], beh, h2, m => h2 m
  | k :: ks, beh, h2, m => len_fold b h1 ks _ (len_pRule b h1 h2) m
theorem len_pSt (b : Bk α β) : ∀ (i : Nat) (m : α), (pSt b i m).length ≤ i + 1
  | 0, m => by
    show (if m = b.st then [1] else ([] : List Int)).length ≤ 1
    split <;> simp
  | i + 1, m => len_fold b (len_pSt b i) (keys b) (fun _ => []) (fun _ => by simp) m
theorem keys_ok {b : Bk α β} {k : α × β × Nat} (h : k ∈ keys b) : k.1 ∈ b.P ∧ k.2.1 ∈ b.W ∧ k.2.2 ≤ b.s k.1 := by
  unfold keys at h
  obtain ⟨n, hn, h⟩ := List.mem_flatMap.mp h
  obtain ⟨w, hw, h⟩ := List.mem_flatMap.mp h
  obtain ⟨c, hc, rfl⟩ := List.mem_map.mp h
  have := List.mem_range.mp hc
  exact ⟨hn, hw, by show c ≤ b.s n; omega⟩
/-- places' functional -/
theorem pSt_Gk {b : Bk α β} (ok : b.Ok) (N : Int) : ∀ (i : Nat) (u : α → Int), sm b.P (fun m => u m * ev N (pSt b i m)) = Gk b N i u
  | 0, u => by
    have e : sm b.P (fun m => u m * ev N (pSt b 0 m)) = sm b.P (fun m => if b.st = m then u m else 0) := sm_congr fun m _ => by
      show u m * ev N (if m = b.st then [1] else []) = _
      by_cases q : m = b.st
      · rw [if_pos q, if_pos q.symm]
        show u m * (0 * N + 1) = u m
        simp
      · rw [if_neg q, if_neg fun z => q z.symm]
        show u m * 0 = 0
        simp
    rw [e, sm_one u b.st ok.nd ok.st]
    rfl
  | i + 1, u => by
    have e1 : sm b.P (fun m => u m * ev N (pSt b (i + 1) m)) = sm b.P (fun m => sm (keys b) fun k => if gl b k = m then u m * (wt b N k * ev N (pSt b i k.1)) else 0) := sm_congr fun m _ => by
      show u m * ev N ((keys b).foldl (pRule b (pSt b i)) (fun _ => []) m) = _
      rw [ev_fold]
      show u m * (0 + _) = _
      rw [Int.zero_add, ← sm_mul]
      exact sm_congr fun k _ => by split <;> simp
    have e2 : sm (keys b) (fun k => sm b.P fun m => if gl b k = m then u m * (wt b N k * ev N (pSt b i k.1)) else 0) = sm (keys b) (fun k => u (gl b k) * (wt b N k * ev N (pSt b i k.1))) := sm_congr fun k hk => by
      obtain ⟨h1, h2, h3⟩ := keys_ok hk
      exact sm_one (fun m => u m * (wt b N k * ev N (pSt b i k.1))) (gl b k) ok.nd (ok.gP _ _ _ h1 h2 h3)
    rw [e1, sm_comm, e2]
    show _ = Gk b N i (opA b N u)
    rw [← pSt_Gk ok N i]
    unfold keys
    rw [sm_flatMap]
    refine sm_congr fun n _ => ?_
    rw [sm_flatMap]
    unfold opA
    rw [← sm_mulr]
    refine sm_congr fun w _ => ?_
    rw [sm_map, List.range_succ_eq_map, sm_cons, sm_map]
    dsimp only [gl, wt]
    rw [if_pos rfl, Int.add_mul, ← sm_mulr]
    congr 1
    · rw [← Int.mul_assoc, Int.mul_comm (u _)]
    · refine sm_congr fun c _ => ?_
      rw [if_neg (Nat.succ_ne_zero c), Int.one_mul]
def yesP (b : Bk α β) (n : Nat) : List Int := trimP (b.P.foldl (fun t m => if b.y m = true then plusP t (pSt b n m) else t) [])
theorem ev_yesFold (b : Bk α β) (N : Int) (n : Nat) : ∀ (l : List α) (t : List Int), ev N (l.foldl (fun t m => if b.y m = true then plusP t (pSt b n m) else t) t) = ev N t + sm l fun m => (if b.y m = true then 1 else 0) * ev N (pSt b n m)
  | [], t => by rw [sm_nil, Int.add_zero]; rfl
  | m :: l, t => by
    rw [List.foldl_cons, ev_yesFold b N n l, sm_cons]
    by_cases e : b.y m = true
    · rw [if_pos e, if_pos e, ev_plusP, Int.one_mul]; omega
    · rw [if_neg e, if_neg e, Int.zero_mul]; omega
theorem len_yesFold (b : Bk α β) (n : Nat) : ∀ (l : List α) (t : List Int), t.length ≤ n + 1 → (l.foldl (fun t m => if b.y m = true then plusP t (pSt b n m) else t) t).length ≤ n + 1
  | [], t, h => h
  | m :: l, t, h => by
    rw [List.foldl_cons]
    refine len_yesFold b n l _ ?_
    split
    · rw [plusP_length]
      have := len_pSt b n m
      omega
    · exact h
theorem ev_yesP {b : Bk α β} (ok : b.Ok) (N : Int) (n : Nat) : ev N (yesP b n) = Gk b N n fun m => if b.y m = true then 1 else 0 := by
  unfold yesP
  rw [ev_trimP, ev_yesFold, pSt_Gk ok]
  show 0 + _ = _
  rw [Int.zero_add]

/-! ### kinds -/
abbrev Ent (α : Type) := (α × Nat) × Int
def look (es : List (Ent α)) (k : α × Nat) : Int := ((es.find? fun e => decide (e.1 = k)).map (·.2)).getD 0
def put (es : List (Ent α)) (k : α × Nat) (x : Int) : List (Ent α) :=
  if (es.any fun e => decide (e.1 = k)) = true then es.map (fun e => if e.1 = k then (e.1, x) else e) else es ++ [(k, x)]
def stp (b : Bk α β) (n : α) (w : β) (d : Nat) : List (α × Nat × Int) :=
  (([(b.g n w 0, d + 1, 1), (b.g n w 0, d, (d : Int) - (b.s n : Int))] : List (α × Nat × Int)) ++ (List.range (b.s n)).map fun c => (b.g n w (c + 1), d, 1)).filter fun t => decide (0 < t.2.2)
def kOne (c : Int) (acc : List (Ent α)) (t : α × Nat × Int) : List (Ent α) := put acc (t.1, t.2.1) (look acc (t.1, t.2.1) + t.2.2 * c)
def kWord (b : Bk α β) (e : Ent α) (acc : List (Ent α)) (w : β) : List (Ent α) := (stp b e.1.1 w e.1.2).foldl (kOne e.2) acc
def kEnt (b : Bk α β) (acc : List (Ent α)) (e : Ent α) : List (Ent α) := b.W.foldl (kWord b e) acc
def kSt (b : Bk α β) : Nat → List (Ent α)
  | 0 => [((b.st, 0), 1)]
  | i + 1 => (kSt b i).foldl (kEnt b) []
def th (u : α → Nat → Int) (es : List (Ent α)) : Int := sm es fun e => e.2 * u e.1.1 e.1.2
def NdK (es : List (Ent α)) : Prop := (es.map (·.1)).Nodup
theorem any_iff {es : List (Ent α)} {k : α × Nat} : (es.any fun e => decide (e.1 = k)) = true ↔ k ∈ es.map (·.1) := by
  rw [List.any_eq_true, List.mem_map]
  exact ⟨fun ⟨e, h, q⟩ => ⟨e, h, of_decide_eq_true q⟩, fun ⟨e, h, q⟩ => ⟨e, h, decide_eq_true q⟩⟩
theorem put_keys (es : List (Ent α)) (k : α × Nat) (x : Int) : (put es k x).map (·.1) = if k ∈ es.map (·.1) then es.map (·.1) else es.map (·.1) ++ [k] := by
  unfold put
  by_cases h : k ∈ es.map (·.1)
  · rw [if_pos (any_iff.mpr h), if_pos h, List.map_map]
    refine List.map_congr_left fun e _ => ?_
    show (if e.1 = k then (e.1, x) else e).1 = e.1
    split <;> rfl
  · rw [if_neg (fun q => h (any_iff.mp q)), if_neg h, List.map_append]
    rfl
theorem put_nd {es : List (Ent α)} (h : NdK es) (k : α × Nat) (x : Int) : NdK (put es k x) := by
  unfold NdK
  rw [put_keys]
  split
  · exact h
  · rename_i hk
    rw [List.nodup_append]
    refine ⟨h, by simp, fun a ha c hc => ?_⟩
    rw [List.mem_singleton] at hc
    subst hc
    intro e
    exact hk (e ▸ ha)
theorem look_cons (e : Ent α) (es : List (Ent α)) (k : α × Nat) : look (e :: es) k = if e.1 = k then e.2 else look es k := by
  unfold look
  rw [List.find?_cons]
  by_cases h : e.1 = k
  · rw [if_pos h, decide_eq_true h]; rfl
  · rw [if_neg h, decide_eq_false h]
theorem look_no : ∀ {es : List (Ent α)} {k : α × Nat}, k ∉ es.map (·.1) → look es k = 0
  | [], _, _ => rfl
  | e :: es, k, h => by
    rw [List.map_cons, List.mem_cons, not_or] at h
    rw [look_cons, if_neg fun z => h.1 z.symm, look_no h.2]
theorem th_map (u : α → Nat → Int) (k : α × Nat) (x : Int) : ∀ {es : List (Ent α)}, NdK es → k ∈ es.map (·.1) →
    th u (es.map fun e => if e.1 = k then (e.1, x) else e) = th u es + (x - look es k) * u k.1 k.2
  | [], _, h => by simp at h
  | e :: es, nd, h => by
    have nd' : (e.1 :: es.map (·.1)).Nodup := nd
    obtain ⟨n1, n2⟩ := List.nodup_cons.mp nd'
    unfold th
    rw [List.map_cons, sm_cons, sm_cons, look_cons]
    by_cases q : e.1 = k
    · subst q
      rw [if_pos rfl, if_pos rfl]
      have z : es.map (fun e' : Ent α => if e'.1 = e.1 then (e'.1, x) else e') = es := by
        refine (List.map_congr_left fun e' he' => ?_).trans (List.map_id es)
        rw [if_neg]
        · rfl
        · intro w
          exact n1 (w ▸ List.mem_map.mpr ⟨e', he', rfl⟩)
      rw [z]
      show x * u e.1.1 e.1.2 + _ = _
      rw [Int.sub_mul]
      omega
    · rw [if_neg q, if_neg q]
      have hk : k ∈ es.map (·.1) := by
        rcases List.mem_cons.mp (show k ∈ e.1 :: es.map (·.1) from h) with w | w
        · exact absurd w.symm q
        · exact w
      have ih := th_map u k x (es := es) n2 hk
      unfold th at ih
      rw [ih]
      omega
theorem th_put (u : α → Nat → Int) {es : List (Ent α)} (nd : NdK es) (k : α × Nat) (x : Int) : th u (put es k x) = th u es + (x - look es k) * u k.1 k.2 := by
  unfold put
  by_cases h : k ∈ es.map (·.1)
  · rw [if_pos (any_iff.mpr h), th_map u k x nd h]
  · rw [if_neg fun q => h (any_iff.mp q), look_no h]
    unfold th
    rw [sm_append, sm_cons, sm_nil]
    dsimp only
    rw [Int.add_zero, Int.sub_zero]
theorem th_one (u : α → Nat → Int) (c : Int) {es : List (Ent α)} (nd : NdK es) (t : α × Nat × Int) : th u (kOne c es t) = th u es + c * (t.2.2 * u t.1 t.2.1) := by
  unfold kOne
  rw [th_put u nd]
  dsimp only
  rw [show look es (t.1, t.2.1) + t.2.2 * c - look es (t.1, t.2.1) = t.2.2 * c by omega, Int.mul_comm t.2.2 c, Int.mul_assoc]
theorem nd_ones (c : Int) : ∀ (l : List (α × Nat × Int)) {es : List (Ent α)}, NdK es → NdK (l.foldl (kOne c) es)
  | [], _, h => h
  | t :: l, _, h => nd_ones c l (put_nd h _ _)
theorem th_ones (u : α → Nat → Int) (c : Int) : ∀ (l : List (α × Nat × Int)) {es : List (Ent α)}, NdK es → th u (l.foldl (kOne c) es) = th u es + c * sm l fun t => t.2.2 * u t.1 t.2.1
  | [], es, _ => by rw [sm_nil, Int.mul_zero, Int.add_zero]; rfl
  | t :: l, es, h => by
    have q := th_ones u c l (es := kOne c es t) (put_nd h _ _)
    rw [List.foldl_cons, q, th_one u c h, sm_cons, Int.mul_add]
    omega
theorem sm_filter {γ : Type} (f : γ → Int) (p : γ → Bool) : ∀ l : List γ, sm (l.filter p) f = sm l fun x => if p x = true then f x else 0
  | [] => rfl
  | x :: l => by
    rw [List.filter_cons, sm_cons, ← sm_filter f p l]
    by_cases h : p x = true
    · rw [if_pos h, if_pos h, sm_cons]
    · rw [if_neg h, if_neg h, Int.zero_add]
theorem sm_stp (b : Bk α β) (u : α → Nat → Int) (n : α) (w : β) (d : Nat) :
    sm (stp b n w d) (fun t => t.2.2 * u t.1 t.2.1) = u (b.g n w 0) (d + 1) + ((d - b.s n : Nat) : Int) * u (b.g n w 0) d + sm (List.range (b.s n)) fun c => u (b.g n w (c + 1)) d := by
  unfold stp
  rw [sm_filter, sm_append, sm_cons, sm_cons, sm_nil, sm_map]
  dsimp only
  have e1 : decide ((0 : Int) < 1) = true := by decide
  have e2 : (if decide (0 < (d : Int) - (b.s n : Int)) = true then ((d : Int) - (b.s n : Int)) * u (b.g n w 0) d else 0) = ((d - b.s n : Nat) : Int) * u (b.g n w 0) d := by
    by_cases z : 0 < (d : Int) - (b.s n : Int)
    · rw [decide_eq_true z, if_pos rfl]
      congr 1
      omega
    · rw [decide_eq_false z, if_neg Bool.false_ne_true, show d - b.s n = 0 by omega]
      simp
  have e3 : sm (List.range (b.s n)) (fun c => if decide ((0 : Int) < 1) = true then 1 * u (b.g n w (c + 1)) d else 0) = sm (List.range (b.s n)) (fun c => u (b.g n w (c + 1)) d) := sm_congr fun c _ => by rw [e1, if_pos rfl, Int.one_mul]
  rw [e3, e1, e2, if_pos rfl, Int.one_mul, Int.add_zero]
theorem nd_words (b : Bk α β) (e : Ent α) : ∀ (l : List β) {es : List (Ent α)}, NdK es → NdK (l.foldl (kWord b e) es)
  | [], _, h => h
  | w :: l, _, h => nd_words b e l (nd_ones _ _ h)
theorem th_words (b : Bk α β) (u : α → Nat → Int) (e : Ent α) : ∀ (l : List β) {es : List (Ent α)}, NdK es →
    th u (l.foldl (kWord b e) es) = th u es + e.2 * sm l fun w => u (b.g e.1.1 w 0) (e.1.2 + 1) + ((e.1.2 - b.s e.1.1 : Nat) : Int) * u (b.g e.1.1 w 0) e.1.2 + sm (List.range (b.s e.1.1)) fun c => u (b.g e.1.1 w (c + 1)) e.1.2
  | [], es, _ => by rw [sm_nil, Int.mul_zero, Int.add_zero]; rfl
  | w :: l, es, h => by
    have q := th_words b u e l (es := kWord b e es w) (nd_ones _ _ h)
    rw [List.foldl_cons, q, sm_cons, Int.mul_add]
    unfold kWord
    rw [th_ones u e.2 _ h, sm_stp]
    omega
theorem nd_ents (b : Bk α β) : ∀ (l : List (Ent α)) {es : List (Ent α)}, NdK es → NdK (l.foldl (kEnt b) es)
  | [], _, h => h
  | e :: l, _, h => nd_ents b l (nd_words b e _ h)
theorem th_ents (b : Bk α β) (u : α → Nat → Int) : ∀ (l : List (Ent α)) {es : List (Ent α)}, NdK es → th u (l.foldl (kEnt b) es) = th u es + th (opB b u) l
  | [], es, _ => by unfold th; rw [sm_nil, Int.add_zero]; rfl
  | e :: l, es, h => by
    have q := th_ents b u l (es := kEnt b es e) (nd_words b e _ h)
    rw [List.foldl_cons, q]
    unfold kEnt
    rw [th_words b u e _ h]
    show _ = th u es + (e.2 * opB b u e.1.1 e.1.2 + th (opB b u) l)
    unfold opB
    omega
theorem nd_kSt (b : Bk α β) : ∀ i, NdK (kSt b i)
  | 0 => by show ([(b.st, 0)] : List (α × Nat)).Nodup; simp
  | i + 1 => nd_ents b _ (by show ([] : List (α × Nat)).Nodup; simp)
theorem th_kSt (b : Bk α β) : ∀ (i : Nat) (u : α → Nat → Int), th u (kSt b i) = Hk b i u
  | 0, u => by
    show sm [((b.st, 0), (1 : Int))] (fun e => e.2 * u e.1.1 e.1.2) = u b.st 0
    rw [sm_cons, sm_nil, Int.add_zero]
    show 1 * _ = _
    rw [Int.one_mul]
  | i + 1, u => by
    show th u ((kSt b i).foldl (kEnt b) []) = Hk b i (opB b u)
    rw [th_ents b u _ (by show ([] : List (α × Nat)).Nodup; simp), th_kSt b i]
    show 0 + _ = _
    rw [Int.zero_add]
/-! where the entries stand -/
def In (b : Bk α β) (i : Nat) (es : List (Ent α)) : Prop := ∀ e ∈ es, e.1.1 ∈ b.P ∧ e.1.2 ≤ i
theorem in_put {b : Bk α β} {i : Nat} {es : List (Ent α)} (h : In b i es) {k : α × Nat} (hk : k.1 ∈ b.P ∧ k.2 ≤ i) (x : Int) : In b i (put es k x) := by
  intro e he
  have q : e.1 ∈ (put es k x).map (·.1) := List.mem_map.mpr ⟨e, he, rfl⟩
  rw [put_keys] at q
  have fin : e.1 ∈ es.map (·.1) → e.1.1 ∈ b.P ∧ e.1.2 ≤ i := fun z => by
    obtain ⟨e', h1, h2⟩ := List.mem_map.mp z
    rw [← h2]
    exact h e' h1
  split at q
  · exact fin q
  · rcases List.mem_append.mp q with z | z
    · exact fin z
    · rw [List.mem_singleton] at z
      rw [z]
      exact hk
theorem in_ones {b : Bk α β} {i : Nat} (c : Int) : ∀ (l : List (α × Nat × Int)) {es : List (Ent α)}, In b i es → (∀ t ∈ l, t.1 ∈ b.P ∧ t.2.1 ≤ i) → In b i (l.foldl (kOne c) es)
  | [], _, h, _ => h
  | t :: l, _, h, hl => in_ones c l (in_put h (hl t (by simp)) _) fun t' ht => hl t' (by simp [ht])
theorem stp_in {b : Bk α β} (ok : b.Ok) {n : α} {w : β} {d : Nat} (hn : n ∈ b.P) (hw : w ∈ b.W) : ∀ t ∈ stp b n w d, t.1 ∈ b.P ∧ t.2.1 ≤ d + 1 := by
  intro t ht
  have h := (List.mem_filter.mp ht).1
  rcases List.mem_append.mp h with q | q
  · rcases List.mem_cons.mp q with q | q
    · subst q
      exact ⟨ok.gP _ _ _ hn hw (Nat.zero_le _), Nat.le_refl _⟩
    · rw [List.mem_singleton] at q
      subst q
      exact ⟨ok.gP _ _ _ hn hw (Nat.zero_le _), Nat.le_succ _⟩
  · obtain ⟨c, hc, rfl⟩ := List.mem_map.mp q
    have := List.mem_range.mp hc
    exact ⟨ok.gP _ _ _ hn hw (by omega), Nat.le_succ _⟩
theorem in_words {b : Bk α β} (ok : b.Ok) {i : Nat} {e : Ent α} (he : e.1.1 ∈ b.P ∧ e.1.2 ≤ i) : ∀ (l : List β) {es : List (Ent α)}, (∀ w ∈ l, w ∈ b.W) → In b (i + 1) es → In b (i + 1) (l.foldl (kWord b e) es)
  | [], _, _, h => h
  | w :: l, _, hw, h => in_words ok he l (fun w' h' => hw w' (by simp [h'])) (in_ones _ _ h fun t ht => by
      have q := stp_in ok he.1 (hw w (by simp)) t ht
      have := he.2
      exact ⟨q.1, by omega⟩)
theorem in_ents {b : Bk α β} (ok : b.Ok) {i : Nat} : ∀ (l : List (Ent α)) {es : List (Ent α)}, In b i l → In b (i + 1) es → In b (i + 1) (l.foldl (kEnt b) es)
  | [], _, _, h => h
  | e :: l, _, hl, h => in_ents ok l (fun e' h' => hl e' (by simp [h'])) (in_words ok (hl e (by simp)) _ (fun _ h => h) h)
theorem in_kSt {b : Bk α β} (ok : b.Ok) : ∀ i, In b i (kSt b i)
  | 0 => fun e he => by
    have : e = ((b.st, 0), 1) := by simpa [kSt] using he
    subst this
    exact ⟨ok.st, Nat.le_refl _⟩
  | i + 1 => in_ents ok _ (in_kSt ok i) fun e he => by simp at he
/-- lists without repeats are no longer than what they lie in -/
theorem nd_len {γ : Type} [DecidableEq γ] : ∀ {l m : List γ}, l.Nodup → (∀ x ∈ l, x ∈ m) → l.length ≤ m.length
  | [], _, _, _ => Nat.zero_le _
  | x :: l, m, nd, h => by
    obtain ⟨n1, n2⟩ := List.nodup_cons.mp nd
    have hx : x ∈ m := h x (by simp)
    have q := nd_len (l := l) (m := m.erase x) n2 fun y hy => (List.mem_erase_of_ne (fun e => by subst e; exact n1 hy)).mpr (h y (by simp [hy]))
    rw [List.length_erase_of_mem hx] at q
    have : 0 < m.length := List.length_pos_of_mem hx
    rw [List.length_cons]
    omega
theorem len_ents {b : Bk α β} {i : Nat} {es : List (Ent α)} (nd : NdK es) (h : In b i es) : es.length ≤ b.P.length * (i + 1) := by
  have q := nd_len (l := es.map (·.1)) (m := b.P.flatMap fun n => (List.range (i + 1)).map fun d => (n, d)) nd fun k hk => by
    obtain ⟨e, he, rfl⟩ := List.mem_map.mp hk
    obtain ⟨h1, h2⟩ := h e he
    exact List.mem_flatMap.mpr ⟨e.1.1, h1, List.mem_map.mpr ⟨e.1.2, List.mem_range.mpr (by omega), rfl⟩⟩
  rw [List.length_map] at q
  have z : ∀ l : List α, (l.flatMap fun n => (List.range (i + 1)).map fun d => (n, d)).length = l.length * (i + 1) := by
    intro l
    induction l with
    | nil => simp
    | cons x l ih => rw [List.flatMap_cons, List.length_append, ih, List.length_map, List.length_range, List.length_cons, Nat.succ_mul, Nat.add_comm]
  rw [z] at q
  exact q

/-! ### the numbers of kinds -/
def fOne (b : Bk α β) (acc : List Int) (e : Ent α) : List Int := if b.y e.1.1 = true then acc.set e.1.2 (acc.getD e.1.2 0 + e.2) else acc
def kinds (b : Bk α β) (n : Nat) : List Int := (kSt b n).foldl (fOne b) (List.replicate (n + 1) 0)
theorem fOne_length (b : Bk α β) (acc : List Int) (e : Ent α) : (fOne b acc e).length = acc.length := by
  unfold fOne
  split <;> simp
theorem fFold_length (b : Bk α β) : ∀ (l : List (Ent α)) (acc : List Int), (l.foldl (fOne b) acc).length = acc.length
  | [], _ => rfl
  | e :: l, acc => (fFold_length b l _).trans (fOne_length b acc e)
theorem kinds_length (b : Bk α β) (n : Nat) : (kinds b n).length = n + 1 := by
  unfold kinds
  rw [fFold_length, List.length_replicate]
theorem sm_fOne (b : Bk α β) (f : Nat → Int) {acc : List Int} {e : Ent α} (h : e.1.2 < acc.length) :
    sm (List.range acc.length) (fun k => (fOne b acc e).getD k 0 * f k) = sm (List.range acc.length) (fun k => acc.getD k 0 * f k) + e.2 * if b.y e.1.1 = true then f e.1.2 else 0 := by
  unfold fOne
  by_cases q : b.y e.1.1 = true
  · rw [if_pos q, if_pos q]
    have z : sm (List.range acc.length) (fun k => (acc.set e.1.2 (acc.getD e.1.2 0 + e.2)).getD k 0 * f k) = sm (List.range acc.length) (fun k => acc.getD k 0 * f k + if e.1.2 = k then e.2 * f k else 0) := sm_congr fun k hk => by
      have hk' : k < acc.length := List.mem_range.mp hk
      by_cases w : e.1.2 = k
      · subst w
        rw [if_pos rfl]
        simp [List.getD, hk', Int.add_mul]
      · rw [if_neg w]
        simp [List.getD, List.getElem?_set_ne w]
    rw [z, sm_add, sm_one (fun k => e.2 * f k) e.1.2 List.nodup_range (List.mem_range.mpr h)]
  · rw [if_neg q, if_neg q, Int.mul_zero, Int.add_zero]
theorem sm_fFold (b : Bk α β) (f : Nat → Int) : ∀ (l : List (Ent α)) (acc : List Int), (∀ e ∈ l, e.1.2 < acc.length) →
    sm (List.range acc.length) (fun k => (l.foldl (fOne b) acc).getD k 0 * f k) = sm (List.range acc.length) (fun k => acc.getD k 0 * f k) + sm l fun e => e.2 * if b.y e.1.1 = true then f e.1.2 else 0
  | [], acc, _ => by rw [sm_nil, Int.add_zero]; rfl
  | e :: l, acc, h => by
    have q := sm_fFold b f l (fOne b acc e) fun e' he' => by rw [fOne_length]; exact h e' (by simp [he'])
    rw [fOne_length] at q
    rw [List.foldl_cons, q, sm_fOne b f (h e (by simp)), sm_cons]
    omega
theorem sm_kinds {b : Bk α β} (ok : b.Ok) (n : Nat) (f : Nat → Int) : sm (List.range (n + 1)) (fun k => (kinds b n).getD k 0 * f k) = Hk b n fun m d => if b.y m = true then f d else 0 := by
  have q := sm_fFold b f (kSt b n) (List.replicate (n + 1) 0) fun e he => by
    have := (in_kSt ok n e he).2
    rw [List.length_replicate]
    omega
  rw [List.length_replicate] at q
  have z : sm (List.range (n + 1)) (fun k => (List.replicate (n + 1) (0 : Int)).getD k 0 * f k) = 0 := by
    have e : sm (List.range (n + 1)) (fun k => (List.replicate (n + 1) (0 : Int)).getD k 0 * f k) = sm (List.range (n + 1)) (fun _ => (0 : Int)) := sm_congr fun k hk => by
      have : k < n + 1 := List.mem_range.mp hk
      simp [List.getD, this]
    rw [e, sm_zero]
  unfold kinds
  rw [q, z, Int.zero_add]
  exact th_kSt b n fun m d => if b.y m = true then f d else 0
/-! ### the law's three rows -/
theorem law1 {b : Bk α β} (ok : b.Ok) {N : Int} (hN : 0 ≤ N) (n : Nat) : ev N (yesP b n) = sm (List.range (n + 1)) fun k => (kinds b n).getD k 0 * wys N k := by
  rw [ev_yesP ok, sm_kinds ok, ← Hk_Gk ok hN]
  congr 1
  funext m d
  split <;> simp
theorem law2 {b : Bk α β} (ok : b.Ok) (ok' : b.turn.Ok) (N : Int) (n : Nat) : ev N (yesP b n) + ev N (yesP b.turn n) = ((b.W.length : Int) * N) ^ n := by
  rw [ev_yesP ok, ev_yesP ok', Gk_turn, ← Gk_add]
  have e : (fun m => (if b.y m = true then (1 : Int) else 0) + if b.turn.y m = true then 1 else 0) = fun _ => 1 := by
    funext m
    show (if b.y m = true then (1 : Int) else 0) + (if (!b.y m) = true then 1 else 0) = 1
    cases b.y m <;> rfl
  rw [e, Gk_one, Int.mul_one]
theorem kinds_sum {b : Bk α β} (ok : b.Ok) (n : Nat) : (kinds b n).sum = Hk b n fun m _ => if b.y m = true then 1 else 0 := by
  rw [← sm_kinds ok n fun _ => 1, sum_sm]
  have e : ∀ l : List Int, sm l id = sm (List.range l.length) fun k => l.getD k 0 * 1 := by
    intro l
    induction l with
    | nil => rfl
    | cons x l ih =>
      rw [sm_cons, ih, List.length_cons, List.range_succ_eq_map, sm_cons, sm_map]
      show x + _ = x * 1 + _
      rw [Int.mul_one]
      rfl
  rw [e, kinds_length]
theorem law3 {b : Bk α β} (ok : b.Ok) (ok' : b.turn.Ok) (n : Nat) : (kinds b n).sum + (kinds b.turn n).sum = (b.W.length : Int) ^ n * bel n fun _ => 1 := by
  rw [kinds_sum ok, kinds_sum ok', Hk_turn, ← Hk_add, ← Hk_bel ok]
  congr 1
  funext m d
  show (if b.y m = true then (1 : Int) else 0) + (if (!b.y m) = true then 1 else 0) = 1
  cases b.y m <;> rfl
theorem kinds_nn {b : Bk α β} (ok : b.Ok) (n k : Nat) : 0 ≤ (kinds b n).getD k 0 ∧ (kinds b n).getD k 0 ≤ (b.W.length : Int) ^ n * bel n fun _ => 1 := by
  by_cases h : k < n + 1
  · have q := sm_kinds ok n fun d => if k = d then 1 else 0
    have z : sm (List.range (n + 1)) (fun d => (kinds b n).getD d 0 * if k = d then 1 else 0) = sm (List.range (n + 1)) (fun d => if k = d then (kinds b n).getD d 0 else 0) := sm_congr fun d _ => by split <;> simp
    rw [z, sm_one (fun d => (kinds b n).getD d 0) k List.nodup_range (List.mem_range.mpr h)] at q
    rw [q, ← Hk_bel ok]
    refine ⟨?_, Hk_le n fun m d => ?_⟩
    · have h0 : Hk b n (fun _ _ => 0) ≤ Hk b n (fun m d => if b.y m = true then (if k = d then 1 else 0) else 0) := Hk_le n fun m d => by split <;> (try split) <;> decide
      rwa [Hk_zero] at h0
    · split <;> (try split) <;> decide
  · have z : (kinds b n).getD k 0 = 0 := by
      have : (kinds b n).length ≤ k := by rw [kinds_length]; omega
      simp [List.getD, List.getElem?_eq_none this]
    have h0 : Hk b n (fun _ _ => 0) ≤ Hk b n (fun _ _ => 1) := Hk_le n fun _ _ => by decide
    rw [Hk_zero] at h0
    rw [z, ← Hk_bel ok]
    exact ⟨Int.le_refl _, h0⟩
end
end FH

/-! FhRules: constructs that the layer lacks. -/
namespace FR
open PySem L2 PySem.Spec PyProof.Rows
section
variable {X : Cx}
/-- a walk over a list or a tuple, whichever it is -/
def iSeq (K : PySem.W.Frag) (te : TE) : TI := fun σ H R => te σ H fun v H1 => ∃ a, v = .ref a ∧ ((∃ xs, SqL K H1 a xs ∧ R (Itl K a) H1) ∨ ∃ xs, SqT K H1 a xs ∧ R (Itt K a) H1)
theorem pi_seq {tg e : Expr} {te : TE} (he : PE X e te) : PI X tg e (iSeq X.K te) :=
  ⟨fun pins s σ H R I h => thn (he.run pins s σ H _ I h) fun u s1 ⟨v, H1, I1, rv, a, ev, q⟩ => by
    subst ev
    cases rv
    have new : ∀ b ∈ [s1.heap.objs.size], FpOk X pins H1 b := fun b hb => by
      cases List.mem_singleton.mp hb
      exact I1.fpOk (Nat.le_refl _) (I1.hok.fresh (Nat.le_refl _))
    rcases q with ⟨xs, hx, q⟩ | ⟨xs, hx, q⟩
    · obtain ⟨its, rx, pl, _⟩ := I1.list hx
      exact wpAny_pyIter_list pl.isList ⟨_, _, _, _, H1, rfl, I1.kept (t' := s1.toks) (fun b o z => Heap.get?_push_of_some _ z), turn_list a _, ⟨_, Heap.get?_push_size _ rfl, rfl, rfl⟩, new, q⟩
    · obtain ⟨its, rx, pl, _⟩ := I1.tuple hx
      exact wpAny_pyIter_tuple (show s1.heap.IsTuple a its.toArray from pl) ⟨_, _, _, _, H1, rfl, I1.kept (t' := s1.toks) (fun b o z => Heap.get?_push_of_some _ z), turn_tuple a _, ⟨_, Heap.get?_push_size _ rfl, rfl, rfl⟩, new, q⟩⟩

/-- xs[i] read at a place from 0 on, for xs[i] += e -/
def rGetL (K : PySem.W.Frag) : V → V → Hp → VK → Prop := fun o i H Q => ∃ (p : Addr) (xs : List V) (j : Nat) (v : V), o = .ref p ∧ i = .int (j : Int) ∧ SqL K H p xs ∧ xs[j]? = some v ∧ Q v H
theorem get_list : PGet X (rGetL X.K) := by
  intro pins s σ H o i ov iv Q I ro ri h
  obtain ⟨p, xs, j, v, rfl, rfl, hx, ha, q⟩ := h
  obtain rfl : ov = Value.ref p := ro
  obtain ⟨t, rfl⟩ := ri
  obtain ⟨its, rx, pl, hz⟩ := I.list hx
  obtain ⟨u, hu, ru⟩ := rx.get ha
  have hs : sizeLine = 16777216 := sizeLine_eq
  have hj : j < xs.length := (List.getElem?_eq_some_iff.mp ha).1
  exact wpAny_getItem_list pl.isList (by omega) (by omega) (by simpa using hu) ⟨v, H, I, ru, q⟩

/-! ### a dict with tuple keys: its pairs walked; a display of one pair -/
/-- the pairs of the locked dict, each a new tuple of the key's own tuple and the value -/
def ItI (d : Addr) (o : Obj) (kvs : List (List Key × V)) : It where
  go := fun i H => H d = some (.frz o (.dT kvs)) ∧ i < kvs.length
  yld := fun i H x H' => ∃ (T b : Addr) (k : List Key) (v : V), kvs[i]? = some (k, v) ∧ H b = some (.tup (k.map kV)) ∧ x = .ref T ∧ H T = none ∧ H' = upd H T (.tup [.ref b, v])
  stop := fun i H => H d = some (.frz o (.dT kvs)) ∧ kvs.length ≤ i
theorem frzV {pins : List (Addr × Obj)} {σ : L2.St} {H : Hp} {s : Shared} {d : Addr} {o : Obj} {kvs : List (List Key × V)} (I : Inv X pins σ H s) (h : H d = some (.frz o (.dT kvs))) :
    (d == sysModules) = false ∧ ∃ (es : Array DictEntry) (ep : Nat), o.data = .dict es ep ∧ es.size = kvs.length ∧ s.heap.DictRaw d es ep ∧
      ∀ (i : Nat) (k : List Key) (v : V), kvs[i]? = some (k, v) → ∃ (hi : i < es.size) (b : Addr), es[i].key = .ref b ∧ H b = some (.tup (k.map kV)) ∧ RelV v es[i].val := by
  obtain ⟨hd, hz, hs, xs, pr, o', es, ep, ho, hx, hdt, he, _⟩ := I.hok d _ h
  rw [hd] at ho
  cases ho
  have l1 : es.size = xs.length := size_of_entries he
  have l2 : kvs.length = xs.length := Paired.length pr
  refine ⟨hs, es, ep, hdt, by omega, ⟨o, hd, hx, hdt⟩, fun i k v e => ?_⟩
  obtain ⟨y, hy, e1, e2, e3⟩ := paired_get pr e
  have hi : i < es.size := by
    have := (List.getElem?_eq_some_iff.mp hy).1
    omega
  have q := entry_at he i
  rw [hy, Array.getElem?_eq_getElem hi, Option.map_some] at q
  have q' := Option.some.inj q
  exact ⟨hi, y.2.1, by rw [q']; rfl, e2, by rw [q']; exact e3⟩
theorem turn_itemsT {P : Program} {w : World} {K : PySem.W.Frag} {d : Addr} {o : Obj} {es : Array DictEntry} {ep : Nat} {kvs : List (List Key × V)} {elts : List Expr} {kk : Nat} {tpos : Pos} (it : Addr) (hod : o.data = .dict es ep) :
    Turn P w K (.Tuple elts kk tpos) (ItI d o kvs) [it] it (fun i h => ∃ u v, IsItemIter h it d i es.size ep u v) where
  mem := List.mem_singleton.mpr rfl
  obj := fun i h ⟨u, v, e⟩ b hb => by
    cases List.mem_singleton.mp hb
    exact ⟨_, e, fun _ z => nomatch z⟩
  keep := fun i h h' ⟨u, v, e⟩ k => ⟨u, v, k it (List.mem_singleton.mpr rfl) _ e⟩
  item := by
    rintro X rfl rfl rfl hc i pins s σ H E I hf ⟨u, v, e⟩ ⟨hd, hi⟩
    obtain ⟨hs, es', ep', hdt, hsz, raw, ent⟩ := frzV I hd
    obtain ⟨rfl, rfl⟩ := dict_ep hod hdt
    obtain ⟨⟨k, x⟩, hk⟩ : ∃ p, kvs[i]? = some p := ⟨_, List.getElem?_eq_getElem hi⟩
    obtain ⟨hlt, b, ek, hb, rx⟩ := ent i k x hk
    have lt : it < s.heap.objs.size := Heap.lt_size e
    refine wpAny_pyNext_items_item_raw e raw hlt fun h' out hT _ kp => ⟨_, rfl, wpAny_letOwnedTupleGo_items (s := { s with heap := h' }) out fun h2 in2 sb => ?_⟩
    have nT := I.hok.fresh (Nat.le_refl s.heap.objs.size)
    have new : ObjOk X.prog X.w (upd H s.heap.objs.size (.tup [.ref b, x])) h2 s.heap.objs.size (.tup [.ref b, x]) :=
      ⟨by show 2 ≤ sizeLine; decide, [_, _], .cons (show L2.RelV (V.ref b) es'[i].key from ek) (.cons rx .nil), _, (sb.2 _ (Nat.ne_of_gt lt)).trans hT, rfl, _, rfl⟩
    have J := I.turnedNew (t' := s.toks) (ch := [it]) (fun c ob hc z => (sb.2 c (by simpa using hc)).trans (kp c ob (by simpa using hc) z)) hf (Nat.le_refl _) new
    refine ⟨.ref s.heap.objs.size, _, J, rfl, ⟨_, b, k, x, hk, hb, rfl, nT, rfl⟩, ⟨_, _, in2⟩, fun c hc => ?_⟩
    cases List.mem_singleton.mp hc
    rw [upd_ne (Nat.ne_of_lt lt)]
    exact (hf it (List.mem_singleton.mpr rfl)).1
  done := by
    rintro X rfl rfl rfl hc i pins s σ H E I hf ⟨u, v, e⟩ ⟨hd, hi⟩
    obtain ⟨hs, es', ep', hdt, hsz, raw, ent⟩ := frzV I hd
    obtain ⟨rfl, rfl⟩ := dict_ep hod hdt
    obtain ⟨f0, f1, f2, f3, f4, f5⟩ := hf it (List.mem_singleton.mpr rfl)
    exact wpAny_pyNext_items_end_raw (I.ok.hd hc) e raw (by omega) fun h' eb => ⟨rfl, I.turned (t' := s.toks) (fun b ob hb z => eb b ob hb z) f0 f1 f3 f4 f5⟩
  self := fun A i s Q E ⟨_, _, e⟩ h => wpAny_pyIter_itemiter e h
def iItemsT (td : TE) : TI := fun σ H R => td σ H fun x H1 => ∃ d o kvs, x = .ref d ∧ H1 d = some (.frz o (.dT kvs)) ∧ R (ItI d o kvs) H1
theorem pi_itemsT {e : Expr} {td : TE} {apos cpos tpos : Pos} {elts : List Expr} {kk : Nat} (he : PE X e td) (hb : attributeBase e "items" X.env (eval e X.env) = eval e X.env := by rfl) (hl : (apos.endLine == cpos.line) = true := by rfl) :
    PI X (.Tuple elts kk tpos) (.Call (.Attribute e "items" apos) [] [] cpos) (iItemsT td) :=
  ⟨fun pins s σ H R I h => by
    refine wpAny_Call_method (T := "dict") (id := "dict.items") hb rfl hl F.plainAttrs_dict F.slot_dict_items F.type_dict_items (thn (he.run pins s σ H _ I h) fun u s1 ⟨x, H1, I1, rx, d, o, kvs, ex, hd, q⟩ => ?_)
    subst ex
    obtain rfl : u = Value.ref d := rx
    obtain ⟨hs, es, ep, hdt, hsz, raw, ent⟩ := frzV I1 hd
    obtain ⟨od, hod, hoc, hodt⟩ := id raw
    have J : Inv X pins σ H1 { s1 with heap := s1.heap.push { cls := .type "dict_items", data := .fields #[.ref d] } } := I1.kept (t' := s1.toks) fun b ob z => Heap.get?_push_of_some _ z
    have fin : wpAny (model X.prog X.w) X.A (pyIter (.ref s1.heap.objs.size)) (PIE X pins σ (.Tuple elts kk tpos) R) X.xe { s1 with heap := s1.heap.push { cls := .type "dict_items", data := .fields #[.ref d] } } :=
      wpAny_pyIter_items_raw (d := d) ⟨_, Heap.get?_push_size _ rfl, rfl, rfl⟩ (raw.at fun _ z => Heap.get?_push_of_some _ z) (pi_one (tk := s1.toks) J _ (turn_itemsT _ hdt) ⟨.none, .none, Heap.get?_push_size _ rfl⟩ q)
    refine ⟨raw.typeIs, ?_, ?_⟩
    · intro b z
      cases z
      exact ⟨od, hod, hoc.2.1⟩
    · exact method_meetsIn F.slot_dict_items F.entry_dict_items rfl (PySem.evalArgs_none ⟨rfl, raw.typeIs, F.args_dict_items_1 _, _, meets_dict_items_raw d hs, ⟨⟨es, ep, raw⟩, fin⟩⟩)⟩
theorem walk_itemsT {d : Addr} {o : Obj} {kvs : List (List Key × V)} : Walk (ItI d o kvs) kvs.length (fun H => H d = some (.frz o (.dT kvs)))
    (fun i H x H' => ∃ (T b : Addr) (k : List Key) (v : V), kvs[i]? = some (k, v) ∧ H b = some (.tup (k.map kV)) ∧ x = .ref T ∧ H T = none ∧ H' = upd H T (.tup [.ref b, v])) :=
  ⟨fun _ _ hi q => ⟨q, hi⟩, fun _ q => ⟨q, Nat.le_refl _⟩, fun _ _ _ _ _ _ y => y⟩
/-- {k: v}, one pair, k a tuple -/
def tDisp1 (tk tv : TE) : TE := fun σ H Q => ∀ p, H p = none → tk σ (upd H p (.dT [])) fun x H1 => tv σ H1 fun y H2 => ∃ (b : Addr) (k : List Key), x = .ref b ∧ H2 b = some (.tup (k.map kV)) ∧ H2 p = some (.dT []) ∧ Q (.ref p) (upd H2 p (.dT [(k, y)]))
theorem pe_disp1 {k v : Expr} {tk tv : TE} {pos : Pos} (hu : X.A.units + 1 < cLine) (hk : PE X k tk) (hv : PE X v tv) : PE X (.Dict [some k] [v] pos) (tDisp1 tk tv) :=
  ⟨fun pins s σ H Q I h => by
    have hn := I.hok.fresh (Nat.le_refl s.heap.objs.size)
    have J := I.laid (a := s.heap.objs.size) (o := .dT []) (h' := s.heap.push { cls := .type "dict", data := .dict #[] }) (t' := s.toks) (fun _ _ z => Heap.get?_push_of_some _ z) (Nat.le_refl _) (dt_empty s.heap I.big)
    rw [arm_eval_Dict, show (evalEachOpt [some k] X.env).zip ((evalEach [v] X.env).map fun v => do let x ← v; standAt pos; pure x) = (pairTrees [some k] [v] X.env pos).map (fun p => (some p.1, p.2)) from rfl,
      dictDisplay_pairs (pairTrees [some k] [v] X.env pos) (by intro z; cases z) (show 1 < 17 by decide)]
    refine wpAny_bind (wpAny_standAt (wpAny_bind (wpAny_subDictH (knd := tupleKind (mixKind X.prog X.w)) (Q := fun d s' => wpAny (model X.prog X.w) X.A (pure (Value.ref d)) _ X.xe s') (show X.A.units < cLine by omega) (show 1 ≤ 15 by decide)
      (thn ((pps_cons hk hv pps_nil).run pins _ σ _ (fun ps H2 => match ps with
        | [(x, y)] => ∃ (b : Addr) (k : List Key), x = .ref b ∧ H2 b = some (.tup (k.map kV)) ∧ H2 s.heap.objs.size = some (.dT []) ∧ Q (.ref s.heap.objs.size) (upd H2 s.heap.objs.size (.dT [(k, y)]))
        | _ => False) J (h _ hn)) fun ws s2 ⟨ps, H2, I2, rel, q⟩ => ?_))))
    cases rel with
    | nil => exact False.elim q
    | @cons p0 p1 l1 l2 r rr =>
      cases rr with
      | cons _ _ => exact False.elim q
      | nil =>
        obtain ⟨x, y⟩ := p0
        obtain ⟨wk, wv⟩ := p1
        obtain ⟨b, kk, ex, hb, hp, q⟩ := q
        have ex' : x = V.ref b := ex
        subst ex'
        obtain rfl : wk = Value.ref b := r.1
        obtain ⟨z, hd, xs, rel0, dd⟩ := dt_of I2.hok hp
        cases rel0
        refine ⟨[(kk, b, wv)], ⟨rfl, rfl, key_of I2.hok hb, True.intro⟩, dd, fun h' tk dd' hs => wpAny_pure ⟨.ref s.heap.objs.size, _, ?_, rfl, q⟩⟩
        have e1 : storedAllH [] [(kk, b, wv)] = [(kk, b, wv)] := rfl
        rw [e1] at dd'
        obtain ⟨ob, es, ep, hq, h2, h3, h4, _, h5⟩ := dd'
        have hne : b ≠ s.heap.objs.size := ne_of hb hp (fun z => nomatch z)
        exact d_write I2 (by rw [hp]; exact True.intro) hs ⟨ob, hq⟩ ⟨by show 1 ≤ sizeLine; rw [sizeLine_eq]; decide, hd, [(kk, b, wv)], .cons ⟨rfl, by rw [upd_ne hne]; exact hb, r.2⟩ .nil, ob, es, ep, hq, h2, h3, h4, h5⟩⟩

/-! ### o.m(k = v, ..): keywords alone -/
def tMethK (n : Nat) (sp : Sp) (gV : List V → List V → List V) (E : XK) (ta : TE) (m : Str) (C : Addr) (tk : TA) : TE := fun σ H Q => ta σ H fun x H1 => ∃ a dx fs, x = .ref a ∧ H1 a = some (.ins C dx fs) ∧ fs.lookup m = none ∧
  tk σ H1 fun zs H2 => zs.length = n ∧ sp (gV [x] zs) H2 Q E
theorem pe_methK {CX : CXT} {k : Nat} {C f : Addr} {fd : FuncData} {ps ks : List Str} {sp : Sp} {E : XK} {m : Str} {pos apos : Pos} {o : Expr} {kws : List Keyword} {ta : TE} {tk : TA} {g : List Value → List Value → List Value} {gV : List V → List V → List V} {pl : Sem Bool}
    (ho : PE X o ta) (c : Cls X.K C) (hm : Meth X.K C m f) (F : FnOk X.prog X.w X.K X.mg X.base CX k f fd ps sp) (hr : Room k X.A) (hb : KBn X.K fd ps 1 ks g gV) (hx : Passes CX X E) (hkw : PK X kws tk)
    (hall : (backToKw pos (keywordEach kws X.env)).all (·.1.isSome) = true := by rfl) (hks : (backToKw pos (keywordEach kws X.env)).filterMap (·.1) = ks := by rfl)
    (hpl : ((backTo pos (starEach [] X.env)).any (·.1) || (backToKw pos (keywordEach kws X.env)).any (·.1.isNone)) = false := by rfl)
    (ht : eval (.Call (.Attribute o m apos) [] kws pos) X.env = (do
      let ov ← eval o X.env
      standAt apos.atName
      let (f, first) ← holding [ov] (getMethod ov m pl)
      callWith pos f first (backTo pos (starEach [] X.env)) (backToKw pos (keywordEach kws X.env))) := by rfl) :
    PE X (.Call (.Attribute o m apos) [] kws pos) (tMethK ks.length sp gV E ta m C tk) :=
  ⟨fun pins s σ H Q I h => by
    refine PySem.W.methodCall_KW (pl := pl) (thn (ho.run pins s σ H _ I h) fun u s1 ⟨x, H1, I1, rx, a, dx, fs, ex, ea, l, q⟩ => ?_) ht
    subst ex
    obtain rfl : u = Value.ref a := rx
    refine getmeth_ok I1 ea c hm l (PySem.W.callWith_KW0 (first := [.ref a]) (h₀ := X.base) I.ok.mod.kin hm.kp hall (thn (hkw.run pos pins s1 σ H1 _ I1 q) fun ws s2 ⟨zs, H2, I2, rz, lz, q2⟩ => ⟨I2.kIn, ?_⟩) hpl)
    rw [hks]
    exact run_fnN (us := [.ref a]) (vs := [.ref a]) F hr hb hx I2 (.cons rfl .nil) rz rfl lz q2⟩

/-- a dict comprehension over any walk -/
theorem dc_it {J : It} {n : Nat} {G : Hp → Prop} {Y : Nat → Hp → V → Hp → Prop} (w : Walk J n G Y) {g : TG} {tt : TT} {tk tv : TE} {vs : List Nat} {σ : L2.St} {H1 : Hp} {D : Addr} {Qd : Hp → Prop} (Pv : Nat → Hp → Prop) (h0 : Pv 0 (upd H1 D (.dK []))) (hG : ∀ i H, i ≤ n → Pv i H → G H)
    (hs : ∀ i x H H', i < n → Pv i H → Y i H x H' → g x (wipe σ vs) H' fun σ2 H2 => wipe σ2 vs = wipe σ vs ∧ tt σ2 H2 fun b H3 =>
      if b = true then tk σ2 H3 fun y H4 => tv σ2 H4 fun z H5 => ∃ kvs k, y = kV k ∧ H5 D = some (.dK kvs) ∧ kvs.length < sizeLine ∧ Pv (i + 1) (upd H5 D (.dK (putK kvs k z))) else Pv (i + 1) H3) (hd : ∀ H, Pv n H → Qd H) :
    ∃ W : Nat → Nat → Hp → Prop, (∃ m, W 0 m (upd H1 D (.dK []))) ∧ ∀ i m H, W i m H →
      (J.stop i H ∧ Qd H) ∨ (J.go i H ∧ ∃ Nx : Hp → Prop, (∀ H', Nx H' → ∃ m', m' < m ∧ W (i + 1) m' H') ∧ ∀ x H', J.yld i H x H' → g x (wipe σ vs) H' fun σ2 H2 => wipe σ2 vs = wipe σ vs ∧ tt σ2 H2 fun b H3 =>
        if b = true then tk σ2 H3 fun y H4 => tv σ2 H4 fun z H5 => ∃ kvs k, y = kV k ∧ H5 D = some (.dK kvs) ∧ kvs.length < sizeLine ∧ Nx (upd H5 D (.dK (putK kvs k z))) else Nx H3) := by
  refine ⟨fun i m H => m + i = n ∧ Pv i H, ⟨n, rfl, h0⟩, ?_⟩
  rintro i m H ⟨e, p⟩
  have q := hG i H (by omega) p
  rcases Nat.lt_or_ge i n with lt | ge
  · exact .inr ⟨w.goes i H lt q, Pv (i + 1), fun H' p' => ⟨n - (i + 1), by omega, by omega, p'⟩, fun x H' y => hs i x H H' lt p (w.yields i H x H' lt q y)⟩
  · obtain rfl : i = n := by omega
    exact .inl ⟨w.stops H q, hd H p⟩
/-- name = {k: v for ..} on one line, the name a local -/
theorem ps_setDc {i : Nat} {y : Str} {py : Pos} {kx vx tg iter : Expr} {ifs : List Expr} {scope : Scope} {own : List (Str × Nat)} {pos spos : Pos} {wi : TI} {g : TG} {tt : TT} {tk tv : TE} (hc : X.calm = true) (hN : X.N.Nodup) (hy : X.N[i]? = some y) (hyl : X.env.scope.names.lookup y = some .local)
    (hsw : swapsWith (.DictComp kx vx [⟨tg, iter, ifs, 0⟩] scope pos) (some (.Name y py)) spos.line X.env = pure true) (hi : PI X tg iter wi) (ok : BlkOk X.N X.env.scope scope own)
    (hg : ∀ (s : Shared) (H : Hp) (C : Addr) (cl : List (Str × Addr)) (fp : List Addr), PG (X.blk s H scope (compEnvC scope cl C X.env) fp) tg g) (ht : ∀ (s : Shared) (H : Hp) (C : Addr) (cl : List (Str × Addr)) (fp : List Addr), PTs (X.blk s H scope (compEnvC scope cl C X.env) fp) ifs tt)
    (hk : ∀ (s : Shared) (H : Hp) (C : Addr) (cl : List (Str × Addr)) (fp : List Addr), PE (X.blk s H scope (compEnvC scope cl C X.env) fp) kx tk)
    (hv : ∀ (s : Shared) (H : Hp) (C : Addr) (cl : List (Str × Addr)) (fp : List Addr), PE (X.blk s H scope (compEnvC scope cl C X.env) fp) vx tv) (hs : ∀ x, foldedSetIterable iter X.env x = pure x := by intro _; rfl) :
    PS X (.Assign [.Name y py] (.DictComp kx vx [⟨tg, iter, ifs, 0⟩] scope pos) spos) (tAsg (tDc wi g tt tk tv (own.map (·.2))) (gName i)) :=
  ⟨fun pins s σ H D I h => by
    rw [exec_Assign_Name_used _ _ _ _ hsw]
    refine wpAny_bind (wpAny_standAt (wpAny_bind ?_))
    show wpAny _ X.A (do let _ ← comprehension (.DictComp kx vx [⟨tg, iter, ifs, 0⟩] scope pos) scope X.env (firstIterPos [⟨tg, iter, ifs, 0⟩] pos) newDict false (eval iter X.env) (some (assign (.Name y py) X.env))) _ _ s
    have h : tDc wi g tt tk tv (own.map (·.2)) σ H (fun v H1 => gName i v σ H1 D.nx) := h
    refine wpAny_bind (thn (dc_core (Qf := fun _ s' => SP X pins D .next s') hc hN I hi ok hg ht hk hv hs h fun L C s' m H' I' q hn f => ?_) fun _ s' hq => wpAny_pure (wpAny_pure hq))
    show wpAny _ _ (assign (.Name y py) X.env (.ref L)) _ _ _
    refine wpAny_assign_Name (store_ok2 (v := V.ref L) I' hN hy (.inl hyl) rfl (fun s2 I2 ⟨a, sb, ha⟩ => ?_) (.inr hyl))
    obtain ⟨f0, f1, f2, f3, f4, f5⟩ := f
    have hne : C ≠ a := ha.elim (fun z => z ▸ f1) fun z e => f4 y a z e.symm
    exact ⟨m, hn.sameBut sb hne, fun h3 sb3 => ⟨_, H', I2.turned (t' := s2.toks) (fun b o hb e => (sb3.2 b hb).trans e) f0 f1 f3 f4 f5, q⟩⟩⟩
theorem swd_true {kx vx : Expr} {gs : List Comprehension} {scope : Scope} {pos py : Pos} {y : Str} {l : Nat} {env : Env} (hk : env.scope.kind = .function) (hy : env.scope.names.lookup y = some .local) (hl : (py.line == pos.line) = true)
    (ha : (scope.names.any fun (n, k) => n == y && (k == .local || k == .cell)) = false) : swapsWith (.DictComp kx vx gs scope pos) (some (.Name y py)) l env = pure true := by
  have e1 : env.kindOf y = some .local := hy
  have e2 : env.blockKind = .function := by unfold Env.blockKind; rw [hk]; rfl
  unfold swapsWith
  simp only [e2, e1, ha, Expr.pos, hl]
  rfl
end
end FR

/-! FhBase: the text by places, what stands in the heap, calls in short. -/
namespace FW
open PySem L2 FR
/-! ### the text -/
def top (i : Nat) : Stmt := PySem.Challenge.pw_fewestheld_k39_whole_kinds_and_rows.main.body.getD i (.Pass ⟨0, 0, 0, 0⟩)
abbrev sCheckReads : Stmt := top 9
abbrev sPlus : Stmt := top 10
abbrev sTimesRest : Stmt := top 11
abbrev sTrimmed : Stmt := top 12
abbrev sPolynomials : Stmt := top 13
abbrev sPlacePolynomials : Stmt := top 14
abbrev sYesPolynomial : Stmt := top 15
abbrev sValue : Stmt := top 16
abbrev sYesCount : Stmt := top 17
abbrev sKindNumbers : Stmt := top 18
abbrev sSteps : Stmt := top 19
abbrev sKindCount : Stmt := top 20
abbrev sIsName : Stmt := top 28
abbrev sAreDifferent : Stmt := top 29
abbrev sRequire : Stmt := top 30
abbrev sRequireNames : Stmt := top 31
abbrev sCheckedPlace : Stmt := top 32
abbrev sInit : Stmt := inClass (top 33) 0
abbrev sAsked : Stmt := inClass (top 33) 1
abbrev sCheckedRule : Stmt := inClass (top 33) 2
abbrev sPlaceNames : Stmt := inClass (top 33) 3
abbrev sRules : Stmt := inClass (top 33) 4
abbrev sCheckWord : Stmt := inClass (top 33) 5
abbrev sPlace : Stmt := inClass (top 33) 6
abbrev sSlots : Stmt := inClass (top 33) 7
abbrev sSaysYes : Stmt := inClass (top 33) 8
abbrev sRule : Stmt := inClass (top 33) 9
abbrev sWithParts : Stmt := inClass (top 33) 10
abbrev sTurned : Stmt := inClass (top 33) 14
abbrev sLawRow : Stmt := top 35
abbrev sLawNumbers : Stmt := top 36
abbrev sLawDrawnRule : Stmt := top 37
abbrev sLawParts : Stmt := top 38
abbrev sLawMake : Stmt := top 39
abbrev sLawNames : Stmt := top 40
abbrev sLawWords : Stmt := top 41
abbrev sLawWays : Stmt := top 42
abbrev sLawParted : Stmt := top 43
abbrev sLaw : Stmt := top 44

/-! ### calls in short -/
section
variable {P : Program} {w : World} {K : PySem.W.Frag} {mg : Str → Option Value} {base : Heap}
/-- a def of the top, ready to be called -/
structure Cal (P : Program) (w : World) (K : PySem.W.Frag) (mg : Str → Option Value) (base : Heap) (k : Nat) (x : Str) (ps : List Str) (sp : Sp) : Prop where
  ex : ∃ (f : Addr) (fd : FuncData), FnOk P w K mg base CX0 k f fd ps sp ∧ mg x = some (.ref f) ∧ PySem.W.keepIn K (.ref f) = true ∧ Binds K fd ps []
/-- a method of the class at C -/
structure MCal (P : Program) (w : World) (K : PySem.W.Frag) (mg : Str → Option Value) (base : Heap) (k : Nat) (C : Addr) (x : Str) (ps : List Str) (sp : Sp) : Prop where
  ex : ∃ (f : Addr) (fd : FuncData), FnOk P w K mg base CX0 k f fd ps sp ∧ Meth K C x f ∧ Binds K fd ps []
/-- a property of the class at C -/
structure PCal (P : Program) (w : World) (K : PySem.W.Frag) (mg : Str → Option Value) (base : Heap) (k : Nat) (C : Addr) (x : Str) (sp : Sp) : Prop where
  ex : ∃ (p f : Addr) (fd : FuncData), FnOk P w K mg base CX0 k f fd ["self"] sp ∧ PropOf K C x p f ∧ Binds K fd ["self"] []
theorem Cal.mono {j k : Nat} {x : Str} {ps : List Str} {sp : Sp} (c : Cal P w K mg base j x ps sp) (h : j ≤ k) : Cal P w K mg base k x ps sp :=
  let ⟨f, fd, F, r⟩ := c.ex; ⟨f, fd, F.mono h, r⟩
theorem MCal.mono {j k : Nat} {C : Addr} {x : Str} {ps : List Str} {sp : Sp} (c : MCal P w K mg base j C x ps sp) (h : j ≤ k) : MCal P w K mg base k C x ps sp :=
  let ⟨f, fd, F, r⟩ := c.ex; ⟨f, fd, F.mono h, r⟩
theorem PCal.mono {j k : Nat} {C : Addr} {x : Str} {sp : Sp} (c : PCal P w K mg base j C x sp) (h : j ≤ k) : PCal P w K mg base k C x sp :=
  let ⟨p, f, fd, F, r⟩ := c.ex; ⟨p, f, fd, F.mono h, r⟩
end
section
variable {X : Cx} {k : Nat} {C : Addr} {x m : Str} {ps : List Str} {sp : Sp} {p pos apos : Pos} {e o : Expr} {es : List Expr} {t : TA} {ta : TE}
def tCal (sp : Sp) (t : TA) : TE := fun σ H Q => t σ H fun vs H1 => sp vs H1 Q E0
theorem tCal_eq (sp : Sp) (t : TA) : tCall sp [] E0 t = tCal sp t := by
  unfold tCall tCal
  funext σ H Q
  congr 1
  funext vs H1
  rw [List.append_nil]
theorem pe_cal (c : Cal X.prog X.w X.K X.mg X.base k x ps sp) (hr : Room k X.A) (ha : PA X (e :: es) t) (hg : Gl X x := by rfl) (hdb : (x == ("__debug__" : Str)) = false := by decide)
    (he : starEach (e :: es) X.env = (false, eval e X.env) :: starEach es X.env := by rfl) (hpl : (backTo pos (starEach es X.env)).any (·.1) = false := by rfl) : PE X (.Call (.Name x p) (e :: es) [] pos) (tCal sp t) := by
  obtain ⟨f, fd, F, hm, hk, hb⟩ := c.ex
  rw [← tCal_eq]
  exact pe_call F hr hg hm hk hb .nil pass0 ha hdb he hpl
def tMCal (C : Addr) (m : Str) (sp : Sp) (ta : TE) (t : TA) : TE := fun σ H Q => ta σ H fun x H1 => ∃ a dx fs, x = .ref a ∧ H1 a = some (.ins C dx fs) ∧ fs.lookup m = none ∧ t σ H1 fun vs H2 => sp (x :: vs) H2 Q E0
theorem tMCal_eq (C : Addr) (m : Str) (sp : Sp) (ta : TE) (t : TA) : tMeth C m sp [] E0 ta t = tMCal C m sp ta t := by
  unfold tMeth tMCal
  funext σ H Q
  congr 1
  funext x H1
  simp only [List.append_nil]
theorem pe_mcal {pl : Sem Bool} (c : MCal X.prog X.w X.K X.mg X.base k C m ps sp) (hr : Room k X.A) (ho : PE X o ta) (cl : Cls X.K C) (ha : PA X (e :: es) t)
    (hst : starEach (e :: es) X.env = (false, eval e X.env) :: starEach es X.env := by rfl) (hpl : (backTo pos (starEach es X.env)).any (·.1) = false := by rfl)
    (ht : eval (.Call (.Attribute o m apos) (e :: es) [] pos) X.env = (do
      let ov ← eval o X.env
      standAt apos.atName
      let (f, first) ← holding [ov] (getMethod ov m pl)
      callWith pos f first (backTo pos (starEach (e :: es) X.env)) (backToKw pos (keywordEach [] X.env))) := by rfl) :
    PE X (.Call (.Attribute o m apos) (e :: es) [] pos) (tMCal C m sp ta t) := by
  obtain ⟨f, fd, F, hm, hb⟩ := c.ex
  rw [← tMCal_eq]
  exact pe_meth ho cl hm F hr hb .nil pass0 ha hst hpl ht
theorem pe_mcal0 {pl : Sem Bool} (c : MCal X.prog X.w X.K X.mg X.base k C m ps sp) (hr : Room k X.A) (ho : PE X o ta) (cl : Cls X.K C)
    (ht : eval (.Call (.Attribute o m apos) [] [] pos) X.env = (do
      let ov ← eval o X.env
      standAt apos.atName
      let (f, first) ← holding [ov] (getMethod ov m pl)
      callWith pos f first (backTo pos (starEach [] X.env)) (backToKw pos (keywordEach [] X.env))) := by rfl) :
    PE X (.Call (.Attribute o m apos) [] [] pos) (tMCal C m sp ta tNil) := by
  obtain ⟨f, fd, F, hm, hb⟩ := c.ex
  rw [← tMCal_eq]
  exact pe_meth0 ho cl hm F hr hb .nil pass0 ht
def tPCal (C : Addr) (sp : Sp) (ta : TE) : TE := fun σ H Q => ta σ H fun x H1 => ∃ a dx fs, x = .ref a ∧ H1 a = some (.ins C dx fs) ∧ sp [.ref a] H1 Q E0
theorem pe_pcal {f : Str} (c : PCal X.prog X.w X.K X.mg X.base k C f sp) (hr : Room (k + 1) X.A) (ho : PE X o ta) (cl : Cls X.K C) (hab : attributeBase o f X.env (eval o X.env) = eval o X.env := by rfl) : PE X (.Attribute o f pos) (tPCal C sp ta) := by
  obtain ⟨p, g, fd, F, hm, hb⟩ := c.ex
  exact pe_prop ho cl hm F hr hb .nil pass0 hab
/-- a module's int, text -/
theorem pe_gi {n : Int} (h : ∃ t, X.mg x = some (.int n t)) (hg : Gl X x := by rfl) (hd : (x == ("__debug__" : Str)) = false := by decide) : PE X (.Name x pos) (tC (.int n)) := by
  obtain ⟨t, h⟩ := h
  exact pe_glob hg h ⟨t, rfl⟩ hd
theorem pe_gs {z : Str} (h : ∃ t, X.mg x = some (.str z t)) (hg : Gl X x := by rfl) (hd : (x == ("__debug__" : Str)) = false := by decide) : PE X (.Name x pos) (tC (.str z)) := by
  obtain ⟨t, h⟩ := h
  exact pe_glob hg h ⟨t, rfl⟩ hd
/-- f(e), f(e, ..), a built-in -/
theorem pe_len {te : TE} (hm : X.mg "len" = none) (ha : PE X e te) (hs : starEach [e] X.env = (false, eval e X.env) :: starEach [] X.env := by rfl) (hg : Gl X "len" := by rfl) : PE X (.Call (.Name "len" p) [e] [] pos) (tCB (fun xs H Q => ∃ x n, xs = [x] ∧ LenV X.K x H n ∧ Q (.int n) H) (tCons te tNil)) :=
  pe_callB call_len hg hm PySem.boot_len (pa_cons ha pa_nil hs) (he := hs)
end

/-! ### rules with the written part told (within a comprehension) -/
section
variable {X : Cx} {p pos : Pos} {e a b : Expr} {te ta tb : TE}
theorem kIxL (K : PySem.W.Frag) (h : X.K = K := by rfl) : IxR X (rIxL K) := by subst h; exact ix_list
theorem kIxT (K : PySem.W.Frag) (h : X.K = K := by rfl) : IxR X (rIxT K) := by subst h; exact ix_tup
theorem kIn (K : PySem.W.Frag) (h : X.K = K := by rfl) : OpR X (compareOp .In) (rIn K false) := by subst h; exact op_in_seq
theorem kNotIn (K : PySem.W.Frag) (h : X.K = K := by rfl) : OpR X (compareOp .NotIn) (rIn K true) := by subst h; exact op_notIn_seq
def rLenK (K : PySem.W.Frag) : List V → Hp → VK → Prop := fun xs H Q => ∃ x n, xs = [x] ∧ LenV K x H n ∧ Q (.int n) H
theorem pe_lenK (K : PySem.W.Frag) (hm : X.mg "len" = none) (ha : PE X e te) (h : X.K = K := by rfl) (hs : starEach [e] X.env = (false, eval e X.env) :: starEach [] X.env := by rfl) (hg : Gl X "len" := by rfl) : PE X (.Call (.Name "len" p) [e] [] pos) (tCB (rLenK K) (tCons te tNil)) := by
  subst h
  exact pe_callB call_len hg hm PySem.boot_len (pa_cons ha pa_nil hs) (he := hs)
theorem pg_tupK (K : PySem.W.Frag) (n : Nat) {es : List Expr} {k : Nat} {t : TGs} (hc : X.calm = true) (h : PGs X es t) (hK : X.K = K := by rfl)
    (hn : (assignEach es X.env).length = n := by rfl) (hst : (assignEach es X.env).findIdx? (·.1) = none := by rfl) : PG X (.Tuple es k pos) (gTup K n t) := by
  subst hK
  exact pg_tup hc h hn hst
theorem pe_fldK (K : PySem.W.Frag) {f : Str} (he : PE X e ta) (hK : X.K = K := by rfl) (hb : attributeBase e f X.env (eval e X.env) = eval e X.env := by rfl) : PE X (.Attribute e f pos) (tFld K ta f) := by
  subst hK
  exact pe_fld he hb
end

/-! ### what stands: lists of things -/
/-- each of l stands in its place of xs, by R -/
structure All2 {α : Type} (R : α → V → Prop) (l : List α) (xs : List V) : Prop where
  len : xs.length = l.length
  at_ : ∀ (j : Nat) x, l[j]? = some x → ∃ v, xs[j]? = some v ∧ R x v
section
variable {α : Type} {R R' : α → V → Prop} {l : List α} {xs : List V}
theorem All2.nil : All2 R [] [] := ⟨rfl, fun j x h => by simp at h⟩
theorem All2.snoc {x : α} {v : V} (a : All2 R l xs) (r : R x v) : All2 R (l ++ [x]) (xs ++ [v]) := by
  refine ⟨by rw [List.length_append, List.length_append, a.len]; rfl, fun j y h => ?_⟩
  by_cases hj : j < l.length
  · rw [List.getElem?_append_left hj] at h
    obtain ⟨u, hu, ru⟩ := a.at_ j y h
    exact ⟨u, by rw [List.getElem?_append_left (by rw [a.len]; exact hj)]; exact hu, ru⟩
  · rw [List.getElem?_append_right (by omega)] at h
    have e : j - l.length = 0 := by
      have := (List.getElem?_eq_some_iff.mp h).1
      simp at this
      exact this
    rw [e] at h
    have : x = y := by simpa using h
    subst this
    refine ⟨v, ?_, r⟩
    rw [List.getElem?_append_right (by rw [a.len]; omega), a.len, e]
    rfl
theorem All2.mono (a : All2 R l xs) (h : ∀ x v, R x v → R' x v) : All2 R' l xs := ⟨a.len, fun j x hj => let ⟨v, hv, r⟩ := a.at_ j x hj; ⟨v, hv, h x v r⟩⟩
theorem All2.of (a : All2 R l xs) {j : Nat} {v : V} (h : xs[j]? = some v) : ∃ x, l[j]? = some x ∧ R x v := by
  have hj : j < l.length := by rw [← a.len]; exact (List.getElem?_eq_some_iff.mp h).1
  obtain ⟨u, hu, r⟩ := a.at_ j l[j] (List.getElem?_eq_getElem hj)
  rw [h] at hu
  cases hu
  exact ⟨l[j], List.getElem?_eq_getElem hj, r⟩
theorem take_snoc {x : α} : ∀ {l : List α} {i : Nat}, l[i]? = some x → l.take (i + 1) = l.take i ++ [x]
  | [], i, h => by simp at h
  | a :: l, 0, h => by
    have : a = x := by simpa using h
    subst this
    rfl
  | a :: l, i + 1, h => by
    have ih := take_snoc (l := l) (i := i) (by simpa using h)
    rw [List.take_succ_cons, ih]
    rfl
theorem foldl_snoc {β : Type} (f : β → α → β) (b : β) {l : List α} {i : Nat} {x : α} (h : l[i]? = some x) : (l.take (i + 1)).foldl f b = f ((l.take i).foldl f b) x := by
  rw [take_snoc h, List.foldl_append]
  rfl
end
/-! ### heaps -/
theorem _root_.L2.Same.new {H : Hp} {p : Addr} {o : HO} (h : H p = none) : Same H (upd H p o) := fun b u e => by
  rw [upd_ne (ne_of_none e h)]
  exact e
/-- a thing that was not there at the beginning is changed -/
theorem _root_.L2.Same.chg {H H' : Hp} {p : Addr} {o : HO} (s : Same H H') (h : H p = none) : Same H (upd H' p o) := fun b u e => by
  rw [upd_ne (ne_of_none e h)]
  exact s b u e
theorem _root_.L2.Same.seqT {K : PySem.W.Frag} {H H' : Hp} {a : Addr} {xs : List V} (e : Same H H') (h : SqT K H a xs) : SqT K H' a xs := by
  rcases h with (h | ⟨o, h⟩) | h
  · exact .inl (.inl (e _ _ h))
  · exact .inl (.inr ⟨o, e _ _ h⟩)
  · exact .inr h
theorem small {n : Nat} (h : n ≤ 100000) : n ≤ sizeLine := Nat.le_trans h (by rw [sizeLine_eq]; decide)
theorem smallL {n : Nat} (h : n ≤ 100000) : n < sizeLine := Nat.lt_of_le_of_lt h (by rw [sizeLine_eq]; decide)
theorem yesT {σ : L2.St} {H : Hp} {A B : Hp → Prop} (h : A H) : tYes σ H (fun b H3 => if b = true then A H3 else B H3) := by
  show (if true = true then A H else B H)
  rw [if_pos rfl]
  exact h
/-- what the top has left, as far as names are asked -/
structure Txt (K : PySem.W.Frag) (mg : Str → Option Value) (C : Addr) : Prop where
  len : mg "len" = none
  range : mg "range" = none
  enum : mg "enumerate" = none
  list : mg "list" = none
  tuple : mg "tuple" = none
  all : mg "all" = none
  sum : mg "sum" = none
  abs : mg "abs" = none
  int : mg "int" = none
  max : mg "max" = none
  min : mg "min" = none
  mR : ∃ t, mg "MOST_READS" = some (.int 40 t)
  mN : ∃ t, mg "MOST_NAMES" = some (.int 1000000000 t)
  nc : ∃ t, mg "NAME_CHARS" = some (.str "abcdefghijklmnopqrstuvwxyz0123456789" t)
  mnc : ∃ t, mg "MOST_NAME_CHARS" = some (.int 12 t)
  mw : ∃ t, mg "MOST_WORDS" = some (.int 3 t)
  mp : ∃ t, mg "MOST_PLACES" = some (.int 60 t)
  ms : ∃ t, mg "MOST_SLOTS" = some (.int 6 t)
  rd : ∃ t, mg "READ" = some (.int 0 t)
  mgC : mg "Book" = some (.ref C)
  cl : Cls K C
  nW : NoAttr K C "words"
  nP : NoAttr K C "places"
  nK : NoAttr K C "known"
  nS : NoAttr K C "start"
  nT : NoAttr K C "table"
end FW

/-! FhC1: check_reads, require, value, trimmed, plus, times_rest. -/
namespace FW
open PySem L2 FR FH
section
variable {P : Program} {w : World} {K : PySem.W.Frag} {mg : Str → Option Value} {base : Heap} {C : Addr}
/-- the list of ints ns stands at v -/
def Ints (H : Hp) (v : V) (ns : List Int) : Prop := ∃ a, v = .ref a ∧ H a = some (.lst (ns.map V.int))
theorem Ints.mono {H H' : Hp} {v : V} {ns : List Int} (s : Same H H') (h : Ints H v ns) : Ints H' v ns := let ⟨a, e, q⟩ := h; ⟨a, e, s _ _ q⟩

/-! ### check_reads -/
def spCheckReads : Sp := fun vs H Q _ => ∃ n : Int, vs = [.int n] ∧ 0 ≤ n ∧ n ≤ 40 ∧ Q .non H
theorem scCheckReads : FnScope ["reads"] ["reads"] (defScope sCheckReads) := ⟨rfl, rfl, rfl, by decide +kernel, rfl, by decide +kernel, by decide +kernel⟩
theorem ok_check_reads {f : Addr} {fd : FuncData} (F : Fun K "check_reads" "check_reads" sCheckReads f fd) (T : Txt K mg C) : FnOk P w K mg base CX0 1 f fd ["reads"] spCheckReads := by
  refine F.ok scCheckReads (fun vs H Q E h => ?_) (fun cdv A outer s H vs Q E hr h => ?_)
  · obtain ⟨n, rfl, _⟩ := h
    rfl
  · obtain ⟨n, rfl, h0, h1, k⟩ := h
    refine ⟨_, pss_one (ps_if (pt_not (pt_chain op_le op_le pe_int (pv 0) (pe_gi T.mR))) pss_never pss_nil), ?_⟩
    refine ⟨_, rfl, _, _, rfl, rfl, _, rfl, ?_⟩
    rw [decide_eq_true h0]
    refine iteT ⟨_, _, rfl, rfl, _, rfl, ?_⟩
    rw [decide_eq_true h1]
    exact iteF k
/-! ### require -/
def spRequire : Sp := fun vs H Q _ => vs = [.bl true] ∧ Q .non H
theorem scRequire : FnScope ["holds"] ["holds"] (defScope sRequire) := ⟨rfl, rfl, rfl, by decide +kernel, rfl, by decide +kernel, by decide +kernel⟩
theorem ok_require {f : Addr} {fd : FuncData} (F : Fun K "require" "require" sRequire f fd) : FnOk P w K mg base CX0 1 f fd ["holds"] spRequire := by
  refine F.ok scRequire (fun vs H Q E h => ?_) (fun cdv A outer s H vs Q E hr h => ?_)
  · obtain ⟨rfl, _⟩ := h
    rfl
  · obtain ⟨rfl, k⟩ := h
    refine ⟨_, pss_one (ps_if (pt_not (pt_truth (pv 0) (fun _ => rfl))) pss_never pss_nil), ?_⟩
    exact ⟨_, rfl, true, rfl, iteF k⟩
/-! ### value -/
def spValue : Sp := fun vs H Q _ => ∃ (v : V) (c : List Int) (n : Int), vs = [v, .int n] ∧ Ints H v c ∧ 0 ≤ n ∧ n ≤ 1000000000 ∧ ∀ H', Same H H' → Q (.int (ev n c)) H'
theorem scValue : FnScope ["polynomial", "number", "total", "part"] ["polynomial", "number"] (defScope sValue) := ⟨rfl, rfl, rfl, by decide +kernel, rfl, by decide +kernel, by decide +kernel⟩
theorem ok_value {f : Addr} {fd : FuncData} (F : Fun K "value" "value" sValue f fd) : FnOk P w K mg base CX0 1 f fd ["polynomial", "number"] spValue := by
  refine F.ok scValue (fun vs H Q E h => ?_) (fun cdv A outer s H vs Q E hr h => ?_)
  · obtain ⟨v, c, n, rfl, _⟩ := h
    rfl
  · obtain ⟨v, c, n, rfl, ⟨a, rfl, ha⟩, h0, h1, k⟩ := h
    refine ⟨_, pss_cons (ps_set (i := 2) scValue.nd rfl (.inl rfl) pe_int)
      (pss_cons (ps_for PassesOwn.never rfl (pi_list (pe_revL (pv 0))) (pg_name (i := 3) scValue.nd rfl (.inl rfl))
        (pss_one (ps_set (i := 2) scValue.nd rfl (.inl rfl) (pe_op op_add (pe_op op_mul (pv 2) (pv 1)) (pv 3)))))
      (pss_one (ps_ret (pv 2)))), ?_⟩
    refine ⟨_, rfl, a, _, rfl, SqL.of ha, fun p hp => ⟨p, rfl, ⟨_, SqL.of upd_same⟩, ?_⟩⟩
    have s1 : Same H (upd H p (.lst (c.map V.int).reverse)) := Same.new hp
    generalize hH1 : upd H p (.lst (c.map V.int).reverse) = H1 at s1
    have e1 : H1 p = some (.lst (c.map V.int).reverse) := by rw [← hH1]; exact upd_same
    refine for_list (K := K) (a := p) (xs := (c.map V.int).reverse) (fun i σ H2 => H2 = H1 ∧ ∃ v, σ = [some (.ref a), some (.int n), some (.int ((c.reverse.take i).foldl (fun t p => t * n + p) 0)), v]) ⟨rfl, none, rfl⟩ (fun i σ H2 _ ⟨e, _⟩ => by rw [e]; exact SqL.of e1) ?_ ?_
    · rintro i x σ H2 hi ⟨rfl, v, rfl⟩
      rw [← List.map_reverse, List.getElem?_map] at hi
      obtain ⟨z, hz, rfl⟩ := Option.map_eq_some_iff.mp hi
      refine ⟨_, rfl, _, rfl, _, _, rfl, rfl, .inr ⟨by omega, by omega⟩, _, rfl, _, _, rfl, rfl, rfl, some (.int z), ?_⟩
      rw [foldl_snoc _ _ hz]
      rfl
    · rintro σ H2 ⟨rfl, v, rfl⟩
      refine ⟨_, rfl, ?_⟩
      rw [List.length_reverse, List.length_map, List.take_of_length_le (by rw [List.length_reverse]; exact Nat.le_refl _), ev_foldl]
      exact k _ s1
end
end FW

/-! FhC2: trimmed, plus, times_rest. -/
namespace FW
open PySem L2 FR FH
section
variable {P : Program} {w : World} {K : PySem.W.Frag} {mg : Str → Option Value} {base : Heap} {C : Addr}
theorem ints_at {ns : List Int} {j : Nat} {z : Int} (h : ns[j]? = some z) : (ns.map V.int)[j]? = some (.int z) := by rw [List.getElem?_map, h]; rfl
theorem getD_at {ns : List Int} {j : Nat} (h : j < ns.length) : ns[j]? = some (ns.getD j 0) := by simp [List.getD, h]
/-! ### trimmed -/
def spTrimmed : Sp := fun vs H Q _ => ∃ (v : V) (c : List Int), vs = [v] ∧ Ints H v c ∧ c.length ≤ 1000 ∧ ∀ p H', Same H H' → H p = none → H' p = some (.lst ((trimP c).map V.int)) → Q (.ref p) H'
theorem scTrimmed : FnScope ["polynomial", "found"] ["polynomial"] (defScope sTrimmed) := ⟨rfl, rfl, rfl, by decide +kernel, rfl, by decide +kernel, by decide +kernel⟩
theorem ok_trimmed {f : Addr} {fd : FuncData} (F : Fun K "trimmed" "trimmed" sTrimmed f fd) (T : Txt K mg C) : FnOk P w K mg base CX0 1 f fd ["polynomial"] spTrimmed := by
  refine F.ok scTrimmed (fun vs H Q E h => ?_) (fun cdv A outer s H vs Q E hr h => ?_)
  · obtain ⟨v, c, rfl, _⟩ := h
    rfl
  · obtain ⟨v, c, rfl, ⟨a, rfl, ha⟩, hl, k⟩ := h
    refine ⟨_, pss_cons (ps_set (i := 1) scTrimmed.nd rfl (.inl rfl) (pe_callTy call_list_of (by rfl) T.list (by decide +kernel) (pa_cons (pv 0) pa_nil)))
      (pss_cons (ps_while PassesOwn.never (PW.pt (pw_and (pt_truth (pv 1) (fun _ => rfl)) (pw_and1 (pt_cmpR op_eq (pe_ix ix_list (pv 1) (pe_un un_neg pe_int) (fun _ _ => rfl)) pe_int (nomark _)))))
        (pss_one (ps_expr (pe_bm0 PySem.F.plainAttrs_list PySem.F.slot_list_pop PySem.F.type_list_pop mt_pop (pv 1)))))
      (pss_one (ps_ret (pv 1)))), ?_⟩
    refine ⟨_, rfl, a, _, rfl, .inl (SqL.of ha), fun p hp => ?_⟩
    refine ⟨fun m σ H1 => ∃ l : List Int, l.length = m ∧ l.length ≤ 1000 ∧ σ = [some (.ref a), some (.ref p)] ∧ Same H H1 ∧ H1 p = some (.lst (l.map V.int)) ∧ trimP l = trimP c, ⟨_, c, rfl, hl, rfl, Same.new hp, upd_same, rfl⟩, ?_⟩
    rintro m σ H1 ⟨l, rfl, hz, rfl, s1, hp1, ht⟩
    refine ⟨_, rfl, !(l.map V.int).isEmpty, .inl ⟨_, SqL.of hp1, rfl⟩, ?_⟩
    rcases List.eq_nil_or_concat l with e | ⟨l', z, e⟩
    · subst e
      refine iteF (iteF ⟨_, rfl, ?_⟩)
      refine k p H1 s1 hp ?_
      rw [hp1, ← ht]
      rfl
    · rw [List.concat_eq_append] at e
      subst e
      have e1 : (!((l' ++ [z]).map V.int).isEmpty) = true := by simp
      rw [e1]
      refine iteT ⟨_, rfl, 1, rfl, p, (l' ++ [z]).map V.int, -1, .int z, rfl, rfl, SqL.of hp1, ?_, rfl, _, rfl, ?_⟩
      · rw [List.map_append]
        exact atI_last _ _
      by_cases hz0 : z = 0
      · subst hz0
        rw [decide_eq_true rfl]
        refine iteT ⟨_, fun _ _ n => n, _, rfl, .inl ⟨rfl, _, SqL.of hp1⟩, p, _, .int 0, rfl, rfl, hp1, ?_, ?_⟩
        · rw [List.map_append, List.length_append]
          simp
        · rw [trimP_snoc] at ht
          refine ⟨l'.length, by rw [List.length_append]; simp, l', rfl, by rw [List.length_append] at hz; omega, rfl, s1.chg hp, ?_, ht⟩
          rw [upd_same, List.map_append]
          simp
      · have e2 : decide (V.int z = V.int 0) = false := decide_eq_false fun q => hz0 (by injection q)
        rw [e2]
        refine iteF ⟨_, rfl, ?_⟩
        rw [trimP_end hz0] at ht
        refine k p H1 s1 hp ?_
        rw [hp1, ht]
/-! ### plus -/
def spPlus : Sp := fun vs H Q _ => ∃ (v u : V) (a b : List Int), vs = [v, u] ∧ Ints H v a ∧ Ints H u b ∧ a.length ≤ 1000 ∧ b.length ≤ 1000 ∧ ∀ p H', Same H H' → H p = none → H' p = some (.lst ((plusP a b).map V.int)) → Q (.ref p) H'
theorem scPlus : FnScope ["one", "other", "longer", "shorter", "number", "part"] ["one", "other"] (defScope sPlus) := ⟨rfl, rfl, rfl, by decide +kernel, rfl, by decide +kernel, by decide +kernel⟩
/-- the comprehension -/
theorem plus_comp {σ : L2.St} {H1 : Hp} {Q : VK} {la sa : Addr} {l r : List Int} {o1 o2 o3 o4 : Option V} (hσ : σ = [o1, o2, some (.ref la), some (.ref sa), o3, o4]) (hl : H1 la = some (.lst (l.map V.int))) (hs : H1 sa = some (.lst (r.map V.int))) (h1 : l.length ≤ 1000) (h2 : r.length ≤ 1000)
    (k : ∀ p H', Same H1 H' → H1 p = none → H' p = some (.lst (((List.range l.length).map fun i => l.getD i 0 + r.getD i 0).map V.int)) → Q (.ref p) H') :
    tLc (iEnum K (tCons (tVar 2) tNil)) (gTup K 2 (gCons (gName 4) (gCons (gName 5) gNil))) tYes
      (tOp (rI0 fun i j => .int (i + j)) (tVar 5) (tIf (tTest (tOp (rI0 fun i j => .bl (decide (i < j))) (tVar 4) (tCB (rLenK K) (tCons (tVar 3) tNil)))) (tOp (rIxL K) (tVar 3) (tVar 4)) (tC (.int 0)))) [4, 5] σ H1 Q := by
  subst hσ
  refine ⟨_, rfl, la, _, rfl, SqL.of hl, fun D hD => ?_⟩
  refine lc_it (walk_enum (K := K) (a := la) (xs := l.map V.int)) (fun i H2 => Same H1 H2 ∧ H2 D = some (.lst (((List.range i).map fun i => l.getD i 0 + r.getD i 0).map V.int))) ⟨Same.new hD, upd_same⟩ (fun i H2 _ ⟨s2, _⟩ => SqL.of (s2 _ _ hl)) ?_ ?_
  · rintro i x H2 H3 hi ⟨s2, hD2⟩ ⟨Tt, x1, x2, rfl, hT, rfl, e1, e2⟩
    cases e1
    rw [List.length_map] at hi
    dsimp only at e2
    rw [ints_at (getD_at hi)] at e2
    cases e2
    have s3 : Same H1 (upd H2 Tt (.tup [.int (i : Nat), .int (l.getD i 0)])) := s2.trans (Same.new hT)
    have hD3 : (upd H2 Tt (.tup [.int (i : Nat), .int (l.getD i 0)])) D = _ := (upd_ne (ne_of_none hD2 hT)).trans hD2
    have hs3 := s3 _ _ hs
    refine ⟨Tt, _, rfl, SqT.of upd_same, rfl, _, _, rfl, _, _, rfl, rfl, rfl, yesT ?_⟩
    have fin : (fun (y : V) (H4 : Hp) => ∃ acc, H4 D = some (.lst acc) ∧ acc.length < sizeLine ∧ Same H1 (upd H4 D (.lst (acc ++ [y]))) ∧ (upd H4 D (.lst (acc ++ [y]))) D = some (.lst (((List.range (i + 1)).map fun i => l.getD i 0 + r.getD i 0).map V.int)))
        (.int (l.getD i 0 + r.getD i 0)) (upd H2 Tt (.tup [.int (i : Nat), .int (l.getD i 0)])) := by
      refine ⟨_, hD3, smallL (by rw [List.length_map, List.length_map, List.length_range]; omega), s3.chg hD, ?_⟩
      rw [upd_same, List.range_succ, List.map_append, List.map_append]
      rfl
    refine ⟨_, rfl, _, rfl, _, rfl, _, r.length, rfl, .inl ⟨_, SqL.of hs3, by rw [List.length_map]⟩, _, _, rfl, rfl, _, rfl, ?_⟩
    refine ite2 (fun c => ?_) (fun c => ?_)
    · have c' : i < r.length := by have := of_decide_eq_true c; omega
      exact ⟨_, rfl, _, rfl, sa, _, _, _, rfl, rfl, SqL.of hs3, atI_nat (ints_at (getD_at c')), _, _, rfl, rfl, fin⟩
    · have c' : r.length ≤ i := by
        have : ¬ ((i : Int) < (r.length : Int)) := fun q => c (decide_eq_true q)
        omega
      have e0 : r.getD i 0 = 0 := by simp [List.getD, List.getElem?_eq_none c']
      rw [e0] at fin
      exact ⟨_, _, rfl, rfl, fin⟩
  · rintro H2 ⟨s2, hD2⟩
    rw [List.length_map] at hD2
    exact k D H2 s2 hD hD2
theorem ok_plus {f : Addr} {fd : FuncData} (F : Fun K "plus" "plus" sPlus f fd) (T : Txt K mg C) : FnOk P w K mg base CX0 1 f fd ["one", "other"] spPlus := by
  refine F.ok scPlus (fun vs H Q E h => ?_) (fun cdv A outer s H vs Q E hr h => ?_)
  · obtain ⟨v, u, a, b, rfl, _⟩ := h
    rfl
  · obtain ⟨v, u, a, b, rfl, ⟨x, rfl, hx⟩, ⟨y, rfl, hy⟩, h1, h2, k⟩ := h
    refine ⟨_, pss_cons (ps_asg (pe_ifExp (pt_cmpR op_ge (pe_len T.len (pv 0)) (pe_len T.len (pv 1)) (nomark _)) (pe_tup (pa_cons (pv 0) (pa_cons (pv 1) pa_nil))) (pe_tup (pa_cons (pv 1) (pa_cons (pv 0) pa_nil))))
        (pg_tup rfl (pgs_cons (pg_name (i := 2) scPlus.nd rfl (.inl rfl)) (pgs_cons (pg_name (i := 3) scPlus.nd rfl (.inr rfl)) pgs_nil))))
      (pss_one (ps_ret (pe_lc (own := [("number", 4), ("part", 5)]) (tt := tYes) rfl scPlus.nd (pi_enum (by rfl) T.enum (pa_cons (pv 2) pa_nil)) (blkOk_by (N := ["one", "other", "longer", "shorter", "number", "part"]) (sc := defScope sPlus) (by decide +kernel))
        (fun _ _ _ _ _ => by exact pg_tupK K 2 rfl (pgs_cons (pg_name (i := 4) scPlus.nd rfl (.inl rfl)) (pgs_cons (pg_name (i := 5) scPlus.nd rfl (.inl rfl)) pgs_nil))) (fun _ _ _ _ _ => pts_nil)
        (fun _ _ _ _ _ => by exact pe_op op_add (pv 5) (pe_ifExp (pt_cmpR op_lt (pv 4) (pe_lenK K T.len (pv 3)) (nomark _)) (pe_ix (kIxL K) (pv 3) (pv 4) (fun _ _ => rfl)) pe_int))))), ?_⟩
    refine ⟨_, rfl, _, a.length, rfl, .inl ⟨_, SqL.of hx, by rw [List.length_map]⟩, _, rfl, _, b.length, rfl, .inl ⟨_, SqL.of hy, by rw [List.length_map]⟩, _, _, rfl, rfl, _, rfl, ?_⟩
    refine ite2 (fun c => ?_) (fun c => ?_)
    · have c' : b.length ≤ a.length := by have := of_decide_eq_true c; omega
      refine ⟨_, rfl, _, rfl, small (n := 2) (by decide), fun p hp => ⟨p, _, rfl, SqT.of upd_same, rfl, _, _, rfl, _, _, rfl, rfl, ?_⟩⟩
      have s1 : Same H (upd H p (.tup [.ref x, .ref y])) := Same.new hp
      refine plus_comp (la := x) (sa := y) (l := a) (r := b) rfl (s1 _ _ hx) (s1 _ _ hy) h1 h2 fun q H' s2 hq e => k q H' (s1.trans s2) (s1.free hq) ?_
      rw [e]
      unfold plusP
      rw [if_pos c']
    · have c' : ¬ b.length ≤ a.length := fun q => c (decide_eq_true (by omega))
      refine ⟨_, rfl, _, rfl, small (n := 2) (by decide), fun p hp => ⟨p, _, rfl, SqT.of upd_same, rfl, _, _, rfl, _, _, rfl, rfl, ?_⟩⟩
      have s1 : Same H (upd H p (.tup [.ref y, .ref x])) := Same.new hp
      refine plus_comp (la := y) (sa := x) (l := b) (r := a) rfl (s1 _ _ hy) (s1 _ _ hx) h2 h1 fun q H' s2 hq e => k q H' (s1.trans s2) (s1.free hq) ?_
      rw [e]
      unfold plusP
      rw [if_neg c']
end
end FW

/-! FhBook: what a book is and where it stands. -/
namespace FW
open PySem L2 FR FH
/-- a book, told plainly -/
structure PBk where
  W : List Str
  P : List Str
  s : Str → Nat
  y : Str → Bool
  st : Str
  g : Str → Str → Nat → Str
  mv : Str × Str × Nat → List Int
def PBk.b (B : PBk) : Bk Str Str := ⟨B.W, B.P, B.s, B.y, B.st, B.g⟩
def digits : List Nat := ("0123456789" : Str).cps.toList
def chars : List Nat := ("abcdefghijklmnopqrstuvwxyz0123456789" : Str).cps.toList
/-- the form of a name -/
structure NameOk (z : Str) : Prop where
  l1 : 1 ≤ z.length
  l2 : z.length ≤ 12
  hd : ∃ c, z.cps.toList[0]? = some c ∧ c ∉ digits
  all : ∀ c ∈ z.cps.toList, c ∈ chars
/-- what a book keeps -/
structure PBk.Ok (B : PBk) : Prop where
  ok : B.b.Ok
  w1 : 1 ≤ B.W.length
  w3 : B.W.length ≤ 2
  wnd : B.W.Nodup
  wn : ∀ w ∈ B.W, NameOk w
  p1 : 1 ≤ B.P.length
  p4 : B.P.length ≤ 4
  pn : ∀ n ∈ B.P, NameOk n
  s3 : ∀ n ∈ B.P, B.s n ≤ 3
  ml : ∀ k ∈ keys B.b, (B.mv k).length = B.s (gl B.b k)
  mn : ∀ k ∈ keys B.b, (B.mv k).Nodup
  mr : ∀ k ∈ keys B.b, ∀ m ∈ B.mv k, (if k.2.2 = 0 then 0 else 1) ≤ m ∧ m ≤ (B.s k.1 : Int)
def tkey (k : Str × Str × Nat) : List Key := [.inr k.1, .inr k.2.1, .inl (k.2.2 : Int)]
def PlaceAt (B : PBk) (H : Hp) (n : Str) (v : V) : Prop := ∃ a, v = .ref a ∧ H a = some (.tup [.str n, .int (B.s n : Int), .bl (B.y n)])
def RuleAt (B : PBk) (H : Hp) (k : Str × Str × Nat) (v : V) : Prop := ∃ a m, v = .ref a ∧ H a = some (.tup [.str (gl B.b k), .ref m]) ∧ H m = some (.tup ((B.mv k).map V.int))
def KeyAt (H : Hp) (k : Str × Str × Nat) (v : V) : Prop := ∃ a, v = .ref a ∧ H a = some (.tup [.str k.1, .str k.2.1, .int (k.2.2 : Int)])
def RowAt (B : PBk) (H : Hp) (k : Str × Str × Nat) (v : V) : Prop := ∃ a m, v = .ref a ∧ H a = some (.tup [.str k.1, .str k.2.1, .int (k.2.2 : Int), .str (gl B.b k), .ref m]) ∧ H m = some (.tup ((B.mv k).map V.int))
section
variable {B : PBk} {H H' : Hp}
theorem PlaceAt.mono (s : Same H H') {n : Str} {v : V} (h : PlaceAt B H n v) : PlaceAt B H' n v := let ⟨a, e, q⟩ := h; ⟨a, e, s _ _ q⟩
theorem RuleAt.mono (s : Same H H') {n : Str × Str × Nat} {v : V} (h : RuleAt B H n v) : RuleAt B H' n v := let ⟨a, m, e, q, r⟩ := h; ⟨a, m, e, s _ _ q, s _ _ r⟩
theorem KeyAt.mono (s : Same H H') {n : Str × Str × Nat} {v : V} (h : KeyAt H n v) : KeyAt H' n v := let ⟨a, e, q⟩ := h; ⟨a, e, s _ _ q⟩
theorem RowAt.mono (s : Same H H') {n : Str × Str × Nat} {v : V} (h : RowAt B H n v) : RowAt B H' n v := let ⟨a, m, e, q, r⟩ := h; ⟨a, m, e, s _ _ q, s _ _ r⟩
end
/-- the attributes of a book -/
def bfs (wA pA kA tA : Addr) (st : Str) : List (Str × V) := [("words", .ref wA), ("places", .ref pA), ("known", .ref kA), ("start", .str st), ("table", .ref tA)]
section
variable {wA pA kA tA : Addr} {st : Str}
theorem bfs_w : (bfs wA pA kA tA st).lookup ("words" : Str) = some (V.ref wA) := by
  unfold bfs
  rw [List.lookup_cons, show (("words" : Str) == "words") = true by decide +kernel]
theorem bfs_p : (bfs wA pA kA tA st).lookup ("places" : Str) = some (V.ref pA) := by
  unfold bfs
  rw [List.lookup_cons, show (("places" : Str) == "words") = false by decide +kernel, List.lookup_cons, show (("places" : Str) == "places") = true by decide +kernel]
theorem bfs_k : (bfs wA pA kA tA st).lookup ("known" : Str) = some (V.ref kA) := by
  unfold bfs
  rw [List.lookup_cons, show (("known" : Str) == "words") = false by decide +kernel, List.lookup_cons, show (("known" : Str) == "places") = false by decide +kernel, List.lookup_cons, show (("known" : Str) == "known") = true by decide +kernel]
theorem bfs_s : (bfs wA pA kA tA st).lookup ("start" : Str) = some (V.str st) := by
  unfold bfs
  rw [List.lookup_cons, show (("start" : Str) == "words") = false by decide +kernel, List.lookup_cons, show (("start" : Str) == "places") = false by decide +kernel, List.lookup_cons, show (("start" : Str) == "known") = false by decide +kernel,
    List.lookup_cons, show (("start" : Str) == "start") = true by decide +kernel]
theorem bfs_t : (bfs wA pA kA tA st).lookup ("table" : Str) = some (V.ref tA) := by
  unfold bfs
  rw [List.lookup_cons, show (("table" : Str) == "words") = false by decide +kernel, List.lookup_cons, show (("table" : Str) == "places") = false by decide +kernel, List.lookup_cons, show (("table" : Str) == "known") = false by decide +kernel,
    List.lookup_cons, show (("table" : Str) == "start") = false by decide +kernel, List.lookup_cons, show (("table" : Str) == "table") = true by decide +kernel]
theorem bfs_no {m : Str} (h : (m == "words" || m == "places" || m == "known" || m == "start" || m == "table") = false) : (bfs wA pA kA tA st).lookup m = none := by
  simp only [Bool.or_eq_false_iff] at h
  obtain ⟨⟨⟨⟨h1, h2⟩, h3⟩, h4⟩, h5⟩ := h
  unfold bfs
  rw [List.lookup_cons, h1, List.lookup_cons, h2, List.lookup_cons, h3, List.lookup_cons, h4, List.lookup_cons, h5]
  rfl
end
/-- the book B stands at b -/
structure BookAt (C : Addr) (B : PBk) (b : Addr) (H : Hp) : Prop where
  ex : ∃ (dx wA pA kA tA : Addr) (pvs : List V) (kk : List (Key × V)) (tt : List (List Key × V)),
    H b = some (.ins C dx (bfs wA pA kA tA B.st)) ∧ H wA = some (.tup (B.W.map V.str)) ∧ H pA = some (.tup pvs) ∧ All2 (PlaceAt B H) B.P pvs ∧
    H kA = some (.dK kk) ∧ (∀ n ∈ B.P, ∃ v, valV kk (.inr n) = some v ∧ PlaceAt B H n v) ∧
    H tA = some (.dT tt) ∧ ∀ k ∈ keys B.b, ∃ v, valV tt (tkey k) = some v ∧ RuleAt B H k v
theorem BookAt.mono {C b : Addr} {B : PBk} {H H' : Hp} (s : Same H H') (h : BookAt C B b H) : BookAt C B b H' := by
  obtain ⟨dx, wA, pA, kA, tA, pvs, kk, tt, h1, h2, h3, h4, h5, h6, h7, h8⟩ := h.ex
  exact ⟨dx, wA, pA, kA, tA, pvs, kk, tt, s _ _ h1, s _ _ h2, s _ _ h3, h4.mono fun _ _ r => r.mono s, s _ _ h5, fun n hn => let ⟨v, a, r⟩ := h6 n hn; ⟨v, a, r.mono s⟩, s _ _ h7, fun k hk => let ⟨v, a, r⟩ := h8 k hk; ⟨v, a, r.mono s⟩⟩
theorem mem_keys {B : PBk} {n w : Str} {c : Nat} (hn : n ∈ B.P) (hw : w ∈ B.W) (hc : c ≤ B.s n) : (n, w, c) ∈ keys B.b :=
  List.mem_flatMap.mpr ⟨n, hn, List.mem_flatMap.mpr ⟨w, hw, List.mem_map.mpr ⟨c, List.mem_range.mpr (by show c < B.s n + 1; omega), rfl⟩⟩⟩
theorem flat_len {α β : Type} (f : α → List β) (m : Nat) : ∀ l : List α, (∀ x ∈ l, (f x).length ≤ m) → (l.flatMap f).length ≤ l.length * m
  | [], _ => by simp
  | x :: l, h => by
    have a := h x (by simp)
    have b := flat_len f m l fun y hy => h y (by simp [hy])
    rw [List.flatMap_cons, List.length_append, List.length_cons, Nat.succ_mul]
    omega
theorem keys_len {B : PBk} (ok : B.Ok) : (keys B.b).length ≤ 32 := by
  have a : (keys B.b).length ≤ B.P.length * 8 := flat_len _ 8 _ fun n hn => by
    have b : (B.W.flatMap fun w => (List.range (B.s n + 1)).map fun c => (n, w, c)).length ≤ B.W.length * 4 := flat_len _ 4 _ fun w _ => by
      have := ok.s3 n hn
      rw [List.length_map, List.length_range]
      omega
    have c := ok.w3
    show (B.W.flatMap fun w => (List.range (B.s n + 1)).map fun c => (n, w, c)).length ≤ 8
    omega
  have := ok.p4
  omega
theorem inV_str {w : Str} : ∀ {l : List Str}, w ∈ l → inV (.str w) (l.map V.str) = true
  | x :: l, h => by
    show (eqV (.str x) (.str w) || inV (.str w) (l.map V.str)) = true
    rcases List.mem_cons.mp h with e | e
    · subst e
      have : eqV (.str w) (.str w) = true := by simp [eqV]
      rw [this, Bool.true_or]
    · rw [inV_str e, Bool.or_true]
theorem flat_strs (l : List Str) : (l.map V.str).all flatV = true := by
  rw [List.all_eq_true]
  intro v hv
  obtain ⟨x, _, rfl⟩ := List.mem_map.mp hv
  rfl

section
variable {P : Program} {w : World} {K : PySem.W.Frag} {mg : Str → Option Value} {base : Heap} {C : Addr}
/-! ### place, slots, says_yes, check_word, rule -/
def spPlace (C : Addr) : Sp := fun vs H Q _ => ∃ (B : PBk) (b : Addr) (n : Str), vs = [.ref b, .str n] ∧ BookAt C B b H ∧ n ∈ B.P ∧ ∀ v, PlaceAt B H n v → Q v H
theorem scPlace : FnScope ["self", "name"] ["self", "name"] (defScope sPlace) := ⟨rfl, rfl, rfl, by decide +kernel, rfl, by decide +kernel, by decide +kernel⟩
theorem ok_place {f : Addr} {fd : FuncData} (F : Fun K "place" "Book.place" sPlace f fd) (T : Txt K mg C) : FnOk P w K mg base CX0 1 f fd ["self", "name"] (spPlace C) := by
  refine F.ok scPlace (fun vs H Q E h => ?_) (fun cdv A outer s H vs Q E hr h => ?_)
  · obtain ⟨B, b, n, rfl, _⟩ := h
    rfl
  · obtain ⟨B, b, n, rfl, BA, hn, k⟩ := h
    have hu := hu_of hr
    refine ⟨_, pss_cons (ps_if (pt_cmp (pc_dnotin hu (pv 1) (pe_fld (pv 0) rfl))) pss_never pss_nil) (pss_one (ps_ret (pe_dget hu (pe_fld (pv 0) rfl) (pv 1) (fun _ _ => rfl)))), ?_⟩
    obtain ⟨dx, wA, pA, kA, tA, pvs, kk, tt, h1, h2, h3, h4, h5, h6, h7, h8⟩ := BA.ex
    obtain ⟨v, hv, pv⟩ := h6 n hn
    refine ⟨_, rfl, _, rfl, b, C, dx, _, _, rfl, h1, T.cl, T.nK, bfs_k, kA, _, rfl, DGet.k (k := Sum.inr n) h5, _, rfl, ?_⟩
    rw [hv]
    exact iteF ⟨_, rfl, b, C, dx, _, _, rfl, h1, T.cl, T.nK, bfs_k, _, rfl, kA, v, rfl, hv ▸ DGet.k (k := Sum.inr n) h5, k v pv⟩
def spSlots (C : Addr) : Sp := fun vs H Q _ => ∃ (B : PBk) (b : Addr) (n : Str), vs = [.ref b, .str n] ∧ BookAt C B b H ∧ n ∈ B.P ∧ Q (.int (B.s n : Int)) H
theorem scSlots : FnScope ["self", "name"] ["self", "name"] (defScope sSlots) := ⟨rfl, rfl, rfl, by decide +kernel, rfl, by decide +kernel, by decide +kernel⟩
theorem ok_slots {f : Addr} {fd : FuncData} (F : Fun K "slots" "Book.slots" sSlots f fd) (T : Txt K mg C) (cP : MCal P w K mg base 1 C "place" ["self", "name"] (spPlace C)) : FnOk P w K mg base CX0 2 f fd ["self", "name"] (spSlots C) := by
  refine F.ok scSlots (fun vs H Q E h => ?_) (fun cdv A outer s H vs Q E hr h => ?_)
  · obtain ⟨B, b, n, rfl, _⟩ := h
    rfl
  · obtain ⟨B, b, n, rfl, BA, hn, k⟩ := h
    refine ⟨_, pss_one (ps_ret (pe_ix ix_tup (pe_mcal cP hr (pv 0) T.cl (pa_cons (pv 1) pa_nil)) pe_int (fun _ _ => rfl))), ?_⟩
    obtain ⟨dx, wA, pA, kA, tA, pvs, kk, tt, h1, _⟩ := BA.ex
    refine ⟨_, rfl, b, dx, _, rfl, h1, bfs_no (by decide +kernel), _, rfl, B, b, n, rfl, BA, hn, fun v ⟨a, e, ha⟩ => ?_⟩
    exact ⟨a, _, 1, _, e, rfl, SqT.of ha, rfl, k⟩
def spSaysYes (C : Addr) : Sp := fun vs H Q _ => ∃ (B : PBk) (b : Addr) (n : Str), vs = [.ref b, .str n] ∧ BookAt C B b H ∧ n ∈ B.P ∧ Q (.bl (B.y n)) H
theorem scSaysYes : FnScope ["self", "name"] ["self", "name"] (defScope sSaysYes) := ⟨rfl, rfl, rfl, by decide +kernel, rfl, by decide +kernel, by decide +kernel⟩
theorem ok_says_yes {f : Addr} {fd : FuncData} (F : Fun K "says_yes" "Book.says_yes" sSaysYes f fd) (T : Txt K mg C) (cP : MCal P w K mg base 1 C "place" ["self", "name"] (spPlace C)) : FnOk P w K mg base CX0 2 f fd ["self", "name"] (spSaysYes C) := by
  refine F.ok scSaysYes (fun vs H Q E h => ?_) (fun cdv A outer s H vs Q E hr h => ?_)
  · obtain ⟨B, b, n, rfl, _⟩ := h
    rfl
  · obtain ⟨B, b, n, rfl, BA, hn, k⟩ := h
    refine ⟨_, pss_one (ps_ret (pe_ix ix_tup (pe_mcal cP hr (pv 0) T.cl (pa_cons (pv 1) pa_nil)) pe_int (fun _ _ => rfl))), ?_⟩
    obtain ⟨dx, wA, pA, kA, tA, pvs, kk, tt, h1, _⟩ := BA.ex
    refine ⟨_, rfl, b, dx, _, rfl, h1, bfs_no (by decide +kernel), _, rfl, B, b, n, rfl, BA, hn, fun v ⟨a, e, ha⟩ => ?_⟩
    exact ⟨a, _, 2, _, e, rfl, SqT.of ha, rfl, k⟩
def spCheckWord (C : Addr) : Sp := fun vs H Q _ => ∃ (B : PBk) (b : Addr) (w : Str), vs = [.ref b, .str w] ∧ BookAt C B b H ∧ w ∈ B.W ∧ Q .non H
theorem scCheckWord : FnScope ["self", "word"] ["self", "word"] (defScope sCheckWord) := ⟨rfl, rfl, rfl, by decide +kernel, rfl, by decide +kernel, by decide +kernel⟩
theorem ok_check_word {f : Addr} {fd : FuncData} (F : Fun K "check_word" "Book.check_word" sCheckWord f fd) (T : Txt K mg C) : FnOk P w K mg base CX0 1 f fd ["self", "word"] (spCheckWord C) := by
  refine F.ok scCheckWord (fun vs H Q E h => ?_) (fun cdv A outer s H vs Q E hr h => ?_)
  · obtain ⟨B, b, n, rfl, _⟩ := h
    rfl
  · obtain ⟨B, b, n, rfl, BA, hn, k⟩ := h
    refine ⟨_, pss_one (ps_if (pt_cmpR op_notIn_seq (pv 1) (pe_fld (pv 0) rfl) (by rfl)) pss_never pss_nil), ?_⟩
    obtain ⟨dx, wA, pA, kA, tA, pvs, kk, tt, h1, h2, _⟩ := BA.ex
    refine ⟨_, rfl, _, rfl, b, C, dx, _, _, rfl, h1, T.cl, T.nW, bfs_w, wA, _, rfl, .inr (SqT.of h2), rfl, flat_strs _, _, rfl, ?_⟩
    rw [inV_str hn]
    exact iteF k
def spRule (C : Addr) : Sp := fun vs H Q _ => ∃ (B : PBk) (b : Addr) (n w : Str) (c : Nat), vs = [.ref b, .str n, .str w, .int (c : Int)] ∧ BookAt C B b H ∧ n ∈ B.P ∧ w ∈ B.W ∧ c ≤ B.s n ∧ ∀ v H', Same H H' → RuleAt B H' (n, w, c) v → Q v H'
theorem scRule : FnScope ["self", "name", "word", "case", "slots"] ["self", "name", "word", "case"] (defScope sRule) := ⟨rfl, rfl, rfl, by decide +kernel, rfl, by decide +kernel, by decide +kernel⟩
theorem ok_rule {f : Addr} {fd : FuncData} (F : Fun K "rule" "Book.rule" sRule f fd) (T : Txt K mg C) (cS : MCal P w K mg base 2 C "slots" ["self", "name"] (spSlots C)) (cW : MCal P w K mg base 1 C "check_word" ["self", "word"] (spCheckWord C)) :
    FnOk P w K mg base CX0 3 f fd ["self", "name", "word", "case"] (spRule C) := by
  refine F.ok scRule (fun vs H Q E h => ?_) (fun cdv A outer s H vs Q E hr h => ?_)
  · obtain ⟨B, b, n, w, c, rfl, _⟩ := h
    rfl
  · obtain ⟨B, b, n, w, c, rfl, BA, hn, hw, hc, k⟩ := h
    have hu := hu_of hr
    refine ⟨_, pss_cons (ps_set (i := 4) scRule.nd rfl (.inl rfl) (pe_mcal cS hr (pv 0) T.cl (pa_cons (pv 1) pa_nil)))
      (pss_cons (ps_expr (pe_mcal cW (hr.mono (by decide)) (pv 0) T.cl (pa_cons (pv 2) pa_nil)))
      (pss_cons (ps_if (pt_not (pt_chain op_le op_le pe_int (pv 3) (pv 4))) pss_never pss_nil)
      (pss_one (ps_ret (pe_dget hu (pe_fld (pv 0) rfl) (pe_tup (pa_cons (pv 1) (pa_cons (pv 2) (pa_cons (pv 3) pa_nil)))) (fun _ _ => rfl)))))), ?_⟩
    obtain ⟨dx, wA, pA, kA, tA, pvs, kk, tt, h1, h2, h3, h4, h5, h6, h7, h8⟩ := BA.ex
    refine ⟨_, rfl, b, dx, _, rfl, h1, bfs_no (by decide +kernel), _, rfl, B, b, n, rfl, BA, hn, ?_⟩
    refine ⟨_, rfl, b, dx, _, rfl, h1, bfs_no (by decide +kernel), _, rfl, B, b, w, rfl, BA, hw, ?_⟩
    refine ⟨_, rfl, _, _, rfl, rfl, _, rfl, ?_⟩
    rw [decide_eq_true (show (0 : Int) ≤ (c : Int) by omega)]
    refine iteT ⟨_, rfl, _, _, rfl, rfl, _, rfl, ?_⟩
    rw [decide_eq_true (show (c : Int) ≤ (B.s n : Int) by omega)]
    refine iteF ⟨_, rfl, b, C, dx, _, _, rfl, h1, T.cl, T.nT, bfs_t, _, rfl, _, rfl, _, rfl, small (n := 3) (by decide), fun p hp => ?_⟩
    obtain ⟨v, hv, rv⟩ := h8 (n, w, c) (mem_keys hn hw hc)
    have s1 : Same H (upd H p (.tup [.str n, .str w, .int (c : Int)])) := Same.new hp
    exact ⟨tA, v, rfl, hv ▸ DGet.t (k := tkey (n, w, c)) (s1 _ _ h7) upd_same, k v _ s1 (rv.mono s1)⟩
end
end FW

/-! FhBook2: place_names, asked, rules. -/
namespace FW
open PySem L2 FR FH
section
variable {P : Program} {w : World} {K : PySem.W.Frag} {mg : Str → Option Value} {base : Heap} {C : Addr}
theorem pa_starK {X : Cx} (K : PySem.W.Frag) {e : Expr} {es : List Expr} {te : TE} {t : TA} {p : Pos} (he : PE X e te) (hr : PA X es t) (hK : X.K = K := by rfl) (hs : starEach (.Starred e p :: es) X.env = (true, eval e X.env) :: starEach es X.env := by rfl) : PA X (.Starred e p :: es) (StX.tStar K te t) := by
  subst hK
  exact StX.pa_star he hr hs
/-! ### place_names -/
def spPlaceNames (C : Addr) : Sp := fun vs H Q _ => ∃ (B : PBk) (b : Addr), vs = [.ref b] ∧ BookAt C B b H ∧ B.P.length ≤ 100 ∧ ∀ p H', Same H H' → H p = none → H' p = some (.tup (B.P.map V.str)) → Q (.ref p) H'
theorem scPlaceNames : FnScope ["self", "place"] ["self"] (defScope sPlaceNames) := ⟨rfl, rfl, rfl, by decide +kernel, rfl, by decide +kernel, by decide +kernel⟩
theorem ok_place_names {f : Addr} {fd : FuncData} (F : Fun K "place_names" "Book.place_names" sPlaceNames f fd) (T : Txt K mg C) : FnOk P w K mg base CX0 1 f fd ["self"] (spPlaceNames C) := by
  refine F.ok scPlaceNames (fun vs H Q E h => ?_) (fun cdv A outer s H vs Q E hr h => ?_)
  · obtain ⟨B, b, rfl, _⟩ := h
    rfl
  · obtain ⟨B, b, rfl, BA, hl, k⟩ := h
    refine ⟨_, pss_one (ps_ret (pe_callTy call_tuple_of (by rfl) T.tuple (by decide +kernel) (pa_cons (pe_lc (own := [("place", 1)]) (g := gName 1) (tt := tYes) (te := tOp (rIxT K) (tVar 1) (tC (.int 0))) rfl scPlaceNames.nd (pi_tup (pe_fld (pv 0) rfl))
      (blkOk_by (N := ["self", "place"]) (sc := defScope sPlaceNames) (by decide +kernel)) (fun _ _ _ _ _ => pg_name (i := 1) scPlaceNames.nd rfl (.inl rfl)) (fun _ _ _ _ _ => pts_nil) (fun _ _ _ _ _ => by exact pe_ix (kIxT K) (pv 1) pe_int (fun _ _ => rfl))) pa_nil))), ?_⟩
    obtain ⟨dx, wA, pA, kA, tA, pvs, kk, tt, h1, h2, h3, h4, h5, h6, h7, h8⟩ := BA.ex
    refine ⟨_, rfl, b, C, dx, _, _, rfl, h1, T.cl, T.nP, bfs_p, pA, rfl, ⟨_, SqT.of h3⟩, fun D hD => ?_⟩
    refine lc_it (walk_tup (K := K) (a := pA) (xs := pvs)) (fun i H2 => Same H H2 ∧ H2 D = some (.lst ((B.P.take i).map V.str))) ⟨Same.new hD, upd_same⟩ (fun i H2 _ ⟨s2, _⟩ => SqT.of (s2 _ _ h3)) ?_ ?_
    · rintro i x H2 H3 hi ⟨s2, hD2⟩ ⟨rfl, hx⟩
      obtain ⟨n, hn, a, rfl, ha⟩ := h4.of hx
      refine ⟨rfl, yesT ⟨_, rfl, a, _, 0, _, rfl, rfl, SqT.of (s2 _ _ ha), rfl, _, hD2, smallL (by rw [List.length_map, List.length_take]; omega), s2.chg hD, ?_⟩⟩
      rw [upd_same, take_snoc hn, List.map_append]
      rfl
    · rintro H2 ⟨s2, hD2⟩
      rw [h4.len, List.take_length] at hD2
      exact ⟨D, _, rfl, .inl ⟨SqL.of hD2, fun l hl => k l _ (s2.trans (Same.new hl)) (s2.free hl) upd_same⟩⟩
/-! ### asked -/
def spAsked (C : Addr) : Sp := fun vs H Q _ => ∃ (B : PBk) (b : Addr), vs = [.ref b] ∧ B.Ok ∧ BookAt C B b H ∧ ∀ p H' xs, Same H H' → H p = none → H' p = some (.lst xs) → All2 (KeyAt H') (keys B.b) xs → Q (.ref p) H'
theorem scAsked : FnScope ["self", "found", "name", "slots", "_", "word", "case"] ["self"] (defScope sAsked) := ⟨rfl, rfl, rfl, by decide +kernel, rfl, by decide +kernel, by decide +kernel⟩
/-- the keys of a place, of a place and a word -/
def kOf (B : PBk) (n : Str) : List (Str × Str × Nat) := B.W.flatMap fun w => (List.range (B.s n + 1)).map fun c => (n, w, c)
def kOfW (B : PBk) (n w : Str) : List (Str × Str × Nat) := (List.range (B.s n + 1)).map fun c => (n, w, c)
theorem flat_snoc {α β : Type} (f : α → List β) {l : List α} {i : Nat} {x : α} (h : l[i]? = some x) : (l.take (i + 1)).flatMap f = (l.take i).flatMap f ++ f x := by
  rw [take_snoc h, List.flatMap_append]
  simp
theorem All2.app {α : Type} {R : α → V → Prop} {l m : List α} {xs ys : List V} (a : All2 R l xs) (b : All2 R m ys) : All2 R (l ++ m) (xs ++ ys) := by
  refine ⟨by rw [List.length_append, List.length_append, a.len, b.len], fun j x h => ?_⟩
  by_cases hj : j < l.length
  · rw [List.getElem?_append_left hj] at h
    rw [List.getElem?_append_left (by rw [a.len]; exact hj)]
    exact a.at_ j x h
  · rw [List.getElem?_append_right (by omega)] at h
    rw [List.getElem?_append_right (by rw [a.len]; omega), a.len]
    exact b.at_ _ x h
theorem kOf_len {B : PBk} (ok : B.Ok) {n : Str} (hn : n ∈ B.P) : (kOf B n).length ≤ 8 := by
  have b := flat_len (fun w => (List.range (B.s n + 1)).map fun c => (n, w, c)) 4 B.W fun w _ => by
    have := ok.s3 n hn
    rw [List.length_map, List.length_range]
    omega
  have c := ok.w3
  show (B.W.flatMap fun w => (List.range (B.s n + 1)).map fun c => (n, w, c)).length ≤ 8
  omega
theorem ok_asked {f : Addr} {fd : FuncData} (F : Fun K "asked" "Book.asked" sAsked f fd) (T : Txt K mg C) : FnOk P w K mg base CX0 1 f fd ["self"] (spAsked C) := by
  refine F.ok scAsked (fun vs H Q E h => ?_) (fun cdv A outer s H vs Q E hr h => ?_)
  · obtain ⟨B, b, rfl, _⟩ := h
    rfl
  · obtain ⟨B, b, rfl, ok, BA, k⟩ := h
    refine ⟨_, pss_cons (ps_set (i := 1) scAsked.nd rfl (.inl rfl) (pe_lst pa_nil))
      (pss_cons (ps_for PassesOwn.never rfl (pi_tup (pe_fld (pv 0) rfl)) (pg_tup rfl (pgs_cons (pg_name (i := 2) scAsked.nd rfl (.inr rfl)) (pgs_cons (pg_name (i := 3) scAsked.nd rfl (.inl rfl)) (pgs_cons (pg_name (i := 4) scAsked.nd rfl (.inl rfl)) pgs_nil))))
        (pss_one (ps_for PassesOwn.never rfl (pi_tup (pe_fld (pv 0) rfl)) (pg_name (i := 5) scAsked.nd rfl (.inr rfl))
          (pss_one (ps_aug (i := 1) scAsked.nd rfl (.inl rfl)
            (pe_lc (own := [("case", 6)]) (g := gName 6) (tt := tYes) (te := tTup (tCons (tVar 2) (tCons (tVar 5) (tCons (tVar 6) tNil)))) rfl scAsked.nd (pi_range1 rfl T.range (pa_cons (pe_op op_add (pv 3) pe_int) pa_nil))
              (blkOk_by (N := ["self", "found", "name", "slots", "_", "word", "case"]) (sc := defScope sAsked) (by decide +kernel)) (fun _ _ _ _ _ => pg_name (i := 6) scAsked.nd rfl (.inl rfl)) (fun _ _ _ _ _ => pts_nil)
              (fun _ _ _ _ _ => by exact pe_tup (pa_cons (pv 2) (pa_cons (pv 5) (pa_cons (pv 6) pa_nil))))) iop_ext)))))
      (pss_one (ps_ret (pv 1)))), ?_⟩
    obtain ⟨dx, wA, pA, kA, tA, pvs, kk, tt, h1, h2, h3, h4, h5, h6, h7, h8⟩ := BA.ex
    refine ⟨small (n := 0) (by decide), fun p hp => ?_⟩
    have s1 : Same H (upd H p (.lst [])) := Same.new hp
    refine ⟨_, rfl, b, C, dx, _, _, rfl, s1 _ _ h1, T.cl, T.nP, bfs_p, pA, rfl, ⟨_, SqT.of (s1 _ _ h3)⟩, ?_⟩
    refine for_it (walk_tup (K := K) (a := pA) (xs := pvs)) (fun i σ H2 => ∃ xs o2 o3 o4 o5, σ = [some (.ref b), some (.ref p), o2, o3, o4, o5, none] ∧ Same H H2 ∧ H2 p = some (.lst xs) ∧ All2 (KeyAt H2) ((B.P.take i).flatMap (kOf B)) xs)
      ⟨[], none, none, none, none, rfl, s1, upd_same, All2.nil⟩ (fun i σ H2 _ ⟨_, _, _, _, _, _, s2, _⟩ => SqT.of (s2 _ _ h3)) ?_ ?_
    · rintro i x σ H2 H3 hi ⟨xs, o2, o3, o4, o5, rfl, s2, hp2, al⟩ ⟨rfl, hx⟩
      obtain ⟨n, hn, a, rfl, ha⟩ := h4.of hx
      have hnP : n ∈ B.P := List.mem_of_getElem? hn
      refine ⟨a, _, rfl, SqT.of (s2 _ _ ha), rfl, _, _, rfl, _, _, rfl, _, _, rfl, rfl, ?_⟩
      refine ⟨_, rfl, b, C, dx, _, _, rfl, s2 _ _ h1, T.cl, T.nW, bfs_w, wA, rfl, ⟨_, SqT.of (s2 _ _ h2)⟩, ?_⟩
      refine for_it (walk_tup (K := K) (a := wA) (xs := B.W.map V.str)) (fun j σ H4 => ∃ xs o5, σ = [some (.ref b), some (.ref p), some (.str n), some (.int (B.s n : Int)), some (.bl (B.y n)), o5, none] ∧ Same H H4 ∧ H4 p = some (.lst xs) ∧ All2 (KeyAt H4) ((B.P.take i).flatMap (kOf B) ++ (B.W.take j).flatMap (kOfW B n)) xs)
        ⟨xs, o5, rfl, s2, hp2, by simpa using al⟩ (fun j σ H4 _ ⟨_, _, _, s4, _⟩ => SqT.of (s4 _ _ h2)) ?_ ?_
      · rintro j x σ H4 H5 hj ⟨ys, o5, rfl, s4, hp4, al4⟩ ⟨rfl, hx⟩
        rw [List.getElem?_map] at hx
        obtain ⟨wd, hwd, rfl⟩ := Option.map_eq_some_iff.mp hx
        have hs3 := ok.s3 n hnP
        refine ⟨_, rfl, _, rfl, _, _, rfl, rfl, (B.s n : Int) + 1, rfl, by omega, by omega, fun D hD => ?_⟩
        have hcnt : ((B.s n : Int) + 1).toNat = B.s n + 1 := by omega
        rw [hcnt]
        have hpD : p ≠ D := ne_of_none hp4 hD
        refine lc_it walk_range (fun c H6 => ∃ zs, Same H H6 ∧ Same H5 H6 ∧ H6 D = some (.lst zs) ∧ All2 (KeyAt H6) ((List.range c).map fun c => (n, wd, c)) zs) ⟨[], s4.trans (Same.new hD), Same.new hD, upd_same, All2.nil⟩ (fun _ _ _ _ => True.intro) ?_ ?_
        · rintro c x H6 H7 hc ⟨zs, s6, s56, hD6, al6⟩ ⟨rfl, rfl⟩
          refine ⟨rfl, yesT ⟨_, rfl, _, rfl, _, rfl, small (n := 3) (by decide), fun q hq => ?_⟩⟩
          have hqD : D ≠ q := ne_of_none hD6 hq
          have sq : Same H7 (upd H7 q (.tup [.str n, .str wd, .int (0 + (c : Nat))])) := Same.new hq
          have lz := al6.len
          rw [List.length_map, List.length_range] at lz
          refine ⟨zs, sq _ _ hD6, smallL (by omega), zs ++ [.ref q], (s6.trans sq).chg (s4.free hD), (s56.trans sq).chg hD, upd_same, ?_⟩
          rw [List.range_succ, List.map_append]
          have up : ∀ (k : Str × Str × Nat) (v : V), KeyAt (upd H7 q (.tup [.str n, .str wd, .int (0 + (c : Nat))])) k v → KeyAt (upd (upd H7 q (.tup [.str n, .str wd, .int (0 + (c : Nat))])) D (.lst (zs ++ [.ref q]))) k v := fun k v ⟨a, e, ha⟩ => ⟨a, e, by
            rw [upd_ne]
            · exact ha
            · intro z
              rw [z, sq _ _ hD6] at ha
              cases ha⟩
          refine All2.snoc (al6.mono fun k v r => up k v (r.mono sq)) (up _ _ ⟨q, rfl, ?_⟩)
          rw [upd_same, Int.zero_add]
        · rintro H6 ⟨zs, s6, s56, hD6, al6⟩
          have lz := al6.len
          rw [List.length_map, List.length_range] at lz
          have hp6 := s56 _ _ hp4
          have ly := al4.len
          rw [List.length_append] at ly
          have b1 := flat_len (kOf B) 8 (B.P.take i) fun n hn => kOf_len ok (List.mem_of_mem_take hn)
          have b2 := flat_len (kOfW B n) 4 (B.W.take j) fun w _ => by
            show ((List.range (B.s n + 1)).map fun c => (n, w, c)).length ≤ 4
            rw [List.length_map, List.length_range]
            omega
          have hi' := (List.getElem?_eq_some_iff.mp hn).1
          have hj' := (List.getElem?_eq_some_iff.mp hwd).1
          rw [List.length_take] at b1 b2
          have hP4 := ok.p4
          have hW2 := ok.w3
          refine ⟨p, D, ys, zs, rfl, rfl, hp6, hD6, small (by omega), ys ++ zs, _, rfl, s6.chg hp, upd_same, ?_⟩
          rw [flat_snoc _ hwd, ← List.append_assoc]
          have up : ∀ (k : Str × Str × Nat) (v : V), KeyAt H6 k v → KeyAt (upd H6 p (.lst (ys ++ zs))) k v := fun k v ⟨a, e, ha⟩ => ⟨a, e, by
            rw [upd_ne]
            · exact ha
            · intro z
              rw [z, hp6] at ha
              cases ha⟩
          exact All2.app (al4.mono fun k v r => up k v (r.mono s56)) (al6.mono up)
      · rintro σ H4 ⟨ys, o5', rfl, s4, hp4, al4⟩
        rw [List.length_map, List.take_length] at al4
        refine ⟨ys, _, _, _, _, rfl, s4, hp4, ?_⟩
        rw [flat_snoc _ hn]
        exact al4
    · rintro σ H2 ⟨xs, o2, o3, o4, o5, rfl, s2, hp2, al⟩
      rw [h4.len, List.take_length] at al
      exact ⟨_, rfl, k p H2 xs s2 hp hp2 al⟩
/-! ### rules -/
def spRules (C : Addr) : Sp := fun vs H Q _ => ∃ (B : PBk) (b : Addr), vs = [.ref b] ∧ B.Ok ∧ BookAt C B b H ∧ ∀ p H' xs, Same H H' → H p = none → H' p = some (.tup xs) → All2 (RowAt B H') (keys B.b) xs → Q (.ref p) H'
theorem scRules : FnScope ["self", "key"] ["self"] (defScope sRules) := ⟨rfl, rfl, rfl, by decide +kernel, rfl, by decide +kernel, by decide +kernel⟩
theorem ok_rules {f : Addr} {fd : FuncData} (F : Fun K "rules" "Book.rules" sRules f fd) (T : Txt K mg C) (cA : MCal P w K mg base 1 C "asked" ["self"] (spAsked C)) : FnOk P w K mg base CX0 2 f fd ["self"] (spRules C) := by
  refine F.ok scRules (fun vs H Q E h => ?_) (fun cdv A outer s H vs Q E hr h => ?_)
  · obtain ⟨B, b, rfl, _⟩ := h
    rfl
  · obtain ⟨B, b, rfl, ok, BA, k⟩ := h
    have hu := hu_of hr
    refine ⟨_, pss_one (ps_ret (pe_callTy call_tuple_of (by rfl) T.tuple (by decide +kernel) (pa_cons (pe_lc (own := [("key", 1)]) (g := gName 1) (tt := tYes)
      (te := tTup (StX.tStar K (tVar 1) (StX.tStar K (tDGet (tFld K (tVar 0) "table") (tVar 1)) tNil))) rfl scRules.nd (pi_list (pe_mcal0 cA hr (pv 0) T.cl))
      (blkOk_by (N := ["self", "key"]) (sc := defScope sRules) (by decide +kernel)) (fun _ _ _ _ _ => pg_name (i := 1) scRules.nd rfl (.inl rfl)) (fun _ _ _ _ _ => pts_nil)
      (fun _ _ _ _ _ => by exact pe_tup (pa_starK K (pv 1) (pa_starK K (pe_dget hu (pe_fldK K (pv 0)) (pv 1) (fun _ _ => rfl)) pa_nil)))) pa_nil))), ?_⟩
    obtain ⟨dx, wA, pA, kA, tA, pvs, kk, tt, h1, h2, h3, h4, h5, h6, h7, h8⟩ := BA.ex
    refine ⟨_, rfl, b, dx, _, rfl, h1, bfs_no (by decide +kernel), B, b, rfl, ok, BA, fun lA H1 xs s1 hl hx al => ?_⟩
    refine ⟨lA, rfl, ⟨_, SqL.of hx⟩, fun D hD => ?_⟩
    refine lc_it (walk_list (K := K) (a := lA) (xs := xs)) (fun i H2 => ∃ ys, Same H H2 ∧ Same H1 H2 ∧ H2 D = some (.lst ys) ∧ All2 (RowAt B H2) ((keys B.b).take i) ys) ⟨[], s1.trans (Same.new hD), Same.new hD, upd_same, All2.nil⟩ (fun i H2 _ ⟨_, _, s2, _⟩ => SqL.of (s2 _ _ hx)) ?_ ?_
    · rintro i x H2 H3 hi ⟨ys, s2, s12, hD2, al2⟩ ⟨rfl, hxi⟩
      obtain ⟨key, hkey, a, rfl, ha⟩ := al.of hxi
      have hk : key ∈ keys B.b := List.mem_of_getElem? hkey
      obtain ⟨v, hv, va, ma, rfl, hva, hma⟩ := h8 key hk
      have ha2 := s12 _ _ ha
      have ht := s2 _ _ h7
      refine ⟨rfl, yesT ⟨_, rfl, a, _, rfl, .inl (SqT.of ha2), ?_⟩⟩
      refine ⟨_, rfl, b, C, dx, _, _, rfl, s2 _ _ h1, T.cl, T.nT, bfs_t, _, rfl, tA, .ref va, rfl, hv ▸ DGet.t (k := tkey key) ht ha2, va, _, rfl, .inl (SqT.of (s2 _ _ hva)), ?_⟩
      refine ⟨small (n := 5) (by decide), fun q hq => ?_⟩
      have sq := Same.new (o := .tup ([.str key.1, .str key.2.1, .int (key.2.2 : Int)] ++ ([.str (gl B.b key), .ref ma] ++ []))) hq
      have ly := al2.len
      rw [List.length_take] at ly
      have hkl := keys_len ok
      refine ⟨ys, sq _ _ hD2, smallL (by omega), ys ++ [.ref q], (s2.trans sq).chg (s1.free hD), (s12.trans sq).chg hD, upd_same, ?_⟩
      rw [take_snoc hkey]
      generalize hH3 : upd H3 q (.tup ([.str key.1, .str key.2.1, .int (key.2.2 : Int)] ++ ([.str (gl B.b key), .ref ma] ++ []))) = H4 at sq
      have hD4 := sq _ _ hD2
      have up : ∀ (a : Addr) (t : List V), H4 a = some (.tup t) → (upd H4 D (.lst (ys ++ [.ref q]))) a = some (.tup t) := fun a t e => by
        rw [upd_ne]
        · exact e
        · intro z
          rw [z, hD4] at e
          cases e
      have up2 : ∀ (k : Str × Str × Nat) (v : V), RowAt B H4 k v → RowAt B (upd H4 D (.lst (ys ++ [.ref q]))) k v := fun k v ⟨a, m, e, x, y⟩ => ⟨a, m, e, up _ _ x, up _ _ y⟩
      refine All2.snoc (al2.mono fun k v r => up2 k v (r.mono sq)) (up2 _ _ ⟨q, ma, rfl, ?_, sq _ _ (s2 _ _ hma)⟩)
      rw [← hH3]
      exact upd_same
    · rintro H2 ⟨ys, s2, s12, hD2, al2⟩
      rw [al.len, List.take_length] at al2
      exact ⟨D, _, rfl, .inl ⟨SqL.of hD2, fun l hl => k l _ ys (s2.trans (Same.new hl)) (s2.free hl) upd_same (al2.mono fun k v r => r.mono (Same.new hl))⟩⟩
end
end FW

/-! FhC3: times_rest, polynomials. -/
namespace FW
open PySem L2 FR FH
section
variable {P : Program} {w : World} {K : PySem.W.Frag} {mg : Str → Option Value} {base : Heap} {C : Addr}
/-! ### times_rest -/
def spTimesRest : Sp := fun vs H Q _ => ∃ (v : V) (c : List Int) (s : Nat), vs = [v, .int (s : Int)] ∧ Ints H v c ∧ c.length ≤ 900 ∧ s ≤ 10 ∧ ∀ p H', Same H H' → H p = none → H' p = some (.lst ((tRest c s).map V.int)) → Q (.ref p) H'
theorem scTimesRest : FnScope ["polynomial", "slots", "part"] ["polynomial", "slots"] (defScope sTimesRest) := ⟨rfl, rfl, rfl, by decide +kernel, rfl, by decide +kernel, by decide +kernel⟩
theorem ok_times_rest {f : Addr} {fd : FuncData} (F : Fun K "times_rest" "times_rest" sTimesRest f fd) (cP : Cal P w K mg base 1 "plus" ["one", "other"] spPlus) : FnOk P w K mg base CX0 2 f fd ["polynomial", "slots"] spTimesRest := by
  refine F.ok scTimesRest (fun vs H Q E h => ?_) (fun cdv A outer s H vs Q E hr h => ?_)
  · obtain ⟨v, c, s, rfl, _⟩ := h
    rfl
  · obtain ⟨v, c, s, rfl, ⟨a, rfl, ha⟩, hl, hs, k⟩ := h
    refine ⟨_, pss_one (ps_ret (pe_cal cP hr (pa_cons (pe_lst (pa_cons pe_int (pa_starK K (pv 0) pa_nil)))
      (pa_cons (pe_lc (own := [("part", 2)]) (g := gName 2) (tt := tYes) (te := tOp (rI CMul fun i j => .int (i * j)) (tUn (rU fun i => .int (-i)) (tVar 1)) (tVar 2)) rfl scTimesRest.nd (pi_list (pv 0))
        (blkOk_by (N := ["polynomial", "slots", "part"]) (sc := defScope sTimesRest) (by decide +kernel)) (fun _ _ _ _ _ => pg_name (i := 2) scTimesRest.nd rfl (.inl rfl)) (fun _ _ _ _ _ => pts_nil)
        (fun _ _ _ _ _ => by exact pe_op op_mul (pe_un un_neg (pv 1)) (pv 2))) pa_nil)))), ?_⟩
    refine ⟨_, rfl, a, _, rfl, .inr (SqL.of ha), ?_⟩
    refine ⟨small (n := c.length + 1) (by omega) |> (fun h => by simpa using h), fun p hp => ?_⟩
    have s1 : Same H (upd H p (.lst (.int 0 :: (c.map V.int ++ [])))) := Same.new hp
    have e1 : (upd H p (.lst (.int 0 :: (c.map V.int ++ [])))) p = some (.lst ((0 :: c).map V.int)) := by
      rw [upd_same, List.append_nil]
      rfl
    generalize (upd H p (.lst (.int 0 :: (c.map V.int ++ [])))) = H1 at s1 e1 ⊢
    refine ⟨_, rfl, a, rfl, ⟨_, SqL.of (s1 _ _ ha)⟩, fun D hD => ?_⟩
    refine lc_it (walk_list (K := K) (a := a) (xs := c.map V.int)) (fun i H2 => Same H1 H2 ∧ H2 D = some (.lst ((((c.take i).map fun z => -(s : Int) * z)).map V.int))) ⟨Same.new hD, upd_same⟩ (fun i H2 _ ⟨s2, _⟩ => SqL.of (s2 _ _ (s1 _ _ ha))) ?_ ?_
    · rintro i x H2 H3 hi ⟨s2, hD2⟩ ⟨rfl, hx⟩
      rw [List.getElem?_map] at hx
      obtain ⟨z, hz, rfl⟩ := Option.map_eq_some_iff.mp hx
      refine ⟨rfl, yesT ⟨_, rfl, _, rfl, _, rfl, _, _, rfl, rfl, .inl ⟨by omega, by omega⟩, _, hD2, smallL (by rw [List.length_map, List.length_map, List.length_take]; omega), s2.chg hD, ?_⟩⟩
      rw [upd_same, take_snoc hz, List.map_append, List.map_append]
      rfl
    · rintro H2 ⟨s2, hD2⟩
      rw [List.length_map, List.take_length] at hD2
      refine ⟨.ref p, .ref D, 0 :: c, c.map fun z => -(s : Int) * z, rfl, ⟨p, rfl, s2 _ _ e1⟩, ⟨D, rfl, hD2⟩, by rw [List.length_cons]; omega, by rw [List.length_map]; omega, fun q H' s3 hq e => k q H' (s1.trans (s2.trans s3)) (s1.free (s2.free hq)) e⟩
/-! ### polynomials -/
/-- a dict from the places to lists of ints -/
def DPol (B : PBk) (H : Hp) (d : Addr) (f : Str → List Int) : Prop := ∃ kk, H d = some (.dK kk) ∧ kk.length = B.P.length ∧ ∀ m ∈ B.P, ∃ v, valV kk (.inr m) = some v ∧ Ints H v (f m)
theorem DPol.mono {B : PBk} {H H' : Hp} {d : Addr} {f : Str → List Int} (s : Same H H') (h : DPol B H d f) : DPol B H' d f :=
  let ⟨kk, a, b, c⟩ := h; ⟨kk, s _ _ a, b, fun m hm => let ⟨v, x, y⟩ := c m hm; ⟨v, x, y.mono s⟩⟩
theorem putK_len {kk : List (Key × V)} {k : Key} {v u : V} (h : valV kk k = some v) : (putK kk k u).length = kk.length := by
  unfold putK
  rw [if_pos (by rw [valV_any, h]; rfl), List.length_map]
theorem DPol.put {B : PBk} {H : Hp} {d q : Addr} {f : Str → List Int} {g : Str} {l : List Int} (h : DPol B H d f) (hP : B.P.length ≤ 100) (hg : g ∈ B.P) (hq : H q = some (.lst (l.map V.int))) :
    ∃ H', DPut H d (.str g) (.ref q) H' ∧ DPol B H' d (fun m => if m = g then l else f m) ∧ (∃ kk, H' = upd H d (.dK kk)) ∧ ∃ kk, H d = some (.dK kk) := by
  obtain ⟨kk, hd, hl, hv⟩ := h
  obtain ⟨v0, e0, _⟩ := hv g hg
  refine ⟨_, DPut.k (k := Sum.inr g) hd (smallL (by omega)), ⟨_, upd_same, (putK_len e0).trans hl, fun m hm => ?_⟩, ⟨_, rfl⟩, _, hd⟩
  have keep : ∀ {v : V} {c : List Int}, Ints H v c → Ints (upd H d (.dK (putK kk (Sum.inr g) (.ref q)))) v c := fun ⟨a, e, ha⟩ => ⟨a, e, by
    rw [upd_ne]
    · exact ha
    · intro z
      rw [z, hd] at ha
      cases ha⟩
  rw [valV_put]
  dsimp only
  by_cases e : m = g
  · subst e
    rw [if_pos rfl, if_pos rfl]
    exact ⟨_, rfl, keep ⟨q, rfl, hq⟩⟩
  · rw [if_neg (fun z => e (Sum.inr.inj z)), if_neg e]
    obtain ⟨v, x, y⟩ := hv m hm
    exact ⟨v, x, keep y⟩
/-- {name: [] for name in book.place_names} -/
theorem dc_empties {B : PBk} {b : Addr} {H : Hp} {Q : VK} {o1 o2 o3 o4 o5 o6 o7 o8 : Option V} (ok : B.Ok) (BA : BookAt C B b H) (k : ∀ D H', Same H H' → H D = none → DPol B H' D (fun _ => []) → Q (.ref D) H') :
    tDc (iTup K (tPCal C (spPlaceNames C) (tVar 0))) (gName 2) tYes (tVar 2) (tLst tNil) [2] [some (.ref b), o1, o2, o3, o4, o5, o6, o7, o8] H Q := by
  obtain ⟨dx, wA, pA, kA, tA, pvs, kk, tt, h1, _⟩ := BA.ex
  have hp4 := ok.p4
  refine ⟨_, rfl, b, dx, _, rfl, h1, B, b, rfl, BA, by omega, fun p H1 s1 hp e => ?_⟩
  refine ⟨p, rfl, ⟨_, SqT.of e⟩, fun D hD => ?_⟩
  refine dc_it (walk_tup (K := K) (a := p) (xs := B.P.map V.str)) (fun i H2 => ∃ kk : List (Key × V), Same H1 H2 ∧ H2 D = some (.dK kk) ∧ kk.map (·.1) = (B.P.take i).map Sum.inr ∧ ∀ m ∈ B.P.take i, ∃ v, valV kk (.inr m) = some v ∧ Ints H2 v []) ⟨[], Same.new hD, upd_same, rfl, fun m hm => by simp at hm⟩ (fun i H2 _ ⟨_, s2, _⟩ => SqT.of (s2 _ _ e)) ?_ ?_
  · rintro i x H2 H3 hi ⟨kk, s2, hD2, hk, hv⟩ ⟨rfl, hx⟩
    rw [List.getElem?_map] at hx
    obtain ⟨n, hn, rfl⟩ := Option.map_eq_some_iff.mp hx
    have hlen : kk.length ≤ 4 := by
      have := congrArg List.length hk
      rw [List.length_map, List.length_map, List.length_take] at this
      omega
    refine ⟨rfl, yesT ⟨_, rfl, small (n := 0) (by decide), fun q hq => ?_⟩⟩
    have sq := Same.new (o := .lst []) hq
    have hnew : n ∉ B.P.take i := fun hm => by
      have nd := ok.ok.nd
      have : B.P.take (i + 1) = B.P.take i ++ [n] := take_snoc hn
      have nd2 : (B.P.take (i + 1)).Nodup := nd.sublist (List.take_sublist _ _)
      rw [this, List.nodup_append] at nd2
      exact nd2.2.2 n hm n (by simp) rfl
    have hno : valV kk (.inr n) = none := by
      cases ev : valV kk (.inr n : Key) with
      | none => rfl
      | some v =>
        have hm := valV_in ev
        rw [hk] at hm
        obtain ⟨m, hm, em⟩ := List.mem_map.mp hm
        exact absurd (Sum.inr.inj em ▸ hm) hnew
    refine ⟨kk, .inr n, rfl, sq _ _ hD2, smallL (by omega), putK kk (.inr n) (.ref q), (s2.trans sq).chg hD, upd_same, ?_, fun m hm => ?_⟩
    · rw [putK_new _ hno, List.map_append, hk, take_snoc hn, List.map_append]
      rfl
    · have keep : ∀ {v : V} {c : List Int}, Ints (upd H3 q (.lst [])) v c → Ints (upd (upd H3 q (.lst [])) D (.dK (putK kk (.inr n) (.ref q)))) v c := fun ⟨a, e, ha⟩ => ⟨a, e, by
        rw [upd_ne]
        · exact ha
        · intro z
          rw [z, sq _ _ hD2] at ha
          cases ha⟩
      rw [valV_put]
      by_cases e : m = n
      · subst e
        rw [if_pos rfl]
        exact ⟨_, rfl, keep ⟨q, rfl, upd_same⟩⟩
      · rw [if_neg (fun z => e (Sum.inr.inj z))]
        rw [take_snoc hn] at hm
        rcases List.mem_append.mp hm with hm | hm
        · obtain ⟨v, x, y⟩ := hv m hm
          exact ⟨v, x, keep (y.mono sq)⟩
        · exact absurd (by simpa using hm) e
  · rintro H2 ⟨kk, s2, hD2, hk, hv⟩
    rw [List.length_map, List.take_length] at hk hv
    refine k D H2 (s1.trans s2) (s1.free hD) ⟨kk, hD2, ?_, hv⟩
    have := congrArg List.length hk
    rwa [List.length_map, List.length_map] at this
theorem asg_empties {B : PBk} {b : Addr} {H : Hp} {D : Ends} {i : Nat} {o1 o2 o3 o4 o5 o6 o7 o8 : Option V} (ok : B.Ok) (BA : BookAt C B b H) (k : ∀ d H', Same H H' → H d = none → DPol B H' d (fun _ => []) → D.nx (List.set [some (.ref b), o1, o2, o3, o4, o5, o6, o7, o8] i (some (.ref d))) H') :
    tAsg (tDc (iTup K (tPCal C (spPlaceNames C) (tVar 0))) (gName 2) tYes (tVar 2) (tLst tNil) [2]) (gName i) D [some (.ref b), o1, o2, o3, o4, o5, o6, o7, o8] H := dc_empties ok BA k
theorem ite_cut {c : Prop} [Decidable c] {ta tb : VK → Prop} {Q : VK} (R : V → Hp → Prop) (hR : ∀ v H, R v H → Q v H) (h : c → ∀ Q' : VK, (∀ v H, R v H → Q' v H) → ta Q') (h' : ¬ c → ∀ Q' : VK, (∀ v H, R v H → Q' v H) → tb Q') : if c then ta Q else tb Q := by
  by_cases e : c
  · rw [if_pos e]
    exact h e Q hR
  · rw [if_neg e]
    exact h' e Q hR
def spPolynomials (C : Addr) : Sp := fun vs H Q _ => ∃ (B : PBk) (b : Addr) (n : Nat), vs = [.ref b, .int (n : Int)] ∧ B.Ok ∧ BookAt C B b H ∧ n ≤ 40 ∧ ∀ d H', Same H H' → H d = none → DPol B H' d (pSt B.b n) → Q (.ref d) H'
theorem scPolynomials : FnScope ["book", "reads", "name", "now", "_", "behind", "case", "goal", "step"] ["book", "reads"] (defScope sPolynomials) := ⟨rfl, rfl, rfl, by decide +kernel, rfl, by decide +kernel, by decide +kernel⟩
theorem ok_polynomials {f : Addr} {fd : FuncData} (F : Fun K "polynomials" "polynomials" sPolynomials f fd) (T : Txt K mg C) (cN : PCal P w K mg base 1 C "place_names" (spPlaceNames C)) (cR : PCal P w K mg base 2 C "rules" (spRules C))
    (cT : Cal P w K mg base 2 "times_rest" ["polynomial", "slots"] spTimesRest) (cS : MCal P w K mg base 2 C "slots" ["self", "name"] (spSlots C)) (cP : Cal P w K mg base 1 "plus" ["one", "other"] spPlus) (cM : Cal P w K mg base 1 "trimmed" ["polynomial"] spTrimmed) :
    FnOk P w K mg base CX0 4 f fd ["book", "reads"] (spPolynomials C) := by
  refine F.ok scPolynomials (fun vs H Q E h => ?_) (fun cdv A outer s H vs Q E hr h => ?_)
  · obtain ⟨B, b, n, rfl, _⟩ := h
    rfl
  · obtain ⟨B, b, n, rfl, ok, BA, hn, k⟩ := h
    have hu := hu_of hr
    have nd := scPolynomials.nd
    have hr2 : Room 2 _ := hr.mono (by decide)
    have hr1 : Room 1 _ := hr.mono (by decide)
    refine ⟨_, pss_cons (ps_setDc (i := 3) (own := [("name", 2)]) (g := gName 2) (tt := tYes) (tk := tVar 2) (tv := tLst tNil) rfl nd rfl rfl (swd_true rfl rfl rfl (by decide +kernel)) (pi_tup (pe_pcal cN hr2 (pv 0) T.cl))
        (blkOk_by (N := ["book", "reads", "name", "now", "_", "behind", "case", "goal", "step"]) (sc := defScope sPolynomials) (by decide +kernel)) (fun _ _ _ _ _ => pg_name (i := 2) nd rfl (.inl rfl)) (fun _ _ _ _ _ => pts_nil) (fun _ _ _ _ _ => by exact pv 2) (fun _ _ _ _ _ => by exact pe_lst pa_nil))
      (pss_cons (ps_dput hu (pv 3) (pe_fld (pv 0) rfl) (pe_lst (pa_cons pe_int pa_nil)) rfl)
      (pss_cons (ps_for PassesOwn.never rfl (pi_range1 rfl T.range (pa_cons (pv 1) pa_nil)) (pg_name (i := 4) nd rfl (.inl rfl))
        (pss_cons (ps_setDc (i := 5) (own := [("name", 2)]) (g := gName 2) (tt := tYes) (tk := tVar 2) (tv := tLst tNil) rfl nd rfl rfl (swd_true rfl rfl rfl (by decide +kernel)) (pi_tup (pe_pcal cN hr2 (pv 0) T.cl))
          (blkOk_by (N := ["book", "reads", "name", "now", "_", "behind", "case", "goal", "step"]) (sc := defScope sPolynomials) (by decide +kernel)) (fun _ _ _ _ _ => pg_name (i := 2) nd rfl (.inl rfl)) (fun _ _ _ _ _ => pts_nil) (fun _ _ _ _ _ => by exact pv 2) (fun _ _ _ _ _ => by exact pe_lst pa_nil))
        (pss_cons (ps_for PassesOwn.never rfl (pi_tup (pe_pcal cR hr (pv 0) T.cl))
            (pg_tup rfl (pgs_cons (pg_name (i := 2) nd rfl (.inl rfl)) (pgs_cons (pg_name (i := 4) nd rfl (.inl rfl)) (pgs_cons (pg_name (i := 6) nd rfl (.inl rfl)) (pgs_cons (pg_name (i := 7) nd rfl (.inl rfl)) (pgs_cons (pg_name (i := 4) nd rfl (.inl rfl)) pgs_nil))))))
            (pss_cons (ps_set (i := 8) nd rfl (.inl rfl) (pe_ifExp (pt_cmpR op_eq (pv 6) pe_int (nomark _)) (pe_cal cT hr2 (pa_cons (pe_dget hu (pv 3) (pv 2) (fun _ _ => rfl)) (pa_cons (pe_mcal cS hr2 (pv 0) T.cl (pa_cons (pv 2) pa_nil)) pa_nil))) (pe_dget hu (pv 3) (pv 2) (fun _ _ => rfl))))
            (pss_one (ps_dput hu (pv 5) (pv 7) (pe_cal cM hr1 (pa_cons (pe_cal cP hr1 (pa_cons (pe_dget hu (pv 5) (pv 7) (fun _ _ => rfl)) (pa_cons (pv 8) pa_nil))) pa_nil)) rfl))))
        (pss_one (ps_set (i := 3) nd rfl (.inl rfl) (pv 5))))))
      (pss_one (ps_ret (pv 3))))), ?_⟩
    show tAsg _ _ _ _ _
    refine asg_empties (K := K) ok BA fun d H1 s1 hd D1 => ?_
    have BA1 := BA.mono s1
    obtain ⟨dx, wA, pA, kA, tA, pvs, kk, tt, h1, h2, h3, h4, h5, h6, h7, h8⟩ := BA1.ex
    -- now[book.start] = [1]
    refine ⟨small (n := 1) (by decide), fun q hq => ?_⟩
    have sq := Same.new (o := .lst [.int 1]) hq
    refine ⟨_, rfl, _, rfl, b, C, dx, _, _, rfl, sq _ _ h1, T.cl, T.nS, bfs_s, d, ?_⟩
    obtain ⟨H2, dp, D2, ⟨k2, e2⟩, _⟩ := (D1.mono sq).put (q := q) (g := B.st) (l := [1]) (by have := ok.p4; omega) ok.ok.st upd_same
    have s2 : Same H H2 := by rw [e2]; exact (s1.trans sq).chg hd
    refine ⟨H2, rfl, dp, ?_⟩
    -- the loop over the reads
    refine ⟨_, rfl, (n : Int), rfl, by omega, by omega, ?_⟩
    have hcnt : (n : Int).toNat = n := by omega
    rw [hcnt]
    refine for_it walk_range (fun i σ H3 => ∃ d o2 o4 o5 o6 o7 o8, σ = [some (.ref b), some (.int (n : Int)), o2, some (.ref d), o4, o5, o6, o7, o8] ∧ Same H H3 ∧ H d = none ∧ DPol B H3 d (pSt B.b i))
      ⟨d, none, none, none, none, none, none, rfl, s2, hd, D2⟩ (fun _ _ _ _ _ => True.intro) ?_ ?_
    · rintro i x σ H3 H4 hi ⟨d, o2, o4, o5, o6, o7, o8, rfl, s3, hd, D3⟩ ⟨rfl, rfl⟩
      have BA4 := BA.mono s3
      show tAsg _ _ _ _ _
      refine asg_empties (K := K) ok BA4 fun e H5 s5 he D5 => ?_
      have BA5 := BA4.mono s5
      have b1 : ∃ dx fs, H5 b = some (.ins C dx fs) := let ⟨dx, _, _, _, _, _, _, _, h, _⟩ := BA5.ex; ⟨dx, _, h⟩
      obtain ⟨dx5, fs5, hb5⟩ := b1
      refine ⟨_, rfl, b, dx5, fs5, rfl, hb5, B, b, rfl, ok, BA5, fun rA H6 xs s6 hrA ex al => ?_⟩
      refine ⟨rA, rfl, ⟨_, SqT.of ex⟩, ?_⟩
      refine for_it (walk_tup (K := K) (a := rA) (xs := xs)) (fun j σ H7 => ∃ o2 o4 o6 o7 o8, σ = [some (.ref b), some (.int (n : Int)), o2, some (.ref d), o4, some (.ref e), o6, o7, o8] ∧ Same H4 H7 ∧ (∀ a t, H6 a = some (.tup t) → H7 a = some (.tup t)) ∧ DPol B H7 e (((keys B.b).take j).foldl (pRule B.b (pSt B.b i)) fun _ => []))
        ⟨_, _, _, _, _, rfl, s5.trans s6, fun _ _ z => z, D5.mono s6⟩ (fun j σ H7 _ ⟨_, _, _, _, _, _, _, t7, _⟩ => SqT.of (t7 _ _ ex)) ?_ ?_
      · rintro j x σ H7 H8 hj ⟨o2, o4, o6, o7, o8, rfl, s7, t7, D7⟩ ⟨rfl, hx⟩
        obtain ⟨⟨nm, wd, cs⟩, hkey, a, m, rfl, ha, hm⟩ := al.of hx
        have hk : (nm, wd, cs) ∈ keys B.b := List.mem_of_getElem? hkey
        obtain ⟨hk1, hk2, hk3⟩ := keys_ok hk
        have hk1 : nm ∈ B.P := hk1
        have hgP : gl B.b (nm, wd, cs) ∈ B.P := ok.ok.gP _ _ _ hk1 hk2 hk3
        have BA8 := BA4.mono s7
        have Dn := D3.mono s7
        refine ⟨a, _, rfl, SqT.of (t7 _ _ ha), rfl, _, _, rfl, _, _, rfl, _, _, rfl, _, _, rfl, _, _, rfl, rfl, ?_⟩
        obtain ⟨kn, hkn, _, hvn⟩ := id Dn
        obtain ⟨v, ev, iv⟩ := hvn nm hk1
        have hlen := len_pSt B.b i nm
        obtain ⟨dx8, fs8, hb8, nofs⟩ : ∃ dx fs, H8 b = some (.ins C dx fs) ∧ fs.lookup ("slots" : Str) = none := let ⟨dx, _, _, _, _, _, _, _, h, _⟩ := BA8.ex; ⟨dx, _, h, bfs_no (by decide +kernel)⟩
        refine ⟨_, rfl, rfl, _, rfl, ?_⟩
        refine ite_cut (fun v H9 => Same H8 H9 ∧ Ints H9 v (if cs = 0 then tRest (pSt B.b i nm) (B.s nm) else pSt B.b i nm)) (fun v H9 ⟨s9, iv9⟩ => ?_) (fun c Q' hQ => ?_) (fun c Q' hQ => ?_)
        · -- behind[goal] = trimmed(plus(behind[goal], step))
          have D9 := D7.mono s9
          obtain ⟨ke, hke, _, hve⟩ := id D9
          obtain ⟨u, eu, iu⟩ := hve _ hgP
          have hl1 : (((keys B.b).take j).foldl (pRule B.b (pSt B.b i)) (fun _ => []) (gl B.b (nm, wd, cs))).length ≤ 42 := Nat.le_trans (len_fold B.b (len_pSt B.b i) _ _ (fun _ => by simp) _) (by omega)
          have hl2 : (if cs = 0 then tRest (pSt B.b i nm) (B.s nm) else pSt B.b i nm).length ≤ 42 := by
            split
            · rw [tRest_length]; omega
            · omega
          refine ⟨_, rfl, _, rfl, e, u, rfl, eu ▸ DGet.k (k := Sum.inr (gl B.b (nm, wd, cs))) hke, _, rfl, u, v, _, _, rfl, iu, iv9, by omega, by omega, fun p HA sA hp eA => ?_⟩
          refine ⟨.ref p, _, rfl, ⟨p, rfl, eA⟩, by rw [plusP_length]; omega, fun q HB sB hq eB => ?_⟩
          obtain ⟨HC, dpC, DC, ⟨kC, eC⟩, kB, hkB⟩ := (D9.mono (sA.trans sB)).put (q := q) (g := gl B.b (nm, wd, cs)) (by have := ok.p4; omega) hgP eB
          refine ⟨_, rfl, _, rfl, e, HC, rfl, dpC, _, _, _, _, _, rfl, ?_, ?_, ?_⟩
          · rw [eC]
            exact (s7.trans (s9.trans (sA.trans sB))).chg he
          · intro a t z
            rw [eC, upd_ne]
            · exact sB _ _ (sA _ _ (s9 _ _ (t7 a t z)))
            · intro y
              have := sB _ _ (sA _ _ (s9 _ _ (t7 a t z)))
              rw [y, hkB] at this
              cases this
          · rw [foldl_snoc _ _ hkey]
            exact DC
        · have c' : cs = 0 := by
            have z : V.int (cs : Int) = V.int 0 := of_decide_eq_true c
            injection z with z
            exact Int.natCast_eq_zero.mp z
          refine ⟨_, rfl, _, rfl, d, v, rfl, ev ▸ DGet.k (k := Sum.inr nm) hkn, _, rfl, b, dx8, fs8, rfl, hb8, nofs, _, rfl, B, b, nm, rfl, BA8, hk1, ?_⟩
          refine ⟨v, _, B.s nm, rfl, iv, by omega, by have := ok.s3 nm hk1; omega, fun p HA sA hp eA => hQ _ _ ⟨sA, p, rfl, ?_⟩⟩
          rw [if_pos c']
          exact eA
        · have c' : cs ≠ 0 := fun z => c (by rw [z]; rfl)
          refine ⟨_, rfl, _, rfl, d, v, rfl, ev ▸ DGet.k (k := Sum.inr nm) hkn, hQ _ _ ⟨Same.refl _, ?_⟩⟩
          rw [if_neg c']
          exact iv
      · rintro σ H7 ⟨o2, o4, o6, o7, o8, rfl, s7, t7, D7⟩
        rw [al.len, List.take_length] at D7
        exact ⟨_, rfl, e, _, _, _, _, _, _, rfl, s3.trans s7, s3.free he, D7⟩
    · rintro σ H3 ⟨d, o2, o4, o5, o6, o7, o8, rfl, s3, hd, D3⟩
      exact ⟨_, rfl, k d H3 s3 hd D3⟩
end
end FW

/-! FhC4: place_polynomials, yes_polynomial, yes_count. -/
namespace FW
open PySem L2 FR FH
section
variable {P : Program} {w : World} {K : PySem.W.Frag} {mg : Str → Option Value} {base : Heap} {C : Addr}
def PolAt (B : PBk) (n : Nat) (H : Hp) (m : Str) (v : V) : Prop := ∃ a u, v = .ref a ∧ H a = some (.tup [.str m, u]) ∧ Ints H u (pSt B.b n m)
theorem PolAt.mono {B : PBk} {n : Nat} {H H' : Hp} (s : Same H H') {m : Str} {v : V} (h : PolAt B n H m v) : PolAt B n H' m v := let ⟨a, u, e, x, y⟩ := h; ⟨a, u, e, s _ _ x, y.mono s⟩
def spPlacePolynomials (C : Addr) : Sp := fun vs H Q _ => ∃ (B : PBk) (b : Addr) (n : Nat), vs = [.ref b, .int (n : Int)] ∧ B.Ok ∧ BookAt C B b H ∧ n ≤ 40 ∧ ∀ p H' xs, Same H H' → H p = none → H' p = some (.lst xs) → All2 (PolAt B n H') B.P xs → Q (.ref p) H'
theorem scPlacePolynomials : FnScope ["book", "reads", "found", "name"] ["book", "reads"] (defScope sPlacePolynomials) := ⟨rfl, rfl, rfl, by decide +kernel, rfl, by decide +kernel, by decide +kernel⟩
theorem ok_place_polynomials {f : Addr} {fd : FuncData} (F : Fun K "place_polynomials" "place_polynomials" sPlacePolynomials f fd) (T : Txt K mg C) (cC : Cal P w K mg base 1 "check_reads" ["reads"] spCheckReads) (cP : Cal P w K mg base 4 "polynomials" ["book", "reads"] (spPolynomials C))
    (cN : PCal P w K mg base 1 C "place_names" (spPlaceNames C)) : FnOk P w K mg base CX0 5 f fd ["book", "reads"] (spPlacePolynomials C) := by
  refine F.ok scPlacePolynomials (fun vs H Q E h => ?_) (fun cdv A outer s H vs Q E hr h => ?_)
  · obtain ⟨B, b, n, rfl, _⟩ := h
    rfl
  · obtain ⟨B, b, n, rfl, ok, BA, hn, k⟩ := h
    have hu := hu_of hr
    have nd := scPlacePolynomials.nd
    refine ⟨_, pss_cons (ps_expr (pe_cal cC (hr.mono (by decide)) (pa_cons (pv 1) pa_nil)))
      (pss_cons (ps_set (i := 2) nd rfl (.inr rfl) (pe_cal cP hr (pa_cons (pv 0) (pa_cons (pv 1) pa_nil))))
      (pss_one (ps_ret (pe_lc (own := [("name", 3)]) (g := gName 3) (tt := tYes) (te := tTup (tCons (tVar 3) (tCons (tDGet (tVar 2) (tVar 3)) tNil))) rfl nd (pi_tup (pe_pcal cN (hr.mono (by decide)) (pv 0) T.cl))
        (blkOk_by (N := ["book", "reads", "found", "name"]) (sc := defScope sPlacePolynomials) (by decide +kernel)) (fun _ _ _ _ _ => pg_name (i := 3) nd rfl (.inl rfl)) (fun _ _ _ _ _ => pts_nil)
        (fun _ _ _ _ _ => by exact pe_tup (pa_cons (pv 3) (pa_cons (pe_dget hu (pv 2) (pv 3) (fun _ _ => rfl)) pa_nil))))))), ?_⟩
    refine ⟨_, rfl, (n : Int), rfl, by omega, by omega, ?_⟩
    refine ⟨_, rfl, _, rfl, B, b, n, rfl, ok, BA, hn, fun d H1 s1 hd D1 => ?_⟩
    have BA1 := BA.mono s1
    obtain ⟨dx, wA, pA, kA, tA, pvs, kk, tt, h1, _⟩ := BA1.ex
    have hp4 := ok.p4
    refine ⟨_, rfl, b, dx, _, rfl, h1, B, b, rfl, BA1, by omega, fun p H2 s2 hp e => ?_⟩
    refine ⟨p, rfl, ⟨_, SqT.of e⟩, fun D hD => ?_⟩
    refine lc_it (walk_tup (K := K) (a := p) (xs := B.P.map V.str)) (fun i H3 => ∃ ys, Same H2 H3 ∧ H3 D = some (.lst ys) ∧ All2 (fun m v => ∃ a u, v = .ref a ∧ H3 a = some (.tup [.str m, u]) ∧ Ints H2 u (pSt B.b n m)) (B.P.take i) ys) ⟨[], Same.new hD, upd_same, All2.nil⟩ (fun i H3 _ ⟨_, s3, _⟩ => SqT.of (s3 _ _ e)) ?_ ?_
    · rintro i x H3 H4 hi ⟨ys, s3, hD3, al⟩ ⟨rfl, hx⟩
      rw [List.getElem?_map] at hx
      obtain ⟨m, hm, rfl⟩ := Option.map_eq_some_iff.mp hx
      obtain ⟨kd, hkd, _, hvd⟩ := D1.mono s2
      have hkd := s3 _ _ hkd
      obtain ⟨u, eu, iu⟩ := hvd m (List.mem_of_getElem? hm)
      have ly := al.len
      rw [List.length_take] at ly
      refine ⟨rfl, yesT ⟨_, rfl, _, rfl, _, rfl, d, u, rfl, eu ▸ DGet.k (k := Sum.inr m) hkd, small (n := 2) (by decide), fun q hq => ?_⟩⟩
      have sq := Same.new (o := .tup [.str m, u]) hq
      refine ⟨ys, sq _ _ hD3, smallL (by omega), ys ++ [.ref q], (s3.trans sq).chg hD, upd_same, ?_⟩
      rw [take_snoc hm]
      generalize hH4 : upd H4 q (.tup [.str m, u]) = H5 at sq
      have hD5 := sq _ _ hD3
      have up : ∀ (a : Addr) (t : List V), H5 a = some (.tup t) → (upd H5 D (.lst (ys ++ [.ref q]))) a = some (.tup t) := fun a t e => by
        rw [upd_ne]
        · exact e
        · intro z
          rw [z, hD5] at e
          cases e
      refine All2.snoc (al.mono fun k v ⟨a, u, e, ha, hi⟩ => ⟨a, u, e, up _ _ (sq _ _ ha), hi⟩) ⟨q, u, rfl, up _ _ ?_, iu⟩
      rw [← hH4]
      exact upd_same
    · rintro H3 ⟨ys, s3, hD3, al⟩
      rw [List.length_map, List.take_length] at al
      exact k D H3 ys (s1.trans (s2.trans s3)) (s1.free (s2.free hD)) hD3 (al.mono fun m v ⟨a, u, e, ha, hi⟩ => ⟨a, u, e, ha, hi.mono s3⟩)
/-! ### yes_polynomial -/
def spYesPolynomial (C : Addr) : Sp := fun vs H Q _ => ∃ (B : PBk) (b : Addr) (n : Nat), vs = [.ref b, .int (n : Int)] ∧ B.Ok ∧ BookAt C B b H ∧ n ≤ 40 ∧ ∀ p H', Same H H' → H p = none → H' p = some (.lst ((yesP B.b n).map V.int)) → Q (.ref p) H'
theorem scYesPolynomial : FnScope ["book", "reads", "total", "name", "polynomial"] ["book", "reads"] (defScope sYesPolynomial) := ⟨rfl, rfl, rfl, by decide +kernel, rfl, by decide +kernel, by decide +kernel⟩
def yFold (B : PBk) (n : Nat) (t : List Int) (m : Str) : List Int := if B.b.y m = true then plusP t (pSt B.b n m) else t
theorem ok_yes_polynomial {f : Addr} {fd : FuncData} (F : Fun K "yes_polynomial" "yes_polynomial" sYesPolynomial f fd) (T : Txt K mg C) (cP : Cal P w K mg base 5 "place_polynomials" ["book", "reads"] (spPlacePolynomials C))
    (cY : MCal P w K mg base 2 C "says_yes" ["self", "name"] (spSaysYes C)) (cS : Cal P w K mg base 1 "plus" ["one", "other"] spPlus) (cM : Cal P w K mg base 1 "trimmed" ["polynomial"] spTrimmed) : FnOk P w K mg base CX0 6 f fd ["book", "reads"] (spYesPolynomial C) := by
  refine F.ok scYesPolynomial (fun vs H Q E h => ?_) (fun cdv A outer s H vs Q E hr h => ?_)
  · obtain ⟨B, b, n, rfl, _⟩ := h
    rfl
  · obtain ⟨B, b, n, rfl, ok, BA, hn, k⟩ := h
    have nd := scYesPolynomial.nd
    have hr1 : Room 1 _ := hr.mono (by decide)
    refine ⟨_, pss_cons (ps_set (i := 2) nd rfl (.inl rfl) (pe_lst pa_nil))
      (pss_cons (ps_for PassesOwn.never rfl (pi_list (pe_cal cP hr (pa_cons (pv 0) (pa_cons (pv 1) pa_nil)))) (pg_tup rfl (pgs_cons (pg_name (i := 3) nd rfl (.inl rfl)) (pgs_cons (pg_name (i := 4) nd rfl (.inl rfl)) pgs_nil)))
        (pss_one (ps_if (pt_val (pe_mcal cY (hr.mono (by decide)) (pv 0) T.cl (pa_cons (pv 3) pa_nil))) (pss_one (ps_set (i := 2) nd rfl (.inl rfl) (pe_cal cS hr1 (pa_cons (pv 2) (pa_cons (pv 4) pa_nil))))) pss_nil)))
      (pss_one (ps_ret (pe_cal cM hr1 (pa_cons (pv 2) pa_nil))))), ?_⟩
    refine ⟨small (n := 0) (by decide), fun t hT => ?_⟩
    have s1 : Same H (upd H t (.lst [])) := Same.new hT
    refine ⟨_, rfl, _, rfl, B, b, n, rfl, ok, BA.mono s1, hn, fun p H2 xs s2 hp ex al => ?_⟩
    have it : Ints H2 (.ref t) [] := ⟨t, rfl, s2 _ _ upd_same⟩
    refine ⟨p, rfl, ⟨_, SqL.of ex⟩, ?_⟩
    refine for_it (walk_list (K := K) (a := p) (xs := xs)) (fun i σ H3 => ∃ v o3 o4, σ = [some (.ref b), some (.int (n : Int)), some v, o3, o4] ∧ Same H2 H3 ∧ Ints H3 v ((B.P.take i).foldl (yFold B n) [])) ⟨.ref t, none, none, rfl, Same.refl _, it⟩ (fun i σ H3 _ ⟨_, _, _, _, s3, _⟩ => SqL.of (s3 _ _ ex)) ?_ ?_
    · rintro i x σ H3 H4 hi ⟨v, o3, o4, rfl, s3, iv⟩ ⟨rfl, hx⟩
      obtain ⟨m, hm, a, u, rfl, ha, hu⟩ := al.of hx
      have BA3 := BA.mono (s1.trans (s2.trans s3))
      obtain ⟨dx, wA, pA, kA, tA, pvs, kk, tt, h1, _⟩ := BA3.ex
      have hl : ((B.P.take i).foldl (yFold B n) []).length ≤ n + 1 := len_yesFold B.b n _ _ (by simp)
      have hl2 := len_pSt B.b n m
      refine ⟨a, _, rfl, SqT.of (s3 _ _ ha), rfl, _, _, rfl, _, _, rfl, rfl, ?_⟩
      refine ⟨_, rfl, b, dx, _, rfl, h1, bfs_no (by decide +kernel), _, rfl, B, b, m, rfl, BA3, List.mem_of_getElem? hm, _, rfl, ?_⟩
      refine ite2 (fun c => ?_) (fun c => ?_)
      · refine ⟨_, rfl, _, rfl, v, u, _, _, rfl, iv, hu.mono s3, by omega, by omega, fun q H5 s5 hq e => ?_⟩
        refine ⟨.ref q, _, _, rfl, s3.trans s5, q, rfl, ?_⟩
        rw [foldl_snoc _ _ hm, e]
        unfold yFold
        rw [if_pos (show B.b.y m = true from c)]
      · refine ⟨v, _, _, rfl, s3, ?_⟩
        rw [foldl_snoc _ _ hm]
        unfold yFold
        rw [if_neg (show ¬ B.b.y m = true from c)]
        exact iv
    · rintro σ H3 ⟨v, o3, o4, rfl, s3, iv⟩
      rw [al.len, List.take_length] at iv
      have hl : (B.P.foldl (yFold B n) []).length ≤ n + 1 := len_yesFold B.b n _ _ (by simp)
      exact ⟨_, rfl, v, _, rfl, iv, by omega, fun q H5 s5 hq e => k q H5 (s1.trans (s2.trans (s3.trans s5))) (s1.free (s2.free (s3.free hq))) e⟩
/-! ### yes_count -/
def spYesCount (C : Addr) : Sp := fun vs H Q _ => ∃ (B : PBk) (b : Addr) (n : Nat) (N : Int), vs = [.ref b, .int (n : Int), .int N] ∧ B.Ok ∧ BookAt C B b H ∧ n ≤ 40 ∧ 0 ≤ N ∧ N ≤ 1000000000 ∧ ∀ H', Same H H' → Q (.int (ev N (yesP B.b n))) H'
theorem scYesCount : FnScope ["book", "reads", "names"] ["book", "reads", "names"] (defScope sYesCount) := ⟨rfl, rfl, rfl, by decide +kernel, rfl, by decide +kernel, by decide +kernel⟩
theorem ok_yes_count {f : Addr} {fd : FuncData} (F : Fun K "yes_count" "yes_count" sYesCount f fd) (T : Txt K mg C) (cC : Cal P w K mg base 1 "check_reads" ["reads"] spCheckReads) (cY : Cal P w K mg base 6 "yes_polynomial" ["book", "reads"] (spYesPolynomial C))
    (cV : Cal P w K mg base 1 "value" ["polynomial", "number"] spValue) : FnOk P w K mg base CX0 7 f fd ["book", "reads", "names"] (spYesCount C) := by
  refine F.ok scYesCount (fun vs H Q E h => ?_) (fun cdv A outer s H vs Q E hr h => ?_)
  · obtain ⟨B, b, n, N, rfl, _⟩ := h
    rfl
  · obtain ⟨B, b, n, N, rfl, ok, BA, hn, h0, h9, k⟩ := h
    have hr1 : Room 1 _ := hr.mono (by decide)
    refine ⟨_, pss_cons (ps_expr (pe_cal cC hr1 (pa_cons (pv 1) pa_nil)))
      (pss_cons (ps_if (pt_not (pt_chain op_le op_le pe_int (pv 2) (pe_gi T.mN))) pss_never pss_nil)
      (pss_one (ps_ret (pe_cal cV hr1 (pa_cons (pe_cal cY hr (pa_cons (pv 0) (pa_cons (pv 1) pa_nil))) (pa_cons (pv 2) pa_nil)))))), ?_⟩
    refine ⟨_, rfl, (n : Int), rfl, by omega, by omega, ?_⟩
    refine ⟨_, rfl, _, _, rfl, rfl, _, rfl, ?_⟩
    rw [decide_eq_true h0]
    refine iteT ⟨_, _, rfl, rfl, _, rfl, ?_⟩
    rw [decide_eq_true h9]
    refine iteF ⟨_, rfl, _, rfl, B, b, n, rfl, ok, BA, hn, fun p H1 s1 hp e => ?_⟩
    exact ⟨_, rfl, _, _, N, rfl, ⟨p, rfl, e⟩, h0, h9, fun H2 s2 => k H2 (s1.trans s2)⟩
end
end FW

/-! FhC5: steps, kind_numbers, kind_count. -/
namespace FW
open PySem L2 FR FH
section
variable {P : Program} {w : World} {K : PySem.W.Frag} {mg : Str → Option Value} {base : Heap} {C : Addr}
/-! ### steps -/
def StepAt (H : Hp) (t : Str × Nat × Int) (v : V) : Prop := ∃ a, v = .ref a ∧ H a = some (.tup [.str t.1, .int (t.2.1 : Int), .int t.2.2])
theorem StepAt.mono {H H' : Hp} (s : Same H H') {t : Str × Nat × Int} {v : V} (h : StepAt H t v) : StepAt H' t v := let ⟨a, e, x⟩ := h; ⟨a, e, s _ _ x⟩
/-- tuples stay where a list or a dict grows -/
def TupSame (H H' : Hp) : Prop := ∀ a t, H a = some (.tup t) → H' a = some (.tup t)
theorem TupSame.of {H H' : Hp} (s : Same H H') : TupSame H H' := fun a t h => s _ _ h
theorem TupSame.trans {H H1 H2 : Hp} (a : TupSame H H1) (b : TupSame H1 H2) : TupSame H H2 := fun x t h => b x t (a x t h)
theorem TupSame.lst {H : Hp} {p : Addr} {xs : List V} {o : HO} (h : H p = some (.lst xs)) : TupSame H (upd H p o) := fun a t e => by
  rw [upd_ne]
  · exact e
  · intro z
    rw [z, h] at e
    cases e
theorem TupSame.dT {H : Hp} {p : Addr} {xs : List (List Key × V)} {o : HO} (h : H p = some (.dT xs)) : TupSame H (upd H p o) := fun a t e => by
  rw [upd_ne]
  · exact e
  · intro z
    rw [z, h] at e
    cases e
theorem StepAt.tup {H H' : Hp} (s : TupSame H H') {t : Str × Nat × Int} {v : V} (h : StepAt H t v) : StepAt H' t v := let ⟨a, e, x⟩ := h; ⟨a, e, s _ _ x⟩
def stpAll (B : PBk) (n w : Str) (d : Nat) : List (Str × Nat × Int) :=
  [(B.g n w 0, d + 1, 1), (B.g n w 0, d, (d : Int) - (B.s n : Int))] ++ (List.range (B.s n)).map fun c => (B.g n w (c + 1), d, 1)
theorem stp_eq (B : PBk) (n w : Str) (d : Nat) : stp B.b n w d = (stpAll B n w d).filter fun t => decide (0 < t.2.2) := rfl
def spSteps (C : Addr) : Sp := fun vs H Q _ => ∃ (B : PBk) (b : Addr) (n w : Str) (d : Nat), vs = [.ref b, .str n, .str w, .int (d : Int)] ∧ B.Ok ∧ BookAt C B b H ∧ n ∈ B.P ∧ w ∈ B.W ∧
  ∀ p H' xs, Same H H' → H p = none → H' p = some (.lst xs) → All2 (StepAt H') (stp B.b n w d) xs → Q (.ref p) H'
theorem scSteps : FnScope ["book", "name", "word", "known", "slots", "goal", "found", "case", "row"] ["book", "name", "word", "known"] (defScope sSteps) := ⟨rfl, rfl, rfl, by decide +kernel, rfl, by decide +kernel, by decide +kernel⟩
theorem ok_steps {f : Addr} {fd : FuncData} (F : Fun K "steps" "steps" sSteps f fd) (T : Txt K mg C) (cS : MCal P w K mg base 2 C "slots" ["self", "name"] (spSlots C)) (cR : MCal P w K mg base 3 C "rule" ["self", "name", "word", "case"] (spRule C)) :
    FnOk P w K mg base CX0 4 f fd ["book", "name", "word", "known"] (spSteps C) := by
  refine F.ok scSteps (fun vs H Q E h => ?_) (fun cdv A outer s H vs Q E hr h => ?_)
  · obtain ⟨B, b, n, w, d, rfl, _⟩ := h
    rfl
  · obtain ⟨B, b, n, wd, d, rfl, ok, BA, hn, hw, k⟩ := h
    have nd := scSteps.nd
    refine ⟨_, pss_cons (ps_set (i := 4) nd rfl (.inl rfl) (pe_mcal cS (hr.mono (by decide)) (pv 0) T.cl (pa_cons (pv 1) pa_nil)))
      (pss_cons (ps_set (i := 5) nd rfl (.inl rfl) (pe_ix ix_tup (pe_mcal cR hr (pv 0) T.cl (pa_cons (pv 1) (pa_cons (pv 2) (pa_cons pe_int pa_nil)))) pe_int (fun _ _ => rfl)))
      (pss_cons (ps_set (i := 6) nd rfl (.inl rfl) (pe_lst (pa_cons (pe_tup (pa_cons (pv 5) (pa_cons (pe_op op_add (pv 3) pe_int) (pa_cons pe_int pa_nil)))) (pa_cons (pe_tup (pa_cons (pv 5) (pa_cons (pv 3) (pa_cons (pe_op op_sub (pv 3) (pv 4)) pa_nil)))) pa_nil))))
      (pss_cons (ps_aug (i := 6) nd rfl (.inl rfl)
        (pe_lc (own := [("case", 7)]) (g := gName 7) (tt := tYes) (te := tTup (tCons (tOp (rIxT K) (tMCal C "rule" (spRule C) (tVar 0) (tCons (tVar 1) (tCons (tVar 2) (tCons (tVar 7) tNil)))) (tC (.int 0))) (tCons (tVar 3) (tCons (tC (.int 1)) tNil)))) rfl nd
          (pi_range2 rfl T.range (pa_cons pe_int (pa_cons (pe_op op_add (pv 4) pe_int) pa_nil))) (blkOk_by (N := ["book", "name", "word", "known", "slots", "goal", "found", "case", "row"]) (sc := defScope sSteps) (by decide +kernel))
          (fun _ _ _ _ _ => pg_name (i := 7) nd rfl (.inl rfl)) (fun _ _ _ _ _ => pts_nil)
          (fun _ _ _ _ _ => by exact pe_tup (pa_cons (pe_ix (kIxT K) (pe_mcal cR hr (pv 0) T.cl (pa_cons (pv 1) (pa_cons (pv 2) (pa_cons (pv 7) pa_nil)))) pe_int (fun _ _ => rfl)) (pa_cons (pv 3) (pa_cons pe_int pa_nil))))) iop_ext)
      (pss_one (ps_ret (pe_lc (own := [("row", 8)]) (g := gName 8) (tt := tTest (tOp (rI0 fun i j => .bl (decide (j < i))) (tOp (rIxT K) (tVar 8) (tC (.int 2))) (tC (.int 0)))) (te := tVar 8) rfl nd (pi_list (pv 6))
        (blkOk_by (N := ["book", "name", "word", "known", "slots", "goal", "found", "case", "row"]) (sc := defScope sSteps) (by decide +kernel)) (fun _ _ _ _ _ => pg_name (i := 8) nd rfl (.inl rfl))
        (fun _ _ _ _ _ => by exact pts_one (pt_cmpR op_gt (pe_ix (kIxT K) (pv 8) pe_int (fun _ _ => rfl)) pe_int (nomark _))) (fun _ _ _ _ _ => by exact pv 8))))))), ?_⟩
    obtain ⟨dx, wA, pA, kA, tA, pvs, kk, tt, h1, _⟩ := BA.ex
    refine ⟨_, rfl, b, dx, _, rfl, h1, bfs_no (by decide +kernel), _, rfl, B, b, n, rfl, BA, hn, ?_⟩
    refine ⟨_, rfl, b, dx, _, rfl, h1, bfs_no (by decide +kernel), _, rfl, _, rfl, B, b, n, wd, 0, rfl, BA, hn, hw, Nat.zero_le _, fun v H1 s1 ⟨va, ma, ev, hva, hma⟩ => ?_⟩
    refine ⟨va, _, 0, _, ev, rfl, SqT.of hva, rfl, ?_⟩
    -- found
    refine ⟨_, rfl, _, rfl, _, _, rfl, rfl, small (n := 3) (by decide), fun p1 hp1 => ?_⟩
    refine ⟨_, rfl, _, rfl, _, rfl, _, rfl, _, _, rfl, rfl, small (n := 3) (by decide), fun p2 hp2 => ?_⟩
    refine ⟨small (n := 2) (by decide), fun fA hfA => ?_⟩
    have q1 := Same.new (o := .tup [.str (gl B.b (n, wd, 0)), .int ((d : Int) + 1), .int 1]) hp1
    have q2 := Same.new (o := .tup [.str (gl B.b (n, wd, 0)), .int (d : Int), .int ((d : Int) - (B.s n : Int))]) hp2
    have q3 := Same.new (o := .lst [.ref p1, .ref p2]) hfA
    have e1 := q3 _ _ (q2 _ _ (upd_same (H := H1) (a := p1) (o := .tup [.str (gl B.b (n, wd, 0)), .int ((d : Int) + 1), .int 1])))
    have e2 := q3 _ _ (upd_same (H := upd H1 p1 (.tup [.str (gl B.b (n, wd, 0)), .int ((d : Int) + 1), .int 1])) (a := p2) (o := .tup [.str (gl B.b (n, wd, 0)), .int (d : Int), .int ((d : Int) - (B.s n : Int))]))
    have e3 := upd_same (H := upd (upd H1 p1 (.tup [.str (gl B.b (n, wd, 0)), .int ((d : Int) + 1), .int 1])) p2 (.tup [.str (gl B.b (n, wd, 0)), .int (d : Int), .int ((d : Int) - (B.s n : Int))])) (a := fA) (o := .lst [.ref p1, .ref p2])
    have s2 := s1.trans (q1.trans (q2.trans q3))
    have hfH : H fA = none := s1.free (q1.free (q2.free hfA))
    generalize (upd (upd (upd H1 p1 (.tup [.str (gl B.b (n, wd, 0)), .int ((d : Int) + 1), .int 1])) p2 (.tup [.str (gl B.b (n, wd, 0)), .int (d : Int), .int ((d : Int) - (B.s n : Int))])) fA (.lst [.ref p1, .ref p2])) = H2 at e1 e2 e3 s2 ⊢
    have hs3 := ok.s3 n hn
    refine ⟨_, rfl, _, rfl, _, _, rfl, rfl, 1, (B.s n : Int) + 1, rfl, ⟨by omega, by omega, by omega, by omega⟩, fun D hD => ?_⟩
    have hcnt : ((B.s n : Int) + 1 - 1).toNat = B.s n := by omega
    rw [hcnt]
    refine lc_it walk_range (fun i H3 => ∃ ys, Same H2 H3 ∧ H3 D = some (.lst ys) ∧ All2 (StepAt H3) ((List.range i).map fun c => (B.g n wd (c + 1), d, (1 : Int))) ys) ⟨[], Same.new hD, upd_same, All2.nil⟩ (fun _ _ _ _ => True.intro) ?_ ?_
    · rintro i x H3 H4 hi ⟨ys, s3, hD3, al⟩ ⟨rfl, rfl⟩
      have BA4 := BA.mono (s2.trans s3)
      obtain ⟨dx, wA, pA, kA, tA, pvs, kk, tt, h1, _⟩ := BA4.ex
      have ly := al.len
      rw [List.length_map, List.length_range] at ly
      refine ⟨rfl, yesT ⟨_, rfl, b, dx, _, rfl, h1, bfs_no (by decide +kernel), _, rfl, _, rfl, _, rfl, B, b, n, wd, i + 1, ?_, BA4, hn, hw, by omega, fun v H5 s5 ⟨va, ma, ev, hva, hma⟩ => ?_⟩⟩
      · dsimp only
        rw [show (1 : Int) + (i : Int) = ((i + 1 : Nat) : Int) by omega]
      · refine ⟨va, _, 0, _, ev, rfl, SqT.of hva, rfl, _, rfl, small (n := 3) (by decide), fun q hq => ?_⟩
        have sq := Same.new (o := .tup [.str (gl B.b (n, wd, i + 1)), .int (d : Int), .int 1]) hq
        have eq : (upd H5 q (.tup [.str (gl B.b (n, wd, i + 1)), .int (d : Int), .int 1])) q = some (.tup [.str (gl B.b (n, wd, i + 1)), .int (d : Int), .int 1]) := upd_same
        have hD5 := sq _ _ (s5 _ _ hD3)
        refine ⟨ys, hD5, smallL (by omega), ys ++ [.ref q], (s3.trans (s5.trans sq)).chg hD, upd_same, ?_⟩
        rw [List.range_succ, List.map_append]
        have ts := TupSame.lst (o := .lst (ys ++ [.ref q])) hD5
        exact All2.snoc (al.mono fun k v r => (r.mono (s5.trans sq)).tup ts) ⟨q, rfl, ts _ _ eq⟩
    · rintro H3 ⟨ys, s3, hD3, al⟩
      have ly := al.len
      rw [List.length_map, List.length_range] at ly
      have hf3 := s3 _ _ e3
      refine ⟨fA, D, _, ys, rfl, rfl, hf3, hD3, small (by simp only [List.length_cons, List.length_nil]; omega), ?_⟩
      have ts := TupSame.lst (o := .lst ([.ref p1, .ref p2] ++ ys)) hf3
      have s4 : Same H (upd H3 fA (.lst ([.ref p1, .ref p2] ++ ys))) := (s2.trans s3).chg hfH
      have all : All2 (StepAt (upd H3 fA (.lst ([.ref p1, .ref p2] ++ ys)))) (stpAll B n wd d) ([.ref p1, .ref p2] ++ ys) := by
        refine All2.app ⟨rfl, fun j x hj => ?_⟩ (al.mono fun k v r => r.tup ts)
        match j with
        | 0 =>
          have hx : (B.g n wd 0, d + 1, (1 : Int)) = x := by simpa using hj
          subst hx
          exact ⟨_, rfl, p1, rfl, ts _ _ (s3 _ _ e1)⟩
        | 1 =>
          have hx : (B.g n wd 0, d, (d : Int) - (B.s n : Int)) = x := by simpa using hj
          subst hx
          exact ⟨_, rfl, p2, rfl, ts _ _ (s3 _ _ e2)⟩
        | j + 2 => simp at hj
      have e4 : (upd H3 fA (.lst ([.ref p1, .ref p2] ++ ys))) fA = some (.lst ([.ref p1, .ref p2] ++ ys)) := upd_same
      have lz := all.len
      generalize ([.ref p1, .ref p2] ++ ys : List V) = zs at s4 all e4 lz ⊢
      generalize (upd H3 fA (.lst zs)) = H4 at s4 all e4 ⊢
      have lz2 : zs.length ≤ 10 := by
        rw [lz]
        unfold stpAll
        rw [List.length_append, List.length_map, List.length_range]
        simp only [List.length_cons, List.length_nil]
        omega
      refine ⟨_, rfl, fA, rfl, ⟨_, SqL.of e4⟩, fun D2 hD2 => ?_⟩
      refine lc_it (walk_list (K := K) (a := fA) (xs := zs)) (fun i H5 => ∃ us, Same H4 H5 ∧ H5 D2 = some (.lst us) ∧ All2 (StepAt H5) (((stpAll B n wd d).take i).filter fun t => decide (0 < t.2.2)) us) ⟨[], Same.new hD2, upd_same, All2.nil⟩ (fun i H5 _ ⟨_, s5, _⟩ => SqL.of (s5 _ _ e4)) ?_ ?_
      · rintro i x H5 H6 hi ⟨us, s5, hD5, al5⟩ ⟨rfl, hx⟩
        obtain ⟨t, ht, a, rfl, ha⟩ := all.of hx
        have ha6 := s5 _ _ ha
        refine ⟨rfl, _, rfl, a, _, 2, _, rfl, rfl, SqT.of ha6, rfl, _, _, rfl, rfl, _, rfl, ?_⟩
        have lu := al5.len
        have lf : (((stpAll B n wd d).take i).filter fun t => decide (0 < t.2.2)).length ≤ 10 := by
          refine Nat.le_trans (List.length_filter_le _ _) ?_
          rw [List.length_take, ← lz]
          omega
        rw [take_snoc ht, List.filter_append]
        refine ite2 (fun c => ?_) (fun c => ?_)
        · have ts := TupSame.lst (o := .lst (us ++ [.ref a])) hD5
          refine ⟨_, rfl, us, hD5, smallL (by omega), us ++ [.ref a], s5.chg hD2, upd_same, ?_⟩
          rw [show [t].filter (fun t => decide (0 < t.2.2)) = [t] by rw [List.filter_cons_of_pos (by simpa using c)]; rfl]
          exact All2.snoc (al5.mono fun k v r => r.tup ts) ⟨a, rfl, ts _ _ ha6⟩
        · refine ⟨us, s5, hD5, ?_⟩
          rw [show [t].filter (fun t => decide (0 < t.2.2)) = [] by rw [List.filter_cons_of_neg (by simpa using c)]; rfl, List.append_nil]
          exact al5
      · rintro H5 ⟨us, s5, hD5, al5⟩
        rw [lz, List.take_length] at al5
        exact k D2 H5 us (s4.trans s5) (s4.free hD2) hD5 al5
end
end FW

/-! FhC6: kind_numbers, kind_count. -/
namespace FW
open PySem L2 FR FH
/-! ### entries as a dict's pairs -/
def ek (k : Str × Nat) : List Key := [.inr k.1, .inl (k.2 : Int)]
def ekv (e : Ent Str) : List Key × V := (ek e.1, V.int e.2)
theorem ek_inj {a b : Str × Nat} (h : ek a = ek b) : a = b := by
  unfold ek at h
  injection h with h1 h2
  injection h2 with h3 _
  have e1 := Sum.inr.inj h1
  have e2 := Sum.inl.inj h3
  exact Prod.ext e1 (by omega)
theorem ek_dec (a b : Str × Nat) : decide (ek a = ek b) = decide (a = b) := by
  by_cases e : a = b
  · rw [e, decide_eq_true rfl, decide_eq_true rfl]
  · rw [decide_eq_false e, decide_eq_false fun z => e (ek_inj z)]
theorem valV_ekv (k : Str × Nat) : ∀ es : List (Ent Str), (valV (es.map ekv) (ek k)).getD (.int 0) = .int (look es k)
  | [] => rfl
  | e :: es => by
    rw [look_cons, List.map_cons]
    by_cases h : e.1 = k
    · rw [if_pos h, valV_pos (show (ekv e).1 = ek k by rw [← h]; rfl)]
      rfl
    · rw [if_neg h, valV_neg (show ¬ (ekv e).1 = ek k from fun z => h (ek_inj z)), valV_ekv k es]
theorem putK_ekv (k : Str × Nat) (x : Int) (es : List (Ent Str)) : putK (es.map ekv) (ek k) (.int x) = (put es k x).map ekv := by
  unfold putK put
  have e1 : ((es.map ekv).any fun kv => decide (kv.1 = ek k)) = es.any fun e => decide (e.1 = k) := by
    rw [List.any_map]
    congr 1
    funext e
    exact ek_dec e.1 k
  rw [e1]
  by_cases h : (es.any fun e => decide (e.1 = k)) = true
  · rw [if_pos h, if_pos h, List.map_map, List.map_map]
    refine List.map_congr_left fun e _ => ?_
    show (if ek e.1 = ek k then (ek e.1, V.int x) else ekv e) = ekv (if e.1 = k then (e.1, x) else e)
    by_cases q : e.1 = k
    · rw [if_pos (by rw [q]), if_pos q]; rfl
    · rw [if_neg fun z => q (ek_inj z), if_neg q]
  · rw [if_neg h, if_neg h, List.map_append]
    rfl
theorem stp_pos {B : PBk} {n w : Str} {d : Nat} {t : Str × Nat × Int} (h : t ∈ stp B.b n w d) : 0 < t.2.2 ∧ t.2.2 ≤ (d : Int) + 1 := by
  obtain ⟨h1, h2⟩ := List.mem_filter.mp h
  refine ⟨of_decide_eq_true h2, ?_⟩
  rcases List.mem_append.mp h1 with q | q
  · rcases List.mem_cons.mp q with q | q
    · subst q
      show (1 : Int) ≤ _
      omega
    · rw [List.mem_singleton] at q
      subst q
      show (d : Int) - (B.b.s n : Int) ≤ _
      omega
  · obtain ⟨c, _, rfl⟩ := List.mem_map.mp q
    show (1 : Int) ≤ _
    omega
/-- entries of turn i -/
structure Fine (B : PBk) (i : Nat) (es : List (Ent Str)) : Prop where
  nd : NdK es
  inn : In B.b i es
theorem Fine.len {B : PBk} (ok : B.Ok) {i : Nat} {es : List (Ent Str)} (f : Fine B i es) (hi : i ≤ 50) : es.length < sizeLine := by
  have h := len_ents f.nd f.inn
  have h4 : B.b.P.length ≤ 4 := ok.p4
  have : B.b.P.length * (i + 1) ≤ 4 * 51 := Nat.mul_le_mul h4 (by omega)
  exact smallL (by omega)
section
variable {P : Program} {w : World} {K : PySem.W.Frag} {mg : Str → Option Value} {base : Heap} {C : Addr}
def spKindNumbers (C : Addr) : Sp := fun vs H Q _ => ∃ (B : PBk) (b : Addr) (n : Nat), vs = [.ref b, .int (n : Int)] ∧ B.Ok ∧ BookAt C B b H ∧ n ≤ 40 ∧ ∀ p H', Same H H' → H p = none → H' p = some (.lst ((kinds B.b n).map V.int)) → Q (.ref p) H'
theorem scKindNumbers : FnScope ["book", "reads", "now", "_", "behind", "name", "known", "count", "word", "goal", "told", "many", "found"] ["book", "reads"] (defScope sKindNumbers) := ⟨rfl, rfl, rfl, by decide +kernel, rfl, by decide +kernel, by decide +kernel⟩
theorem ok_kind_numbers {f : Addr} {fd : FuncData} (F : Fun K "kind_numbers" "kind_numbers" sKindNumbers f fd) (T : Txt K mg C) (cC : Cal P w K mg base 1 "check_reads" ["reads"] spCheckReads) (cS : Cal P w K mg base 4 "steps" ["book", "name", "word", "known"] (spSteps C))
    (cY : MCal P w K mg base 2 C "says_yes" ["self", "name"] (spSaysYes C)) : FnOk P w K mg base CX0 5 f fd ["book", "reads"] (spKindNumbers C) := by
  refine F.ok scKindNumbers (fun vs H Q E h => ?_) (fun cdv A outer s H vs Q E hr h => ?_)
  · obtain ⟨B, b, n, rfl, _⟩ := h
    rfl
  · obtain ⟨B, b, n, rfl, ok, BA, hn, k⟩ := h
    have hu := hu_of hr
    have nd := scKindNumbers.nd
    refine ⟨_, pss_cons (ps_expr (pe_cal cC (hr.mono (by decide)) (pa_cons (pv 1) pa_nil)))
      (pss_cons (ps_set (i := 2) nd rfl (.inl rfl) (pe_disp1 hu (pe_tup (pa_cons (pe_fld (pv 0) rfl) (pa_cons pe_int pa_nil))) pe_int))
      (pss_cons (ps_for PassesOwn.never rfl (pi_range1 rfl T.range (pa_cons (pv 1) pa_nil)) (pg_name (i := 3) nd rfl (.inl rfl))
        (pss_cons (ps_set (i := 4) nd rfl (.inl rfl) pe_dnewT)
        (pss_cons (ps_lock (ps_for PassesOwn.never rfl (pi_itemsT (pv 2))
            (pg_tup rfl (pgs_cons (pg_tup rfl (pgs_cons (pg_name (i := 5) nd rfl (.inl rfl)) (pgs_cons (pg_name (i := 6) nd rfl (.inl rfl)) pgs_nil))) (pgs_cons (pg_name (i := 7) nd rfl (.inl rfl)) pgs_nil)))
            (pss_one (ps_for PassesOwn.never rfl (pi_tup (pe_fld (pv 0) rfl)) (pg_name (i := 8) nd rfl (.inl rfl))
              (pss_one (ps_for PassesOwn.never rfl (pi_list (pe_cal cS hr (pa_cons (pv 0) (pa_cons (pv 5) (pa_cons (pv 8) (pa_cons (pv 6) pa_nil))))))
                (pg_tup rfl (pgs_cons (pg_name (i := 9) nd rfl (.inl rfl)) (pgs_cons (pg_name (i := 10) nd rfl (.inl rfl)) (pgs_cons (pg_name (i := 11) nd rfl (.inl rfl)) pgs_nil))))
                (pss_one (ps_dput hu (pv 4) (pe_tup (pa_cons (pv 9) (pa_cons (pv 10) pa_nil)))
                  (pe_op op_add (pe_dget2 hu (pv 4) (pe_tup (pa_cons (pv 9) (pa_cons (pv 10) pa_nil))) pe_int ⟨rfl, rfl, rfl, rfl⟩) (pe_op op_mul (pv 11) (pv 7))) rfl))))))))
        (pss_one (ps_set (i := 2) nd rfl (.inl rfl) (pv 4))))))
      (pss_cons (ps_set (i := 12) nd rfl (.inl rfl) (pe_op op_rep (pe_lst (pa_cons pe_int pa_nil)) (pe_op op_add (pv 1) pe_int)))
      (pss_cons (ps_lock (ps_for PassesOwn.never rfl (pi_itemsT (pv 2))
          (pg_tup rfl (pgs_cons (pg_tup rfl (pgs_cons (pg_name (i := 5) nd rfl (.inl rfl)) (pgs_cons (pg_name (i := 6) nd rfl (.inl rfl)) pgs_nil))) (pgs_cons (pg_name (i := 7) nd rfl (.inl rfl)) pgs_nil)))
          (pss_one (ps_if (pt_val (pe_mcal cY (hr.mono (by decide)) (pv 0) T.cl (pa_cons (pv 5) pa_nil)))
            (pss_one (ps_augS (pv 12) (pv 6) get_list (pv 7) ip_add set_list)) pss_nil))))
      (pss_one (ps_ret (pv 12))))))), ?_⟩
    obtain ⟨dx, wA, pA, kA, tA, pvs, kk, tt, h1, h2, _⟩ := BA.ex
    refine ⟨_, rfl, (n : Int), rfl, by omega, by omega, ?_⟩
    -- now = {(book.start, 0): 1}
    intro d hd
    have sd := Same.new (o := .dT []) hd
    refine ⟨_, rfl, b, C, dx, _, _, rfl, sd _ _ h1, T.cl, T.nS, bfs_s, small (n := 2) (by decide), fun q hq => ?_⟩
    have sq := Same.new (o := .tup [.str B.st, .int 0]) hq
    refine ⟨q, [.inr B.st, .inl 0], rfl, upd_same, sq _ _ upd_same, ?_⟩
    -- the reads
    refine ⟨_, rfl, (n : Int), rfl, by omega, by omega, ?_⟩
    have hcnt : (n : Int).toNat = n := by omega
    rw [hcnt]
    refine for_it walk_range (fun i σ H1 => ∃ d o3 o4 o5 o6 o7 o8 o9 oa ob oc, σ = [some (.ref b), some (.int (n : Int)), some (.ref d), o3, o4, o5, o6, o7, o8, o9, oa, ob, oc] ∧ Same H H1 ∧ H d = none ∧ H1 d = some (.dT ((kSt B.b i).map ekv)))
      ⟨d, none, none, none, none, none, none, none, none, none, none, rfl, (sd.trans sq).chg hd, hd, upd_same⟩ (fun _ _ _ _ _ => True.intro) ?_ ?_
    · rintro i x σ H1 H2 hi ⟨d, o3, o4, o5, o6, o7, o8, o9, oa, ob, oc, rfl, s1, hd, hd1⟩ ⟨rfl, rfl⟩
      intro e he
      have s2 := Same.new (o := .dT []) he
      have hde : d ≠ e := ne_of_none hd1 he
      have heH : H e = none := s1.free he
      have fk : Fine B i (kSt B.b i) := ⟨nd_kSt B.b i, in_kSt ok.ok i⟩
      refine ⟨d, _, s2 _ _ hd1, True.intro, fun od => ?_⟩
      refine ⟨_, rfl, d, od, _, rfl, upd_same, ?_⟩
      have s3 : Same H (upd (upd H2 e (.dT [])) d (.frz od (.dT ((kSt B.b i).map ekv)))) := (s1.trans s2).chg hd
      have e3 : (upd (upd H2 e (.dT [])) d (.frz od (.dT ((kSt B.b i).map ekv)))) e = some (.dT []) := (upd_ne hde.symm).trans upd_same
      have d3 : (upd (upd H2 e (.dT [])) d (.frz od (.dT ((kSt B.b i).map ekv)))) d = some (.frz od (.dT ((kSt B.b i).map ekv))) := upd_same
      generalize (upd (upd H2 e (.dT [])) d (.frz od (.dT ((kSt B.b i).map ekv)))) = H3 at s3 e3 d3 ⊢
      refine for_it (walk_itemsT (d := d) (o := od) (kvs := (kSt B.b i).map ekv)) (fun j σ H4 => ∃ o5 o6 o7 o8 o9 oa ob, σ = [some (.ref b), some (.int (n : Int)), some (.ref d), some (.int (0 + (i : Int))), some (.ref e), o5, o6, o7, o8, o9, oa, ob, oc] ∧ Same H H4 ∧ H4 d = some (.frz od (.dT ((kSt B.b i).map ekv))) ∧
          H4 e = some (.dT ((((kSt B.b i).take j).foldl (kEnt B.b) []).map ekv)))
        ⟨_, _, _, _, _, _, _, rfl, s3, d3, e3⟩ (fun j σ H4 _ ⟨_, _, _, _, _, _, _, _, _, d4, _⟩ => d4) ?_ ?_
      · rintro j x σ H4 H5 hj ⟨o5, o6, o7, o8, o9, oa, ob, rfl, s4, d4, e4⟩ ⟨T1, kt, kky, kv, hkv, hkt, rfl, hT1, rfl⟩
        rw [List.getElem?_map] at hkv
        obtain ⟨⟨⟨nm, kn⟩, ct⟩, hent, hpair⟩ := Option.map_eq_some_iff.mp hkv
        cases hpair
        have hin := fk.inn _ (List.mem_of_getElem? hent)
        have hnm : nm ∈ B.P := hin.1
        have hkn : kn ≤ i := hin.2
        have s5 := Same.new (o := .tup [.ref kt, .int ct]) hT1
        have facc : Fine B (i + 1) (((kSt B.b i).take j).foldl (kEnt B.b) []) := ⟨nd_ents B.b _ (by show ([] : List (Str × Nat)).Nodup; simp), in_ents ok.ok _ (fun e he => fk.inn e (List.mem_of_mem_take he)) (fun e he => by simp at he)⟩
        refine ⟨T1, _, rfl, SqT.of upd_same, rfl, _, _, rfl, kt, _, rfl, SqT.of (s5 _ _ hkt), rfl, _, _, rfl, _, _, rfl, rfl, _, _, rfl, rfl, ?_⟩
        have d5 := s5 _ _ d4
        have e5 := s5 _ _ e4
        have sH5 := s4.trans s5
        generalize (upd H4 T1 (.tup [.ref kt, .int ct])) = H5 at s5 d5 e5 sH5 ⊢
        have BA5 := BA.mono sH5
        obtain ⟨dx, wA, pA, kA, tA, pvs, kk, tt, h1, h2, _⟩ := BA5.ex
        refine ⟨_, rfl, b, C, dx, _, _, rfl, h1, T.cl, T.nW, bfs_w, wA, rfl, ⟨_, SqT.of h2⟩, ?_⟩
        generalize hacc : ((kSt B.b i).take j).foldl (kEnt B.b) [] = acc at facc e5
        refine for_it (walk_tup (K := K) (a := wA) (xs := B.W.map V.str)) (fun l σ H6 => ∃ o8 o9 oa ob, σ = [some (.ref b), some (.int (n : Int)), some (.ref d), some (.int (0 + (i : Int))), some (.ref e), some (.str nm), some (.int (kn : Int)), some (.int ct), o8, o9, oa, ob, oc] ∧ Same H H6 ∧ TupSame H5 H6 ∧ H6 d = some (.frz od (.dT ((kSt B.b i).map ekv))) ∧
            H6 e = some (.dT (((B.W.take l).foldl (kWord B.b ((nm, kn), ct)) acc).map ekv)))
          ⟨_, _, _, _, rfl, sH5, fun _ _ z => z, d5, e5⟩ (fun l σ H6 _ ⟨_, _, _, _, _, _, t6, _⟩ => SqT.of (t6 _ _ h2)) ?_ ?_
        · rintro l x σ H6 H7 hl ⟨o8, o9, oa, ob, rfl, s6, t6, d6, e6⟩ ⟨rfl, hx⟩
          rw [List.getElem?_map] at hx
          obtain ⟨wd, hwd, rfl⟩ := Option.map_eq_some_iff.mp hx
          have hwd' : wd ∈ B.W := List.mem_of_getElem? hwd
          have facc2 : Fine B (i + 1) ((B.W.take l).foldl (kWord B.b ((nm, kn), ct)) acc) := ⟨nd_words B.b _ _ facc.nd, in_words ok.ok ⟨hnm, hkn⟩ _ (fun w hw => List.mem_of_mem_take hw) facc.inn⟩
          generalize hacc2 : (B.W.take l).foldl (kWord B.b ((nm, kn), ct)) acc = acc2 at facc2 e6
          refine ⟨_, rfl, _, rfl, _, rfl, _, rfl, B, b, nm, wd, kn, rfl, ok, BA.mono s6, hnm, hwd', fun lA H8 xs s8 hlA ex al => ?_⟩
          refine ⟨lA, rfl, ⟨_, SqL.of ex⟩, ?_⟩
          have d8 := s8 _ _ d6
          have e8 := s8 _ _ e6
          refine for_it (walk_list (K := K) (a := lA) (xs := xs)) (fun m σ H9 => ∃ o9 oa ob, σ = [some (.ref b), some (.int (n : Int)), some (.ref d), some (.int (0 + (i : Int))), some (.ref e), some (.str nm), some (.int (kn : Int)), some (.int ct), some (.str wd), o9, oa, ob, oc] ∧ Same H H9 ∧ TupSame H8 H9 ∧ H9 lA = some (.lst xs) ∧
              H9 d = some (.frz od (.dT ((kSt B.b i).map ekv))) ∧ H9 e = some (.dT ((((stp B.b nm wd kn).take m).foldl (kOne ct) acc2).map ekv)))
            ⟨_, _, _, rfl, s6.trans s8, fun _ _ z => z, ex, d8, e8⟩ (fun m σ H9 _ ⟨_, _, _, _, _, _, l9, _⟩ => SqL.of l9) ?_ ?_
          · rintro m x σ H9 HA hm ⟨o9, oa, ob, rfl, s9, t9, l9, d9, e9⟩ ⟨rfl, hx⟩
            obtain ⟨⟨g, told, many⟩, ht, a, rfl, ha⟩ := al.of hx
            have hts := List.mem_of_getElem? ht
            obtain ⟨mp1, mp2⟩ := stp_pos hts
            have mp1 : 0 < many := mp1
            have mp2 : many ≤ (kn : Int) + 1 := mp2
            have facc3 : Fine B (i + 1) (((stp B.b nm wd kn).take m).foldl (kOne ct) acc2) := ⟨nd_ones _ _ facc2.nd, in_ones _ _ facc2.inn fun t ht => by
              have q := stp_in ok.ok hnm hwd' t (List.mem_of_mem_take ht)
              exact ⟨q.1, by omega⟩⟩
            refine ⟨a, _, rfl, SqT.of (t9 _ _ ha), rfl, _, _, rfl, _, _, rfl, _, _, rfl, rfl, ?_⟩
            refine ⟨_, rfl, e, rfl, .inr ⟨_, .inl e9⟩, _, rfl, _, rfl, small (n := 2) (by decide), fun q hq => ?_⟩
            have s10 := Same.new (o := .tup [.str g, .int (told : Int)]) hq
            refine ⟨_, DGet.t (k := ek (g, told)) (s10 _ _ e9) upd_same, _, rfl, _, rfl, _, _, rfl, rfl, .inl ⟨by omega, by omega⟩, ?_⟩
            refine ⟨look (((stp B.b nm wd kn).take m).foldl (kOne ct) acc2) (g, told), many * ct, valV_ekv _ _, rfl, ?_⟩
            refine ⟨_, rfl, _, rfl, _, rfl, small (n := 2) (by decide), fun q2 hq2 => ?_⟩
            have s11 := Same.new (o := .tup [.str g, .int (told : Int)]) hq2
            have s12 := s10.trans s11
            refine ⟨e, _, rfl, DPut.t (k := ek (g, told)) (s12 _ _ e9) upd_same (by rw [List.length_map]; exact facc3.len ok (by omega)), ?_⟩
            refine ⟨_, _, _, rfl, (s9.trans s12).chg heH, t9.trans ((TupSame.of s12).trans (TupSame.dT (s12 _ _ e9))), ?_, ?_, ?_⟩
            · rw [upd_ne (fun z => by have := s12 _ _ l9; rw [z, s12 _ _ e9] at this; cases this)]
              exact s12 _ _ l9
            · rw [upd_ne hde]
              exact s12 _ _ d9
            · rw [upd_same, putK_ekv, foldl_snoc _ _ ht]
              rfl
          · rintro σ H9 ⟨o9, oa, ob, rfl, s9, t9, l9, d9, e9⟩
            rw [al.len, List.take_length] at e9
            refine ⟨_, _, _, _, rfl, s9, t6.trans ((TupSame.of s8).trans t9), d9, ?_⟩
            rw [foldl_snoc _ _ hwd, hacc2]
            exact e9
        · rintro σ H6 ⟨o8, o9, oa, ob, rfl, s6, t6, d6, e6⟩
          rw [List.length_map, List.take_length] at e6
          refine ⟨_, _, _, _, _, _, _, rfl, s6, d6, ?_⟩
          rw [foldl_snoc _ _ hent, hacc]
          exact e6
      · rintro σ H4 ⟨o5, o6, o7, o8, o9, oa, ob, rfl, s4, d4, e4⟩
        rw [List.length_map, List.take_length] at e4
        refine ⟨d4, _, rfl, e, _, _, _, _, _, _, _, _, _, _, rfl, s4.chg hd, heH, ?_⟩
        rw [upd_ne hde.symm]
        exact e4
    · rintro σ H1 ⟨d, o3, o4, o5, o6, o7, o8, o9, oa, ob, oc, rfl, s1, hd, hd1⟩
      have fk : Fine B n (kSt B.b n) := ⟨nd_kSt B.b n, in_kSt ok.ok n⟩
      -- found = [0] * (reads + 1)
      refine ⟨small (n := 1) (by decide), fun z hz => ?_⟩
      have s2 := Same.new (o := .lst [.int 0]) hz
      refine ⟨_, rfl, _, _, rfl, rfl, z, (n : Int) + 1, _, rfl, rfl, upd_same, by omega, by omega, small (by simp only [List.length_cons, List.length_nil]; omega), fun fA hfA => ?_⟩
      have e1 : (List.replicate ((n : Int) + 1).toNat [V.int 0]).flatten = (List.replicate (n + 1) (0 : Int)).map V.int := by
        rw [show ((n : Int) + 1).toNat = n + 1 by omega]
        generalize n + 1 = m
        induction m with
        | zero => rfl
        | succ m ih =>
          rw [List.replicate_succ, List.replicate_succ, List.flatten_cons, ih]
          rfl
      rw [e1]
      have s3 := Same.new (o := .lst ((List.replicate (n + 1) (0 : Int)).map V.int)) hfA
      have hfH : H fA = none := s1.free (s2.free hfA)
      have d3 := s3 _ _ (s2 _ _ hd1)
      have hdf : d ≠ fA := ne_of_none (s2 _ _ hd1) hfA
      have f3 : (upd (upd H1 z (.lst [.int 0])) fA (.lst ((List.replicate (n + 1) (0 : Int)).map V.int))) fA = some (.lst ((List.replicate (n + 1) (0 : Int)).map V.int)) := upd_same
      have sH3 := s1.trans (s2.trans s3)
      generalize (upd (upd H1 z (.lst [.int 0])) fA (.lst ((List.replicate (n + 1) (0 : Int)).map V.int))) = H3 at d3 f3 sH3 ⊢
      refine ⟨d, _, d3, True.intro, fun od => ?_⟩
      refine ⟨_, rfl, d, od, _, rfl, upd_same, ?_⟩
      refine for_it (walk_itemsT (d := d) (o := od) (kvs := (kSt B.b n).map ekv)) (fun j σ H4 => ∃ o5 o6 o7, σ = [some (.ref b), some (.int (n : Int)), some (.ref d), o3, o4, o5, o6, o7, o8, o9, oa, ob, some (.ref fA)] ∧ Same H H4 ∧ H4 d = some (.frz od (.dT ((kSt B.b n).map ekv))) ∧
          H4 fA = some (.lst ((((kSt B.b n).take j).foldl (fOne B.b) (List.replicate (n + 1) 0)).map V.int)))
        ⟨_, _, _, rfl, sH3.chg hd, upd_same, (upd_ne hdf.symm).trans f3⟩ (fun j σ H4 _ ⟨_, _, _, _, _, d4, _⟩ => d4) ?_ ?_
      · rintro j x σ H4 H5 hj ⟨o5, o6, o7, rfl, s4, d4, f4⟩ ⟨T1, kt, kky, kv, hkv, hkt, rfl, hT1, rfl⟩
        rw [List.getElem?_map] at hkv
        obtain ⟨⟨⟨nm, kn⟩, ct⟩, hent, hpair⟩ := Option.map_eq_some_iff.mp hkv
        cases hpair
        have hin := fk.inn _ (List.mem_of_getElem? hent)
        have hnm : nm ∈ B.P := hin.1
        have hkn : kn ≤ n := hin.2
        have s5 := Same.new (o := .tup [.ref kt, .int ct]) hT1
        refine ⟨T1, _, rfl, SqT.of upd_same, rfl, _, _, rfl, kt, _, rfl, SqT.of (s5 _ _ hkt), rfl, _, _, rfl, _, _, rfl, rfl, _, _, rfl, rfl, ?_⟩
        have d5 := s5 _ _ d4
        have f5 := s5 _ _ f4
        have sH5 := s4.trans s5
        generalize (upd H4 T1 (.tup [.ref kt, .int ct])) = H5 at s5 d5 f5 sH5 ⊢
        have BA5 := BA.mono sH5
        obtain ⟨dx, wA, pA, kA, tA, pvs, kk, tt, h1, h2, _⟩ := BA5.ex
        have ll : ((((kSt B.b n).take j).foldl (fOne B.b) (List.replicate (n + 1) 0))).length = n + 1 := by rw [fFold_length, List.length_replicate]
        rw [foldl_snoc _ _ hent]
        generalize (((kSt B.b n).take j).foldl (fOne B.b) (List.replicate (n + 1) 0)) = l at f5 ll ⊢
        refine ⟨_, rfl, b, dx, _, rfl, h1, bfs_no (by decide +kernel), _, rfl, B, b, nm, rfl, BA5, hnm, _, rfl, ?_⟩
        refine ite2 (fun c => ?_) (fun c => ?_)
        · have hk : kn < l.length := by omega
          refine ⟨_, rfl, _, rfl, fA, _, kn, _, rfl, rfl, SqL.of f5, ints_at (getD_at hk), _, rfl, _, _, rfl, rfl, fA, _, _, kn, rfl, rfl, f5, ?_, ?_⟩
          · rw [List.length_map]
            unfold ixN
            rw [if_pos (by omega), if_pos (by omega)]
            rfl
          · refine ⟨_, _, _, rfl, sH5.chg hfH, (upd_ne hdf).trans d5, ?_⟩
            rw [upd_same, ← List.map_set]
            unfold fOne
            rw [if_pos (show B.b.y nm = true from c)]
        · refine ⟨_, _, _, rfl, sH5, d5, ?_⟩
          unfold fOne
          rw [if_neg (show ¬ B.b.y nm = true from c)]
          exact f5
      · rintro σ H4 ⟨o5, o6, o7, rfl, s4, d4, f4⟩
        rw [List.length_map, List.take_length] at f4
        refine ⟨d4, _, rfl, k fA _ (s4.chg hd) hfH ?_⟩
        rw [upd_ne hdf.symm]
        exact f4
/-! ### kind_count -/
def spKindCount (C : Addr) : Sp := fun vs H Q _ => ∃ (B : PBk) (b : Addr) (n : Nat), vs = [.ref b, .int (n : Int)] ∧ B.Ok ∧ BookAt C B b H ∧ n ≤ 40 ∧ ∀ H', Same H H' → Q (.int (kinds B.b n).sum) H'
theorem scKindCount : FnScope ["book", "reads"] ["book", "reads"] (defScope sKindCount) := ⟨rfl, rfl, rfl, by decide +kernel, rfl, by decide +kernel, by decide +kernel⟩
theorem ok_kind_count {f : Addr} {fd : FuncData} (F : Fun K "kind_count" "kind_count" sKindCount f fd) (T : Txt K mg C) (cK : Cal P w K mg base 5 "kind_numbers" ["book", "reads"] (spKindNumbers C)) : FnOk P w K mg base CX0 6 f fd ["book", "reads"] (spKindCount C) := by
  refine F.ok scKindCount (fun vs H Q E h => ?_) (fun cdv A outer s H vs Q E hr h => ?_)
  · obtain ⟨B, b, n, rfl, _⟩ := h
    rfl
  · obtain ⟨B, b, n, rfl, ok, BA, hn, k⟩ := h
    refine ⟨_, pss_one (ps_ret (pe_callB (cr_sum rfl) (by rfl) T.sum (by decide +kernel) (pa_cons (pe_cal cK hr (pa_cons (pv 0) (pa_cons (pv 1) pa_nil))) pa_nil))), ?_⟩
    exact ⟨_, rfl, _, rfl, B, b, n, rfl, ok, BA, hn, fun p H' s' hp e => ⟨p, _, rfl, SqL.of e, k H' s'⟩⟩
end
end FW

/-! FhB1: is_name, are_different, require_names, checked_place. -/
namespace FW
open PySem L2 FR FH
section
variable {P : Program} {w : World} {K : PySem.W.Frag} {mg : Str → Option Value} {base : Heap} {C : Addr}
theorem reps : ∀ i : Nat, (List.replicate i (V.bl true)) ++ [V.bl true] = List.replicate (i + 1) (V.bl true)
  | 0 => rfl
  | i + 1 => by rw [List.replicate_succ, List.cons_append, reps i, ← List.replicate_succ]
theorem all_reps : ∀ i : Nat, (List.replicate i true).all id = true
  | 0 => rfl
  | i + 1 => by rw [List.replicate_succ, List.all_cons, all_reps i]; rfl
/-- all([true, ..]) -/
theorem rAll_reps {H : Hp} {D : Addr} {n : Nat} {Q : VK} (h : H D = some (.lst (List.replicate n (V.bl true)))) (q : Q (.bl true) H) : rAll K [.ref D] H Q := by
  refine ⟨D, List.replicate n true, rfl, ?_, ?_⟩
  · rw [List.map_replicate]
    exact SqL.of h
  · rw [all_reps]
    exact q
/-! ### is_name -/
def spIsName : Sp := fun vs H Q _ => ∃ z : Str, vs = [.str z] ∧ NameOk z ∧ ∀ H', Same H H' → Q (.bl true) H'
theorem scIsName : FnScope ["text", "char"] ["text"] (defScope sIsName) := ⟨rfl, rfl, rfl, by decide +kernel, rfl, by decide +kernel, by decide +kernel⟩
theorem ok_is_name {f : Addr} {fd : FuncData} (F : Fun K "is_name" "is_name" sIsName f fd) (T : Txt K mg C) : FnOk P w K mg base CX0 1 f fd ["text"] spIsName := by
  refine F.ok scIsName (fun vs H Q E h => ?_) (fun cdv A outer s H vs Q E hr h => ?_)
  · obtain ⟨z, rfl, _⟩ := h
    rfl
  · obtain ⟨z, rfl, ok, k⟩ := h
    have nd := scIsName.nd
    refine ⟨_, pss_cons (ps_if (pw_or (pt_not (pt_chain op_le op_le pe_int (pe_len T.len (pv 0)) (pe_gi T.mnc))) (pw_or1 (pt_cmpR op_inS (pe_ix ix_str (pv 0) pe_int (fun _ _ => rfl)) pe_str (by rfl)))).pt pss_never pss_nil)
      (pss_one (ps_ret (pe_callB (cr_all rfl) rfl T.all (by decide +kernel) (pa_cons
        (pe_lc (own := [("char", 1)]) (g := gName 1) (tt := tYes) (te := tOp rInS (tVar 1) (tC (.str "abcdefghijklmnopqrstuvwxyz0123456789"))) rfl nd (pi_str (pv 0)) (blkOk_by (N := ["text", "char"]) (sc := defScope sIsName) (by decide +kernel))
          (fun _ _ _ _ _ => pg_name (i := 1) nd rfl (.inl rfl)) (fun _ _ _ _ _ => pts_nil) (fun _ _ _ _ _ => by exact pe_cmpR op_inS (pv 1) (pe_gs T.nc) (by rfl))) pa_nil)))), ?_⟩
    obtain ⟨l1, l2, ⟨c0, hc0, hd0⟩, hall⟩ := ok
    have hat : atI z.cps.toList 0 = some c0 := by
      have hz : ixN z.cps.toList.length 0 = some 0 := by
        have e : z.cps.toList.length = z.length := by simp [Str.length]
        unfold ixN
        rw [e]
        simp
        omega
      unfold atI
      rw [hz]
      exact hc0
    refine ⟨_, rfl, _, _, rfl, ⟨small (by omega), rfl⟩, _, _, rfl, rfl, _, rfl, ?_⟩
    rw [decide_eq_true (show (1 : Int) ≤ (z.length : Int) by omega)]
    refine iteT ⟨_, _, rfl, rfl, _, rfl, ?_⟩
    rw [decide_eq_true (show (z.length : Int) ≤ 12 by omega)]
    refine iteF ⟨_, rfl, z, 0, c0, rfl, rfl, small (by omega), hat, ?_⟩
    refine ⟨c0, _, rfl, rfl, _, rfl, ?_⟩
    rw [decide_eq_false (show c0 ∉ ("0123456789" : Str).cps.toList from hd0)]
    refine iteF ⟨_, rfl, z, rfl, fun D hD => ?_⟩
    refine lc_it walk_str (fun i H2 => Same H H2 ∧ H2 D = some (.lst (List.replicate i (V.bl true)))) ⟨Same.new hD, upd_same⟩ (fun _ _ _ _ => True.intro) ?_ ?_
    · rintro i x H2 H3 hi ⟨s2, hD2⟩ ⟨rfl, c, hc, rfl⟩
      have hcm : c ∈ ("abcdefghijklmnopqrstuvwxyz0123456789" : Str).cps.toList := hall c (by
        rw [← Array.getElem?_toList] at hc
        exact List.mem_of_getElem? hc)
      refine ⟨rfl, yesT ⟨_, rfl, c, _, rfl, rfl, _, hD2, smallL ?_, s2.chg hD, ?_⟩⟩
      · rw [List.length_replicate]
        have : z.cps.size = z.length := rfl
        omega
      · rw [upd_same, decide_eq_true hcm, reps]
    · rintro H2 ⟨s2, hD2⟩
      exact rAll_reps hD2 (k H2 s2)
/-! ### are_different -/
theorem iSeq_of {te : TE} {σ : L2.St} {H : Hp} {a : Addr} {xs : List V} {R : It → Hp → Prop} (ht : ∀ Q : VK, Q (.ref a) H → te σ H Q) (h : H a = some (.lst xs) ∨ H a = some (.tup xs)) (r : ∀ J G, Walk J xs.length G (YAt xs) → (∀ H2, Same H H2 → G H2) → R J H) :
    iSeq K te σ H R := ht _ ⟨a, rfl, by
  rcases h with h | h
  · exact .inl ⟨xs, SqL.of h, r _ _ walk_list fun H2 s => SqL.of (s _ _ h)⟩
  · exact .inr ⟨xs, SqT.of h, r _ _ walk_tup fun H2 s => SqT.of (s _ _ h)⟩⟩
theorem lenV_of {H : Hp} {a : Addr} {xs : List V} (h : H a = some (.lst xs) ∨ H a = some (.tup xs)) : LenV K (.ref a) H xs.length := by
  rcases h with h | h
  · exact .inl ⟨xs, SqL.of h, rfl⟩
  · exact .inr ⟨xs, SqT.of h, rfl⟩
theorem _root_.L2.Same.seqO {H H' : Hp} {a : Addr} {xs : List V} (s : Same H H') (h : H a = some (.lst xs) ∨ H a = some (.tup xs)) : H' a = some (.lst xs) ∨ H' a = some (.tup xs) := h.imp (s _ _) (s _ _)
def spAreDifferent : Sp := fun vs H Q _ => ∃ (a : Addr) (ks : List Key), vs = [.ref a] ∧ (H a = some (.lst (ks.map kV)) ∨ H a = some (.tup (ks.map kV))) ∧ ks.Nodup ∧ ks.length ≤ 1000 ∧ ∀ H', Same H H' → Q (.bl true) H'
theorem scAreDifferent : FnScope ["parts", "part"] ["parts"] (defScope sAreDifferent) := ⟨rfl, rfl, rfl, by decide +kernel, rfl, by decide +kernel, by decide +kernel⟩
theorem take_new {α : Type} {l : List α} (nd : l.Nodup) {i : Nat} {x : α} (h : l[i]? = some x) : x ∉ l.take i := fun hm => by
  have nd2 : (l.take (i + 1)).Nodup := nd.sublist (List.take_sublist _ _)
  rw [take_snoc h, List.nodup_append] at nd2
  exact nd2.2.2 x hm x (by simp) rfl
theorem ok_are_different {f : Addr} {fd : FuncData} (F : Fun K "are_different" "are_different" sAreDifferent f fd) (T : Txt K mg C) : FnOk P w K mg base CX0 1 f fd ["parts"] spAreDifferent := by
  refine F.ok scAreDifferent (fun vs H Q E h => ?_) (fun cdv A outer s H vs Q E hr h => ?_)
  · obtain ⟨a, ks, rfl, _⟩ := h
    rfl
  · obtain ⟨a, ks, rfl, ha, hnd, hl, k⟩ := h
    have nd := scAreDifferent.nd
    refine ⟨_, pss_one (ps_ret (pe_cmpR op_eq (pe_callB call_lenD rfl T.len (by decide +kernel) (pa_cons
      (pe_dc (own := [("part", 1)]) (g := gName 1) (tt := tYes) (tk := tVar 1) (tv := tC (.bl true)) rfl nd (pi_seq (pv 0)) (blkOk_by (N := ["parts", "part"]) (sc := defScope sAreDifferent) (by decide +kernel))
        (fun _ _ _ _ _ => pg_name (i := 1) nd rfl (.inl rfl)) (fun _ _ _ _ _ => pts_nil) (fun _ _ _ _ _ => by exact pv 1) (fun _ _ _ _ _ => by exact pe_bl)) pa_nil)) (pe_len T.len (pv 0)) (by rfl))), ?_⟩
    dsimp only [tRet, tOp, tCB, tCons, tDc]
    refine iSeq_of (te := tVar 0) ?_ ha fun J G wk hG => ?_
    · exact fun Q q => ⟨_, rfl, q⟩
    intro D hD
    rw [List.length_map] at wk
    refine dc_it wk (fun i H2 => ∃ kvs : List (Key × V), Same H H2 ∧ H2 D = some (.dK kvs) ∧ kvs.map (·.1) = ks.take i) ⟨[], Same.new hD, upd_same, rfl⟩ (fun i H2 _ ⟨_, s2, _⟩ => hG _ s2) ?_ ?_
    · rintro i x H2 H3 hi ⟨kvs, s2, hD2, hk⟩ ⟨rfl, hx⟩
      rw [List.getElem?_map] at hx
      obtain ⟨key, hkey, rfl⟩ := Option.map_eq_some_iff.mp hx
      have hlen := congrArg List.length hk
      rw [List.length_map, List.length_take] at hlen
      have hno : valV kvs key = none := by
        cases ev : valV kvs key with
        | none => rfl
        | some v => exact absurd (hk ▸ valV_in ev) (take_new hnd hkey)
      refine ⟨rfl, yesT ⟨_, rfl, kvs, key, rfl, hD2, smallL (by omega), kvs ++ [(key, .bl true)], s2.chg hD, ?_, ?_⟩⟩
      · rw [upd_same, putK_new _ hno]
      · rw [List.map_append, hk, take_snoc hkey]
        rfl
    · rintro H2 ⟨kvs, s2, hD2, hk⟩
      rw [List.take_length] at hk
      refine ⟨D, kvs, rfl, hD2, _, rfl, _, _, rfl, lenV_of (s2.seqO ha), rfl, ?_⟩
      have hlen := congrArg List.length hk
      rw [List.length_map] at hlen
      rw [List.length_map, hlen, decide_eq_true rfl]
      exact k _ s2
/-! ### require_names -/
def spRequireNames : Sp := fun vs H Q _ => ∃ (a : Addr) (zs : List Str) (m : Nat), vs = [.ref a, .int (m : Int)] ∧ (H a = some (.lst (zs.map V.str)) ∨ H a = some (.tup (zs.map V.str))) ∧ zs.Nodup ∧ (∀ z ∈ zs, NameOk z) ∧ 1 ≤ zs.length ∧ zs.length ≤ m ∧ m ≤ 1000 ∧ ∀ H', Same H H' → Q .non H'
theorem scRequireNames : FnScope ["names", "most", "name"] ["names", "most"] (defScope sRequireNames) := ⟨rfl, rfl, rfl, by decide +kernel, rfl, by decide +kernel, by decide +kernel⟩
theorem nd_inr {l : List Str} (h : l.Nodup) : (l.map (Sum.inr : Str → Key)).Nodup := List.pairwise_map.mpr (h.imp fun ne e => ne (Sum.inr.inj e))
theorem strs_keys (l : List Str) : (l.map (Sum.inr : Str → Key)).map kV = l.map V.str := by
  rw [List.map_map]
  rfl
theorem ok_require_names {f : Addr} {fd : FuncData} (F : Fun K "require_names" "require_names" sRequireNames f fd) (T : Txt K mg C) (cI : Cal P w K mg base 1 "is_name" ["text"] spIsName) (cD : Cal P w K mg base 1 "are_different" ["parts"] spAreDifferent) (cR : Cal P w K mg base 1 "require" ["holds"] spRequire) :
    FnOk P w K mg base CX0 2 f fd ["names", "most"] spRequireNames := by
  refine F.ok scRequireNames (fun vs H Q E h => ?_) (fun cdv A outer s H vs Q E hr h => ?_)
  · obtain ⟨a, zs, m, rfl, _⟩ := h
    rfl
  · obtain ⟨a, zs, m, rfl, ha, hnd, hok, h1, hm, hm', k⟩ := h
    have nd := scRequireNames.nd
    refine ⟨_, pss_one (ps_expr (pe_cal cR hr (pa_cons (pe_and (pe_chain op_le op_le pe_int (pe_len T.len (pv 0)) (pv 1)) (pe_and (pe_callB (cr_all rfl) rfl T.all (by decide +kernel) (pa_cons
      (pe_lc (own := [("name", 2)]) (g := gName 2) (tt := tYes) (te := tCal spIsName (tCons (tVar 2) tNil)) rfl nd (pi_seq (pv 0)) (blkOk_by (N := ["names", "most", "name"]) (sc := defScope sRequireNames) (by decide +kernel))
        (fun _ _ _ _ _ => pg_name (i := 2) nd rfl (.inl rfl)) (fun _ _ _ _ _ => pts_nil) (fun _ _ _ _ _ => by exact pe_cal cI hr (pa_cons (pv 2) pa_nil))) pa_nil)) (pe_one (pe_cal cD hr (pa_cons (pv 0) pa_nil))))) pa_nil))), ?_⟩
    refine ⟨_, rfl, _, _, rfl, lenV_of ha, _, _, rfl, rfl, _, rfl, ?_⟩
    rw [List.length_map, decide_eq_true (show (1 : Int) ≤ (zs.length : Int) by omega)]
    refine iteT ⟨_, rfl, _, _, rfl, rfl, _, rfl, ?_⟩
    rw [decide_eq_true (show (zs.length : Int) ≤ (m : Int) by omega)]
    refine iteT ?_
    dsimp only [tAndV, tCB, tCons, tLc]
    refine iSeq_of (te := tVar 0) ?_ ha fun J G wk hG => ?_
    · exact fun Q q => ⟨_, rfl, q⟩
    intro D hD
    rw [List.length_map] at wk
    refine lc_it wk (fun i H2 => Same H H2 ∧ H2 D = some (.lst (List.replicate i (V.bl true)))) ⟨Same.new hD, upd_same⟩ (fun i H2 _ ⟨s2, _⟩ => hG _ s2) ?_ ?_
    · rintro i x H2 H3 hi ⟨s2, hD2⟩ ⟨rfl, hx⟩
      rw [List.getElem?_map] at hx
      obtain ⟨z, hz, rfl⟩ := Option.map_eq_some_iff.mp hx
      refine ⟨rfl, yesT ⟨_, rfl, z, rfl, hok z (List.mem_of_getElem? hz), fun H4 s4 => ⟨_, s4 _ _ hD2, smallL (by rw [List.length_replicate]; omega), (s2.trans s4).chg hD, ?_⟩⟩⟩
      rw [upd_same, reps]
    · rintro H2 ⟨s2, hD2⟩
      dsimp only [tNil]
      refine rAll_reps hD2 ?_
      refine ⟨true, rfl, iteT ⟨_, rfl, a, zs.map Sum.inr, rfl, ?_, nd_inr hnd, by rw [List.length_map]; omega, fun H3 s3 => ⟨rfl, k H3 (s2.trans s3)⟩⟩⟩
      rw [strs_keys]
      exact s2.seqO ha
/-! ### checked_place -/
def spCheckedPlace : Sp := fun vs H Q _ => ∃ (a : Addr) (n : Str) (s : Nat) (y : Bool), vs = [.ref a] ∧ H a = some (.tup [.str n, .int (s : Int), .bl y]) ∧ s ≤ 6 ∧ ∀ p H', Same H H' → H p = none → H' p = some (.tup [.str n, .int (s : Int), .bl y]) → Q (.ref p) H'
theorem scCheckedPlace : FnScope ["place", "name", "slots", "yes"] ["place"] (defScope sCheckedPlace) := ⟨rfl, rfl, rfl, by decide +kernel, rfl, by decide +kernel, by decide +kernel⟩
theorem ok_checked_place {f : Addr} {fd : FuncData} (F : Fun K "checked_place" "checked_place" sCheckedPlace f fd) (T : Txt K mg C) (cR : Cal P w K mg base 1 "require" ["holds"] spRequire) : FnOk P w K mg base CX0 2 f fd ["place"] spCheckedPlace := by
  refine F.ok scCheckedPlace (fun vs H Q E h => ?_) (fun cdv A outer s H vs Q E hr h => ?_)
  · obtain ⟨a, n, s, y, rfl, _⟩ := h
    rfl
  · obtain ⟨a, n, s, y, rfl, ha, hs, k⟩ := h
    have nd := scCheckedPlace.nd
    refine ⟨_, pss_cons (ps_expr (pe_cal cR hr (pa_cons (pe_cmpR op_eq (pe_len T.len (pv 0)) pe_int (by rfl)) pa_nil)))
      (pss_cons (ps_asg (pv 0) (pg_tup rfl (pgs_cons (pg_name (i := 1) nd rfl (.inl rfl)) (pgs_cons (pg_name (i := 2) nd rfl (.inl rfl)) (pgs_cons (pg_name (i := 3) nd rfl (.inl rfl)) pgs_nil)))))
      (pss_cons (ps_expr (pe_cal cR hr (pa_cons (pe_and (pe_chain op_le op_le pe_int (pv 2) (pe_gi T.ms)) (pe_one (pe_cmpR op_in_seq (pv 3) (pe_tup (pa_cons pe_bl (pa_cons pe_bl pa_nil))) (by rfl)))) pa_nil)))
      (pss_one (ps_ret (pe_tup (pa_cons (pv 1) (pa_cons (pv 2) (pa_cons (pv 3) pa_nil)))))))), ?_⟩
    refine ⟨_, rfl, _, _, rfl, lenV_of (.inr ha), rfl, rfl, ?_⟩
    refine ⟨_, rfl, a, _, rfl, SqT.of ha, rfl, _, _, rfl, _, _, rfl, _, _, rfl, rfl, ?_⟩
    refine ⟨_, rfl, _, _, rfl, rfl, _, rfl, ?_⟩
    rw [decide_eq_true (show (0 : Int) ≤ (s : Int) by omega)]
    refine iteT ⟨_, _, rfl, rfl, _, rfl, ?_⟩
    rw [decide_eq_true (show (s : Int) ≤ 6 by omega)]
    refine iteT ⟨_, rfl, small (n := 2) (by decide), fun q hq => ?_⟩
    have sq := Same.new (o := .tup [.bl false, .bl true]) hq
    refine ⟨q, _, rfl, .inr (SqT.of upd_same), rfl, rfl, ?_, ?_⟩
    · cases y <;> decide +kernel
    exact ⟨_, rfl, _, rfl, _, rfl, small (n := 3) (by decide), fun p hp => k p _ (sq.trans (Same.new hp)) (sq.free hp) upd_same⟩
end
end FW

/-! FhB2: place_names while a book is made; checked_rule. -/
namespace FW
open PySem L2 FR FH
section
variable {P : Program} {w : World} {K : PySem.W.Frag} {mg : Str → Option Value} {base : Heap} {C : Addr}
/-! ### place_names, told of the places alone -/
def spPlaceNamesW (C : Addr) : Sp := fun vs H Q _ => ∃ (B : PBk) (b pA dx : Addr) (fs : List (Str × V)) (pvs : List V), vs = [.ref b] ∧ H b = some (.ins C dx fs) ∧ fs.lookup ("places" : Str) = some (V.ref pA) ∧ H pA = some (.tup pvs) ∧ All2 (PlaceAt B H) B.P pvs ∧
  B.P.length ≤ 100 ∧ ∀ p H', Same H H' → H p = none → H' p = some (.tup (B.P.map V.str)) → Q (.ref p) H'
theorem ok_place_namesW {f : Addr} {fd : FuncData} (F : Fun K "place_names" "Book.place_names" sPlaceNames f fd) (T : Txt K mg C) : FnOk P w K mg base CX0 1 f fd ["self"] (spPlaceNamesW C) := by
  refine F.ok scPlaceNames (fun vs H Q E h => ?_) (fun cdv A outer s H vs Q E hr h => ?_)
  · obtain ⟨B, b, _, _, _, _, rfl, _⟩ := h
    rfl
  · obtain ⟨B, b, pA, dx, fs, pvs, rfl, h1, hf, h3, h4, hl, k⟩ := h
    refine ⟨_, pss_one (ps_ret (pe_callTy call_tuple_of (by rfl) T.tuple (by decide +kernel) (pa_cons (pe_lc (own := [("place", 1)]) (g := gName 1) (tt := tYes) (te := tOp (rIxT K) (tVar 1) (tC (.int 0))) rfl scPlaceNames.nd (pi_tup (pe_fld (pv 0) rfl))
      (blkOk_by (N := ["self", "place"]) (sc := defScope sPlaceNames) (by decide +kernel)) (fun _ _ _ _ _ => pg_name (i := 1) scPlaceNames.nd rfl (.inl rfl)) (fun _ _ _ _ _ => pts_nil) (fun _ _ _ _ _ => by exact pe_ix (kIxT K) (pv 1) pe_int (fun _ _ => rfl))) pa_nil))), ?_⟩
    refine ⟨_, rfl, b, C, dx, _, _, rfl, h1, T.cl, T.nP, hf, pA, rfl, ⟨_, SqT.of h3⟩, fun D hD => ?_⟩
    refine lc_it (walk_tup (K := K) (a := pA) (xs := pvs)) (fun i H2 => Same H H2 ∧ H2 D = some (.lst ((B.P.take i).map V.str))) ⟨Same.new hD, upd_same⟩ (fun i H2 _ ⟨s2, _⟩ => SqT.of (s2 _ _ h3)) ?_ ?_
    · rintro i x H2 H3 hi ⟨s2, hD2⟩ ⟨rfl, hx⟩
      obtain ⟨n, hn, a, rfl, ha⟩ := h4.of hx
      refine ⟨rfl, yesT ⟨_, rfl, a, _, 0, _, rfl, rfl, SqT.of (s2 _ _ ha), rfl, _, hD2, smallL (by rw [List.length_map, List.length_take]; omega), s2.chg hD, ?_⟩⟩
      rw [upd_same, take_snoc hn, List.map_append]
      rfl
    · rintro H2 ⟨s2, hD2⟩
      rw [h4.len, List.take_length] at hD2
      exact ⟨D, _, rfl, .inl ⟨SqL.of hD2, fun l hl => k l _ (s2.trans (Same.new hl)) (s2.free hl) upd_same⟩⟩
theorem placeNames_imp (C : Addr) : ∀ vs H Q E, spPlaceNames C vs H Q E → spPlaceNamesW C vs H Q E := by
  rintro vs H Q E ⟨B, b, rfl, BA, hl, k⟩
  obtain ⟨dx, wA, pA, kA, tA, pvs, kk, tt, h1, h2, h3, h4, h5, h6, h7, h8⟩ := BA.ex
  exact ⟨B, b, pA, dx, _, pvs, rfl, h1, bfs_p, h3, h4, hl, k⟩
/-! ### a book whose rules are not all in the table -/
structure HalfAt (C : Addr) (B : PBk) (b : Addr) (wA pA kA tA dx : Addr) (H : Hp) : Prop where
  ex : ∃ (pvs : List V) (kk : List (Key × V)), H b = some (.ins C dx (bfs wA pA kA tA B.st)) ∧ H wA = some (.tup (B.W.map V.str)) ∧ H pA = some (.tup pvs) ∧ All2 (PlaceAt B H) B.P pvs ∧
    H kA = some (.dK kk) ∧ ∀ n ∈ B.P, ∃ v, valV kk (.inr n) = some v ∧ PlaceAt B H n v
theorem HalfAt.mono {C b wA pA kA tA dx : Addr} {B : PBk} {H H' : Hp} (s : Same H H') (h : HalfAt C B b wA pA kA tA dx H) : HalfAt C B b wA pA kA tA dx H' := by
  obtain ⟨pvs, kk, h1, h2, h3, h4, h5, h6⟩ := h.ex
  exact ⟨pvs, kk, s _ _ h1, s _ _ h2, s _ _ h3, h4.mono fun _ _ r => r.mono s, s _ _ h5, fun n hn => let ⟨v, a, r⟩ := h6 n hn; ⟨v, a, r.mono s⟩⟩
/-! ### checked_rule -/
def spCheckedRule (C : Addr) : Sp := fun vs H Q _ => ∃ (B : PBk) (b a wA pA kA tA dx : Addr) (key : Str × Str × Nat), vs = [.ref b, .ref a] ∧ B.Ok ∧ HalfAt C B b wA pA kA tA dx H ∧ key ∈ keys B.b ∧ RowAt B H key (.ref a) ∧
  ∀ p p1 v2 H', Same H H' → H' p = some (.tup [.ref p1, v2]) → H' p1 = some (.tup ((tkey key).map kV)) → RuleAt B H' key v2 → Q (.ref p) H'
theorem scCheckedRule : FnScope ["self", "rule", "name", "word", "case", "goal", "moves", "slots", "least", "source"] ["self", "rule"] (defScope sCheckedRule) := ⟨rfl, rfl, rfl, by decide +kernel, rfl, by decide +kernel, by decide +kernel⟩
theorem mem_keys' {B : PBk} {n w : Str} {c : Nat} (h : (n, w, c) ∈ keys B.b) : n ∈ B.P ∧ w ∈ B.W ∧ c ≤ B.s n := by
  obtain ⟨n', hn, h⟩ := List.mem_flatMap.mp h
  obtain ⟨w', hw, h⟩ := List.mem_flatMap.mp h
  obtain ⟨c', hc, e⟩ := List.mem_map.mp h
  cases e
  have := List.mem_range.mp hc
  exact ⟨hn, hw, Nat.le_of_lt_succ this⟩
theorem ok_checked_rule {f : Addr} {fd : FuncData} (F : Fun K "checked_rule" "Book.checked_rule" sCheckedRule f fd) (T : Txt K mg C) (cD : Cal P w K mg base 1 "are_different" ["parts"] spAreDifferent) (cR : Cal P w K mg base 1 "require" ["holds"] spRequire) :
    FnOk P w K mg base CX0 2 f fd ["self", "rule"] (spCheckedRule C) := by
  refine F.ok scCheckedRule (fun vs H Q E h => ?_) (fun cdv A outer s H vs Q E hr h => ?_)
  · obtain ⟨B, b, a, _, _, _, _, _, _, rfl, _⟩ := h
    rfl
  · obtain ⟨B, b, a, wA, pA, kA, tA, dx, ⟨n, wd, c⟩, rfl, ok, HA, hk, RA, k⟩ := h
    have hu := hu_of hr
    have nd := scCheckedRule.nd
    refine ⟨_, pss_cons (ps_expr (pe_cal cR hr (pa_cons (pe_cmpR op_eq (pe_len T.len (pv 1)) pe_int (by rfl)) pa_nil)))
      (pss_cons (ps_asg (pv 1) (pg_tup rfl (pgs_cons (pg_name (i := 2) nd rfl (.inl rfl)) (pgs_cons (pg_name (i := 3) nd rfl (.inl rfl)) (pgs_cons (pg_name (i := 4) nd rfl (.inl rfl)) (pgs_cons (pg_name (i := 5) nd rfl (.inl rfl)) (pgs_cons (pg_name (i := 6) nd rfl (.inl rfl)) pgs_nil)))))))
      (pss_cons (ps_expr (pe_cal cR hr (pa_cons (pe_and (pe_cmp (pc_din hu (pv 2) (pe_fld (pv 0) rfl))) (pe_and (pe_cmpR op_in_seq (pv 3) (pe_fld (pv 0) rfl) (by rfl)) (pe_one (pe_cmp (pc_din hu (pv 5) (pe_fld (pv 0) rfl)))))) pa_nil)))
      (pss_cons (ps_set (i := 7) nd rfl (.inr rfl) (pe_ix ix_tup (pe_dget hu (pe_fld (pv 0) rfl) (pv 2) (fun _ _ => rfl)) pe_int (fun _ _ => rfl)))
      (pss_cons (ps_expr (pe_cal cR hr (pa_cons (pe_and (pe_chain op_le op_le pe_int (pv 4) (pv 7)) (pe_and (pe_cmpR op_eq (pe_len T.len (pv 6)) (pe_ix ix_tup (pe_dget hu (pe_fld (pv 0) rfl) (pv 5) (fun _ _ => rfl)) pe_int (fun _ _ => rfl)) (by rfl)) (pe_one (pe_cal cD hr (pa_cons (pv 6) pa_nil))))) pa_nil)))
      (pss_cons (ps_set (i := 8) nd rfl (.inr rfl) (pe_ifExp (pt_cmpR op_eq (pv 4) pe_int (nomark _)) (pe_gi T.rd) pe_int))
      (pss_cons (ps_expr (pe_cal cR hr (pa_cons (pe_callB (cr_all rfl) rfl T.all (by decide +kernel) (pa_cons
        (pe_lc (own := [("source", 9)]) (g := gName 9) (tt := tYes) (te := tChain (rI0 fun i j => .bl (decide (i ≤ j))) (rI0 fun i j => .bl (decide (i ≤ j))) (tVar 8) (tVar 9) (tVar 7)) rfl nd (pi_tup (pv 6))
          (blkOk_by (N := ["self", "rule", "name", "word", "case", "goal", "moves", "slots", "least", "source"]) (sc := defScope sCheckedRule) (by decide +kernel)) (fun _ _ _ _ _ => pg_name (i := 9) nd rfl (.inl rfl)) (fun _ _ _ _ _ => pts_nil)
          (fun _ _ _ _ _ => by exact pe_chain op_le op_le (pv 8) (pv 9) (pv 7))) pa_nil)) pa_nil)))
      (pss_one (ps_ret (pe_tup (pa_cons (pe_tup (pa_cons (pv 2) (pa_cons (pv 3) (pa_cons (pv 4) pa_nil)))) (pa_cons (pe_tup (pa_cons (pv 5) (pa_cons (pe_callTy call_tuple_of (by rfl) T.tuple (by decide +kernel) (pa_cons (pv 6) pa_nil)) pa_nil))) pa_nil))))))))))), ?_⟩
    obtain ⟨hn, hw, hc⟩ := mem_keys' hk
    obtain ⟨pvs, kk, h1, h2, h3, h4, h5, h6⟩ := HA.ex
    obtain ⟨a', m, ea, ha, hm⟩ := RA
    cases ea
    have hg : gl B.b (n, wd, c) ∈ B.P := ok.ok.gP n wd c hn hw hc
    obtain ⟨vn, hvn, an, rfl, han⟩ := h6 n hn
    obtain ⟨vg, hvg, ag, rfl, hag⟩ := h6 _ hg
    have hml := ok.ml _ hk
    have hmn := ok.mn _ hk
    have hmr := ok.mr _ hk
    have hs3 := ok.s3 _ hg
    refine ⟨_, rfl, _, _, rfl, lenV_of (.inr ha), rfl, rfl, ?_⟩
    refine ⟨_, rfl, a, _, rfl, SqT.of ha, rfl, _, _, rfl, _, _, rfl, _, _, rfl, _, _, rfl, _, _, rfl, rfl, ?_⟩
    -- the three are known
    refine ⟨_, rfl, _, rfl, b, C, dx, _, _, rfl, h1, T.cl, T.nK, bfs_k, kA, _, rfl, DGet.k (k := Sum.inr n) h5, _, rfl, ?_⟩
    rw [hvn]
    refine iteT ⟨_, rfl, _, rfl, b, C, dx, _, _, rfl, h1, T.cl, T.nW, bfs_w, wA, _, rfl, .inr (SqT.of h2), rfl, flat_strs _, _, rfl, ?_⟩
    rw [inV_str hw]
    refine iteT ⟨_, rfl, _, rfl, b, C, dx, _, _, rfl, h1, T.cl, T.nK, bfs_k, kA, _, rfl, DGet.k (k := Sum.inr (gl B.b (n, wd, c))) h5, ?_⟩
    rw [hvg]
    refine ⟨rfl, ?_⟩
    -- slots
    refine ⟨_, rfl, b, C, dx, _, _, rfl, h1, T.cl, T.nK, bfs_k, _, rfl, kA, _, rfl, hvn ▸ DGet.k (k := Sum.inr n) h5, an, _, 1, _, rfl, rfl, SqT.of han, rfl, ?_⟩
    refine ⟨_, rfl, _, _, rfl, rfl, _, rfl, ?_⟩
    rw [decide_eq_true (show (0 : Int) ≤ (c : Int) by omega)]
    refine iteT ⟨_, rfl, _, _, rfl, rfl, _, rfl, ?_⟩
    rw [decide_eq_true (show (c : Int) ≤ (B.s n : Int) by omega)]
    refine iteT ⟨_, rfl, _, _, rfl, lenV_of (.inr hm), ?_⟩
    refine ⟨_, rfl, b, C, dx, _, _, rfl, h1, T.cl, T.nK, bfs_k, _, rfl, kA, _, rfl, hvg ▸ DGet.k (k := Sum.inr (gl B.b (n, wd, c))) h5, ag, _, 1, _, rfl, rfl, SqT.of hag, rfl, rfl, _, rfl, ?_⟩
    rw [List.length_map, hml, decide_eq_true rfl]
    refine iteT ⟨_, rfl, m, (B.mv (n, wd, c)).map Sum.inl, rfl, .inr ?_, List.pairwise_map.mpr (hmn.imp fun ne e => ne (Sum.inl.inj e)), by rw [List.length_map, hml]; omega, fun H1 s1 => ⟨rfl, ?_⟩⟩
    · rw [List.map_map]
      exact hm
    -- least
    have hleast : ∀ Q : VK, Q (.int (if c = 0 then 0 else 1)) H1 → tIf (tTest (tOp rEq (tVar 4) (tC (.int 0)))) (tC (.int 0)) (tC (.int 1)) [some (.ref b), some (.ref a), some (.str n), some (.str wd), some (.int (c : Int)), some (.str (gl B.b (n, wd, c))), some (.ref m), some (.int (B.s n : Int)), none, none] H1 Q := by
      intro Q q
      refine ⟨_, rfl, rfl, _, rfl, ?_⟩
      by_cases e : c = 0
      · subst e
        rw [if_pos rfl] at q
        exact iteT q
      · rw [if_neg e] at q
        rw [decide_eq_false (fun z => e (by injection z with z; omega))]
        exact iteF q
    refine hleast _ ?_
    refine ⟨_, rfl, m, rfl, ⟨_, SqT.of (s1 _ _ hm)⟩, fun D hD => ?_⟩
    refine lc_it (walk_tup (K := K) (a := m) (xs := (B.mv (n, wd, c)).map V.int)) (fun i H2 => Same H1 H2 ∧ H2 D = some (.lst (List.replicate i (V.bl true)))) ⟨Same.new hD, upd_same⟩ (fun i H2 _ ⟨s2, _⟩ => SqT.of (s2 _ _ (s1 _ _ hm))) ?_ ?_
    · rintro i x H2 H3 hi ⟨s2, hD2⟩ ⟨rfl, hx⟩
      rw [List.getElem?_map] at hx
      obtain ⟨z, hz, rfl⟩ := Option.map_eq_some_iff.mp hx
      obtain ⟨z1, z2⟩ := hmr z (List.mem_of_getElem? hz)
      refine ⟨rfl, yesT ⟨_, rfl, _, rfl, _, _, rfl, rfl, _, rfl, ?_⟩⟩
      rw [decide_eq_true (show (if c = 0 then (0 : Int) else 1) ≤ z from z1)]
      refine iteT ⟨_, rfl, _, _, rfl, rfl, ?_⟩
      dsimp only
      rw [decide_eq_true (show z ≤ (B.s n : Int) from z2)]
      refine ⟨_, hD2, smallL ?_, s2.chg hD, ?_⟩
      · rw [List.length_map] at hi
        rw [List.length_replicate]
        omega
      · rw [upd_same, reps]
    · rintro H2 ⟨s2, hD2⟩
      dsimp only [tNil]
      refine rAll_reps hD2 ⟨rfl, ?_⟩
      refine ⟨_, rfl, _, rfl, _, rfl, small (n := 3) (by decide), fun q1 hq1 => ?_⟩
      have t1 := Same.new (o := .tup [.str n, .str wd, .int (c : Int)]) hq1
      have s3 := (s1.trans s2).trans t1
      refine ⟨_, rfl, _, rfl, m, _, rfl, .inr ⟨SqT.of (s3 _ _ hm), ?_⟩⟩
      refine ⟨small (n := 2) (by decide), fun q2 hq2 => ?_⟩
      have t2 := Same.new (o := .tup [.str (gl B.b (n, wd, c)), .ref m]) hq2
      refine ⟨small (n := 2) (by decide), fun q3 hq3 => ?_⟩
      have t3 := Same.new (o := .tup [.ref q1, .ref q2]) hq3
      exact k q3 q1 (.ref q2) _ (s3.trans (t2.trans t3)) upd_same (t3 _ _ (t2 _ _ upd_same)) ⟨q2, m, rfl, t3 _ _ upd_same, (s3.trans (t2.trans t3)) _ _ hm⟩
end
end FW

/-! FhB3: a book is made. -/
namespace FW
open PySem L2 FR FH
/-- all as it was but at x -/
def SX (x : Addr) (H H' : Hp) : Prop := ∀ b o, b ≠ x → H b = some o → H' b = some o
section
variable {x : Addr} {H H' H2 : Hp} {o : HO}
theorem SX.refl : SX x H H := fun _ _ _ e => e
theorem SX.of (s : Same H H') : SX x H H' := fun b o _ e => s b o e
theorem SX.trans (s : SX x H H') (t : SX x H' H2) : SX x H H2 := fun b o n e => t b o n (s b o n e)
theorem SX.step (s : SX x H H') (t : Same H' H2) : SX x H H2 := s.trans (.of t)
theorem SX.upd (s : SX x H H') : SX x H (upd H' x o) := fun b u n e => by
  rw [upd_ne n]
  exact s b u n e
theorem SX.at {a : Addr} {od : HO} (s : SX x H H') (hx : H x = some od) (h : H a = some o) (ne : o ≠ od) : H' a = some o := s a o (fun e => ne (by rw [e, hx] at h; exact (Option.some.inj h).symm)) h
end
def rTup (K : PySem.W.Frag) : List V → Hp → VK → Prop := fun xs H Q => ∃ p ys, xs = [.ref p] ∧ ((SqL K H p ys ∧ ∀ l, H l = none → Q (.ref l) (upd H l (.tup ys))) ∨ (SqT K H p ys ∧ Q (.ref p) H))
theorem call_tupK {X : Cx} : CallR X (.type "tuple") (rTup X.K) := call_tuple_of
theorem tupOf {K : PySem.W.Frag} {H : Hp} {a : Addr} {xs : List V} {Q : VK} (h : H a = some (.lst xs) ∨ H a = some (.tup xs)) (q : ∀ l H', Same H H' → H' l = some (.tup xs) → Q (.ref l) H') : rTup K [V.ref a] H Q := by
  rcases h with h | h
  · exact ⟨a, xs, rfl, .inl ⟨SqL.of h, fun l hl => q l _ (Same.new hl) upd_same⟩⟩
  · exact ⟨a, xs, rfl, .inr ⟨SqT.of h, q a H (fun _ _ e => e) h⟩⟩
theorem PlaceAt.updL {B : PBk} {H : Hp} {D : Addr} {zs : List V} {o : HO} {n : Str} {v : V} (hD : H D = some (.lst zs)) (h : PlaceAt B H n v) : PlaceAt B (upd H D o) n v := by
  obtain ⟨a, e, ha⟩ := h
  exact ⟨a, e, (upd_ne fun z => by rw [z, hD] at ha; cases ha).trans ha⟩
theorem PlaceAt.sx {B : PBk} {x : Addr} {H H' : Hp} {od : HO} (s : SX x H H') (hx : H x = some od) (ne : ∀ xs, HO.tup xs ≠ od) {n : Str} {v : V} (h : PlaceAt B H n v) : PlaceAt B H' n v := by
  obtain ⟨a, e, ha⟩ := h
  exact ⟨a, e, s.at hx ha (ne _)⟩
theorem RuleAt.sx {B : PBk} {x : Addr} {H H' : Hp} {od : HO} (s : SX x H H') (hx : H x = some od) (ne : ∀ xs, HO.tup xs ≠ od) {n : Str × Str × Nat} {v : V} (h : RuleAt B H n v) : RuleAt B H' n v := by
  obtain ⟨a, m, e, ha, hm⟩ := h
  exact ⟨a, m, e, s.at hx ha (ne _), s.at hx hm (ne _)⟩
theorem RowAt.sx {B : PBk} {x : Addr} {H H' : Hp} {od : HO} (s : SX x H H') (hx : H x = some od) (ne : ∀ xs, HO.tup xs ≠ od) {n : Str × Str × Nat} {v : V} (h : RowAt B H n v) : RowAt B H' n v := by
  obtain ⟨a, m, e, ha, hm⟩ := h
  exact ⟨a, m, e, s.at hx ha (ne _), s.at hx hm (ne _)⟩
theorem SX.seq {x a : Addr} {H H' : Hp} {od : HO} {xs : List V} (s : SX x H H') (hx : H x = some od) (n1 : ∀ xs, HO.tup xs ≠ od) (n2 : ∀ xs, HO.lst xs ≠ od) (h : H a = some (.lst xs) ∨ H a = some (.tup xs)) : H' a = some (.lst xs) ∨ H' a = some (.tup xs) :=
  h.imp (fun h => s.at hx h (n2 _)) (fun h => s.at hx h (n1 _))
/-! ### the attributes as they come -/
section
variable (wA pA kA tA : Addr) (st : Str)
def bf1 : List (Str × V) := [("words", .ref wA)]
def bf2 : List (Str × V) := [("words", .ref wA), ("places", .ref pA)]
def bf3 : List (Str × V) := [("words", .ref wA), ("places", .ref pA), ("known", .ref kA)]
def bf4 : List (Str × V) := [("words", .ref wA), ("places", .ref pA), ("known", .ref kA), ("start", .str st)]
theorem pf1 : putF ("words" : Str) (.ref wA) [] = bf1 wA := rfl
theorem pf2 : putF ("places" : Str) (.ref pA) (bf1 wA) = bf2 wA pA := by
  unfold bf1 bf2
  rw [putF, if_neg (by decide +kernel), putF]
theorem pf3 : putF ("known" : Str) (.ref kA) (bf2 wA pA) = bf3 wA pA kA := by
  unfold bf2 bf3
  rw [putF, if_neg (by decide +kernel), putF, if_neg (by decide +kernel), putF]
theorem pf4 : putF ("start" : Str) (.str st) (bf3 wA pA kA) = bf4 wA pA kA st := by
  unfold bf3 bf4
  rw [putF, if_neg (by decide +kernel), putF, if_neg (by decide +kernel), putF, if_neg (by decide +kernel), putF]
theorem pf5 : putF ("table" : Str) (.ref tA) (bf4 wA pA kA st) = bfs wA pA kA tA st := by
  unfold bf4 bfs
  rw [putF, if_neg (by decide +kernel), putF, if_neg (by decide +kernel), putF, if_neg (by decide +kernel), putF, if_neg (by decide +kernel), putF]
theorem bf2_p : (bf2 wA pA).lookup ("places" : Str) = some (V.ref pA) := by
  unfold bf2
  rw [List.lookup_cons, show (("places" : Str) == "words") = false by decide +kernel, List.lookup_cons, show (("places" : Str) == "places") = true by decide +kernel]
theorem bf3_k : (bf3 wA pA kA).lookup ("known" : Str) = some (V.ref kA) := by
  unfold bf3
  rw [List.lookup_cons, show (("known" : Str) == "words") = false by decide +kernel, List.lookup_cons, show (("known" : Str) == "places") = false by decide +kernel, List.lookup_cons, show (("known" : Str) == "known") = true by decide +kernel]
end
/-! ### the keys differ -/
theorem nd_flat {α β : Type} (f : α → List β) : ∀ l : List α, l.Nodup → (∀ x ∈ l, (f x).Nodup) → (∀ x ∈ l, ∀ y ∈ l, x ≠ y → ∀ b, b ∈ f x → b ∈ f y → False) → (l.flatMap f).Nodup
  | [], _, _, _ => .nil
  | x :: l, nd, h1, h2 => by
    obtain ⟨n1, n2⟩ := List.nodup_cons.mp nd
    rw [List.flatMap_cons, List.nodup_append]
    refine ⟨h1 x (by simp), nd_flat f l n2 (fun y hy => h1 y (by simp [hy])) (fun y hy z hz => h2 y (by simp [hy]) z (by simp [hz])), fun b hb c hc e => ?_⟩
    subst e
    obtain ⟨y, hy, hb'⟩ := List.mem_flatMap.mp hc
    exact h2 x (by simp) y (by simp [hy]) (fun z => n1 (z ▸ hy)) b hb hb'
theorem keys_nd {B : PBk} (ok : B.Ok) : (keys B.b).Nodup := by
  refine nd_flat _ _ ok.ok.nd (fun n _ => nd_flat _ _ ok.wnd (fun w _ => List.pairwise_map.mpr (List.nodup_range.imp fun ne e => ne (by injection e with _ e; injection e with _ e))) fun w1 _ w2 _ ne k h1 h2 => ?_) fun n1 _ n2 _ ne k h1 h2 => ?_
  · obtain ⟨c1, _, e1⟩ := List.mem_map.mp h1
    obtain ⟨c2, _, e2⟩ := List.mem_map.mp h2
    rw [← e2] at e1
    injection e1 with _ e1
    injection e1 with e1 _
    exact ne e1
  · obtain ⟨w1, _, h1⟩ := List.mem_flatMap.mp h1
    obtain ⟨c1, _, e1⟩ := List.mem_map.mp h1
    obtain ⟨w2, _, h2⟩ := List.mem_flatMap.mp h2
    obtain ⟨c2, _, e2⟩ := List.mem_map.mp h2
    rw [← e2] at e1
    injection e1 with e1 _
    exact ne e1
theorem tkey_inj {k l : Str × Str × Nat} (h : tkey k = tkey l) : k = l := by
  obtain ⟨a, b, c⟩ := k
  obtain ⟨d, e, f⟩ := l
  unfold tkey at h
  injection h with h1 h
  injection h with h2 h
  injection h with h3 _
  injection h1 with h1
  injection h2 with h2
  injection h3 with h3
  have h3 : c = f := by
    dsimp only at h3
    omega
  dsimp only at h1 h2
  rw [h1, h2, h3]
theorem iSeq_at {K : PySem.W.Frag} {te : TE} {σ : L2.St} {H : Hp} {a : Addr} {xs : List V} {R : It → Hp → Prop} (ht : ∀ Q : VK, Q (.ref a) H → te σ H Q) (h : H a = some (.lst xs) ∨ H a = some (.tup xs))
    (r : ∀ J G, Walk J xs.length G (YAt xs) → (∀ H2 : Hp, (∀ o, H a = some o → H2 a = some o) → G H2) → R J H) : iSeq K te σ H R := ht _ ⟨a, rfl, by
  rcases h with h | h
  · exact .inl ⟨xs, SqL.of h, r _ _ walk_list fun H2 s => SqL.of (s _ h)⟩
  · exact .inr ⟨xs, SqT.of h, r _ _ walk_tup fun H2 s => SqT.of (s _ h)⟩⟩
theorem seqI {t u : TS} {D : Ends} {σ : L2.St} {H : Hp} (h : t { D with nx := u D } σ H) : tSeq t u D σ H := h
theorem for_seq {K : PySem.W.Frag} {te : TE} {g : TG} {tb : TS} {D : Ends} {σ : L2.St} {H : Hp} {a : Addr} {xs : List V} (ht : ∀ Q : VK, Q (.ref a) H → te σ H Q) (h : H a = some (.lst xs) ∨ H a = some (.tup xs))
    (r : ∀ J G, Walk J xs.length G (YAt xs) → (∀ H2 : Hp, (∀ o, H a = some o → H2 a = some o) → G H2) → ∃ W : Nat → Nat → L2.St → Hp → Prop, (∃ m, W 0 m σ H) ∧ ∀ i m σ H, W i m σ H →
      (J.stop i H ∧ D.nx σ H) ∨ (J.go i H ∧ ∃ N : L2.St → Hp → Prop, (∀ σ' H', N σ' H' → ∃ m', m' < m ∧ W (i + 1) m' σ' H') ∧ ∀ x H', J.yld i H x H' → g x σ H' fun σ2 H2 => tb { D with nx := N, ct := N, bk := D.nx } σ2 H2)) : tFor (iSeq K te) g tb D σ H := iSeq_at ht h r
theorem HalfAt.sx {C b wA pA kA tA dx d : Addr} {B : PBk} {H H' : Hp} {tt : List (List Key × V)} (s : SX d H H') (hd : H d = some (.dT tt)) (h : HalfAt C B b wA pA kA tA dx H) : HalfAt C B b wA pA kA tA dx H' := by
  obtain ⟨pvs, kk, h1, h2, h3, h4, h5, h6⟩ := h.ex
  exact ⟨pvs, kk, s.at hd h1 nofun, s.at hd h2 nofun, s.at hd h3 nofun, h4.mono fun _ _ r => r.sx s hd nofun, s.at hd h5 nofun, fun n hn => let ⟨v, a, r⟩ := h6 n hn; ⟨v, a, r.sx s hd nofun⟩⟩
section
variable {P : Program} {w : World} {K : PySem.W.Frag} {mg : Str → Option Value} {base : Heap} {C : Addr}
/-! ### __init__ -/
def spInit (C : Addr) : Sp := fun vs H Q _ => ∃ (B : PBk) (x wa pa ra dx : Addr) (pvs rvs : List V), vs = [.ref x, .ref wa, .ref pa, .str B.st, .ref ra] ∧ B.Ok ∧ H x = some (.ins C dx []) ∧
  (H wa = some (.lst (B.W.map V.str)) ∨ H wa = some (.tup (B.W.map V.str))) ∧ H pa = some (.lst pvs) ∧ All2 (PlaceAt B H) B.P pvs ∧ (H ra = some (.lst rvs) ∨ H ra = some (.tup rvs)) ∧ All2 (RowAt B H) (keys B.b) rvs ∧
  ∀ H', SX x H H' → BookAt C B x H' → Q .non H'
theorem scInit : FnScope ["self", "words", "places", "start", "rules", "rule", "key", "value", "place"] ["self", "words", "places", "start", "rules"] (defScope sInit) := ⟨rfl, rfl, rfl, by decide +kernel, rfl, by decide +kernel, by decide +kernel⟩
theorem ok_init {f : Addr} {fd : FuncData} (F : Fun K "__init__" "Book.__init__" sInit f fd) (T : Txt K mg C) (cN : Cal P w K mg base 2 "require_names" ["names", "most"] spRequireNames) (cP : Cal P w K mg base 2 "checked_place" ["place"] spCheckedPlace)
    (cR : Cal P w K mg base 1 "require" ["holds"] spRequire) (cPN : PCal P w K mg base 1 C "place_names" (spPlaceNamesW C)) (cC : MCal P w K mg base 2 C "checked_rule" ["self", "rule"] (spCheckedRule C)) (cA : MCal P w K mg base 1 C "asked" ["self"] (spAsked C)) :
    FnOk P w K mg base CX0 3 f fd ["self", "words", "places", "start", "rules"] (spInit C) := by
  refine F.ok scInit (fun vs H Q E h => ?_) (fun cdv A outer s H vs Q E hr h => ?_)
  · obtain ⟨B, x, wa, pa, ra, _, _, _, rfl, _⟩ := h
    rfl
  · obtain ⟨B, x, wa, pa, ra, dx, pvs, rvs, rfl, ok, hx, hwa, hpa, hP, hra, hR, k⟩ := h
    have hu := hu_of hr
    have hr1 := hr.mono (show 1 ≤ 2 by decide)
    have nd := scInit.nd
    refine ⟨_, pss_cons (ps_expr (pe_cal cN hr (pa_cons (pv 1) (pa_cons (pe_gi T.mw) pa_nil))))
      (pss_cons (ps_fld (pv 0) (pe_callTy call_tupK (by rfl) T.tuple (by decide +kernel) (pa_cons (pv 1) pa_nil)) rfl)
      (pss_cons (ps_fld (pv 0) (pe_callTy call_tupK (by rfl) T.tuple (by decide +kernel) (pa_cons
        (pe_lc (own := [("place", 8)]) (g := gName 8) (tt := tYes) (te := tCal spCheckedPlace (tCons (tVar 8) tNil)) rfl nd (pi_list (pv 2))
          (blkOk_by (N := ["self", "words", "places", "start", "rules", "rule", "key", "value", "place"]) (sc := defScope sInit) (by decide +kernel)) (fun _ _ _ _ _ => pg_name (i := 8) nd rfl (.inl rfl)) (fun _ _ _ _ _ => pts_nil)
          (fun _ _ _ _ _ => by exact pe_cal cP hr (pa_cons (pv 8) pa_nil))) pa_nil)) rfl)
      (pss_cons (ps_expr (pe_cal cN hr (pa_cons (pe_pcal cPN hr (pv 0) T.cl) (pa_cons (pe_gi T.mp) pa_nil))))
      (pss_cons (ps_fld (pv 0) (pe_dc (own := [("place", 8)]) (g := gName 8) (tt := tYes) (tk := tOp (rIxT K) (tVar 8) (tC (.int 0))) (tv := tVar 8) rfl nd (pi_tup (pe_fld (pv 0) rfl))
          (blkOk_by (N := ["self", "words", "places", "start", "rules", "rule", "key", "value", "place"]) (sc := defScope sInit) (by decide +kernel)) (fun _ _ _ _ _ => pg_name (i := 8) nd rfl (.inl rfl)) (fun _ _ _ _ _ => pts_nil)
          (fun _ _ _ _ _ => by exact pe_ix (kIxT K) (pv 8) pe_int (fun _ _ => rfl)) (fun _ _ _ _ _ => by exact pv 8)) rfl)
      (pss_cons (ps_expr (pe_cal cR hr1 (pa_cons (pe_and (pe_cmp (pc_din hu (pv 3) (pe_fld (pv 0) rfl))) (pe_one (pe_cmpR op_eq (pe_ix ix_tup (pe_dget hu (pe_fld (pv 0) rfl) (pv 3) (fun _ _ => rfl)) pe_int (fun _ _ => rfl)) pe_int (by rfl)))) pa_nil)))
      (pss_cons (ps_fld (pv 0) (pv 3) rfl)
      (pss_cons (ps_fld (pv 0) pe_dnewT rfl)
      (pss_cons (ps_for PassesOwn.never rfl (pi_seq (pv 4)) (pg_name (i := 5) nd rfl (.inl rfl))
        (pss_cons (ps_asg (pe_mcal cC hr (pv 0) T.cl (pa_cons (pv 5) pa_nil)) (pg_tup rfl (pgs_cons (pg_name (i := 6) nd rfl (.inl rfl)) (pgs_cons (pg_name (i := 7) nd rfl (.inl rfl)) pgs_nil))))
        (pss_cons (ps_expr (pe_cal cR hr1 (pa_cons (pe_cmp (pc_dnotin hu (pv 6) (pe_fld (pv 0) rfl))) pa_nil)))
        (pss_one (ps_dput hu (pe_fld (pv 0) rfl) (pv 6) (pv 7) rfl)))))
      (pss_one (ps_expr (pe_cal cR hr1 (pa_cons (pe_cmpR op_eq (pe_callB call_len_dT rfl T.len (by decide +kernel) (pa_cons (pe_fld (pv 0) rfl) pa_nil)) (pe_len T.len (pe_mcal0 cA hr1 (pv 0) T.cl)) (by rfl)) pa_nil)))))))))))), ?_⟩
    refine ⟨_, rfl, wa, B.W, 3, rfl, hwa, ok.wnd, ok.wn, ok.w1, by have := ok.w3; omega, by decide, fun H1 s1 => ?_⟩
    -- words
    refine ⟨_, rfl, ?_⟩
    dsimp only [tNil]
    refine tupOf (s1.seqO hwa) fun wA H2 s2 hwA => ?_
    refine ⟨_, rfl, x, C, dx, _, rfl, s2 _ _ (s1 _ _ hx), T.cl, T.nW, by simp, ?_⟩
    rw [pf1]
    have x3 : SX x H (upd H2 x (.ins C dx (bf1 wA))) := (SX.of (s1.trans s2)).upd
    have hx3 : (upd H2 x (.ins C dx (bf1 wA))) x = some (.ins C dx (bf1 wA)) := upd_same
    have w3 : (upd H2 x (.ins C dx (bf1 wA))) wA = some (.tup (B.W.map V.str)) := (SX.refl.upd : SX x H2 (upd H2 x (.ins C dx (bf1 wA)))).at (s2 _ _ (s1 _ _ hx)) hwA nofun
    generalize (upd H2 x (.ins C dx (bf1 wA))) = H3 at x3 hx3 w3 ⊢
    -- places
    have hP3 := hP.mono fun _ _ r => r.sx x3 hx nofun
    refine ⟨_, rfl, pa, rfl, ⟨_, SqL.of (x3.at hx hpa nofun)⟩, fun D hD => ?_⟩
    refine lc_it (walk_list (K := K) (a := pa) (xs := pvs)) (fun i H4 => ∃ zs, Same H3 H4 ∧ H4 D = some (.lst zs) ∧ All2 (PlaceAt B H4) (B.P.take i) zs) ⟨[], Same.new hD, upd_same, All2.nil⟩ (fun i H4 _ ⟨_, s4, _⟩ => SqL.of (s4 _ _ (x3.at hx hpa nofun))) ?_ ?_
    · rintro i y H4 H5 hi ⟨zs, s4, hD4, al⟩ ⟨rfl, hy⟩
      obtain ⟨n, hn, a, rfl, ha⟩ := hP3.of hy
      have hs3 := ok.s3 n (List.mem_of_getElem? hn)
      have lz := al.len
      rw [List.length_take] at lz
      have hp4 := ok.p4
      refine ⟨rfl, yesT ⟨_, rfl, a, n, B.s n, B.y n, rfl, s4 _ _ ha, by omega, fun p H6 s6 hp hp6 => ⟨zs, s6 _ _ hD4, smallL (by omega), zs ++ [.ref p], (s4.trans s6).chg hD, upd_same, ?_⟩⟩⟩
      rw [take_snoc hn]
      exact All2.snoc (al.mono fun _ _ r => (r.mono s6).updL (s6 _ _ hD4)) (PlaceAt.updL (s6 _ _ hD4) ⟨p, rfl, hp6⟩)
    rintro H4 ⟨zs, s4, hD4, al4⟩
    rw [hP3.len, List.take_length] at al4
    dsimp only [tNil]
    refine tupOf (.inl hD4) fun pA H5 s5 hpA5 => ?_
    have x5 := x3.step (s4.trans s5)
    have hx5 := s5 _ _ (s4 _ _ hx3)
    refine ⟨_, rfl, x, C, dx, _, rfl, hx5, T.cl, T.nP, by simp [bf1], ?_⟩
    rw [pf2]
    have u5 : SX x H5 (upd H5 x (.ins C dx (bf2 wA pA))) := SX.refl.upd
    have x6 := x5.trans u5
    have hx6 : (upd H5 x (.ins C dx (bf2 wA pA))) x = some (.ins C dx (bf2 wA pA)) := upd_same
    have w6 := u5.at hx5 (s5 _ _ (s4 _ _ w3)) nofun
    have pA6 := u5.at hx5 hpA5 nofun
    have al6 := al4.mono fun _ _ r => (r.mono s5).sx u5 hx5 nofun
    generalize (upd H5 x (.ins C dx (bf2 wA pA))) = H6 at x6 hx6 w6 pA6 al6 ⊢
    have hp4 := ok.p4
    -- the names of the places
    refine ⟨_, rfl, x, dx, _, rfl, hx6, B, x, pA, dx, bf2 wA pA, zs, rfl, hx6, bf2_p _ _, pA6, al6, by omega, fun p H7 s7 hp hp7 => ?_⟩
    refine ⟨p, B.P, 60, rfl, .inr hp7, ok.ok.nd, ok.pn, ok.p1, by omega, by decide, fun H8 s8 => ?_⟩
    have x8 := x6.step (s7.trans s8)
    have hx8 := s8 _ _ (s7 _ _ hx6)
    have w8 := s8 _ _ (s7 _ _ w6)
    have pA8 := s8 _ _ (s7 _ _ pA6)
    have al8 := al6.mono fun _ _ r => (r.mono s7).mono s8
    clear w6 pA6 al6 hp7 hp
    -- known
    refine ⟨_, rfl, x, C, dx, _, _, rfl, hx8, T.cl, T.nP, bf2_p _ _, pA, rfl, ⟨_, SqT.of pA8⟩, fun kA hkA => ?_⟩
    refine dc_it (walk_tup (K := K) (a := pA) (xs := zs)) (fun i H9 => ∃ kk : List (Key × V), Same H8 H9 ∧ H9 kA = some (.dK kk) ∧ kk.map (·.1) = (B.P.take i).map Sum.inr ∧ ∀ n ∈ B.P.take i, ∃ v, valV kk (.inr n) = some v ∧ PlaceAt B H8 n v)
      ⟨[], Same.new hkA, upd_same, rfl, fun n hn => by simp at hn⟩ (fun i H9 _ ⟨_, s9, _⟩ => SqT.of (s9 _ _ pA8)) ?_ ?_
    · rintro i y H9 H10 hi ⟨kk, s9, hk9, hkk, hv⟩ ⟨rfl, hy⟩
      obtain ⟨n, hn, a, rfl, ha⟩ := al8.of hy
      have hlen := congrArg List.length hkk
      rw [List.length_map, List.length_map, List.length_take] at hlen
      have hnew := take_new ok.ok.nd hn
      have hno : valV kk (.inr n) = none := by
        cases ev : valV kk (.inr n : Key) with
        | none => rfl
        | some v =>
          have hm := valV_in ev
          rw [hkk] at hm
          obtain ⟨m, hm, em⟩ := List.mem_map.mp hm
          exact absurd (Sum.inr.inj em ▸ hm) hnew
      refine ⟨rfl, yesT ⟨_, rfl, a, _, 0, _, rfl, rfl, SqT.of (s9 _ _ ha), rfl, _, rfl, kk, .inr n, rfl, hk9, smallL (by omega), kk ++ [(.inr n, .ref a)], s9.chg hkA, ?_, ?_, fun m hm => ?_⟩⟩
      · rw [upd_same, putK_new _ hno]
      · have e1 : B.P.take (i + 1) = B.P.take i ++ [n] := take_snoc hn
        rw [List.map_append, hkk, e1, List.map_append]
        rfl
      · rw [valV_snoc _ _ _ _ hno]
        have e1 : B.P.take (i + 1) = B.P.take i ++ [n] := take_snoc hn
        rw [e1] at hm
        by_cases e : m = n
        · subst e
          rw [if_pos rfl]
          exact ⟨_, rfl, a, rfl, ha⟩
        · rw [if_neg (fun z => e (Sum.inr.inj z))]
          exact hv m (by
            rcases List.mem_append.mp hm with h | h
            · exact h
            · exact absurd (List.mem_singleton.mp h) e)
    rintro H9 ⟨kk, s9, hk9, hkk, hv⟩
    rw [al8.len, List.take_length] at hkk hv
    have hx9 := s9 _ _ hx8
    refine ⟨_, rfl, x, C, dx, _, rfl, hx9, T.cl, T.nK, by simp [bf2], ?_⟩
    rw [pf3]
    have u9 : SX x H9 (upd H9 x (.ins C dx (bf3 wA pA kA))) := SX.refl.upd
    have x10 := (x8.step s9).trans u9
    have hx10 : (upd H9 x (.ins C dx (bf3 wA pA kA))) x = some (.ins C dx (bf3 wA pA kA)) := upd_same
    have w10 := u9.at hx9 (s9 _ _ w8) nofun
    have pA10 := u9.at hx9 (s9 _ _ pA8) nofun
    have k10 := u9.at hx9 hk9 nofun
    have al10 := al8.mono fun _ _ r => (r.mono s9).sx u9 hx9 nofun
    have hv10 : ∀ n ∈ B.P, ∃ v, valV kk (.inr n) = some v ∧ PlaceAt B (upd H9 x (.ins C dx (bf3 wA pA kA))) n v := fun n hn => let ⟨v, a, r⟩ := hv n hn; ⟨v, a, (r.mono s9).sx u9 hx9 nofun⟩
    generalize (upd H9 x (.ins C dx (bf3 wA pA kA))) = H10 at x10 hx10 w10 pA10 k10 al10 hv10 ⊢
    -- the start
    obtain ⟨vs, hvs, as, rfl, has⟩ := hv10 B.st ok.ok.st
    refine ⟨_, rfl, _, rfl, x, C, dx, _, _, rfl, hx10, T.cl, T.nK, bf3_k _ _ _, kA, _, rfl, DGet.k (k := Sum.inr B.st) k10, _, rfl, ?_⟩
    rw [hvs]
    refine iteT ⟨_, rfl, x, C, dx, _, _, rfl, hx10, T.cl, T.nK, bf3_k _ _ _, _, rfl, kA, _, rfl, hvs ▸ DGet.k (k := Sum.inr B.st) k10, as, _, 1, _, rfl, rfl, SqT.of has, rfl, rfl, ?_⟩
    have es0 : B.s B.st = 0 := ok.ok.s0
    rw [es0, decide_eq_true (show V.int ((0 : Nat) : Int) = V.int 0 from rfl)]
    refine ⟨rfl, ?_⟩
    refine ⟨_, rfl, _, rfl, x, C, dx, _, rfl, hx10, T.cl, T.nS, by simp [bf3], ?_⟩
    rw [pf4]
    have u10 : SX x H10 (upd H10 x (.ins C dx (bf4 wA pA kA B.st))) := SX.refl.upd
    have x11 := x10.trans u10
    have hx11 : (upd H10 x (.ins C dx (bf4 wA pA kA B.st))) x = some (.ins C dx (bf4 wA pA kA B.st)) := upd_same
    have w11 := u10.at hx10 w10 nofun
    have pA11 := u10.at hx10 pA10 nofun
    have k11 := u10.at hx10 k10 nofun
    have al11 := al10.mono fun _ _ r => r.sx u10 hx10 nofun
    have hv11 : ∀ n ∈ B.P, ∃ v, valV kk (.inr n) = some v ∧ PlaceAt B (upd H10 x (.ins C dx (bf4 wA pA kA B.st))) n v := fun n hn => let ⟨v, a, r⟩ := hv10 n hn; ⟨v, a, r.sx u10 hx10 nofun⟩
    clear w10 pA10 k10 al10 hv10 hx10 hvs has x10
    generalize (upd H10 x (.ins C dx (bf4 wA pA kA B.st))) = H11 at x11 hx11 w11 pA11 k11 al11 hv11 ⊢
    clear u10
    -- the table
    intro d hd
    have sd : Same H11 (upd H11 d (.dT [])) := Same.new hd
    refine ⟨_, rfl, x, C, dx, _, rfl, sd _ _ hx11, T.cl, T.nT, by simp [bf4], ?_⟩
    rw [pf5]
    have u11 : SX x H11 (upd (upd H11 d (.dT [])) x (.ins C dx (bfs wA pA kA d B.st))) := (SX.of sd).upd
    have x12 := x11.trans u11
    have hx12 : (upd (upd H11 d (.dT [])) x (.ins C dx (bfs wA pA kA d B.st))) x = some (.ins C dx (bfs wA pA kA d B.st)) := upd_same
    have hd12 : (upd (upd H11 d (.dT [])) x (.ins C dx (bfs wA pA kA d B.st))) d = some (.dT []) := (upd_ne (fun e => by rw [e, hx11] at hd; cases hd)).trans upd_same
    have HA12 : HalfAt C B x wA pA kA d dx (upd (upd H11 d (.dT [])) x (.ins C dx (bfs wA pA kA d B.st))) :=
      ⟨zs, kk, hx12, u11.at hx11 w11 nofun, u11.at hx11 pA11 nofun, al11.mono fun _ _ r => r.sx u11 hx11 nofun, u11.at hx11 k11 nofun, fun n hn => let ⟨v, a, r⟩ := hv11 n hn; ⟨v, a, r.sx u11 hx11 nofun⟩⟩
    have dH : ∀ b o, b ≠ x → H b = some o → b ≠ d := fun b o n e z => by
      have := x11 b o n e
      rw [z, hd] at this
      cases this
    clear w11 pA11 k11 al11 hv11 hx11 hd sd x11
    generalize (upd (upd H11 d (.dT [])) x (.ins C dx (bfs wA pA kA d B.st))) = H12 at x12 hx12 hd12 HA12 ⊢
    clear u11
    have hra12 := x12.seq hx nofun nofun hra
    have hR12 := hR.mono fun _ _ r => r.sx x12 hx nofun
    have kl := keys_len ok
    have knd := keys_nd ok
    show tSeq _ _ _ _ _
    refine seqI ?_
    refine for_seq (te := tVar 4) ?_ hra12 fun J G wk hG => ?_
    · exact fun Q q => ⟨_, rfl, q⟩
    refine for_it wk (fun j σ Hc => ∃ o5 o6 o7 tt, σ = [some (.ref x), some (.ref wa), some (.ref pa), some (.str B.st), some (.ref ra), o5, o6, o7, none] ∧ SX d H12 Hc ∧ Hc d = some (.dT tt) ∧ tt.map (·.1) = ((keys B.b).take j).map tkey ∧
        ∀ q ∈ (keys B.b).take j, ∃ v, valV tt (tkey q) = some v ∧ RuleAt B Hc q v)
      ⟨none, none, none, [], rfl, SX.refl, hd12, rfl, fun q hq => by simp at hq⟩ (fun j σ Hc _ ⟨_, _, _, _, _, sc, _⟩ => hG _ fun o ho => ?_) ?_ ?_
    · refine sc.at hd12 ho ?_
      rcases hra12 with e | e
      · rw [e] at ho
        cases ho
        nofun
      · rw [e] at ho
        cases ho
        nofun
    · rintro j y σ Hc Hc' hj ⟨o5, o6, o7, tt, rfl, sc, hdc, htk, hall⟩ ⟨rfl, hy⟩
      obtain ⟨key, hkey, a, m, rfl, hra, hrm⟩ := hR12.of hy
      have hmem := List.mem_of_getElem? hkey
      have HAc := HA12.sx sc hd12
      have RAc : RowAt B Hc' key (.ref a) := ⟨a, m, rfl, sc.at hd12 hra nofun, sc.at hd12 hrm nofun⟩
      have hxc := sc.at hd12 hx12 nofun
      refine ⟨_, rfl, x, dx, _, rfl, hxc, bfs_no (by decide +kernel), _, rfl, B, x, a, wA, pA, kA, d, dx, key, rfl, ok, HAc, hmem, RAc, fun p p1 v2 H5 s5 hp hp1 hr5 => ?_⟩
      refine ⟨p, _, rfl, SqT.of hp, rfl, _, _, rfl, _, _, rfl, rfl, ?_⟩
      have hx5 := s5 _ _ hxc
      have hd5 := s5 _ _ hdc
      have hlen := congrArg List.length htk
      rw [List.length_map, List.length_map, List.length_take] at hlen
      have hnew := take_new knd hkey
      have hno : valV tt (tkey key) = none := by
        cases ev : valV tt (tkey key) with
        | none => rfl
        | some v =>
          have hm := valV_in ev
          rw [htk] at hm
          obtain ⟨q, hq, eq⟩ := List.mem_map.mp hm
          exact absurd (tkey_inj eq ▸ hq) hnew
      refine ⟨_, rfl, _, rfl, x, C, dx, _, _, rfl, hx5, T.cl, T.nT, bfs_t, d, _, rfl, DGet.t (k := tkey key) hd5 hp1, ?_⟩
      rw [hno]
      refine ⟨rfl, ?_⟩
      refine ⟨_, rfl, _, rfl, x, C, dx, _, _, rfl, hx5, T.cl, T.nT, bfs_t, _, rfl, d, _, rfl, DPut.t hd5 hp1 (smallL (by omega)), ?_⟩
      rw [putK_new _ hno]
      have u5 : SX d H5 (upd H5 d (.dT (tt ++ [(tkey key, v2)]))) := SX.refl.upd
      have e1 : (keys B.b).take (j + 1) = (keys B.b).take j ++ [key] := take_snoc hkey
      refine ⟨_, _, _, _, rfl, (sc.step s5).trans u5, upd_same, ?_, fun q hq => ?_⟩
      · rw [List.map_append, htk, e1, List.map_append]
        rfl
      · rw [valV_snoc _ _ _ _ hno]
        rw [e1] at hq
        by_cases e : q = key
        · subst e
          rw [if_pos rfl]
          exact ⟨_, rfl, hr5.sx u5 hd5 nofun⟩
        · rw [if_neg (fun z => e (tkey_inj z))]
          obtain ⟨v, a1, r1⟩ := hall q (by
            rcases List.mem_append.mp hq with h | h
            · exact h
            · exact absurd (List.mem_singleton.mp h) e)
          exact ⟨v, a1, (r1.mono s5).sx u5 hd5 nofun⟩
    · rintro σ Hc ⟨o5, o6, o7, tt, rfl, sc, hdc, htk, hall⟩
      rw [hR12.len, List.take_length] at htk hall
      have HAc := HA12.sx sc hd12
      have hxc := sc.at hd12 hx12 nofun
      have BA : BookAt C B x Hc := by
        obtain ⟨pvs, kk, h1, h2, h3, h4, h5, h6⟩ := HAc.ex
        exact ⟨dx, wA, pA, kA, d, pvs, kk, tt, h1, h2, h3, h4, h5, h6, hdc, hall⟩
      refine ⟨_, rfl, x, C, dx, _, _, rfl, hxc, T.cl, T.nT, bfs_t, d, tt, rfl, hdc, ?_⟩
      refine ⟨_, rfl, x, dx, _, rfl, hxc, bfs_no (by decide +kernel), B, x, rfl, ok, BA, fun p H' xs s' hp hp' al => ?_⟩
      refine ⟨_, _, rfl, lenV_of (.inl hp'), rfl, ?_⟩
      have hlen := congrArg List.length htk
      rw [List.length_map, List.length_map] at hlen
      rw [al.len, hlen, decide_eq_true rfl]
      refine ⟨rfl, k H' (fun b o n e => s' _ _ (sc b o (dH b o n e) (x12 b o n e))) (BA.mono s')⟩
end
end FW

/-! FhB4: Book(..), with_parts, turned. -/
namespace FW
open PySem L2 FR FH
section
variable {P : Program} {w : World} {K : PySem.W.Frag} {mg : Str → Option Value} {base : Heap} {C : Addr}
abbrev psInit : List Str := ["self", "words", "places", "start", "rules"]
abbrev ksInit : List Str := ["words", "places", "start", "rules"]
theorem kbn_init {f : Addr} {fd : FuncData} (F : Fun K "__init__" "Book.__init__" sInit f fd) : KBn K fd psInit 1 ksInit (fun us ws => us ++ ws) (fun vs zs => vs ++ zs) := by
  obtain ⟨oc, od, kV, doc, pm, an, cdv, ct, osl, rfl, lk, hcd⟩ := F.ex
  refine ⟨fun s us ws X l1 l2 => ?_, fun r1 r2 => r1.append r2⟩
  match us, ws, l1, l2 with
  | [u], [a, b, c, d], _, _ => exact BindsTo.of_eq rfl
/-- Book(words = .., places = .., start = .., rules = ..) -/
structure MkB (P : Program) (w : World) (K : PySem.W.Frag) (mg : Str → Option Value) (base : Heap) (C : Addr) : Prop where
  ex : ∃ (f : Addr) (fd : FuncData), Mk K C f ∧ FnOk P w K mg base CX0 3 f fd psInit (spInit C) ∧ KBn K fd psInit 1 ksInit (fun us ws => us ++ ws) (fun vs zs => vs ++ zs)
def PBk.turn (B : PBk) : PBk := { B with y := fun n => !B.y n }
theorem turn_ok {B : PBk} (ok : B.Ok) : B.turn.Ok := by
  obtain ⟨h, w1, w3, wnd, wn, p1, p4, pn, s3, ml, mn, mr⟩ := ok
  obtain ⟨nd, st, s0, gP, g0, g1⟩ := h
  exact ⟨⟨nd, st, s0, gP, g0, g1⟩, w1, w3, wnd, wn, p1, p4, pn, s3, ml, mn, mr⟩
/-! ### with_parts -/
abbrev psWith : List Str := ["self", "places", "start", "rules"]
def spWithParts (C : Addr) : Sp := fun vs H Q _ => ∃ (B : PBk) (b pa : Addr) (pvs : List V), vs = [.ref b, .ref pa, .non, .non] ∧ B.Ok ∧ BookAt C B b H ∧ H pa = some (.lst pvs) ∧ All2 (PlaceAt B.turn H) B.P pvs ∧
  ∀ x H', Same H H' → BookAt C B.turn x H' → Q (.ref x) H'
theorem scWithParts : FnScope ["self", "places", "start", "rules"] psWith (defScope sWithParts) := ⟨rfl, rfl, rfl, by decide +kernel, rfl, by decide +kernel, by decide +kernel⟩
abbrev kwWith : List (Str × V) := [("places", .non), ("start", .non), ("rules", .non)]
theorem kbn_with {f : Addr} {fd : FuncData} (F : FunD K "with_parts" "Book.with_parts" (defArgs sWithParts) (defBody sWithParts) (defScope sWithParts) [] kwWith f fd) :
    ∃ mv : List Value, KBn K fd psWith 1 ["places"] (fun us ws => us ++ (ws ++ mv)) (fun vs zs => vs ++ (zs ++ [.non, .non])) :=
  F.kbinds0 1 ["places"] [("start", .non), ("rules", .non)] (fun us mv ws => us ++ (ws ++ mv)) (by simp) (by simp) (fun r1 r2 r3 => r1.append (r3.append r2)) fun D doc pm an cdv ct us mv ws h1 h2 h3 => by
    match us, mv, ws, h1, h2, h3 with
    | [u], [a, b], [c], _, _, _ => exact ⟨_, _, _, _, _, _, rfl, rfl, _, _, _, _, _, _, rfl, rfl, rfl⟩
theorem ok_with_parts {f : Addr} {fd : FuncData} (F : FunD K "with_parts" "Book.with_parts" (defArgs sWithParts) (defBody sWithParts) (defScope sWithParts) [] kwWith f fd) (T : Txt K mg C) (M : MkB P w K mg base C) (cR : PCal P w K mg base 2 C "rules" (spRules C)) :
    FnOk P w K mg base CX0 5 f fd psWith (spWithParts C) := by
  refine F.ok scWithParts (fun vs H Q E h => ?_) (fun cdv A outer s H vs Q E hr h => ?_)
  · obtain ⟨B, b, pa, _, rfl, _⟩ := h
    rfl
  · obtain ⟨B, b, pa, pvs, rfl, ok, BA, hpa, hP, k⟩ := h
    obtain ⟨fi, fdi, Mk, Fi, kb⟩ := M.ex
    refine ⟨_, pss_one (ps_ret (pe_makeK0 Mk Fi hr (by rfl) T.mgC kb pass0 (pk_cons (pe_fld (pv 0) rfl)
      (pk_cons (pe_ifExp (pt_cmpR op_isN (pv 1) pe_non (nomark _)) (pe_fld (pv 0) rfl) (pv 1))
      (pk_cons (pe_ifExp (pt_cmpR op_isN (pv 2) pe_non (nomark _)) (pe_fld (pv 0) rfl) (pv 2))
      (pk_cons (pe_ifExp (pt_cmpR op_isN (pv 3) pe_non (nomark _)) (pe_pcal cR (hr.mono (by decide)) (pv 0) T.cl) (pv 3)) pk_nil)))))), ?_⟩
    obtain ⟨dx, wA, pA, kA, tA, pvs0, kk, tt, h1, h2, h3, h4, h5, h6, h7, h8⟩ := BA.ex
    refine ⟨_, rfl, b, C, dx, _, _, rfl, h1, T.cl, T.nW, bfs_w, ?_⟩
    refine ⟨_, rfl, rfl, _, rfl, ?_⟩
    rw [decide_eq_false (show V.ref pa ≠ V.non from nofun)]
    refine iteF ⟨_, rfl, ?_⟩
    refine ⟨_, rfl, rfl, _, rfl, ?_⟩
    rw [decide_eq_true (show V.non = V.non from rfl)]
    refine iteT ⟨_, rfl, b, C, dx, _, _, rfl, h1, T.cl, T.nS, bfs_s, ?_⟩
    refine ⟨_, rfl, rfl, _, rfl, ?_⟩
    rw [decide_eq_true (show V.non = V.non from rfl)]
    refine iteT ⟨_, rfl, b, dx, _, rfl, h1, B, b, rfl, ok, BA, fun ra H2 xs s2 hra hra2 al => ?_⟩
    refine ⟨rfl, rfl, fun x dx2 hx hdx hne => ?_⟩
    have t : Same H2 (upd (upd H2 dx2 (.own x)) x (.ins C dx2 [])) := (Same.new hdx).trans (Same.new ((upd_ne hne.symm).trans hx))
    refine ⟨B.turn, x, wA, pa, ra, dx2, pvs, xs, rfl, turn_ok ok, upd_same, .inr (t _ _ (s2 _ _ h2)), t _ _ (s2 _ _ hpa), hP.mono fun _ _ r => (r.mono s2).mono t, .inr (t _ _ hra2), al.mono fun _ _ r => r.mono t, fun H' sx BT => ⟨rfl, k x H' (fun c o e => ?_) BT⟩⟩
    have e2 := s2 _ _ e
    exact sx c o (fun z => by rw [z, hx] at e2; cases e2) (t _ _ e2)
/-! ### turned -/
def spTurned (C : Addr) : Sp := fun vs H Q _ => ∃ (B : PBk) (b : Addr), vs = [.ref b] ∧ B.Ok ∧ BookAt C B b H ∧ ∀ x H', Same H H' → BookAt C B.turn x H' → Q (.ref x) H'
theorem scTurned : FnScope ["self", "name", "slots", "yes"] ["self"] (defScope sTurned) := ⟨rfl, rfl, rfl, by decide +kernel, rfl, by decide +kernel, by decide +kernel⟩
theorem ok_turned {f f5 : Addr} {fd fd5 : FuncData} {mv : List Value} (F : Fun K "turned" "Book.turned" sTurned f fd) (T : Txt K mg C) (F5 : FnOk P w K mg base CX0 5 f5 fd5 psWith (spWithParts C)) (hm : Meth K C "with_parts" f5)
    (hb : KBn K fd5 psWith 1 ["places"] (fun us ws => us ++ (ws ++ mv)) (fun vs zs => vs ++ (zs ++ [.non, .non]))) : FnOk P w K mg base CX0 6 f fd ["self"] (spTurned C) := by
  refine F.ok scTurned (fun vs H Q E h => ?_) (fun cdv A outer s H vs Q E hr h => ?_)
  · obtain ⟨B, b, rfl, _⟩ := h
    rfl
  · obtain ⟨B, b, rfl, ok, BA, k⟩ := h
    have nd := scTurned.nd
    refine ⟨_, pss_one (ps_ret (pe_methK (pv 0) T.cl hm F5 hr hb pass0 (pk_cons
      (pe_lc (own := [("name", 1), ("slots", 2), ("yes", 3)]) (g := gTup K 3 (gCons (gName 1) (gCons (gName 2) (gCons (gName 3) gNil)))) (tt := tYes) (te := tTup (tCons (tVar 1) (tCons (tVar 2) (tCons (tNotV (tVar 3)) tNil)))) rfl nd (pi_tup (pe_fld (pv 0) rfl))
        (blkOk_by (N := ["self", "name", "slots", "yes"]) (sc := defScope sTurned) (by decide +kernel)) (fun _ _ _ _ _ => by exact pg_tupK K 3 rfl (pgs_cons (pg_name (i := 1) nd rfl (.inl rfl)) (pgs_cons (pg_name (i := 2) nd rfl (.inl rfl)) (pgs_cons (pg_name (i := 3) nd rfl (.inl rfl)) pgs_nil))))
        (fun _ _ _ _ _ => pts_nil) (fun _ _ _ _ _ => by exact pe_tup (pa_cons (pv 1) (pa_cons (pv 2) (pa_cons (pe_not (pv 3)) pa_nil))))) pk_nil))), ?_⟩
    obtain ⟨dx, wA, pA, kA, tA, pvs, kk, tt, h1, h2, h3, h4, h5, h6, h7, h8⟩ := BA.ex
    refine ⟨_, rfl, b, dx, _, rfl, h1, bfs_no (by decide +kernel), ?_⟩
    refine ⟨_, rfl, b, C, dx, _, _, rfl, h1, T.cl, T.nP, bfs_p, pA, rfl, ⟨_, SqT.of h3⟩, fun D hD => ?_⟩
    refine lc_it (walk_tup (K := K) (a := pA) (xs := pvs)) (fun i H4 => ∃ zs, Same H H4 ∧ H4 D = some (.lst zs) ∧ All2 (PlaceAt B.turn H4) (B.P.take i) zs) ⟨[], Same.new hD, upd_same, All2.nil⟩ (fun i H4 _ ⟨_, s4, _⟩ => SqT.of (s4 _ _ h3)) ?_ ?_
    · rintro i y H4 H5 hi ⟨zs, s4, hD4, al⟩ ⟨rfl, hy⟩
      obtain ⟨n, hn, a, rfl, ha⟩ := h4.of hy
      have lz := al.len
      rw [List.length_take] at lz
      have hp4 := ok.p4
      refine ⟨a, _, rfl, SqT.of (s4 _ _ ha), rfl, _, _, rfl, _, _, rfl, _, _, rfl, rfl, rfl, yesT ⟨_, rfl, _, rfl, _, rfl, _, rfl, small (n := 3) (by decide), fun p hp => ?_⟩⟩
      have sp : Same H5 (upd H5 p (.tup [.str n, .int (B.s n : Int), .bl (!B.y n)])) := Same.new hp
      refine ⟨zs, sp _ _ hD4, smallL (by omega), zs ++ [.ref p], (s4.trans sp).chg hD, upd_same, ?_⟩
      rw [take_snoc hn]
      exact All2.snoc (al.mono fun _ _ r => (r.mono sp).updL (sp _ _ hD4)) (PlaceAt.updL (sp _ _ hD4) ⟨p, rfl, upd_same⟩)
    · rintro H4 ⟨zs, s4, hD4, al⟩
      rw [h4.len, List.take_length] at al
      exact ⟨rfl, B, b, D, zs, rfl, ok, BA.mono s4, hD4, al, fun x H' s' BT => k x H' (s4.trans s') BT⟩
end
end FW

/-! FhL1: the law's numbers. -/
namespace FW
open PySem L2 FR FH
section
variable {P : Program} {w : World} {K : PySem.W.Frag} {mg : Str → Option Value} {base : Heap} {C : Addr}
theorem ite_any {c : Bool} {A B : Prop} (a : A) (b : B) : if c = true then A else B := by
  cases c
  · exact iteF b
  · exact iteT a
def Nums (ns : List Int) : Prop := ∀ z ∈ ns, 0 ≤ z ∧ z < 1009
theorem Nums.snoc {ns : List Int} {z : Int} (h : Nums ns) (h0 : 0 ≤ z) (h1 : z < 1009) : Nums (ns ++ [z]) := fun y hy => by
  rcases List.mem_append.mp hy with e | e
  · exact h y e
  · rw [List.mem_singleton.mp e]
    exact ⟨h0, h1⟩
/-! ### _law_row -/
def spLawRow : Sp := fun vs H Q _ => ∃ (z : Int) (m : Nat), vs = [.int z, .int (m : Int)] ∧ m ≤ 1000 ∧ ∀ p H' ns, Same H H' → H p = none → H' p = some (.lst (ns.map V.int)) → ns.length = m → Nums ns → Q (.ref p) H'
theorem scLawRow : FnScope ["_law_cell", "_law_many", "_law_row_here", "_law_rest", "_law_mixed", "_law_k"] ["_law_cell", "_law_many"] (defScope sLawRow) := ⟨rfl, rfl, rfl, by decide +kernel, rfl, by decide +kernel, by decide +kernel⟩
theorem ok_law_row {f : Addr} {fd : FuncData} (F : Fun K "_law_row" "_law_row" sLawRow f fd) (T : Txt K mg C) : FnOk P w K mg base CX0 1 f fd ["_law_cell", "_law_many"] spLawRow := by
  refine F.ok scLawRow (fun vs H Q E h => ?_) (fun cdv A outer s H vs Q E hr h => ?_)
  · obtain ⟨z, m, rfl, _⟩ := h
    rfl
  · obtain ⟨z, m, rfl, hm, k⟩ := h
    have nd := scLawRow.nd
    refine ⟨_, pss_cons (ps_set (i := 2) nd rfl (.inl rfl) (pe_lst pa_nil))
      (pss_cons (ps_set (i := 3) nd rfl (.inl rfl) (pe_callB call_abs rfl T.abs (by decide +kernel) (pa_cons (pv 0) pa_nil)))
      (pss_cons (ps_set (i := 4) nd rfl (.inl rfl) (pe_op op_mod (pe_callTy call_int1 (by rfl) T.int (by decide +kernel) (pa_cons (pe_op op_add (pe_op op_mul (pv 3) pe_int) pe_int) pa_nil)) pe_int))
      (pss_cons (ps_for PassesOwn.never rfl (pi_range1 rfl T.range (pa_cons (pv 1) pa_nil)) (pg_name (i := 5) nd rfl (.inl rfl))
        (pss_cons (ps_set (i := 4) nd rfl (.inl rfl) (pe_op op_mod (pe_callTy call_int1 (by rfl) T.int (by decide +kernel) (pa_cons (pe_op op_add (pe_op op_mul (pv 4) pe_int) (pe_op op_mul pe_int (pe_op op_add (pv 5) pe_int))) pa_nil)) pe_int))
        (pss_one (ps_if (pt_cmpR op_ge (pe_callB call_abs rfl T.abs (by decide +kernel) (pa_cons (pv 0) pa_nil)) (pe_op op_pow pe_int pe_int) (by rfl))
          (pss_cons (ps_expr (pe_bm PySem.F.plainAttrs_list PySem.F.slot_list_append PySem.F.type_list_append mt_append (pv 2) (pa_cons (pe_op op_mod (pe_callTy call_int1 (by rfl) T.int (by decide +kernel) (pa_cons (pv 3) pa_nil)) pe_int) pa_nil)))
          (pss_one (ps_set (i := 3) nd rfl (.inl rfl) (pe_op op_fdiv (pv 3) pe_int))))
          (pss_one (ps_expr (pe_bm PySem.F.plainAttrs_list PySem.F.slot_list_append PySem.F.type_list_append mt_append (pv 2) (pa_cons (pe_op op_mod (pe_callTy call_int1 (by rfl) T.int (by decide +kernel) (pa_cons (pe_op op_fdiv (pv 4) pe_int) pa_nil)) pe_int) pa_nil))))))))
      (pss_one (ps_ret (pv 2)))))), ?_⟩
    refine ⟨small (n := 0) (by decide), fun p hp => ?_⟩
    refine ⟨_, rfl, z, rfl, ?_⟩
    refine ⟨_, rfl, _, _, rfl, rfl, .inr ⟨by decide, by decide⟩, _, _, rfl, rfl, .inl ⟨_, rfl, _, _, rfl, rfl, (show (0 : Int) < 2147483647 by decide), ?_⟩⟩
    refine ⟨_, rfl, (m : Int), rfl, by omega, by omega, ?_⟩
    have hcnt : (m : Int).toNat = m := by omega
    rw [hcnt]
    refine for_it walk_range (fun i σ H2 => ∃ r x o ns, σ = [some (.int z), some (.int (m : Int)), some (.ref p), some (.int r), some (.int x), o] ∧ Same H H2 ∧ H2 p = some (.lst (ns.map V.int)) ∧ ns.length = i ∧ Nums ns)
      ⟨_, _, none, [], rfl, Same.new hp, upd_same, rfl, fun z hz => by simp at hz⟩ (fun _ _ _ _ _ => True.intro) ?_ ?_
    · rintro i y σ H2 H3 hi ⟨r, x, o, ns, rfl, s2, hp2, hl, hN⟩ ⟨rfl, rfl⟩
      refine ⟨_, rfl, _, _, rfl, rfl, .inr ⟨by decide, by decide⟩, _, rfl, _, _, rfl, rfl, _, _, rfl, rfl, .inl ⟨by decide, by decide⟩, _, _, rfl, rfl, .inl ⟨_, rfl, _, _, rfl, rfl, (show (0 : Int) < 2147483629 by decide), ?_⟩⟩
      refine ⟨_, rfl, z, rfl, _, _, rfl, rfl, ⟨by decide, by decide, by decide⟩, _, _, rfl, rfl, _, rfl, ?_⟩
      refine ite_any ?_ ?_
      · refine ⟨_, rfl, .inl ⟨rfl, _, SqL.of hp2⟩, _, rfl, .inl ⟨_, rfl, _, _, rfl, rfl, (show (0 : Int) < 1009 by decide), ?_⟩⟩
        refine ⟨p, _, _, rfl, rfl, hp2, smallL (by rw [List.length_map]; omega), ?_⟩
        refine ⟨_, rfl, _, _, rfl, rfl, ⟨by decide, by decide⟩, ?_⟩
        refine ⟨_, _, _, ns ++ [r % 1009], rfl, s2.chg hp, ?_, by rw [List.length_append, hl]; rfl, hN.snoc (Int.emod_nonneg _ (by decide)) (Int.emod_lt_of_pos _ (by decide))⟩
        rw [upd_same, List.map_append]
        rfl
      · refine ⟨_, rfl, .inl ⟨rfl, _, SqL.of hp2⟩, _, rfl, _, _, rfl, rfl, ⟨by decide, by decide⟩, .inl ⟨_, rfl, _, _, rfl, rfl, (show (0 : Int) < 1009 by decide), ?_⟩⟩
        refine ⟨p, _, _, rfl, rfl, hp2, smallL (by rw [List.length_map]; omega), ?_⟩
        refine ⟨_, _, _, ns ++ [(x * 16807 + 271 * (0 + (i : Int) + 3)) % 2147483629 / 7 % 1009], rfl, s2.chg hp, ?_, by rw [List.length_append, hl]; rfl, hN.snoc (Int.emod_nonneg _ (by decide)) (Int.emod_lt_of_pos _ (by decide))⟩
        rw [upd_same, List.map_append]
        rfl
    · rintro σ H2 ⟨r, x, o, ns, rfl, s2, hp2, hl, hN⟩
      exact ⟨_, rfl, k p H2 ns s2 hp hp2 hl hN⟩
/-! ### _law_numbers -/
def spLawNumbers (K : PySem.W.Frag) : Sp := fun vs H Q _ => ∃ (a : Addr) (zs : List Int), vs = [.ref a, .int 120] ∧ SqL K H a (zs.map V.int) ∧ zs.length ≤ 63 ∧ ∀ p H' ns, H' p = some (.lst (ns.map V.int)) → ns.length = 120 → Nums ns → Q (.ref p) H'
theorem scLawNumbers : FnScope ["_law_script", "_law_many", "_law_cells", "_law_each", "_law_numbers_here", "_law_cell", "_law_number"] ["_law_script", "_law_many"] (defScope sLawNumbers) := ⟨rfl, rfl, rfl, by decide +kernel, rfl, by decide +kernel, by decide +kernel⟩
theorem Nums.app {ns ms : List Int} (h : Nums ns) (g : Nums ms) : Nums (ns ++ ms) := fun y hy => (List.mem_append.mp hy).elim (h y) (g y)
theorem ok_law_numbers {f : Addr} {fd : FuncData} (F : Fun K "_law_numbers" "_law_numbers" sLawNumbers f fd) (T : Txt K mg C) (cR : Cal P w K mg base 1 "_law_row" ["_law_cell", "_law_many"] spLawRow) : FnOk P w K mg base CX0 2 f fd ["_law_script", "_law_many"] (spLawNumbers K) := by
  refine F.ok scLawNumbers (fun vs H Q E h => ?_) (fun cdv A outer s H vs Q E hr h => ?_)
  · obtain ⟨a, zs, rfl, _⟩ := h
    rfl
  · obtain ⟨a, zs, rfl, ha, hl, k⟩ := h
    have nd := scLawNumbers.nd
    refine ⟨_, pss_cons (ps_set (i := 2) nd rfl (.inl rfl) (pe_slice sl_list (pv 0) po_none (po_some pe_int)))
      (pss_cons (ps_set (i := 3) nd rfl (.inl rfl) (pe_op op_add pe_int (pe_op op_fdiv (pv 1) (pe_callB (call_max2 rfl) rfl T.max (by decide +kernel) (pa_cons pe_int (pa_cons (pe_len T.len (pv 2)) pa_nil))))))
      (pss_cons (ps_set (i := 4) nd rfl (.inl rfl) (pe_lst pa_nil))
      (pss_cons (ps_for PassesOwn.never rfl (pi_list (pv 2)) (pg_name (i := 5) nd rfl (.inl rfl))
        (pss_one (ps_for PassesOwn.never rfl (pi_list (pe_cal cR hr (pa_cons (pv 5) (pa_cons (pv 3) pa_nil)))) (pg_name (i := 6) nd rfl (.inl rfl))
          (pss_one (ps_expr (pe_bm PySem.F.plainAttrs_list PySem.F.slot_list_append PySem.F.type_list_append mt_append (pv 4) (pa_cons (pv 6) pa_nil)))))))
      (pss_cons (ps_while PassesOwn.never (pt_cmpR op_lt (pe_len T.len (pv 4)) (pv 1) (by rfl))
        (pss_one (ps_expr (pe_bm PySem.F.plainAttrs_list PySem.F.slot_list_append PySem.F.type_list_append mt_append (pv 4) (pa_cons pe_int pa_nil)))))
      (pss_one (ps_ret (pe_slice sl_list (pv 4) po_none (po_some (pv 1))))))))), ?_⟩
    refine ⟨_, rfl, 63, rfl, a, _, rfl, ha, fun c hc => ?_⟩
    have hcut : cutV (zs.map V.int) none (some 63) = zs.map V.int := by
      unfold cutV
      rw [HT.sIx_none, show (some (63 : Int)) = some ((63 : Nat) : Int) from rfl, HT.sIx_nat, List.drop_zero, List.length_map, Nat.min_eq_right hl, Nat.sub_zero]
      exact List.take_of_length_le (by rw [List.length_map]; exact Nat.le_refl _)
    rw [hcut]
    have c1 : (upd H c (.lst (zs.map V.int))) c = some (.lst (zs.map V.int)) := upd_same
    generalize (upd H c (.lst (zs.map V.int))) = H1 at c1 ⊢
    refine ⟨_, rfl, _, rfl, _, _, rfl, lenV_of (.inl c1), _, _, rfl, ?_⟩
    rw [List.length_map]
    have hmx : ∃ m : Nat, (if (zs.length : Int) > 1 then (zs.length : Int) else 1) = (m : Int) ∧ 1 ≤ m ∧ m ≤ 63 := by
      by_cases e : (zs.length : Int) > 1
      · exact ⟨zs.length, by rw [if_pos e], by omega, by omega⟩
      · exact ⟨1, by rw [if_neg e]; rfl, by omega, by omega⟩
    obtain ⟨m, hm, m1, m2⟩ := hmx
    rw [hm]
    refine ⟨_, _, rfl, rfl, ⟨by omega, by omega⟩, _, _, rfl, rfl, ?_⟩
    have hea : ∃ e : Nat, (1 : Int) + 120 / (m : Int) = (e : Int) ∧ e ≤ 121 := by
      have h1 : (0 : Int) ≤ 120 / (m : Int) := Int.ediv_nonneg (by decide) (by omega)
      have h2 : (120 : Int) / (m : Int) ≤ 120 := Int.ediv_le_self _ (by decide)
      exact ⟨(1 + 120 / (m : Int)).toNat, by omega, by omega⟩
    obtain ⟨e, he, e2⟩ := hea
    dsimp only
    rw [he]
    refine ⟨small (n := 0) (by decide), fun p hp => ?_⟩
    have hcp : c ≠ p := ne_of_none c1 hp
    refine ⟨_, rfl, c, rfl, ⟨_, SqL.of ((upd_ne hcp).trans c1)⟩, ?_⟩
    refine for_it (walk_list (K := K) (a := c) (xs := zs.map V.int)) (fun i σ H2 => ∃ o5 o6 ns, σ = [some (.ref a), some (.int 120), some (.ref c), some (.int (e : Int)), some (.ref p), o5, o6] ∧ H2 c = some (.lst (zs.map V.int)) ∧ H2 p = some (.lst (ns.map V.int)) ∧ ns.length = i * e ∧ Nums ns)
      ⟨none, none, [], rfl, (upd_ne hcp).trans c1, upd_same, by simp, fun z hz => by simp at hz⟩ (fun i σ H2 _ ⟨_, _, _, _, h2, _⟩ => SqL.of h2) ?_ ?_
    · rintro i y σ H2 H3 hi ⟨o5, o6, ns, rfl, hc2, hp2, hln, hN⟩ ⟨rfl, hy⟩
      rw [List.getElem?_map] at hy
      obtain ⟨z, hz, rfl⟩ := Option.map_eq_some_iff.mp hy
      rw [List.length_map] at hi
      have hb : i * e ≤ 63 * 121 := Nat.mul_le_mul (by omega) e2
      refine ⟨_, rfl, _, rfl, z, e, rfl, by omega, fun q H4 ms s4 hq hq4 hlm hM => ?_⟩
      have hpq : p ≠ q := ne_of_none hp2 hq
      have hcq : c ≠ q := ne_of_none hc2 hq
      refine ⟨q, rfl, ⟨_, SqL.of hq4⟩, ?_⟩
      refine for_it (walk_list (K := K) (a := q) (xs := ms.map V.int)) (fun j σ H5 => ∃ o6, σ = [some (.ref a), some (.int 120), some (.ref c), some (.int (e : Int)), some (.ref p), some (.int z), o6] ∧ H5 c = some (.lst (zs.map V.int)) ∧ H5 q = some (.lst (ms.map V.int)) ∧ H5 p = some (.lst ((ns ++ ms.take j).map V.int)))
        ⟨o6, rfl, s4 _ _ hc2, hq4, by simpa using s4 _ _ hp2⟩ (fun j σ H5 _ ⟨_, _, _, h5, _⟩ => SqL.of h5) ?_ ?_
      · rintro j y σ H5 H6 hj ⟨o6, rfl, hc5, hq5, hp5⟩ ⟨rfl, hy⟩
        rw [List.getElem?_map] at hy
        obtain ⟨x, hx, rfl⟩ := Option.map_eq_some_iff.mp hy
        refine ⟨_, rfl, .inl ⟨rfl, _, SqL.of hp5⟩, _, rfl, ?_⟩
        refine ⟨p, _, _, rfl, rfl, hp5, smallL (by rw [List.length_map, List.length_append, List.length_take]; omega), ?_⟩
        refine ⟨_, rfl, (upd_ne hcp).trans hc5, (upd_ne hpq.symm).trans hq5, ?_⟩
        rw [upd_same, take_snoc hx, ← List.append_assoc, List.map_append (l₂ := [x])]
        rfl
      · rintro σ H5 ⟨o6, rfl, hc5, hq5, hp5⟩
        rw [List.length_map, List.take_length] at hp5
        exact ⟨_, _, ns ++ ms, rfl, hc5, hp5, by rw [List.length_append, hln, hlm, Nat.succ_mul], hN.app hM⟩
    · rintro σ H2 ⟨o5, o6, ns, rfl, hc2, hp2, hln, hN⟩
      rw [List.length_map] at hln
      have hb : zs.length * e ≤ 63 * 121 := Nat.mul_le_mul hl e2
      refine ⟨fun m σ H3 => ∃ ls, m = 120 - ls.length ∧ ls.length ≤ 10000 ∧ σ = [some (.ref a), some (.int 120), some (.ref c), some (.int (e : Int)), some (.ref p), o5, o6] ∧ H3 p = some (.lst (ls.map V.int)) ∧ Nums ls, ⟨_, ns, rfl, by omega, rfl, hp2, hN⟩, ?_⟩
      rintro m σ H3 ⟨ls, rfl, hll, rfl, hp3, hL⟩
      refine ⟨_, rfl, _, _, rfl, lenV_of (.inl hp3), _, rfl, _, _, rfl, rfl, _, rfl, ?_⟩
      rw [List.length_map]
      by_cases hlt : (ls.length : Int) < 120
      · rw [decide_eq_true hlt]
        refine iteT ⟨_, fun _ _ n => n, _, rfl, .inl ⟨rfl, _, SqL.of hp3⟩, p, _, .int 0, rfl, rfl, hp3, smallL (by rw [List.length_map]; omega), ?_⟩
        refine ⟨120 - (ls ++ [0]).length, by rw [List.length_append, List.length_singleton]; omega, ls ++ [0], rfl, by rw [List.length_append, List.length_singleton]; omega, rfl, ?_, hL.snoc (by decide) (by decide)⟩
        rw [upd_same, List.map_append]
        rfl
      · rw [decide_eq_false hlt]
        refine iteF ⟨_, rfl, _, rfl, 120, rfl, p, _, rfl, SqL.of hp3, fun q hq => ?_⟩
        have hcut2 : cutV (ls.map V.int) none (some 120) = (ls.take 120).map V.int := by
          unfold cutV
          rw [HT.sIx_none, show (some (120 : Int)) = some ((120 : Nat) : Int) from rfl, HT.sIx_nat, List.drop_zero, List.length_map, Nat.min_eq_left (by omega), Nat.sub_zero, List.map_take]
        rw [hcut2]
        exact k q _ (ls.take 120) upd_same (by rw [List.length_take]; omega) fun z hz => hL z (List.mem_of_mem_take hz)
end
end FW

/-! FhL2: the law's names. -/
namespace FW
open PySem L2 FR FH
/-! ### texts as lists of codes -/
def AllIn (z : Str) : Prop := ∀ c ∈ z.cps.toList, c ∈ chars
theorem chars_len : chars.length = 36 := by decide +kernel
theorem at_ch {x m : Int} (h0 : 0 < m) (h1 : m ≤ 36) : ∃ c, atI chars (x % m) = some c ∧ chars[(x % m).toNat]? = some c := by
  have a := Int.emod_nonneg x (show m ≠ 0 by omega)
  have b := Int.emod_lt_of_pos x h0
  have hl := chars_len
  have hi : ixN chars.length (x % m) = some (x % m).toNat := by
    unfold ixN
    rw [if_pos a, if_pos (by rw [hl]; omega)]
  refine ⟨chars[(x % m).toNat]'(by omega), ?_, List.getElem?_eq_getElem _⟩
  unfold atI
  rw [hi]
  exact List.getElem?_eq_getElem _
theorem heads : ∀ i, i < 26 → chars[i]? = some (97 + i) := by decide +kernel
theorem nodig : ∀ i, i < 26 → 97 + i ∉ digits := by decide +kernel
theorem cl_app (a b : Str) : (a ++ b).cps.toList = a.cps.toList ++ b.cps.toList := Array.toList_append
theorem cl_to (z : Str) (s : Nat) : (cutS z none (some (s : Int))).cps.toList = z.cps.toList.take s := by
  unfold cutS
  rw [HT.sIx_none, HT.sIx_nat, List.drop_zero, Nat.sub_zero]
  show z.cps.toList.take (min s z.length) = _
  have e : z.length = z.cps.toList.length := by simp [Str.length]
  rw [e]
  by_cases h : s ≤ z.cps.toList.length
  · rw [Nat.min_eq_left h]
  · rw [Nat.min_eq_right (by omega), List.take_length, List.take_of_length_le (by omega)]
theorem cl_from (z : Str) (s : Nat) : (cutS z (some (s : Int)) none).cps.toList = z.cps.toList.drop s := by
  unfold cutS
  rw [HT.sIx_none, HT.sIx_nat]
  show (z.cps.toList.drop (min s z.length)).take (z.length - min s z.length) = _
  have e : z.length = z.cps.toList.length := by simp [Str.length]
  rw [e, List.take_of_length_le (by rw [List.length_drop]; exact Nat.le_refl _)]
  by_cases h : s ≤ z.cps.toList.length
  · rw [Nat.min_eq_left h]
  · rw [Nat.min_eq_right (by omega), List.drop_length, List.drop_of_length_le (by omega)]
theorem len_cl (z : Str) : z.length = z.cps.toList.length := by simp [Str.length]
theorem join_single : ∀ cs : List Nat, TL.joinL [] (cs.map fun c => [c]) = cs
  | [] => rfl
  | [c] => rfl
  | c :: d :: r => by
    have ih := join_single (d :: r)
    show [c] ++ ([] ++ TL.joinL [] ((d :: r).map fun c => [c])) = _
    rw [ih]
    rfl
theorem cl_join (cs : List Nat) : (Txt.join ("" : Str) (cs.map fun c => (⟨#[c]⟩ : Str))).cps.toList = cs := by
  rw [TL.join_eq]
  have e := TL.tl_join ("" : Str) (cs.map fun c => (⟨#[c]⟩ : Str))
  have e2 : TL.tl ("" : Str) = [] := by decide +kernel
  rw [e2, List.map_map] at e
  exact e.trans (join_single cs)
/-- a name as the law writes it -/
def nameOf (own : Str) (c1 c2 s : Nat) : Str := (⟨#[c1]⟩ ++ cutS own none (some (s : Int))) ++ ⟨#[c2]⟩ ++ cutS own (some (s : Int)) none
theorem cl_name (own : Str) (c1 c2 s : Nat) : (nameOf own c1 c2 s).cps.toList = c1 :: (own.cps.toList.take s ++ c2 :: own.cps.toList.drop s) := by
  unfold nameOf
  rw [cl_app, cl_app, cl_app, cl_to, cl_from]
  simp
theorem name_ok {own : Str} {c1 c2 s : Nat} (ha : AllIn own) (hl : own.length ≤ 10) (h1 : c1 ∈ chars) (h2 : c2 ∈ chars) (hd : c1 ∉ digits) : NameOk (nameOf own c1 c2 s) := by
  have e := cl_name own c1 c2 s
  have hl' : (nameOf own c1 c2 s).length = own.length + 2 := by
    rw [len_cl, e, len_cl, List.length_cons, List.length_append, List.length_cons, List.length_take, List.length_drop]
    omega
  refine ⟨by omega, by omega, ⟨c1, by rw [e]; rfl, hd⟩, fun c hc => ?_⟩
  rw [e] at hc
  rcases List.mem_cons.mp hc with h | h
  · rw [h]; exact h1
  · rcases List.mem_append.mp h with h | h
    · exact ha c (List.mem_of_mem_take h)
    · rcases List.mem_cons.mp h with h | h
      · rw [h]; exact h2
      · exact ha c (List.mem_of_mem_drop h)
/-- the names: each in its form, the heads by their places -/
structure NamesAre (n : Int) (zs : List Str) : Prop where
  at_ : ∀ (j : Nat) z, zs[j]? = some z → NameOk z ∧ z.cps.toList[0]? = some (97 + ((n + 3 * (j : Int)) % 26).toNat)
theorem NamesAre.nd {n : Int} {zs : List Str} (h : NamesAre n zs) (hl : zs.length ≤ 4) : zs.Nodup := by
  refine List.pairwise_iff_getElem.mpr fun i j hi hj hij e => ?_
  obtain ⟨_, a⟩ := h.at_ i zs[i] (List.getElem?_eq_getElem hi)
  obtain ⟨_, b⟩ := h.at_ j zs[j] (List.getElem?_eq_getElem hj)
  rw [e, b] at a
  have := Option.some.inj a
  omega
theorem NamesAre.ok {n : Int} {zs : List Str} (h : NamesAre n zs) : ∀ z ∈ zs, NameOk z := fun z hz => by
  obtain ⟨j, hj, e⟩ := List.mem_iff_getElem.mp hz
  exact (h.at_ j z (by rw [← e]; exact List.getElem?_eq_getElem hj)).1
theorem NamesAre.snoc {n : Int} {zs : List Str} {z : Str} (h : NamesAre n zs) (hz : NameOk z) (hd : z.cps.toList[0]? = some (97 + ((n + 3 * (zs.length : Int)) % 26).toNat)) : NamesAre n (zs ++ [z]) := by
  refine ⟨fun j y hj => ?_⟩
  by_cases e : j < zs.length
  · rw [List.getElem?_append_left e] at hj
    exact h.at_ j y hj
  · rw [List.getElem?_append_right (by omega)] at hj
    have e2 : j - zs.length = 0 := by
      have := (List.getElem?_eq_some_iff.mp hj).1
      simp at this
      exact this
    rw [e2] at hj
    have : z = y := by simpa using hj
    subst this
    rw [show j = zs.length by omega]
    exact ⟨hz, hd⟩
theorem gNameI {i : Nat} {x : V} {σ : L2.St} {H : Hp} {Q : L2.St → Hp → Prop} (h : Q (σ.set i (some x)) H) : gName i x σ H Q := h
theorem ifS_any {c : TT} {t u : TS} {D : Ends} {σ : L2.St} {H : Hp} (R : L2.St → Hp → Prop) (hc : ∀ Q : Bool → Hp → Prop, (∀ b, Q b H) → c σ H Q) (ht : ∀ D' : Ends, (∀ σ H, R σ H → D'.nx σ H) → t D' σ H) (hu : ∀ D' : Ends, (∀ σ H, R σ H → D'.nx σ H) → u D' σ H)
    (hn : ∀ σ H, R σ H → D.nx σ H) : tIfS c t u D σ H := hc _ fun b => by
  cases b
  · exact iteF (hu D hn)
  · exact iteT (ht D hn)
section
variable {P : Program} {w : World} {K : PySem.W.Frag} {mg : Str → Option Value} {base : Heap} {C : Addr}
def spLawNames : Sp := fun vs H Q _ => ∃ (n : Int) (m : Nat), vs = [.int n, .int (m : Int)] ∧ 0 ≤ n ∧ n < 1009 ∧ m ≤ 4 ∧ ∀ p H' (zs : List Str), Same H H' → H p = none → H' p = some (.lst (zs.map V.str)) → zs.length = m → zs.Nodup → (∀ z ∈ zs, NameOk z) → Q (.ref p) H'
theorem scLawNames : FnScope ["_law_number", "_law_many", "_law_letters", "_law_size", "_law_k", "_law_rest", "_law_place", "_law_names_here", "_law_own", "_law_spot", "_law_step", "_law_first"] ["_law_number", "_law_many"] (defScope sLawNames) := ⟨rfl, rfl, rfl, by decide +kernel, rfl, by decide +kernel, by decide +kernel⟩
theorem ok_law_names {f : Addr} {fd : FuncData} (F : Fun K "_law_names" "_law_names" sLawNames f fd) (T : Txt K mg C) : FnOk P w K mg base CX0 1 f fd ["_law_number", "_law_many"] spLawNames := by
  refine F.ok scLawNames (fun vs H Q E h => ?_) (fun cdv A outer s H vs Q E hr h => ?_)
  · obtain ⟨n, m, rfl, _⟩ := h
    rfl
  · obtain ⟨n, m, rfl, n0, n1, hm, k⟩ := h
    have nd := scLawNames.nd
    refine ⟨_, pss_cons (ps_set (i := 2) nd rfl (.inr rfl) pe_str)
      (pss_cons (ps_set (i := 3) nd rfl (.inl rfl) (pe_op op_mod (pe_callTy call_int1 (by rfl) T.int (by decide +kernel) (pa_cons (pv 0) pa_nil)) pe_int))
      (pss_cons (ps_set (i := 5) nd rfl (.inl rfl) (pe_join pe_str
        (pe_lc (own := [("_law_k", 4)]) (g := gName 4) (tt := tYes) (te := tOp rIxS (tVar 2) (tOp (rI (fun _ j => 0 < j) fun i j => .int (i % j)) (tCB (fun xs H Q => (∃ i, xs = [.int i] ∧ Q (.int i) H) ∨ ∃ k, xs = [.bl k] ∧ Q (.int (if k then 1 else 0)) H)
            (tCons (tOp (rI0 fun i j => .int (i + j)) (tVar 0) (tOp (rI CMul fun i j => .int (i * j)) (tOp (rI CMul fun i j => .int (i * j)) (tC (.int 7)) (tVar 4)) (tVar 4))) tNil)) (tC (.int 36)))) rfl nd (pi_range1 rfl T.range (pa_cons (pv 3) pa_nil))
          (blkOk_by (N := ["_law_number", "_law_many", "_law_letters", "_law_size", "_law_k", "_law_rest", "_law_place", "_law_names_here", "_law_own", "_law_spot", "_law_step", "_law_first"]) (sc := defScope sLawNames) (by decide +kernel)) (fun _ _ _ _ _ => pg_name (i := 4) nd rfl (.inl rfl)) (fun _ _ _ _ _ => pts_nil)
          (fun _ _ _ _ _ => by exact pe_ix ix_str (pv 2) (pe_op op_mod (pe_callTy call_int1 (by rfl) T.int (by decide +kernel) (pa_cons (pe_op op_add (pv 0) (pe_op op_mul (pe_op op_mul pe_int (pv 4)) (pv 4))) pa_nil)) pe_int) (fun _ _ => rfl)))))
      (pss_cons (ps_set (i := 6) nd rfl (.inl rfl) (pe_op op_mod (pe_callTy call_int1 (by rfl) T.int (by decide +kernel) (pa_cons (pe_op op_fdiv (pv 0) pe_int) pa_nil)) (pe_op op_add (pv 3) pe_int)))
      (pss_cons (ps_set (i := 7) nd rfl (.inl rfl) (pe_lst pa_nil))
      (pss_cons (ps_for PassesOwn.never rfl (pi_range1 rfl T.range (pa_cons (pv 1) pa_nil)) (pg_name (i := 4) nd rfl (.inl rfl))
        (pss_cons (ps_set (i := 8) nd rfl (.inl rfl) (pv 5))
        (pss_cons (ps_if (pt_cmpR op_eq (pe_op op_mod (pe_callTy call_int1 (by rfl) T.int (by decide +kernel) (pa_cons (pe_op op_add (pe_op op_fdiv (pv 0) pe_int) (pv 4)) pa_nil)) pe_int) pe_int (nomark _)) (pss_one (ps_set (i := 8) nd rfl (.inl rfl) (pe_slice sl_str (pv 5) (po_some pe_int) po_none))) pss_nil)
        (pss_cons (ps_set (i := 9) nd rfl (.inl rfl) (pe_callB (call_min2 rfl) rfl T.min (by decide +kernel) (pa_cons (pv 6) (pa_cons (pe_len T.len (pv 8)) pa_nil))))
        (pss_cons (ps_set (i := 10) nd rfl (.inl rfl) pe_int)
        (pss_cons (ps_if (pt_cmpR op_eq (pe_op op_mod (pe_callTy call_int1 (by rfl) T.int (by decide +kernel) (pa_cons (pe_op op_fdiv (pv 0) pe_int) pa_nil)) pe_int) pe_int (nomark _)) (pss_one (ps_set (i := 10) nd rfl (.inl rfl) pe_int)) pss_nil)
        (pss_cons (ps_set (i := 11) nd rfl (.inl rfl) (pe_op op_add_str (pe_ix ix_str (pv 2) (pe_op op_mod (pe_callTy call_int1 (by rfl) T.int (by decide +kernel) (pa_cons (pe_op op_add (pv 0) (pe_op op_mul pe_int (pv 4))) pa_nil)) pe_int) (fun _ _ => rfl)) (pe_slice sl_str (pv 8) po_none (po_some (pv 9)))))
        (pss_one (ps_expr (pe_bm PySem.F.plainAttrs_list PySem.F.slot_list_append PySem.F.type_list_append mt_append (pv 7) (pa_cons
          (pe_op op_add_str (pe_op op_add_str (pv 11) (pe_ix ix_str (pv 2) (pe_op op_mod (pe_callTy call_int1 (by rfl) T.int (by decide +kernel) (pa_cons (pe_op op_add (pv 0) (pe_op op_mul (pv 10) (pv 4))) pa_nil)) pe_int) (fun _ _ => rfl))) (pe_slice sl_str (pv 8) (po_some (pv 9)) po_none)) pa_nil)))))))))))
      (pss_one (ps_ret (pv 7)))))))), ?_⟩
    -- size
    refine ⟨_, rfl, .inl ⟨_, rfl, _, _, rfl, rfl, (show (0 : Int) < 11 by decide), ?_⟩⟩
    have hsz : ∃ sz : Nat, n % 11 = (sz : Int) ∧ sz ≤ 10 := ⟨(n % 11).toNat, by omega, by omega⟩
    obtain ⟨sz, esz, hsz⟩ := hsz
    dsimp only
    rw [esz]
    -- the rest of a name
    refine ⟨⟨_, rfl⟩, _, rfl, (sz : Int), rfl, by omega, by omega, fun D hD => ?_⟩
    have hcnt : (sz : Int).toNat = sz := by omega
    rw [hcnt]
    refine lc_it walk_range (fun i H2 => ∃ cs : List Nat, Same H H2 ∧ H2 D = some (.lst ((cs.map fun c => (⟨#[c]⟩ : Str)).map V.str)) ∧ cs.length = i ∧ ∀ c ∈ cs, c ∈ chars) ⟨[], Same.new hD, upd_same, rfl, fun c hc => by simp at hc⟩ (fun _ _ _ _ => True.intro) ?_ ?_
    · rintro i y H2 H3 hi ⟨cs, s2, hD2, hl, hcs⟩ ⟨rfl, rfl⟩
      obtain ⟨c, hc, hc2⟩ := at_ch (x := n + 7 * (0 + (i : Int)) * (0 + (i : Int))) (m := 36) (by decide) (by decide)
      refine ⟨rfl, yesT ⟨_, rfl, _, rfl, _, rfl, _, _, rfl, rfl, .inl ⟨by decide, by decide⟩, _, rfl, _, _, rfl, rfl, .inr ⟨by omega, by omega⟩, _, _, rfl, rfl, .inl ⟨_, rfl, _, _, rfl, rfl, (show (0 : Int) < 36 by decide), ?_⟩⟩⟩
      refine ⟨_, _, c, rfl, rfl, small (n := 36) (by decide +kernel), hc, ?_⟩
      refine ⟨_, hD2, smallL (by rw [List.length_map, List.length_map]; omega), cs ++ [c], s2.chg hD, ?_, by rw [List.length_append, hl]; rfl, fun d hd => ?_⟩
      · rw [upd_same, List.map_append, List.map_append]
        rfl
      · rcases List.mem_append.mp hd with h | h
        · exact hcs d h
        · rw [List.mem_singleton.mp h]
          exact List.mem_of_getElem? hc2
    rintro H1 ⟨cs, s1, hD1, hl, hcs⟩
    refine ⟨_, _, cs.map fun c => (⟨#[c]⟩ : Str), rfl, rfl, .inl (SqL.of hD1), ?_, ?_⟩
    · have e : ((cs.map fun c => (⟨#[c]⟩ : Str)).map (·.length)).sum = cs.length := by
        rw [List.map_map]
        have : ∀ l : List Nat, (l.map ((·.length) ∘ fun c => (⟨#[c]⟩ : Str))).sum = l.length := fun l => by
          induction l with
          | nil => rfl
          | cons c l ih => rw [List.map_cons, List.sum_cons, ih, List.length_cons]; show 1 + _ = _; omega
        exact this cs
      rw [e, List.length_map]
      show cs.length + cs.length * 0 ≤ 16777216
      omega
    have hrest := cl_join cs
    generalize Txt.join ("" : Str) (cs.map fun c => (⟨#[c]⟩ : Str)) = r at hrest ⊢
    have rA : AllIn r := fun c hc => hcs c (by rw [hrest] at hc; exact hc)
    have rL : r.length ≤ 10 := by rw [len_cl, hrest]; omega
    -- place
    refine ⟨_, rfl, _, _, rfl, rfl, ⟨by decide, by decide⟩, .inl ⟨_, rfl, ?_⟩⟩
    refine ⟨_, rfl, _, _, rfl, rfl, _, _, rfl, rfl, (show (0 : Int) < (sz : Int) + 1 by omega), ?_⟩
    have hpl : ∃ pl : Nat, n / 11 % ((sz : Int) + 1) = (pl : Int) := ⟨(n / 11 % ((sz : Int) + 1)).toNat, by
      have := Int.emod_nonneg (n / 11) (show (sz : Int) + 1 ≠ 0 by omega)
      omega⟩
    obtain ⟨pl, epl⟩ := hpl
    dsimp only
    rw [epl]
    refine ⟨small (n := 0) (by decide), fun p hp => ?_⟩
    have hpH : H p = none := s1.free hp
    refine ⟨_, rfl, (m : Int), rfl, by omega, by omega, ?_⟩
    have hcnt2 : (m : Int).toNat = m := by omega
    rw [hcnt2]
    refine for_it walk_range (fun i σ H2 => ∃ o4 o8 o9 o10 o11 zs, σ = [some (.int n), some (.int (m : Int)), some (.str "abcdefghijklmnopqrstuvwxyz0123456789"), some (.int (sz : Int)), o4, some (.str r), some (.int (pl : Int)), some (.ref p), o8, o9, o10, o11] ∧ Same H H2 ∧ H2 p = some (.lst (zs.map V.str)) ∧ zs.length = i ∧ NamesAre n zs)
      ⟨_, _, _, _, _, [], rfl, s1.trans (Same.new hp), upd_same, rfl, ⟨fun j z hz => by simp at hz⟩⟩ (fun _ _ _ _ _ => True.intro) ?_ ?_
    · rintro i y σ H2 H3 hi ⟨o4, o8, o9, o10, o11, zs, rfl, s2, hp2, hlz, hN⟩ ⟨rfl, rfl⟩
      refine ⟨_, rfl, ?_⟩
      refine gNameI ?_
      dsimp only
      refine seqI ?_
      show tIfS _ _ _ _ _ _
      refine ifS_any (fun σ' H' => ∃ own : Str, AllIn own ∧ own.length ≤ 10 ∧ H' = H3 ∧ σ' = [some (.int n), some (.int (m : Int)), some (.str "abcdefghijklmnopqrstuvwxyz0123456789"), some (.int (sz : Int)), some (.int (0 + (i : Int))), some (.str r), some (.int (pl : Int)), some (.ref p), some (.str own), o9, o10, o11]) ?_ ?_ ?_ ?_
      · intro Q q
        exact ⟨_, rfl, _, _, rfl, rfl, ⟨by decide, by decide⟩, _, rfl, _, _, rfl, rfl, .inl ⟨_, rfl, _, _, rfl, rfl, (show (0 : Int) < 3 by decide), rfl, _, rfl, q _⟩⟩
      · intro D' q
        refine ⟨_, rfl, 1, rfl, _, rfl, small (by omega), q _ _ ⟨cutS r (some 1) none, ?_, ?_, rfl, rfl⟩⟩
        · intro c hc
          have e := cl_from r 1
          rw [show cutS r (some 1) none = cutS r (some ((1 : Nat) : Int)) none from rfl, e] at hc
          exact rA c (List.mem_of_mem_drop hc)
        · have e := cl_from r 1
          rw [show cutS r (some 1) none = cutS r (some ((1 : Nat) : Int)) none from rfl, len_cl, e, List.length_drop]
          rw [len_cl] at rL
          omega
      · intro D' q
        exact q _ _ ⟨r, rA, rL, rfl, rfl⟩
      rintro σ2 H4 ⟨own, oA, oL, rfl, rfl⟩
      -- the spot
      refine ⟨_, rfl, _, rfl, _, _, rfl, ⟨small (by omega), rfl⟩, _, _, rfl, ?_⟩
      have hsp : ∃ sp : Nat, (if (own.length : Int) < (pl : Int) then (own.length : Int) else (pl : Int)) = (sp : Int) := by
        by_cases e : (own.length : Int) < (pl : Int)
        · exact ⟨own.length, by rw [if_pos e]⟩
        · exact ⟨pl, by rw [if_neg e]⟩
      obtain ⟨sp, esp⟩ := hsp
      rw [esp]
      refine gNameI ?_
      dsimp only
      refine seqI ?_
      show gName 10 (.int 5) _ _ _
      refine gNameI ?_
      dsimp only
      refine seqI ?_
      refine ifS_any (fun σ' H' => ∃ st : Int, 0 ≤ st ∧ st ≤ 31 ∧ H' = H4 ∧ σ' = [some (.int n), some (.int (m : Int)), some (.str "abcdefghijklmnopqrstuvwxyz0123456789"), some (.int (sz : Int)), some (.int (0 + (i : Int))), some (.str r), some (.int (pl : Int)), some (.ref p), some (.str own), some (.int (sp : Int)), some (.int st), o11]) ?_ ?_ ?_ ?_
      · intro Q q
        exact ⟨_, rfl, _, _, rfl, rfl, ⟨by decide, by decide⟩, .inl ⟨_, rfl, _, _, rfl, rfl, (show (0 : Int) < 2 by decide), rfl, _, rfl, q _⟩⟩
      · intro D' q
        exact q _ _ ⟨31, by decide, by decide, rfl, rfl⟩
      · intro D' q
        exact q _ _ ⟨5, by decide, by decide, rfl, rfl⟩
      rintro σ3 H5 ⟨st, st0, st1, rfl, rfl⟩
      -- the name
      obtain ⟨c1, hc1, hc1'⟩ := at_ch (x := n + 3 * (0 + (i : Int))) (m := 26) (by decide) (by decide)
      obtain ⟨c2, hc2, hc2'⟩ := at_ch (x := n + st * (0 + (i : Int))) (m := 36) (by decide) (by decide)
      have l1 : (⟨#[c1]⟩ : Str).length = 1 := rfl
      have l2 : (⟨#[c2]⟩ : Str).length = 1 := rfl
      have lto : (cutS own none (some (sp : Int))).length ≤ 10 := by
        rw [len_cl, cl_to, List.length_take]
        rw [len_cl] at oL
        omega
      have lfrom : (cutS own (some (sp : Int)) none).length ≤ 10 := by
        rw [len_cl, cl_from, List.length_drop]
        rw [len_cl] at oL
        omega
      have lapp : ∀ a b : Str, (a ++ b).length = a.length + b.length := fun a b => by rw [len_cl, cl_app, List.length_append, len_cl, len_cl]
      refine ⟨_, rfl, _, rfl, _, rfl, _, _, rfl, rfl, .inl ⟨by decide, by decide⟩, _, _, rfl, rfl, .inl ⟨_, rfl, _, _, rfl, rfl, (show (0 : Int) < 26 by decide), _, _, c1, rfl, rfl, small (n := 36) (by decide +kernel), hc1, ?_⟩⟩
      refine ⟨_, rfl, _, rfl, _, rfl, _, rfl, small (by omega), _, _, rfl, rfl, small (by omega), ?_⟩
      refine ⟨_, rfl, .inl ⟨rfl, _, SqL.of hp2⟩, _, rfl, _, rfl, _, rfl, _, rfl, _, rfl, _, _, rfl, rfl, .inl ⟨by omega, by omega⟩, _, _, rfl, rfl, .inl ⟨_, rfl, _, _, rfl, rfl, (show (0 : Int) < 36 by decide), _, _, c2, rfl, rfl, small (n := 36) (by decide +kernel), hc2, ?_⟩⟩
      refine ⟨_, _, rfl, rfl, small (by rw [lapp]; omega), _, rfl, _, rfl, _, rfl, _, rfl, small (by omega), _, _, rfl, rfl, small (by rw [lapp, lapp]; omega), ?_⟩
      refine ⟨p, _, _, rfl, rfl, hp2, smallL (by rw [List.length_map]; omega), ?_⟩
      have hi26 : (((n + 3 * (0 + (i : Int))) % 26).toNat) < 26 := by omega
      have e1 := heads _ hi26
      rw [e1] at hc1'
      have ec1 := Option.some.inj hc1'
      refine ⟨_, _, _, _, _, zs ++ [nameOf own c1 c2 sp], rfl, s2.chg hpH, ?_, by rw [List.length_append, hlz]; rfl, hN.snoc (name_ok oA oL (List.mem_of_getElem? (e1.trans (congrArg some ec1))) (List.mem_of_getElem? hc2') (ec1 ▸ nodig _ hi26)) ?_⟩
      · rw [upd_same, List.map_append]
        rfl
      · rw [cl_name, hlz, ← ec1, Int.zero_add]
        rfl
    · rintro σ H2 ⟨o4, o8, o9, o10, o11, zs, rfl, s2, hp2, hlz, hN⟩
      exact ⟨_, rfl, k p H2 zs s2 hpH hp2 hlz (hN.nd (by omega)) hN.ok⟩
end
end FW

/-! FhL3: words, a drawn rule, ways. -/
namespace FW
open PySem L2 FR FH
theorem at_list {α : Type} {xs : List α} {i : Int} (h0 : 0 ≤ i) (h1 : i < xs.length) : ∃ x, atI xs i = some x ∧ xs[i.toNat]? = some x := by
  have hi : ixN xs.length i = some i.toNat := by
    unfold ixN
    rw [if_pos h0, if_pos h1]
  refine ⟨xs[i.toNat]'(by omega), ?_, List.getElem?_eq_getElem _⟩
  unfold atI
  rw [hi]
  exact List.getElem?_eq_getElem _
theorem at_num {ns : List Int} {i : Int} (h : Nums ns) (h0 : 0 ≤ i) (h1 : i < ns.length) : ∃ z, atI (ns.map V.int) i = some (.int z) ∧ 0 ≤ z ∧ z < 1009 := by
  obtain ⟨x, a, b⟩ := at_list (xs := ns.map V.int) h0 (by rw [List.length_map]; exact h1)
  rw [List.getElem?_map] at b
  obtain ⟨z, hz, rfl⟩ := Option.map_eq_some_iff.mp b
  exact ⟨z, a, h z (List.mem_of_getElem? hz)⟩
/-- the numbers that a rule may write -/
structure Opt (s c : Nat) (os : List Int) : Prop where
  nd : os.Nodup
  lo : ∀ x ∈ os, (if c = 0 then 0 else 1) ≤ x ∧ x ≤ (s : Int)
  len : os.length = if c = 0 then s + 1 else s
theorem Opt.rot {s c : Nat} {os : List Int} (h : Opt s c os) (t : Nat) : Opt s c (os.drop t ++ os.take t) := by
  have p : (os.drop t ++ os.take t).Perm os := (List.perm_append_comm).trans (by rw [List.take_append_drop])
  exact ⟨p.nodup_iff.mpr h.nd, fun x hx => h.lo x (p.mem_iff.mp hx), p.length_eq.trans h.len⟩
theorem Opt.rev {s c : Nat} {os : List Int} (h : Opt s c os) : Opt s c os.reverse := by
  have p : os.reverse.Perm os := List.reverse_perm os
  exact ⟨p.nodup_iff.mpr h.nd, fun x hx => h.lo x (p.mem_iff.mp hx), p.length_eq.trans h.len⟩
theorem cutV_to (xs : List V) (t : Nat) : cutV xs none (some (t : Int)) = xs.take t := by
  unfold cutV
  rw [HT.sIx_none, HT.sIx_nat, List.drop_zero, Nat.sub_zero]
  by_cases h : t ≤ xs.length
  · rw [Nat.min_eq_left h]
  · rw [Nat.min_eq_right (by omega), List.take_length, List.take_of_length_le (by omega)]
theorem cutV_from (xs : List V) (t : Nat) : cutV xs (some (t : Int)) none = xs.drop t := by
  unfold cutV
  rw [HT.sIx_none, HT.sIx_nat, List.take_of_length_le (by rw [List.length_drop]; exact Nat.le_refl _)]
  by_cases h : t ≤ xs.length
  · rw [Nat.min_eq_left h]
  · rw [Nat.min_eq_right (by omega), List.drop_length, List.drop_of_length_le (by omega)]
/-- a drawn rule stands at v -/
def Drawn (B : PBk) (H : Hp) (s c : Nat) (v : V) : Prop := ∃ (n : Str) (ms : List Int) (t m : Addr), n ∈ B.P ∧ v = .ref t ∧ H t = some (.tup [.str n, .ref m]) ∧ H m = some (.tup (ms.map V.int)) ∧ ms.length = B.s n ∧ ms.Nodup ∧
  (∀ x ∈ ms, (if c = 0 then 0 else 1) ≤ x ∧ x ≤ (s : Int)) ∧ B.s n ≤ if c = 0 then s + 1 else s
theorem Drawn.mono {B : PBk} {H H' : Hp} {s c : Nat} {v : V} (e : Same H H') (h : Drawn B H s c v) : Drawn B H' s c v := by
  obtain ⟨n, ms, t, m, h1, h2, h3, h4, h5⟩ := h
  exact ⟨n, ms, t, m, h1, h2, e _ _ h3, e _ _ h4, h5⟩
theorem ifS_b {c : TT} {t u : TS} {D : Ends} {σ : L2.St} {H : Hp} (b : Bool) (R : L2.St → Hp → Prop) (hc : ∀ Q : Bool → Hp → Prop, Q b H → c σ H Q) (ht : b = true → ∀ D' : Ends, (∀ σ H, R σ H → D'.nx σ H) → t D' σ H) (hu : b = false → ∀ D' : Ends, (∀ σ H, R σ H → D'.nx σ H) → u D' σ H)
    (hn : ∀ σ H, R σ H → D.nx σ H) : tIfS c t u D σ H := hc _ (by
  cases b
  · exact iteF (hu rfl D hn)
  · exact iteT (ht rfl D hn))
section
variable {P : Program} {w : World} {K : PySem.W.Frag} {mg : Str → Option Value} {base : Heap} {C : Addr}
/-! ### _law_words -/
def spLawWords : Sp := fun vs H Q _ => ∃ (a : Addr) (ns : List Int), vs = [.ref a, .int 0] ∧ H a = some (.lst (ns.map V.int)) ∧ ns.length = 120 ∧ Nums ns ∧
  ∀ p H' (zs : List Str), Same H H' → H' p = some (.lst (zs.map V.str)) → 1 ≤ zs.length → zs.length ≤ 2 → zs.Nodup → (∀ z ∈ zs, NameOk z) → Q (.ref p) H'
theorem scLawWords : FnScope ["_law_numbers_here", "_law_at"] ["_law_numbers_here", "_law_at"] (defScope sLawWords) := ⟨rfl, rfl, rfl, by decide +kernel, rfl, by decide +kernel, by decide +kernel⟩
theorem ok_law_words {f : Addr} {fd : FuncData} (F : Fun K "_law_words" "_law_words" sLawWords f fd) (T : Txt K mg C) (cN : Cal P w K mg base 1 "_law_names" ["_law_number", "_law_many"] spLawNames) : FnOk P w K mg base CX0 2 f fd ["_law_numbers_here", "_law_at"] spLawWords := by
  refine F.ok scLawWords (fun vs H Q E h => ?_) (fun cdv A outer s H vs Q E hr h => ?_)
  · obtain ⟨a, ns, rfl, _⟩ := h
    rfl
  · obtain ⟨a, ns, rfl, ha, hl, hN, k⟩ := h
    refine ⟨_, pss_one (ps_ret (pe_cal cN hr (pa_cons (pe_ix ix_list (pv 0) (pv 1) (fun _ _ => rfl)) (pa_cons (pe_op op_add pe_int (pe_op op_mod (pe_callTy call_int1 (by rfl) T.int (by decide +kernel) (pa_cons (pe_ix ix_list (pv 0) (pe_op op_add (pv 1) pe_int) (fun _ _ => rfl)) pa_nil)) pe_int)) pa_nil)))), ?_⟩
    obtain ⟨z, hz, z0, z1⟩ := at_num (i := 0) hN (by decide) (by omega)
    obtain ⟨y, hy, y0, y1⟩ := at_num (i := 0 + 1) hN (by decide) (by omega)
    refine ⟨_, rfl, _, rfl, a, _, 0, _, rfl, rfl, SqL.of ha, hz, ?_⟩
    refine ⟨_, rfl, _, rfl, _, _, rfl, rfl, a, _, _, _, rfl, rfl, SqL.of ha, hy, .inl ⟨_, rfl, _, _, rfl, rfl, (show (0 : Int) < 2 by decide), _, _, rfl, rfl, ?_⟩⟩
    have hm : ∃ m : Nat, (1 : Int) + y % 2 = (m : Int) ∧ 1 ≤ m ∧ m ≤ 2 := ⟨(1 + y % 2).toNat, by omega, by omega, by omega⟩
    obtain ⟨m, em, m1, m2⟩ := hm
    dsimp only
    rw [em]
    exact ⟨z, m, rfl, z0, z1, by omega, fun p H' zs s' hp hp' hlz nd ok => k p H' zs s' hp' (by omega) (by omega) nd ok⟩
/-! ### _law_drawn_rule -/
def spLawDrawnRule : Sp := fun vs H Q _ => ∃ (B : PBk) (pl : Addr) (pvs : List V) (f g : Int) (s c : Nat) (n0 : Str), vs = [.int f, .int g, .ref pl, .int (s : Int), .int (c : Int)] ∧ 0 ≤ f ∧ 0 ≤ g ∧ H pl = some (.lst pvs) ∧ All2 (PlaceAt B H) B.P pvs ∧
  n0 ∈ B.P ∧ B.s n0 = 0 ∧ B.P.length ≤ 4 ∧ s ≤ 3 ∧ ∀ v H', Same H H' → Drawn B H' s c v → Q v H'
theorem scLawDrawnRule : FnScope ["_law_first", "_law_second", "_law_places", "_law_slots", "_law_case", "_law_options", "_law_goals", "_law_goal", "_law_turn", "_law_place"] ["_law_first", "_law_second", "_law_places", "_law_slots", "_law_case"] (defScope sLawDrawnRule) := ⟨rfl, rfl, rfl, by decide +kernel, rfl, by decide +kernel, by decide +kernel⟩
theorem ok_law_drawn_rule {f : Addr} {fd : FuncData} (F : Fun K "_law_drawn_rule" "_law_drawn_rule" sLawDrawnRule f fd) (T : Txt K mg C) : FnOk P w K mg base CX0 1 f fd ["_law_first", "_law_second", "_law_places", "_law_slots", "_law_case"] spLawDrawnRule := by
  refine F.ok scLawDrawnRule (fun vs H Q E h => ?_) (fun cdv A outer s H vs Q E hr h => ?_)
  · obtain ⟨B, pl, pvs, f, g, s, c, n0, rfl, _⟩ := h
    rfl
  · obtain ⟨B, pl, pvs, fn, gn, s, c, n0, rfl, f0, g0, hpl, hP, hn0, hs0, hP4, hs3, k⟩ := h
    have nd := scLawDrawnRule.nd
    refine ⟨_, pss_cons (ps_set (i := 5) nd rfl (.inr rfl) (pe_listRg rfl rfl T.list (prg_2 rfl T.range pe_int (pe_op op_add (pv 3) pe_int))))
      (pss_cons (ps_if (pt_cmpR op_eq (pv 4) pe_int (nomark _)) (pss_one (ps_set (i := 5) nd rfl (.inr rfl) (pe_op op_cat (pe_lst (pa_cons pe_int pa_nil)) (pv 5)))) pss_nil)
      (pss_cons (ps_setLc (i := 6) (own := [("_law_place", 9)]) (g := gName 9) (tt := tTest (tOp (rI0 fun i j => .bl (decide (i ≤ j))) (tOp (rIxT K) (tVar 9) (tC (.int 1))) (tCB (rLenK K) (tCons (tVar 5) tNil)))) (te := tVar 9) rfl nd rfl rfl (sw_true rfl rfl rfl (by decide +kernel)) (pi_list (pv 2))
        (blkOk_by (N := ["_law_first", "_law_second", "_law_places", "_law_slots", "_law_case", "_law_options", "_law_goals", "_law_goal", "_law_turn", "_law_place"]) (sc := defScope sLawDrawnRule) (by decide +kernel)) (fun _ _ _ _ _ => pg_name (i := 9) nd rfl (.inl rfl))
        (fun _ _ _ _ _ => by exact pts_one (pt_cmpR op_le (pe_ix (kIxT K) (pv 9) pe_int (fun _ _ => rfl)) (pe_lenK K T.len (pv 5)) (nomark _))) (fun _ _ _ _ _ => by exact pv 9))
      (pss_cons (ps_set (i := 7) nd rfl (.inl rfl) (pe_ix ix_list (pv 6) (pe_op op_mod (pe_callTy call_int1 (by rfl) T.int (by decide +kernel) (pa_cons (pv 0) pa_nil)) (pe_len T.len (pv 6))) (fun _ _ => rfl)))
      (pss_cons (ps_set (i := 8) nd rfl (.inl rfl) (pe_op op_mod (pe_callTy call_int1 (by rfl) T.int (by decide +kernel) (pa_cons (pv 1) pa_nil)) (pe_callB (call_max2 rfl) rfl T.max (by decide +kernel) (pa_cons pe_int (pa_cons (pe_len T.len (pv 5)) pa_nil)))))
      (pss_cons (ps_set (i := 5) nd rfl (.inr rfl) (pe_op op_cat (pe_slice sl_list (pv 5) (po_some (pv 8)) po_none) (pe_slice sl_list (pv 5) po_none (po_some (pv 8)))))
      (pss_cons (ps_if (pt_cmpR op_eq (pe_op op_mod (pe_op op_fdiv (pe_callTy call_int1 (by rfl) T.int (by decide +kernel) (pa_cons (pv 1) pa_nil)) pe_int) pe_int) pe_int (nomark _)) (pss_one (ps_set (i := 5) nd rfl (.inr rfl) (pe_revL (pv 5)))) pss_nil)
      (pss_one (ps_ret (pe_tup (pa_cons (pe_ix ix_tup (pv 7) pe_int (fun _ _ => rfl)) (pa_cons (pe_callTy call_tupK (by rfl) T.tuple (by decide +kernel) (pa_cons (pe_slice sl_list (pv 5) po_none (po_some (pe_ix ix_tup (pv 7) pe_int (fun _ _ => rfl)))) pa_nil)) pa_nil))))))))))), ?_⟩
    -- the options
    refine ⟨_, rfl, _, _, rfl, rfl, _, _, rfl, rfl, RgOk.of_le (by decide) (by omega) (by decide) (by omega), fun q hq => ?_⟩
    have hrg : rgV 1 ((s : Int) + 1) = (((List.range s).map fun i => (1 : Int) + (i : Nat)).map V.int) := by
      unfold rgV
      rw [show ((s : Int) + 1 - 1).toNat = s by omega, List.map_map]
      rfl
    rw [hrg]
    refine gNameI ?_
    dsimp only
    refine seqI ?_
    have sq : Same H (upd H q (.lst (((List.range s).map fun i => (1 : Int) + (i : Nat)).map V.int))) := Same.new hq
    refine ifS_b (decide (V.int (c : Int) = V.int 0)) (fun σ' H' => ∃ (l : Addr) (os : List Int), Same H H' ∧ H' l = some (.lst (os.map V.int)) ∧ Opt s c os ∧ σ' = [some (.int fn), some (.int gn), some (.ref pl), some (.int (s : Int)), some (.int (c : Int)), some (.ref l), none, none, none, none]) ?_ ?_ ?_ ?_
    · intro Q q
      exact ⟨_, rfl, rfl, _, rfl, q⟩
    · intro hb D' kq
      have hc0 : c = 0 := by
        have := of_decide_eq_true hb
        injection this with this
        omega
      refine ⟨small (n := 1) (by decide), fun q1 hq1 => ?_⟩
      have hqq : q1 ≠ q := fun e => by rw [e, upd_same] at hq1; cases hq1
      refine ⟨_, rfl, q1, q, _, _, rfl, rfl, upd_same, (upd_ne hqq.symm).trans upd_same, small (by rw [List.length_map, List.length_map, List.length_range]; simp; omega), fun q2 hq2 => ?_⟩
      refine kq _ _ ⟨q2, 0 :: (List.range s).map fun i => (1 : Int) + (i : Nat), sq.trans ((Same.new hq1).trans (Same.new hq2)), upd_same, ⟨?_, ?_, ?_⟩, rfl⟩
      · refine List.nodup_cons.mpr ⟨fun h => ?_, List.pairwise_map.mpr (List.nodup_range.imp fun ne e => ne (by omega))⟩
        obtain ⟨i, _, e⟩ := List.mem_map.mp h
        omega
      · intro x hx
        rw [if_pos hc0]
        rcases List.mem_cons.mp hx with h | h
        · omega
        · obtain ⟨i, hi, e⟩ := List.mem_map.mp h
          have := List.mem_range.mp hi
          omega
      · rw [if_pos hc0, List.length_cons, List.length_map, List.length_range]
    · intro hb D' kq
      have hc0 : c ≠ 0 := fun e => by
        have := of_decide_eq_false hb
        exact this (by rw [e]; rfl)
      refine kq _ _ ⟨q, (List.range s).map fun i => (1 : Int) + (i : Nat), sq, upd_same, ⟨?_, ?_, ?_⟩, rfl⟩
      · exact List.pairwise_map.mpr (List.nodup_range.imp fun ne e => ne (by omega))
      · intro x hx
        rw [if_neg hc0]
        obtain ⟨i, hi, e⟩ := List.mem_map.mp hx
        have := List.mem_range.mp hi
        omega
      · rw [if_neg hc0, List.length_map, List.length_range]
    rintro σ1 H1 ⟨l, os, s1, hl, hos, rfl⟩
    have hol : os.length ≤ 4 := by
      rw [hos.len]
      split <;> omega
    -- the goals
    refine ⟨_, rfl, pl, rfl, ⟨_, SqL.of (s1 _ _ hpl)⟩, fun D hD => ?_⟩
    refine lc_it (walk_list (K := K) (a := pl) (xs := pvs)) (fun i H2 => ∃ zs, Same H1 H2 ∧ H2 D = some (.lst zs) ∧ All2 (PlaceAt B H) ((B.P.take i).filter fun n => decide (B.s n ≤ os.length)) zs) ⟨[], Same.new hD, upd_same, All2.nil⟩ (fun i H2 _ ⟨_, s2, _⟩ => SqL.of (s2 _ _ (s1 _ _ hpl))) ?_ ?_
    · rintro i y H2 H3 hi ⟨zs, s2, hD2, al⟩ ⟨rfl, hy⟩
      obtain ⟨n, hn, a, rfl, ha⟩ := hP.of hy
      have lz := al.len
      have lf := List.length_filter_le (fun n => decide (B.s n ≤ os.length)) (B.P.take i)
      rw [List.length_take] at lf
      refine ⟨rfl, _, rfl, a, _, 1, _, rfl, rfl, SqT.of (s2 _ _ (s1 _ _ ha)), rfl, _, rfl, _, _, rfl, lenV_of (.inl (s2 _ _ hl)), _, _, rfl, rfl, _, rfl, ?_⟩
      rw [List.length_map]
      have e1 : (B.P.take (i + 1)).filter (fun n => decide (B.s n ≤ os.length)) = (B.P.take i).filter (fun n => decide (B.s n ≤ os.length)) ++ [n].filter (fun n => decide (B.s n ≤ os.length)) := by rw [take_snoc hn, List.filter_append]
      by_cases hle : B.s n ≤ os.length
      · rw [decide_eq_true (show (B.s n : Int) ≤ (os.length : Int) by omega)]
        refine iteT ⟨_, rfl, zs, hD2, smallL (by omega), zs ++ [.ref a], s2.chg hD, upd_same, ?_⟩
        rw [e1, List.filter_cons_of_pos (by simpa using hle)]
        exact al.snoc ⟨a, rfl, ha⟩
      · rw [decide_eq_false (show ¬ (B.s n : Int) ≤ (os.length : Int) by omega)]
        refine iteF ⟨zs, s2, hD2, ?_⟩
        rw [e1, List.filter_cons_of_neg (by simpa using hle)]
        simpa using al
    rintro H2 ⟨zs, s2, hD2, al⟩
    rw [hP.len, List.take_length] at al
    have hne : 0 < zs.length := by
      have : n0 ∈ B.P.filter fun n => decide (B.s n ≤ os.length) := List.mem_filter.mpr ⟨hn0, by simp [hs0]⟩
      rw [al.len]
      exact List.length_pos_of_mem this
    -- the goal
    have m0 := Int.emod_nonneg fn (show (zs.length : Int) ≠ 0 by omega)
    have m1 := Int.emod_lt_of_pos fn (show (0 : Int) < zs.length by omega)
    obtain ⟨v, hv, hv2⟩ := at_list (xs := zs) m0 m1
    obtain ⟨n, hn, a, rfl, ha⟩ := al.of hv2
    obtain ⟨hnP, hnl⟩ := List.mem_filter.mp (List.mem_of_getElem? hn)
    have hnl : B.s n ≤ os.length := by simpa using hnl
    have s02 := s1.trans s2
    refine ⟨_, rfl, _, rfl, .inl ⟨_, rfl, _, rfl, _, _, rfl, lenV_of (.inl hD2), _, _, rfl, rfl, (show (0 : Int) < (zs.length : Int) by omega), D, zs, _, .ref a, rfl, rfl, SqL.of hD2, hv, ?_⟩⟩
    -- the turn
    have hl2 := s2 _ _ hl
    refine ⟨_, rfl, .inl ⟨_, rfl, _, rfl, _, _, rfl, lenV_of (.inl hl2), _, _, rfl, ?_⟩⟩
    rw [List.length_map]
    have hmx : (0 : Int) < (if (os.length : Int) > 1 then (os.length : Int) else 1) := by split <;> omega
    refine ⟨_, _, rfl, rfl, hmx, ?_⟩
    obtain ⟨tn, etn⟩ : ∃ tn : Nat, gn % (if (os.length : Int) > 1 then (os.length : Int) else 1) = (tn : Int) := ⟨(gn % (if (os.length : Int) > 1 then (os.length : Int) else 1)).toNat, by
      have := Int.emod_nonneg gn (show (if (os.length : Int) > 1 then (os.length : Int) else 1) ≠ 0 by omega)
      omega⟩
    dsimp only
    rw [etn]
    -- options turned
    refine ⟨_, rfl, _, rfl, _, rfl, l, _, rfl, SqL.of hl2, fun q1 hq1 => ?_⟩
    have t1 := Same.new (o := .lst (cutV (os.map V.int) (some (tn : Int)) none)) hq1
    refine ⟨_, rfl, _, rfl, _, rfl, l, _, rfl, SqL.of (t1 _ _ hl2), fun q2 hq2 => ?_⟩
    have t2 := Same.new (o := .lst (cutV (os.map V.int) none (some (tn : Int)))) hq2
    refine ⟨q1, q2, _, _, rfl, rfl, t2 _ _ upd_same, upd_same, small ?_, fun q3 hq3 => ?_⟩
    · have a1 := cutV_length (os.map V.int) (some (tn : Int)) none
      have a2 := cutV_length (os.map V.int) none (some (tn : Int))
      rw [List.length_map] at a1 a2
      omega
    have t3 := Same.new (o := .lst (cutV (os.map V.int) (some (tn : Int)) none ++ cutV (os.map V.int) none (some (tn : Int)))) hq3
    have s03 := s02.trans (t1.trans (t2.trans t3))
    have hq33 : (upd (upd (upd H2 q1 (.lst (cutV (os.map V.int) (some (tn : Int)) none))) q2 (.lst (cutV (os.map V.int) none (some (tn : Int))))) q3 (.lst (cutV (os.map V.int) (some (tn : Int)) none ++ cutV (os.map V.int) none (some (tn : Int))))) q3 = some (.lst ((os.drop tn ++ os.take tn).map V.int)) := by
      rw [upd_same, cutV_to, cutV_from, List.map_append, List.map_drop, List.map_take]
    generalize (upd (upd (upd H2 q1 (.lst (cutV (os.map V.int) (some (tn : Int)) none))) q2 (.lst (cutV (os.map V.int) none (some (tn : Int))))) q3 (.lst (cutV (os.map V.int) (some (tn : Int)) none ++ cutV (os.map V.int) none (some (tn : Int))))) = H3 at s03 hq33 ⊢
    refine gNameI ?_
    dsimp only
    refine seqI ?_
    refine ifS_any (fun σ' H' => ∃ (l : Addr) (os : List Int), Same H H' ∧ H' l = some (.lst (os.map V.int)) ∧ Opt s c os ∧ σ' = [some (.int fn), some (.int gn), some (.ref pl), some (.int (s : Int)), some (.int (c : Int)), some (.ref l), some (.ref D), some (.ref a), some (.int (tn : Int)), none]) ?_ ?_ ?_ ?_
    · intro Q q
      exact ⟨_, rfl, .inl ⟨_, rfl, _, _, rfl, rfl, ⟨by decide, by decide⟩, _, _, rfl, rfl, (show (0 : Int) < 2 by decide), rfl, _, rfl, q _⟩⟩
    · intro D' kq
      refine ⟨_, rfl, q3, _, rfl, SqL.of hq33, fun q4 hq4 => kq _ _ ⟨q4, (os.drop tn ++ os.take tn).reverse, s03.trans (Same.new hq4), ?_, (hos.rot tn).rev, rfl⟩⟩
      rw [upd_same, List.map_reverse]
    · intro D' kq
      exact kq _ _ ⟨q3, _, s03, hq33, hos.rot tn, rfl⟩
    rintro σ4 H4 ⟨l4, os4, s4, hl4, hos4, rfl⟩
    have hol4 : os4.length ≤ 4 := by
      rw [hos4.len]
      split <;> omega
    have ha4 := s4 _ _ ha
    refine ⟨_, rfl, a, _, 0, _, rfl, rfl, SqT.of ha4, rfl, _, rfl, _, rfl, a, _, 1, _, rfl, rfl, SqT.of ha4, rfl, _, rfl, l4, _, rfl, SqL.of hl4, fun q5 hq5 => ?_⟩
    dsimp only [tNil]
    rw [cutV_to]
    refine tupOf (.inl upd_same) fun m H5 s5 hm => ?_
    refine ⟨small (n := 2) (by decide), fun t ht => ?_⟩
    have s6 := (s4.trans (Same.new hq5)).trans (s5.trans (Same.new (o := .tup [.str n, .ref m]) ht))
    refine k _ _ s6 ⟨n, os4.take (B.s n), t, m, hnP, rfl, upd_same, ?_, ?_, hos4.nd.sublist (List.take_sublist _ _), fun x hx => hos4.lo x (List.mem_of_mem_take hx), ?_⟩
    · rw [upd_ne (ne_of_none hm ht), hm, List.map_take]
    · rw [List.length_take, hos4.len, ← hos.len]
      omega
    · rw [← hos.len]
      exact hnl
end
end FW

/-! FhL4: ways, Bell's numbers, a book of the law's parts. -/
namespace FW
open PySem L2 FR FH
/-! ### Bell's numbers by rows -/
def goB : Nat → List Int → List Int
  | i, x :: y :: r => (y + (i : Int) * x) :: goB (i + 1) (y :: r)
  | _, _ => []
def iterB : Nat → List Int → List Int
  | 0, xs => xs
  | n + 1, xs => iterB n (goB 0 xs)
theorem goB_range (u : Nat → Int) : ∀ (m i : Nat), goB i ((List.range' i (m + 1)).map u) = (List.range' i m).map (dOp u)
  | 0, i => rfl
  | m + 1, i => by
    have ih := goB_range u m (i + 1)
    rw [List.range'_succ, List.map_cons, List.range'_succ, List.map_cons]
    show (u (i + 1) + (i : Int) * u i) :: goB (i + 1) (u (i + 1) :: (List.range' (i + 1 + 1) m).map u) = _
    rw [← List.map_cons, ← List.range'_succ, ih, List.range'_succ, List.map_cons]
    rfl
theorem bel_iter : ∀ (n : Nat) (u : Nat → Int), iterB n ((List.range' 0 (n + 1)).map u) = [bel n u]
  | 0, u => rfl
  | n + 1, u => by
    show iterB n (goB 0 ((List.range' 0 (n + 1 + 1)).map u)) = _
    rw [goB_range]
    exact bel_iter n (dOp u)
def belN (n : Nat) : Int := (iterB n (List.replicate (n + 1) 1)).headD 0
theorem bel_one (n : Nat) : bel n (fun _ => 1) = belN n := by
  unfold belN
  have e : List.replicate (n + 1) (1 : Int) = (List.range' 0 (n + 1)).map fun _ => (1 : Int) := by
    rw [List.map_const', List.length_range']
  rw [e, bel_iter]
  rfl
/-- the triangle's rows, as the law builds them -/
def nextB (row : List Int) : List Int := row.foldl (fun acc x => acc ++ [acc.getLastD 0 + x]) [row.getLastD 0]
def rowB : Nat → List Int
  | 0 => [1]
  | n + 1 => nextB (rowB n)
theorem rowB_bel : ∀ n, n < 21 → (rowB n).headD 0 = belN n := by decide +kernel
theorem belN_le : ∀ n, n < 21 → 0 ≤ belN n ∧ belN n ≤ 100000000000000 := by decide +kernel
theorem foldB_len : ∀ (row acc : List Int), (row.foldl (fun acc x => acc ++ [acc.getLastD 0 + x]) acc).length = acc.length + row.length
  | [], acc => rfl
  | x :: r, acc => by
    rw [List.foldl_cons, foldB_len r, List.length_append]
    simp
    omega
theorem rowB_len : ∀ n, (rowB n).length = n + 1
  | 0 => rfl
  | n + 1 => by
    show (nextB (rowB n)).length = _
    unfold nextB
    rw [foldB_len, rowB_len n]
    simp
    omega
theorem at_end {xs : List Int} (h : 0 < xs.length) : atI (xs.map V.int) ((xs.length : Int) - 1) = some (.int (xs.getLastD 0)) := by
  obtain ⟨x, a, b⟩ := at_list (xs := xs.map V.int) (i := (xs.length : Int) - 1) (by omega) (by rw [List.length_map]; omega)
  rw [a]
  rw [show ((xs.length : Int) - 1).toNat = xs.length - 1 by omega, List.getElem?_map, ← List.getLast?_eq_getElem?] at b
  obtain ⟨z, hz, rfl⟩ := Option.map_eq_some_iff.mp b
  rw [List.getLastD_eq_getLast?, hz]
  rfl
section
variable {P : Program} {w : World} {K : PySem.W.Frag} {mg : Str → Option Value} {base : Heap} {C : Addr}
/-! ### _law_ways -/
def spLawWays : Sp := fun vs H Q _ => ∃ (N : Int) (d : Nat), vs = [.int N, .int (d : Int)] ∧ 0 ≤ N ∧ N ≤ 1000000000 ∧ d ≤ 100 ∧ Q (.int (wys N d)) H
theorem scLawWays : FnScope ["_law_many", "_law_known", "_law_ways_here", "_law_k"] ["_law_many", "_law_known"] (defScope sLawWays) := ⟨rfl, rfl, rfl, by decide +kernel, rfl, by decide +kernel, by decide +kernel⟩
theorem ok_law_ways {f : Addr} {fd : FuncData} (F : Fun K "_law_ways" "_law_ways" sLawWays f fd) (T : Txt K mg C) : FnOk P w K mg base CX0 1 f fd ["_law_many", "_law_known"] spLawWays := by
  refine F.ok scLawWays (fun vs H Q E h => ?_) (fun cdv A outer s H vs Q E hr h => ?_)
  · obtain ⟨N, d, rfl, _⟩ := h
    rfl
  · obtain ⟨N, d, rfl, h0, h1, hd, k⟩ := h
    have nd := scLawWays.nd
    refine ⟨_, pss_cons (ps_set (i := 2) nd rfl (.inl rfl) pe_int)
      (pss_cons (ps_for PassesOwn.never rfl (pi_range1 rfl T.range (pa_cons (pv 1) pa_nil)) (pg_name (i := 3) nd rfl (.inl rfl))
        (pss_one (ps_set (i := 2) nd rfl (.inl rfl) (pe_op op_mul (pv 2) (pe_callB (call_max2 rfl) rfl T.max (by decide +kernel) (pa_cons pe_int (pa_cons (pe_op op_sub (pv 0) (pv 3)) pa_nil)))))))
      (pss_one (ps_ret (pv 2)))), ?_⟩
    refine ⟨_, rfl, (d : Int), rfl, by omega, by omega, ?_⟩
    have hcnt : (d : Int).toNat = d := by omega
    rw [hcnt]
    refine for_it walk_range (fun i σ H2 => ∃ o, H2 = H ∧ σ = [some (.int N), some (.int (d : Int)), some (.int (wys N i)), o]) ⟨none, rfl, rfl⟩ (fun _ _ _ _ _ => True.intro) ?_ ?_
    · rintro i y σ H2 H3 hi ⟨o, rfl, rfl⟩ ⟨rfl, rfl⟩
      refine ⟨_, rfl, _, rfl, _, rfl, _, _, rfl, rfl, _, _, rfl, ?_⟩
      have e : (if N - (0 + (i : Int)) > 0 then N - (0 + (i : Int)) else 0) = max 0 (N - (i : Int)) := by
        rw [Int.zero_add]
        split <;> omega
      rw [e]
      refine ⟨_, _, rfl, rfl, .inr ⟨by omega, by omega⟩, _, rfl, rfl⟩
    · rintro σ H2 ⟨o, rfl, rfl⟩
      exact ⟨_, rfl, k⟩
/-! ### _law_parted -/
def spLawParted : Sp := fun vs H Q _ => ∃ n : Nat, vs = [.int (n : Int)] ∧ n ≤ 20 ∧ ∀ H', Same H H' → Q (.int (belN n)) H'
theorem scLawParted : FnScope ["_law_reads", "_law_row_here", "_law_turn", "_law_behind", "_law_number"] ["_law_reads"] (defScope sLawParted) := ⟨rfl, rfl, rfl, by decide +kernel, rfl, by decide +kernel, by decide +kernel⟩
theorem ok_law_parted {f : Addr} {fd : FuncData} (F : Fun K "_law_parted" "_law_parted" sLawParted f fd) (T : Txt K mg C) : FnOk P w K mg base CX0 1 f fd ["_law_reads"] spLawParted := by
  refine F.ok scLawParted (fun vs H Q E h => ?_) (fun cdv A outer s H vs Q E hr h => ?_)
  · obtain ⟨n, rfl, _⟩ := h
    rfl
  · obtain ⟨n, rfl, hn, k⟩ := h
    have nd := scLawParted.nd
    refine ⟨_, pss_cons (ps_set (i := 1) nd rfl (.inl rfl) (pe_lst (pa_cons pe_int pa_nil)))
      (pss_cons (ps_for PassesOwn.never rfl (pi_range1 rfl T.range (pa_cons (pv 0) pa_nil)) (pg_name (i := 2) nd rfl (.inl rfl))
        (pss_cons (ps_set (i := 3) nd rfl (.inl rfl) (pe_lst (pa_cons (pe_ix ix_list (pv 1) (pe_op op_sub (pe_len T.len (pv 1)) pe_int) (fun _ _ => rfl)) pa_nil)))
        (pss_cons (ps_for PassesOwn.never rfl (pi_list (pv 1)) (pg_name (i := 4) nd rfl (.inl rfl))
          (pss_one (ps_expr (pe_bm PySem.F.plainAttrs_list PySem.F.slot_list_append PySem.F.type_list_append mt_append (pv 3) (pa_cons (pe_op op_add (pe_ix ix_list (pv 3) (pe_op op_sub (pe_len T.len (pv 3)) pe_int) (fun _ _ => rfl)) (pv 4)) pa_nil)))))
        (pss_one (ps_set (i := 1) nd rfl (.inl rfl) (pv 3))))))
      (pss_one (ps_ret (pe_ix ix_list (pv 1) pe_int (fun _ _ => rfl))))), ?_⟩
    refine ⟨small (n := 1) (by decide), fun p hp => ?_⟩
    refine ⟨_, rfl, (n : Int), rfl, by omega, by omega, ?_⟩
    have hcnt : (n : Int).toNat = n := by omega
    rw [hcnt]
    refine for_it walk_range (fun i σ H2 => ∃ l o2 o3 o4, σ = [some (.int (n : Int)), some (.ref l), o2, o3, o4] ∧ Same H H2 ∧ H2 l = some (.lst ((rowB i).map V.int))) ⟨p, none, none, none, rfl, Same.new hp, upd_same⟩ (fun _ _ _ _ _ => True.intro) ?_ ?_
    · rintro i y σ H2 H3 hi ⟨l, o2, o3, o4, rfl, s2, hl⟩ ⟨rfl, rfl⟩
      have hrl := rowB_len i
      refine ⟨_, rfl, _, rfl, _, _, rfl, lenV_of (.inl hl), _, _, rfl, rfl, l, _, _, .int ((rowB i).getLastD 0), rfl, rfl, SqL.of hl, ?_, small (n := 1) (by decide), fun q hq => ?_⟩
      · rw [List.length_map]
        exact at_end (by omega)
      have sq := Same.new (o := .lst [.int ((rowB i).getLastD 0)]) hq
      have hlq : l ≠ q := ne_of_none hl hq
      have hqH := s2.free hq
      refine ⟨_, rfl, l, rfl, ⟨_, SqL.of (sq _ _ hl)⟩, ?_⟩
      refine for_it (walk_list (K := K) (a := l) (xs := (rowB i).map V.int)) (fun j σ H4 => ∃ o4, σ = [some (.int (n : Int)), some (.ref l), some (.int (0 + (i : Int))), some (.ref q), o4] ∧ Same H H4 ∧ H4 l = some (.lst ((rowB i).map V.int)) ∧
          H4 q = some (.lst ((((rowB i).take j).foldl (fun acc x => acc ++ [acc.getLastD 0 + x]) [(rowB i).getLastD 0]).map V.int)))
        ⟨o4, rfl, s2.trans sq, sq _ _ hl, upd_same⟩ (fun j σ H4 _ ⟨_, _, _, h4, _⟩ => SqL.of h4) ?_ ?_
      · rintro j y σ H4 H5 hj ⟨o4, rfl, s4, hl4, hq4⟩ ⟨rfl, hy⟩
        rw [List.getElem?_map] at hy
        obtain ⟨x, hx, rfl⟩ := Option.map_eq_some_iff.mp hy
        have hfl := foldB_len ((rowB i).take j) [(rowB i).getLastD 0]
        rw [List.length_take, List.length_singleton] at hfl
        have hfold : ((rowB i).take (j + 1)).foldl (fun acc x => acc ++ [acc.getLastD 0 + x]) [(rowB i).getLastD 0] = ((rowB i).take j).foldl (fun acc x => acc ++ [acc.getLastD 0 + x]) [(rowB i).getLastD 0] ++ [(((rowB i).take j).foldl (fun acc x => acc ++ [acc.getLastD 0 + x]) [(rowB i).getLastD 0]).getLastD 0 + x] :=
          foldl_snoc (fun (acc : List Int) (x : Int) => acc ++ [acc.getLastD 0 + x]) _ hx
        generalize ((rowB i).take j).foldl (fun acc x => acc ++ [acc.getLastD 0 + x]) [(rowB i).getLastD 0] = F at hq4 hfl hfold
        refine ⟨_, rfl, .inl ⟨rfl, _, SqL.of hq4⟩, _, rfl, _, rfl, _, _, rfl, lenV_of (.inl hq4), _, _, rfl, rfl, q, _, _, .int (F.getLastD 0), rfl, rfl, SqL.of hq4, ?_, _, rfl, _, _, rfl, rfl, ?_⟩
        · rw [List.length_map]
          exact at_end (by omega)
        refine ⟨q, _, _, rfl, rfl, hq4, smallL (by rw [List.length_map]; omega), ?_⟩
        refine ⟨_, rfl, s4.chg hqH, (upd_ne hlq).trans hl4, ?_⟩
        rw [upd_same, hfold, List.map_append]
        rfl
      · rintro σ H4 ⟨o4, rfl, s4, hl4, hq4⟩
        rw [List.length_map, List.take_length] at hq4
        exact ⟨_, rfl, q, _, _, _, rfl, s4, hq4⟩
    · rintro σ H2 ⟨l, o2, o3, o4, rfl, s2, hl⟩
      have hrl := rowB_len n
      refine ⟨_, rfl, l, _, 0, .int (belN n), rfl, rfl, SqL.of hl, ?_, k _ s2⟩
      obtain ⟨x, a, b⟩ := at_list (xs := (rowB n).map V.int) (i := 0) (by decide) (by rw [List.length_map]; omega)
      rw [a, ← rowB_bel n (by omega)]
      cases hr : rowB n with
      | nil => rw [hr] at hrl; cases hrl
      | cons z r =>
        rw [hr] at b
        exact b.symm
end
end FW

/-! FhL5: a book of the law's parts. -/
namespace FW
open PySem L2 FR FH
/-- the parts of the book B stand at pa -/
def PartsAt (B : PBk) (H : Hp) (pa : Addr) : Prop := ∃ (wA pA d : Addr) (pvs : List V) (tt : List (List Key × V)), H pa = some (.lst [.ref wA, .ref pA, .str B.st, .ref d]) ∧ H wA = some (.tup (B.W.map V.str)) ∧ H pA = some (.tup pvs) ∧ All2 (PlaceAt B H) B.P pvs ∧
  H d = some (.dT tt) ∧ tt.map (·.1) = (keys B.b).map tkey ∧ ∀ k ∈ keys B.b, ∃ v, valV tt (tkey k) = some v ∧ RuleAt B H k v
theorem RowAt.updL {B : PBk} {H : Hp} {D : Addr} {zs : List V} {o : HO} {n : Str × Str × Nat} {v : V} (hD : H D = some (.lst zs)) (h : RowAt B H n v) : RowAt B (upd H D o) n v := by
  obtain ⟨a, m, e, ha, hm⟩ := h
  exact ⟨a, m, e, (upd_ne fun z => by rw [z, hD] at ha; cases ha).trans ha, (upd_ne fun z => by rw [z, hD] at hm; cases hm).trans hm⟩
section
variable {P : Program} {w : World} {K : PySem.W.Frag} {mg : Str → Option Value} {base : Heap} {C : Addr}
/-! ### _law_make -/
def spLawMake (C : Addr) : Sp := fun vs H Q _ => ∃ (B : PBk) (pa : Addr), vs = [.ref pa] ∧ B.Ok ∧ PartsAt B H pa ∧ ∀ x H', Same H H' → BookAt C B x H' → Q (.ref x) H'
theorem scLawMake : FnScope ["_law_parts_here", "_law_rules", "_law_key"] ["_law_parts_here"] (defScope sLawMake) := ⟨rfl, rfl, rfl, by decide +kernel, rfl, by decide +kernel, by decide +kernel⟩
theorem ok_law_make {f : Addr} {fd : FuncData} (F : Fun K "_law_make" "_law_make" sLawMake f fd) (T : Txt K mg C) (M : MkB P w K mg base C) : FnOk P w K mg base CX0 5 f fd ["_law_parts_here"] (spLawMake C) := by
  refine F.ok scLawMake (fun vs H Q E h => ?_) (fun cdv A outer s H vs Q E hr h => ?_)
  · obtain ⟨B, pa, rfl, _⟩ := h
    rfl
  · obtain ⟨B, pa, rfl, ok, ⟨wA, pA, d, pvs, tt, hpa, hwA, hpA, hP, hd, htk, hall⟩, k⟩ := h
    have hu := hu_of hr
    have nd := scLawMake.nd
    obtain ⟨fi, fdi, Mk, Fi, kb⟩ := M.ex
    refine ⟨_, pss_cons (ps_lock (ps_setLc (i := 1) (own := [("_law_key", 2)]) (g := gName 2) (tt := tYes)
        (te := tTup (tCons (tOp (rIxT K) (tVar 2) (tC (.int 0))) (tCons (tOp (rIxT K) (tVar 2) (tC (.int 1))) (tCons (tOp (rIxT K) (tVar 2) (tC (.int 2))) (tCons (tOp (rIxT K) (tDGet (tOp (rIxL K) (tVar 0) (tC (.int 3))) (tVar 2)) (tC (.int 0))) (tCons (tOp (rIxT K) (tDGet (tOp (rIxL K) (tVar 0) (tC (.int 3))) (tVar 2)) (tC (.int 1))) tNil))))))
        rfl nd rfl rfl (sw_true rfl rfl rfl (by decide +kernel)) (pi_keys (pe_ix ix_list (pv 0) pe_int (fun _ _ => rfl)))
        (blkOk_by (N := ["_law_parts_here", "_law_rules", "_law_key"]) (sc := defScope sLawMake) (by decide +kernel)) (fun _ _ _ _ _ => pg_name (i := 2) nd rfl (.inl rfl)) (fun _ _ _ _ _ => pts_nil)
        (fun _ _ _ _ _ => by exact pe_tup (pa_cons (pe_ix (kIxT K) (pv 2) pe_int (fun _ _ => rfl)) (pa_cons (pe_ix (kIxT K) (pv 2) pe_int (fun _ _ => rfl)) (pa_cons (pe_ix (kIxT K) (pv 2) pe_int (fun _ _ => rfl))
          (pa_cons (pe_ix (kIxT K) (pe_dget hu (pe_ix (kIxL K) (pv 0) pe_int (fun _ _ => rfl)) (pv 2) (fun _ _ => rfl)) pe_int (fun _ _ => rfl)) (pa_cons (pe_ix (kIxT K) (pe_dget hu (pe_ix (kIxL K) (pv 0) pe_int (fun _ _ => rfl)) (pv 2) (fun _ _ => rfl)) pe_int (fun _ _ => rfl)) pa_nil))))))))
      (pss_one (ps_ret (pe_makeK0 Mk Fi hr (by rfl) T.mgC kb pass0 (pk_cons (pe_callTy call_list_of (by rfl) T.list (by decide +kernel) (pa_cons (pe_ix ix_list (pv 0) pe_int (fun _ _ => rfl)) pa_nil))
        (pk_cons (pe_callTy call_list_of (by rfl) T.list (by decide +kernel) (pa_cons (pe_ix ix_list (pv 0) pe_int (fun _ _ => rfl)) pa_nil))
        (pk_cons (pe_ix ix_list (pv 0) pe_int (fun _ _ => rfl)) (pk_cons (pv 1) pk_nil))))))), ?_⟩
    refine ⟨d, _, hd, True.intro, fun od => ?_⟩
    have hpd : pa ≠ d := fun e => by rw [e, hd] at hpa; cases hpa
    have u1 : SX d H (upd H d (.frz od (.dT tt))) := SX.refl.upd
    have hd1 : (upd H d (.frz od (.dT tt))) d = some (.frz od (.dT tt)) := upd_same
    have hpa1 := u1 _ _ hpd hpa
    have back : ∀ H2, Same (upd H d (.frz od (.dT tt))) H2 → Same H (upd H2 d (.dT tt)) := fun H2 s2 b o e => by
      by_cases hb : b = d
      · rw [hb, hd] at e
        rw [hb, upd_same, e]
      · rw [upd_ne hb]
        exact s2 _ _ ((upd_ne hb).trans e)
    have hall1 : ∀ q ∈ keys B.b, ∃ v, valV tt (tkey q) = some v ∧ RuleAt B (upd H d (.frz od (.dT tt))) q v := fun q hq => let ⟨v, a, r⟩ := hall q hq; ⟨v, a, r.sx u1 hd nofun⟩
    generalize (upd H d (.frz od (.dT tt))) = H1 at u1 hd1 hpa1 back hall1 ⊢
    have kl := keys_len ok
    have hlt := congrArg List.length htk
    rw [List.length_map, List.length_map] at hlt
    refine ⟨_, rfl, pa, _, 3, _, rfl, rfl, SqL.of hpa1, rfl, d, od, rfl, .inr ⟨tt, hd1, ?_⟩⟩
    intro D hD
    refine lc_it (walk_keysT (d := d) (o := od) (kvs := tt)) (fun i H2 => ∃ zs, Same H1 H2 ∧ H2 D = some (.lst zs) ∧ All2 (RowAt B H2) ((keys B.b).take i) zs) ⟨[], Same.new hD, upd_same, All2.nil⟩ (fun i H2 _ ⟨_, s2, _⟩ => s2 _ _ hd1) ?_ ?_
    · rintro i y H2 H3 hi ⟨zs, s2, hD2, al⟩ ⟨rfl, kk, v0, q, hkv, rfl, hq⟩
      have hkey : ∃ key, (keys B.b)[i]? = some key ∧ kk = tkey key := by
        have e : (tt.map (·.1))[i]? = ((keys B.b).map tkey)[i]? := by rw [htk]
        rw [List.getElem?_map, List.getElem?_map, hkv] at e
        cases hk : (keys B.b)[i]? with
        | none => rw [hk] at e; cases e
        | some key =>
          rw [hk] at e
          exact ⟨key, rfl, Option.some.inj e⟩
      obtain ⟨⟨n, wd, c⟩, hkey, rfl⟩ := hkey
      obtain ⟨v, hv, ra, m, rfl, hra, hrm⟩ := hall1 _ (List.mem_of_getElem? hkey)
      have hd3 := s2 _ _ hd1
      have hpa3 := s2 _ _ hpa1
      have g : DGet H3 d (.ref q) (some (.ref ra)) := .inr ⟨tt, tkey (n, wd, c), q, .inr ⟨od, hd3⟩, rfl, hq, hv.symm⟩
      refine ⟨rfl, yesT ⟨_, rfl, q, _, 0, .str n, rfl, rfl, SqT.of hq, rfl, _, rfl, q, _, 1, .str wd, rfl, rfl, SqT.of hq, rfl, _, rfl, q, _, 2, .int (c : Int), rfl, rfl, SqT.of hq, rfl, ?_⟩⟩
      refine ⟨_, rfl, pa, _, 3, _, rfl, rfl, SqL.of hpa3, rfl, _, rfl, d, _, rfl, g, ra, _, 0, _, rfl, rfl, SqT.of (s2 _ _ hra), rfl, ?_⟩
      refine ⟨_, rfl, pa, _, 3, _, rfl, rfl, SqL.of hpa3, rfl, _, rfl, d, _, rfl, g, ra, _, 1, _, rfl, rfl, SqT.of (s2 _ _ hra), rfl, ?_⟩
      refine ⟨small (n := 5) (by decide), fun p hp => ?_⟩
      have sp := Same.new (o := .tup [.str n, .str wd, .int (c : Int), .str (gl B.b (n, wd, c)), .ref m]) hp
      have lz := al.len
      rw [List.length_take] at lz
      refine ⟨zs, sp _ _ hD2, smallL (by omega), zs ++ [.ref p], (s2.trans sp).chg hD, upd_same, ?_⟩
      rw [take_snoc hkey]
      exact All2.snoc (al.mono fun _ _ r => (r.mono sp).updL (sp _ _ hD2)) (RowAt.updL (sp _ _ hD2) ⟨p, m, rfl, upd_same, sp _ _ (s2 _ _ hrm)⟩)
    · rintro H2 ⟨zs, s2, hD2, al⟩
      rw [hlt, List.take_length] at al
      refine ⟨s2 _ _ hd1, ?_⟩
      have s3 := back H2 s2
      have u2 : SX d H2 (upd H2 d (.dT tt)) := SX.refl.upd
      have hD3 := u2.at (s2 _ _ hd1) hD2 nofun
      have al3 := al.mono fun _ _ r => r.sx u2 (s2 _ _ hd1) nofun
      generalize (upd H2 d (.dT tt)) = H3 at s3 hD3 al3 ⊢
      refine ⟨_, rfl, pa, _, 0, _, rfl, rfl, SqL.of (s3 _ _ hpa), rfl, wA, _, rfl, .inr (SqT.of (s3 _ _ hwA)), fun l1 hl1 => ?_⟩
      have t1 := Same.new (o := .lst (B.W.map V.str)) hl1
      refine ⟨_, rfl, pa, _, 1, _, rfl, rfl, SqL.of (t1 _ _ (s3 _ _ hpa)), rfl, pA, _, rfl, .inr (SqT.of (t1 _ _ (s3 _ _ hpA))), fun l2 hl2 => ?_⟩
      have t2 := Same.new (o := .lst pvs) hl2
      have t12 := t1.trans t2
      have s4 := s3.trans t12
      have hl12 := t2 _ _ (upd_same (H := H3) (a := l1) (o := .lst (B.W.map V.str)))
      have hl22 := upd_same (H := upd H3 l1 (.lst (B.W.map V.str))) (a := l2) (o := .lst pvs)
      generalize (upd (upd H3 l1 (.lst (B.W.map V.str))) l2 (.lst pvs)) = H4 at t12 s4 hl12 hl22 ⊢
      refine ⟨_, rfl, pa, _, 2, _, rfl, rfl, SqL.of (s4 _ _ hpa), rfl, _, rfl, rfl, rfl, fun x dx hx hdx hne => ?_⟩
      have t : Same H4 (upd (upd H4 dx (.own x)) x (.ins C dx [])) := (Same.new hdx).trans (Same.new ((upd_ne hne.symm).trans hx))
      refine ⟨B, x, l1, l2, D, dx, pvs, zs, rfl, ok, upd_same, .inl (t _ _ hl12), t _ _ hl22, hP.mono fun _ _ r => (r.mono s4).mono t, .inl (t _ _ (t12 _ _ hD3)), al3.mono fun _ _ r => (r.mono t12).mono t, fun H' sx BT => ⟨rfl, k x H' (fun b o e => ?_) BT⟩⟩
      have e2 := s4 _ _ e
      exact sx b o (fun z => by rw [z, hx] at e2; cases e2) (t _ _ e2)
end
end FW

/-! FhL6: the law's parts. -/
namespace FW
open PySem L2 FR FH
theorem Drawn.sx {B : PBk} {x : Addr} {H H' : Hp} {od : HO} {s c : Nat} (e : SX x H H') (hx : H x = some od) (ne : ∀ xs, HO.tup xs ≠ od) {v : V} (h : Drawn B H s c v) : Drawn B H' s c v := by
  obtain ⟨n, ms, t, m, h1, h2, h3, h4, h5⟩ := h
  exact ⟨n, ms, t, m, h1, h2, e.at hx h3 (ne _), e.at hx h4 (ne _), h5⟩
def slotsL : List Nat := [1, 2, 1, 0, 2, 1, 2, 3]
theorem at_slots (x : Int) : ∃ sl : Nat, atI ([.int 1, .int 2, .int 1, .int 0, .int 2, .int 1, .int 2, .int 3] : List V) (x % 8) = some (.int (sl : Int)) ∧ sl ≤ 3 := by
  have h0 := Int.emod_nonneg x (show (8 : Int) ≠ 0 by decide)
  have h1 := Int.emod_lt_of_pos x (show (0 : Int) < 8 by decide)
  obtain ⟨v, a, b⟩ := at_list (xs := slotsL.map fun n : Nat => V.int (n : Int)) h0 h1
  rw [List.getElem?_map] at b
  obtain ⟨sl, hs, rfl⟩ := Option.map_eq_some_iff.mp b
  exact ⟨sl, a, (by decide : ∀ y ∈ slotsL, y ≤ 3) sl (List.mem_of_getElem? hs)⟩
/-- the rules of the keys ks stand in the dict at d -/
structure Tab (B : PBk) (H : Hp) (d : Addr) (ks : List (Str × Str × Nat)) (tt : List (List Key × V)) : Prop where
  at_ : H d = some (.dT tt)
  kseq : tt.map (·.1) = ks.map tkey
  all : ∀ k ∈ ks, ∃ v, valV tt (tkey k) = some v ∧ Drawn B H (B.s k.1) k.2.2 v
theorem Tab.len {B : PBk} {H : Hp} {d : Addr} {ks : List (Str × Str × Nat)} {tt : List (List Key × V)} (h : Tab B H d ks tt) : tt.length = ks.length := by
  have := congrArg List.length h.kseq
  rw [List.length_map, List.length_map] at this
  exact this
theorem Tab.mono {B : PBk} {H H' : Hp} {d : Addr} {ks : List (Str × Str × Nat)} {tt : List (List Key × V)} (s : Same H H') (h : Tab B H d ks tt) : Tab B H' d ks tt :=
  ⟨s _ _ h.at_, h.kseq, fun k hk => let ⟨v, a, r⟩ := h.all k hk; ⟨v, a, r.mono s⟩⟩
theorem Tab.no {B : PBk} {H : Hp} {d : Addr} {ks : List (Str × Str × Nat)} {tt : List (List Key × V)} (h : Tab B H d ks tt) {k : Str × Str × Nat} (hk : k ∉ ks) : valV tt (tkey k) = none := by
  cases ev : valV tt (tkey k) with
  | none => rfl
  | some v =>
    have hm := valV_in ev
    rw [h.kseq] at hm
    obtain ⟨q, hq, eq⟩ := List.mem_map.mp hm
    exact absurd (tkey_inj eq ▸ hq) hk
theorem Tab.put {B : PBk} {H : Hp} {d : Addr} {ks : List (Str × Str × Nat)} {tt : List (List Key × V)} (h : Tab B H d ks tt) {k : Str × Str × Nat} (hk : k ∉ ks) {v : V} (hv : Drawn B H (B.s k.1) k.2.2 v) :
    Tab B (upd H d (.dT (putK tt (tkey k) v))) d (ks ++ [k]) (putK tt (tkey k) v) := by
  have hno := h.no hk
  have u : SX d H (upd H d (.dT (putK tt (tkey k) v))) := SX.refl.upd
  refine ⟨upd_same, ?_, fun q hq => ?_⟩
  · rw [putK_new _ hno, List.map_append, h.kseq, List.map_append]
    rfl
  · rw [valV_put]
    by_cases e : q = k
    · subst e
      rw [if_pos rfl]
      exact ⟨_, rfl, hv.sx u h.at_ nofun⟩
    · rw [if_neg (fun z => e (tkey_inj z))]
      obtain ⟨x, a, r⟩ := h.all q (by
        rcases List.mem_append.mp hq with h | h
        · exact h
        · exact absurd (List.mem_singleton.mp h) e)
      exact ⟨x, a, r.sx u h.at_ nofun⟩
theorem at_str {zs : List Str} {i : Int} (h0 : 0 ≤ i) (h1 : i < zs.length) : ∃ z, atI (zs.map V.str) i = some (.str z) ∧ zs[i.toNat]? = some z := by
  obtain ⟨x, a, b⟩ := at_list (xs := zs.map V.str) h0 (by rw [List.length_map]; exact h1)
  rw [List.getElem?_map] at b
  obtain ⟨z, hz, rfl⟩ := Option.map_eq_some_iff.mp b
  exact ⟨z, a, hz⟩
/-- from drawn rules to a book -/
theorem book_of {B : PBk} {H : Hp} {d : Addr} {tt : List (List Key × V)} (h : Tab B H d (keys B.b) tt) (nd : B.P.Nodup) (st : B.st ∈ B.P) (s0 : B.s B.st = 0) (w1 : 1 ≤ B.W.length) (w3 : B.W.length ≤ 2) (wnd : B.W.Nodup) (wn : ∀ w ∈ B.W, NameOk w)
    (p4 : B.P.length ≤ 4) (pn : ∀ n ∈ B.P, NameOk n) (s3 : ∀ n ∈ B.P, B.s n ≤ 3) : ∃ B' : PBk, B'.W = B.W ∧ B'.P = B.P ∧ B'.s = B.s ∧ B'.y = B.y ∧ B'.st = B.st ∧ B'.Ok ∧ ∀ k ∈ keys B'.b, ∃ v, valV tt (tkey k) = some v ∧ RuleAt B' H k v := by
  have ch : ∀ k : Str × Str × Nat, ∃ q : Str × List Int, k ∈ keys B.b → q.1 ∈ B.P ∧ q.2.length = B.s q.1 ∧ q.2.Nodup ∧ (∀ x ∈ q.2, (if k.2.2 = 0 then 0 else 1) ≤ x ∧ x ≤ (B.s k.1 : Int)) ∧ (B.s q.1 ≤ if k.2.2 = 0 then B.s k.1 + 1 else B.s k.1) ∧
      ∃ v, valV tt (tkey k) = some v ∧ ∃ t m, v = .ref t ∧ H t = some (.tup [.str q.1, .ref m]) ∧ H m = some (.tup (q.2.map V.int)) := fun k => by
    by_cases hk : k ∈ keys B.b
    · obtain ⟨v, hv, n, ms, t, m, h1, h2, h3, h4, h5, h6, h7, h8⟩ := h.all k hk
      exact ⟨(n, ms), fun _ => ⟨h1, h5, h6, h7, h8, v, hv, t, m, h2, h3, h4⟩⟩
    · exact ⟨("", []), fun z => absurd z hk⟩
  obtain ⟨F, hF⟩ := Classical.axiomOfChoice ch
  have mk : ∀ n w c, n ∈ B.P → w ∈ B.W → c ≤ B.s n → (n, w, c) ∈ keys B.b := fun n w c hn hw hc => mem_keys hn hw hc
  refine ⟨{ B with g := fun n w c => (F (n, w, c)).1, mv := fun k => (F k).2 }, rfl, rfl, rfl, rfl, rfl, ⟨⟨nd, st, s0, fun n w c hn hw hc => (hF _ (mk n w c hn hw hc)).1, fun n w hn hw => ?_, fun n w c hn hw h1 hc => ?_⟩, w1, w3, wnd, wn, List.length_pos_of_mem st, p4, pn, s3,
    fun k hk => (hF k hk).2.1, fun k hk => (hF k hk).2.2.1, fun k hk => (hF k hk).2.2.2.1⟩, fun k hk => ?_⟩
  · have a := (hF _ (mk n w 0 hn hw (Nat.zero_le _))).2.2.2.2.1
    rw [if_pos rfl] at a
    exact a
  · have a := (hF _ (mk n w c hn hw hc)).2.2.2.2.1
    rw [if_neg (by show c ≠ 0; omega)] at a
    exact a
  · obtain ⟨v, hv, t, m, e, ht, hm⟩ := (hF k hk).2.2.2.2.2
    exact ⟨v, hv, t, m, e, ht, hm⟩
section
variable {P : Program} {w : World} {K : PySem.W.Frag} {mg : Str → Option Value} {base : Heap} {C : Addr}
/-! ### _law_parts -/
def spLawParts : Sp := fun vs H Q _ => ∃ (a wl : Addr) (ns : List Int) (ws : List Str), vs = [.ref a, .int 4, .ref wl] ∧ H a = some (.lst (ns.map V.int)) ∧ ns.length = 120 ∧ Nums ns ∧ H wl = some (.lst (ws.map V.str)) ∧ 1 ≤ ws.length ∧ ws.length ≤ 2 ∧ ws.Nodup ∧ (∀ z ∈ ws, NameOk z) ∧
  ∀ p H' (B : PBk), Same H H' → B.Ok → PartsAt B H' p → Q (.ref p) H'
theorem scLawParts : FnScope ["_law_numbers_here", "_law_at", "_law_words_here", "_law_names_here", "_law_places", "_law_k", "_law_slots", "_law_rules", "_law_spot", "_law_name", "_law_yes", "_law_word", "_law_case"] ["_law_numbers_here", "_law_at", "_law_words_here"] (defScope sLawParts) := ⟨rfl, rfl, rfl, by decide +kernel, rfl, by decide +kernel, by decide +kernel⟩
theorem ok_law_parts {f : Addr} {fd : FuncData} (F : Fun K "_law_parts" "_law_parts" sLawParts f fd) (T : Txt K mg C) (cN : Cal P w K mg base 1 "_law_names" ["_law_number", "_law_many"] spLawNames)
    (cD : Cal P w K mg base 1 "_law_drawn_rule" ["_law_first", "_law_second", "_law_places", "_law_slots", "_law_case"] spLawDrawnRule) : FnOk P w K mg base CX0 2 f fd ["_law_numbers_here", "_law_at", "_law_words_here"] spLawParts := by
  refine F.ok scLawParts (fun vs H Q E h => ?_) (fun cdv A outer s H vs Q E hr h => ?_)
  · obtain ⟨a, wl, ns, ws, rfl, _⟩ := h
    rfl
  · obtain ⟨a, wl, ns, ws, rfl, ha, hl, hN, hwl, hw1, hw2, hwn, hwo, k⟩ := h
    have hu := hu_of hr
    have nd := scLawParts.nd
    refine ⟨_, pss_cons (ps_set (i := 3) nd rfl (.inl rfl) (pe_cal cN hr (pa_cons (pe_ix ix_list (pv 0) (pv 1) (fun _ _ => rfl)) (pa_cons pe_int pa_nil))))
      (pss_cons (ps_set (i := 4) nd rfl (.inl rfl) (pe_lst (pa_cons (pe_tup (pa_cons (pe_ix ix_list (pv 3) pe_int (fun _ _ => rfl)) (pa_cons pe_int
        (pa_cons (pe_cmpR op_eq (pe_op op_mod (pe_callTy call_int1 (by rfl) T.int (by decide +kernel) (pa_cons (pe_ix ix_list (pv 0) (pe_op op_add (pv 1) pe_int) (fun _ _ => rfl)) pa_nil)) pe_int) pe_int (by rfl)) pa_nil)))) pa_nil)))
      (pss_cons (ps_for PassesOwn.never rfl (pi_range2 rfl T.range (pa_cons pe_int (pa_cons (pe_op op_add pe_int (pe_op op_mod (pe_callTy call_int1 (by rfl) T.int (by decide +kernel) (pa_cons (pe_ix ix_list (pv 0) (pe_op op_add (pv 1) pe_int) (fun _ _ => rfl)) pa_nil)) pe_int)) pa_nil))) (pg_name (i := 5) nd rfl (.inl rfl))
        (pss_cons (ps_set (i := 6) nd rfl (.inl rfl) (pe_ix ix_tup (pe_tup (pa_cons pe_int (pa_cons pe_int (pa_cons pe_int (pa_cons pe_int (pa_cons pe_int (pa_cons pe_int (pa_cons pe_int (pa_cons pe_int pa_nil)))))))))
          (pe_op op_mod (pe_callTy call_int1 (by rfl) T.int (by decide +kernel) (pa_cons (pe_ix ix_list (pv 0) (pe_op op_add (pe_op op_add (pv 1) pe_int) (pv 5)) (fun _ _ => rfl)) pa_nil)) pe_int) (fun _ _ => rfl)))
        (pss_one (ps_expr (pe_bm PySem.F.plainAttrs_list PySem.F.slot_list_append PySem.F.type_list_append mt_append (pv 4) (pa_cons (pe_tup (pa_cons (pe_ix ix_list (pv 3) (pv 5) (fun _ _ => rfl)) (pa_cons (pv 6)
          (pa_cons (pe_cmpR op_eq (pe_op op_mod (pe_op op_fdiv (pe_callTy call_int1 (by rfl) T.int (by decide +kernel) (pa_cons (pe_ix ix_list (pv 0) (pe_op op_add (pe_op op_add (pv 1) pe_int) (pv 5)) (fun _ _ => rfl)) pa_nil)) pe_int) pe_int) pe_int (by rfl)) pa_nil)))) pa_nil))))))
      (pss_cons (ps_set (i := 7) nd rfl (.inl rfl) pe_dnewT)
      (pss_cons (ps_set (i := 8) nd rfl (.inl rfl) (pe_op op_add (pv 1) pe_int))
      (pss_cons (ps_for PassesOwn.never rfl (pi_list (pv 4)) (pg_tup rfl (pgs_cons (pg_name (i := 9) nd rfl (.inl rfl)) (pgs_cons (pg_name (i := 6) nd rfl (.inl rfl)) (pgs_cons (pg_name (i := 10) nd rfl (.inl rfl)) pgs_nil))))
        (pss_one (ps_for PassesOwn.never rfl (pi_list (pv 2)) (pg_name (i := 11) nd rfl (.inl rfl))
          (pss_one (ps_for PassesOwn.never rfl (pi_range1 rfl T.range (pa_cons (pe_op op_add (pv 6) pe_int) pa_nil)) (pg_name (i := 12) nd rfl (.inl rfl))
            (pss_cons (ps_dput hu (pv 7) (pe_tup (pa_cons (pv 9) (pa_cons (pv 11) (pa_cons (pv 12) pa_nil))))
              (pe_cal cD hr (pa_cons (pe_ix ix_list (pv 0) (pv 8) (fun _ _ => rfl)) (pa_cons (pe_ix ix_list (pv 0) (pe_op op_add (pv 8) pe_int) (fun _ _ => rfl)) (pa_cons (pv 4) (pa_cons (pv 6) (pa_cons (pv 12) pa_nil)))))) rfl)
            (pss_one (ps_set (i := 8) nd rfl (.inl rfl) (pe_op op_add (pv 8) pe_int)))))))))
      (pss_one (ps_ret (pe_lst (pa_cons (pe_callTy call_tupK (by rfl) T.tuple (by decide +kernel) (pa_cons (pv 2) pa_nil)) (pa_cons (pe_callTy call_tupK (by rfl) T.tuple (by decide +kernel) (pa_cons (pv 4) pa_nil)) (pa_cons (pe_ix ix_list (pv 3) pe_int (fun _ _ => rfl)) (pa_cons (pv 7) pa_nil)))))))))))), ?_⟩
    have num : ∀ i : Int, 0 ≤ i → i < 120 → ∃ z, atI (ns.map V.int) i = some (.int z) ∧ 0 ≤ z ∧ z < 1009 := fun i h0 h1 => at_num hN h0 (by omega)
    obtain ⟨z, hz, z0, z1⟩ := num 4 (by decide) (by decide)
    refine ⟨_, rfl, _, rfl, a, _, 4, _, rfl, rfl, SqL.of ha, hz, z, 4, rfl, z0, z1, by decide, fun nm H1 zs s1 hnm hnm1 hzl hznd hzok => ?_⟩
    -- the first place
    obtain ⟨n0, hn0, hn0'⟩ := at_str (zs := zs) (i := 0) (by decide) (by omega)
    obtain ⟨y, hy, _, _⟩ := num (4 + 1) (by decide) (by decide)
    refine ⟨_, rfl, nm, _, 0, _, rfl, rfl, SqL.of hnm1, hn0, _, rfl, _, rfl, _, _, rfl, rfl, a, _, _, _, rfl, rfl, SqL.of (s1 _ _ ha), hy, .inl ⟨_, rfl, _, _, rfl, rfl, (show (0 : Int) < 2 by decide), rfl, small (n := 3) (by decide), fun p1 hp1 => ?_⟩⟩
    have t1 := Same.new (o := .tup [.str n0, .int 0, .bl (decide (V.int (y % 2) = V.int 1))]) hp1
    refine ⟨small (n := 1) (by decide), fun pl hpl => ?_⟩
    have t2 := Same.new (o := .lst [.ref p1]) hpl
    have s2 := t1.trans t2
    have hplH1 : H1 pl = none := t1.free hpl
    have hp12 := t2 _ _ (upd_same (H := H1) (a := p1) (o := .tup [.str n0, .int 0, .bl (decide (V.int (y % 2) = V.int 1))]))
    have hpl2 := upd_same (H := upd H1 p1 (.tup [.str n0, .int 0, .bl (decide (V.int (y % 2) = V.int 1))])) (a := pl) (o := .lst [.ref p1])
    generalize (upd (upd H1 p1 (.tup [.str n0, .int 0, .bl (decide (V.int (y % 2) = V.int 1))])) pl (.lst [.ref p1])) = H2 at s2 hp12 hpl2 ⊢
    -- the other places
    obtain ⟨x2, hx2, _, _⟩ := num (4 + 2) (by decide) (by decide)
    refine ⟨_, rfl, _, rfl, _, _, rfl, rfl, a, _, _, _, rfl, rfl, SqL.of (s2 _ _ (s1 _ _ ha)), hx2, .inl ⟨_, rfl, _, _, rfl, rfl, (show (0 : Int) < 3 by decide), _, _, rfl, rfl, 1, _, rfl, ⟨by omega, by omega, by omega, by omega⟩, ?_⟩⟩
    obtain ⟨m, hm, hm3⟩ : ∃ m : Nat, ((2 : Int) + x2 % 3 - 1).toNat = m ∧ m ≤ 3 := ⟨_, rfl, by omega⟩
    rw [hm]
    refine for_it walk_range (fun i σ Hc => ∃ o5 o6 B0 xs, σ = [some (.ref a), some (.int 4), some (.ref wl), some (.ref nm), some (.ref pl), o5, o6, none, none, none, none, none, none] ∧ Same H1 Hc ∧ Hc pl = some (.lst xs) ∧ B0.P = zs.take (i + 1) ∧ All2 (PlaceAt B0 Hc) B0.P xs ∧ B0.s n0 = 0 ∧ ∀ n ∈ B0.P, B0.s n ≤ 3)
      ⟨none, none, ⟨[], [n0], fun _ => 0, fun _ => decide (V.int (y % 2) = V.int 1), n0, fun _ _ _ => n0, fun _ => []⟩, [.ref p1], rfl, s2, hpl2, ?_, ⟨rfl, fun j x hj => ?_⟩, rfl, fun _ _ => Nat.zero_le _⟩ (fun _ _ _ _ _ => True.intro) ?_ ?_
    · rw [take_snoc (i := 0) hn0']
      rfl
    · cases j with
      | zero =>
        have : n0 = x := by simpa using hj
        subst this
        exact ⟨_, rfl, p1, rfl, hp12⟩
      | succ j => simp at hj
    · rintro i v σ Hc Hc' hi ⟨o5, o6, B0, xs, rfl, sc, hplc, hBP, al, hs0, hs3⟩ ⟨rfl, rfl⟩
      obtain ⟨xk, hxk, _, _⟩ := num (4 + 2 + (1 + (i : Int))) (by omega) (by omega)
      obtain ⟨sl, hsl, hsl3⟩ := at_slots xk
      obtain ⟨nk, hnk, hnk'⟩ := at_str (zs := zs) (i := 1 + (i : Int)) (by omega) (by omega)
      rw [show (1 + (i : Int)).toNat = i + 1 by omega] at hnk'
      have ha1 := sc _ _ (s1 _ _ ha)
      refine ⟨small (n := 8) (by decide), fun tq htq => ?_⟩
      have t1 := Same.new (o := .tup [.int 1, .int 2, .int 1, .int 0, .int 2, .int 1, .int 2, .int 3]) htq
      have htq1 := upd_same (H := Hc') (a := tq) (o := .tup [.int 1, .int 2, .int 1, .int 0, .int 2, .int 1, .int 2, .int 3])
      generalize (upd Hc' tq (.tup [.int 1, .int 2, .int 1, .int 0, .int 2, .int 1, .int 2, .int 3])) = H3 at t1 htq1 ⊢
      refine ⟨_, rfl, _, rfl, _, _, rfl, rfl, _, rfl, _, _, rfl, rfl, a, _, _, _, rfl, rfl, SqL.of (t1 _ _ ha1), hxk, .inl ⟨_, rfl, _, _, rfl, rfl, (show (0 : Int) < 8 by decide), tq, _, _, _, rfl, rfl, SqT.of htq1, hsl, ?_⟩⟩
      refine ⟨_, rfl, .inl ⟨rfl, _, SqL.of (t1 _ _ hplc)⟩, _, rfl, _, rfl, nm, _, _, _, rfl, rfl, SqL.of (t1 _ _ (sc _ _ hnm1)), hnk, _, rfl, _, rfl, _, rfl, _, _, rfl, rfl, _, rfl, _, _, rfl, rfl, a, _, _, _, rfl, rfl, SqL.of (t1 _ _ ha1), hxk, .inl ⟨_, rfl, _, _, rfl, rfl, ⟨by decide, by decide⟩, _, _, rfl, rfl, (show (0 : Int) < 2 by decide), rfl, small (n := 3) (by decide), fun p hp => ?_⟩⟩
      have t3 := Same.new (o := .tup [.str nk, .int (sl : Int), .bl (decide (V.int (xk / 8 % 2) = V.int 1))]) hp
      have t13 := t1.trans t3
      have lz := al.len
      have lP := congrArg List.length hBP
      rw [List.length_take] at lP
      refine ⟨pl, _, _, rfl, rfl, t13 _ _ hplc, smallL (by omega), ?_⟩
      have hnew : nk ∉ B0.P := by rw [hBP]; exact take_new hznd hnk'
      have hn0P : n0 ∈ B0.P := by rw [hBP, show zs.take (i + 1) = zs.take (i + 1) from rfl]; exact List.mem_take_iff_getElem.mpr ⟨0, by omega, by
        have := (List.getElem?_eq_some_iff.mp hn0')
        exact this.2⟩
      have hne0 : n0 ≠ nk := fun e => hnew (e ▸ hn0P)
      refine ⟨_, _, { B0 with P := B0.P ++ [nk], s := fun n => if n = nk then sl else B0.s n, y := fun n => if n = nk then decide (V.int (xk / 8 % 2) = V.int 1) else B0.y n }, xs ++ [.ref p], rfl, (sc.trans t13).chg hplH1, upd_same, ?_, ?_, ?_, fun n hn => ?_⟩
      · show B0.P ++ [nk] = _
        rw [hBP, ← take_snoc hnk']
      · refine All2.snoc ⟨al.len, fun j x hj => ?_⟩ ?_
        · obtain ⟨v, hv, r⟩ := al.at_ j x hj
          have hxn : x ≠ nk := fun e => hnew (e ▸ List.mem_of_getElem? hj)
          obtain ⟨b, e, hb⟩ := (r.mono t13).updL (o := .lst (xs ++ [.ref p])) (t13 _ _ hplc)
          refine ⟨v, hv, b, e, ?_⟩
          dsimp only
          rw [if_neg hxn, if_neg hxn]
          exact hb
        · refine ⟨p, rfl, ?_⟩
          dsimp only
          rw [if_pos rfl, if_pos rfl, upd_ne (fun e => by
            have := t13 _ _ hplc
            rw [← e, upd_same] at this
            cases this), upd_same]
      · show (if n0 = nk then sl else B0.s n0) = 0
        rw [if_neg hne0, hs0]
      · show (if n = nk then sl else B0.s n) ≤ 3
        by_cases e : n = nk
        · rw [if_pos e]; exact hsl3
        · rw [if_neg e]
          exact hs3 n (by
            rcases List.mem_append.mp hn with h | h
            · exact h
            · exact absurd (List.mem_singleton.mp h) e)
    rintro σ3 H3 ⟨o5, o6, B0, xs, rfl, s3, hpl3, hBP, al, hs0, hs3⟩
    have lP := congrArg List.length hBP
    rw [List.length_take] at lP
    have hP4 : B0.P.length ≤ 4 := by omega
    have hn0P : n0 ∈ B0.P := by
      rw [hBP]
      exact List.mem_take_iff_getElem.mpr ⟨0, by omega, (List.getElem?_eq_some_iff.mp hn0').2⟩
    have hPnd : B0.P.Nodup := by rw [hBP]; exact hznd.sublist (List.take_sublist _ _)
    have hPok : ∀ n ∈ B0.P, NameOk n := fun n hn => hzok n (by rw [hBP] at hn; exact List.mem_of_mem_take hn)
    obtain ⟨B, eW, eP, es, ey, est⟩ : ∃ B : PBk, B.W = ws ∧ B.P = B0.P ∧ B.s = B0.s ∧ B.y = B0.y ∧ B.st = n0 := ⟨{ B0 with W := ws, st := n0 }, rfl, rfl, rfl, rfl, rfl⟩
    have al : All2 (PlaceAt B H3) B.P xs := by
      rw [eP]
      exact al.mono fun n v r => by
        obtain ⟨b, e, hb⟩ := r
        exact ⟨b, e, by rw [es, ey]; exact hb⟩
    rw [← eP] at hP4 hn0P hPnd hPok
    have hs3 : ∀ n ∈ B.P, B.s n ≤ 3 := fun n hn => by rw [es]; exact hs3 n (eP ▸ hn)
    have hs0 : B.s n0 = 0 := by rw [es]; exact hs0
    have lz := al.len
    have hHd : ∀ b o, H b = some o → H3 b = some o := fun b o e => s3 _ _ (s1 _ _ e)
    have hwl3 := hHd _ _ hwl
    have ha3 := hHd _ _ ha
    have hnm3 := s3 _ _ hnm1
    clear lP hBP s3 s2 t1 t2 hpl2 hp12
    -- the rules
    intro d hd
    have sd := Same.new (o := .dT []) hd
    have hd4 := upd_same (H := H3) (a := d) (o := .dT [])
    have al4 := al.mono fun _ _ r => r.mono sd
    have hfree : ∀ b o, H b = some o → b ≠ d := fun b o e z => by
      have := hHd b o e
      rw [z, hd] at this
      cases this
    have hH4 : ∀ b o, H b = some o → (upd H3 d (.dT [])) b = some o := fun b o e => sd _ _ (hHd b o e)
    have hwl4 := sd _ _ hwl3
    have ha4 := sd _ _ ha3
    have hnm4 := sd _ _ hnm3
    have hpl4 := sd _ _ hpl3
    generalize (upd H3 d (.dT [])) = H4 at hd4 al4 hH4 hwl4 ha4 hnm4 hpl4 ⊢
    clear sd
    refine ⟨_, rfl, _, _, rfl, rfl, ?_⟩
    have hW2 : B.W.length ≤ 2 := by rw [eW]; exact hw2
    have lW : ∀ n ∈ B.P, ∀ l : List Str, (l.flatMap (kOfW B n)).length ≤ l.length * 4 := fun n hn l => flat_len (kOfW B n) 4 l fun w _ => by
      have := hs3 n hn
      show ((List.range (B.s n + 1)).map fun c => (n, w, c)).length ≤ 4
      rw [List.length_map, List.length_range]
      omega
    have lP : ∀ l : List Str, (∀ n ∈ l, n ∈ B.P) → (l.flatMap (kOf B)).length ≤ l.length * 8 := fun l hl => flat_len (kOf B) 8 l fun n hn => by
      have := lW n (hl n hn) B.W
      show (B.W.flatMap (kOfW B n)).length ≤ 8
      omega
    refine ⟨_, rfl, pl, rfl, ⟨_, SqL.of hpl4⟩, ?_⟩
    refine for_it (walk_list (K := K) (a := pl) (xs := xs)) (fun i σ Hc => ∃ o6 o9 o10 o11 o12 sp tt, σ = [some (.ref a), some (.int 4), some (.ref wl), some (.ref nm), some (.ref pl), o5, o6, some (.ref d), some (.int sp), o9, o10, o11, o12] ∧ SX d H4 Hc ∧ Tab B Hc d ((B.P.take i).flatMap (kOf B)) tt ∧ sp = 12 + 2 * (((B.P.take i).flatMap (kOf B)).length : Int))
      ⟨_, _, _, _, _, _, [], rfl, SX.refl, ⟨hd4, rfl, fun q hq => by simp at hq⟩, rfl⟩ (fun i σ Hc _ ⟨_, _, _, _, _, _, _, _, sc, _⟩ => SqL.of (sc.at hd4 hpl4 nofun)) ?_ ?_
    · rintro i v σ Hc Hc' hi ⟨o6, o9, o10, o11, o12, sp, tt, rfl, sc, tb, hsp⟩ ⟨rfl, hx⟩
      obtain ⟨n, hn, b, rfl, hb⟩ := al4.of hx
      have hnP := List.mem_of_getElem? hn
      have hn3 := hs3 n hnP
      refine ⟨b, _, rfl, SqT.of (sc.at hd4 hb nofun), rfl, _, _, rfl, _, _, rfl, _, _, rfl, rfl, ?_⟩
      refine ⟨_, rfl, wl, rfl, ⟨_, SqL.of (sc.at hd4 hwl4 nofun)⟩, ?_⟩
      refine for_it (walk_list (K := K) (a := wl) (xs := ws.map V.str)) (fun j σ Hc => ∃ o11 o12 sp tt, σ = [some (.ref a), some (.int 4), some (.ref wl), some (.ref nm), some (.ref pl), o5, some (.int (B.s n : Int)), some (.ref d), some (.int sp), some (.str n), some (.bl (B.y n)), o11, o12] ∧ SX d H4 Hc ∧
          Tab B Hc d ((B.P.take i).flatMap (kOf B) ++ (ws.take j).flatMap (kOfW B n)) tt ∧ sp = 12 + 2 * (((B.P.take i).flatMap (kOf B) ++ (ws.take j).flatMap (kOfW B n)).length : Int))
        ⟨o11, o12, sp, tt, rfl, sc, by simpa using tb, by simpa using hsp⟩ (fun j σ Hc _ ⟨_, _, _, _, _, sc, _⟩ => SqL.of (sc.at hd4 hwl4 nofun)) ?_ ?_
      · rintro j v σ H5 H5' hj ⟨o11, o12, sp, tt, rfl, sc, tb, hsp⟩ ⟨rfl, hx⟩
        rw [List.getElem?_map] at hx
        obtain ⟨wd, hwd, rfl⟩ := Option.map_eq_some_iff.mp hx
        refine ⟨_, rfl, _, _, rfl, rfl, (B.s n : Int) + 1, rfl, by omega, by omega, ?_⟩
        have hcnt : ((B.s n : Int) + 1).toNat = B.s n + 1 := by omega
        rw [hcnt]
        refine for_it walk_range (fun c σ Hc => ∃ o12 sp tt, σ = [some (.ref a), some (.int 4), some (.ref wl), some (.ref nm), some (.ref pl), o5, some (.int (B.s n : Int)), some (.ref d), some (.int sp), some (.str n), some (.bl (B.y n)), some (.str wd), o12] ∧ SX d H4 Hc ∧
            Tab B Hc d ((B.P.take i).flatMap (kOf B) ++ (ws.take j).flatMap (kOfW B n) ++ (List.range c).map fun c => (n, wd, c)) tt ∧ sp = 12 + 2 * (((B.P.take i).flatMap (kOf B) ++ (ws.take j).flatMap (kOfW B n) ++ (List.range c).map fun c => (n, wd, c)).length : Int))
          ⟨o12, sp, tt, rfl, sc, by simpa using tb, by simpa using hsp⟩ (fun _ _ _ _ _ => True.intro) ?_ ?_
        · rintro c v σ H6 H6' hc ⟨o12, sp, tt, rfl, sc, tb, hsp⟩ ⟨rfl, rfl⟩
          dsimp only
          rw [Int.zero_add]
          have hlen : ((B.P.take i).flatMap (kOf B) ++ (ws.take j).flatMap (kOfW B n) ++ (List.range c).map fun c => (n, wd, c)).length ≤ 31 := by
            have b1 := lP (B.P.take i) fun m hm => List.mem_of_mem_take hm
            have b2 := lW n hnP (ws.take j)
            have hi' := (List.getElem?_eq_some_iff.mp hn).1
            have hj' := (List.getElem?_eq_some_iff.mp hwd).1
            rw [List.length_take] at b1 b2
            rw [List.length_append, List.length_append, List.length_map, List.length_range]
            omega
          have hnew : (n, wd, c) ∉ (B.P.take i).flatMap (kOf B) ++ (ws.take j).flatMap (kOfW B n) ++ (List.range c).map fun c => (n, wd, c) := fun hm => by
            rcases List.mem_append.mp hm with hm | hm
            · rcases List.mem_append.mp hm with hm | hm
              · obtain ⟨n', hn', hm⟩ := List.mem_flatMap.mp hm
                obtain ⟨w', _, hm⟩ := List.mem_flatMap.mp hm
                obtain ⟨c', _, e⟩ := List.mem_map.mp hm
                injection e with e _
                exact take_new hPnd hn (e ▸ hn')
              · obtain ⟨w', hw', hm⟩ := List.mem_flatMap.mp hm
                obtain ⟨c', _, e⟩ := List.mem_map.mp hm
                injection e with _ e
                injection e with e _
                exact take_new hwn hwd (e ▸ hw')
            · obtain ⟨c', hc', e⟩ := List.mem_map.mp hm
              injection e with _ e
              injection e with _ e
              have := List.mem_range.mp hc'
              omega
          generalize hks : (B.P.take i).flatMap (kOf B) ++ (ws.take j).flatMap (kOfW B n) ++ (List.range c).map (fun c => (n, wd, c)) = ks at tb hsp hlen hnew
          obtain ⟨f, hf, f0, f1⟩ := num sp (by omega) (by omega)
          obtain ⟨g, hg, g0, g1⟩ := num (sp + 1) (by omega) (by omega)
          have ha6 := sc.at hd4 ha4 nofun
          have hpl6 := sc.at hd4 hpl4 nofun
          refine ⟨_, rfl, _, rfl, a, _, _, _, rfl, rfl, SqL.of ha6, hf, _, rfl, _, rfl, _, _, rfl, rfl, a, _, _, _, rfl, rfl, SqL.of ha6, hg, _, rfl, _, rfl, _, rfl, ?_⟩
          refine ⟨B, pl, xs, f, g, B.s n, c, n0, rfl, f0, g0, hpl6, al4.mono fun _ _ r => r.sx sc hd4 nofun, hn0P, hs0, hP4, hn3, fun v H7 s7 hv => ?_⟩
          have tb7 := tb.mono s7
          refine ⟨_, rfl, _, rfl, _, rfl, _, rfl, small (n := 3) (by decide), fun q hq => ?_⟩
          have sq := Same.new (o := .tup [.str n, .str wd, .int (c : Int)]) hq
          have tb8 := tb7.mono sq
          have hv8 := hv.mono sq
          have hq8 := upd_same (H := H7) (a := q) (o := .tup [.str n, .str wd, .int (c : Int)])
          have sc8 := sc.step (s7.trans sq)
          generalize (upd H7 q (.tup [.str n, .str wd, .int (c : Int)])) = H8 at sq tb8 hv8 hq8 sc8 ⊢
          have ltt := tb8.len
          refine ⟨d, _, rfl, DPut.t (k := tkey (n, wd, c)) tb8.at_ hq8 (smallL (by omega)), ?_⟩
          have tb9 := tb8.put hnew hv8
          refine ⟨_, rfl, _, _, rfl, rfl, ?_⟩
          refine ⟨_, sp + 2, putK tt (tkey (n, wd, c)) v, rfl, sc8.trans SX.refl.upd, ?_, ?_⟩
          · rw [List.range_succ, List.map_append, ← List.append_assoc, hks]
            exact tb9
          · rw [List.range_succ, List.map_append, ← List.append_assoc, hks, List.length_append, hsp]
            simp
            omega
        · rintro σ H6 ⟨o12, sp, tt, rfl, sc, tb, hsp⟩
          refine ⟨_, _, sp, tt, rfl, sc, ?_, ?_⟩
          · rw [flat_snoc _ hwd, ← List.append_assoc]
            exact tb
          · rw [flat_snoc _ hwd, ← List.append_assoc]
            exact hsp
      · rintro σ H5 ⟨o11, o12, sp, tt, rfl, sc, tb, hsp⟩
        rw [List.length_map, List.take_length] at tb hsp
        refine ⟨_, _, _, _, _, sp, tt, rfl, sc, ?_, ?_⟩
        · rw [flat_snoc _ hn]
          show Tab B H5 d (_ ++ B.W.flatMap (kOfW B n)) tt
          rw [eW]
          exact tb
        · rw [flat_snoc _ hn]
          show sp = 12 + 2 * ((_ ++ B.W.flatMap (kOfW B n) : List _).length : Int)
          rw [eW]
          exact hsp
    · rintro σ H5 ⟨o6, o9, o10, o11, o12, sp, tt, rfl, sc, tb, hsp⟩
      rw [lz, List.take_length] at tb
      have tb : Tab B H5 d (keys B.b) tt := tb
      obtain ⟨B', fW, fP, fs, fy, fst, ok, hr'⟩ := book_of tb hPnd (by rw [est]; exact hn0P) (by rw [est]; exact hs0) (by rw [eW]; exact hw1) hW2 (by rw [eW]; exact hwn) (by rw [eW]; exact hwo) hP4 hPok hs3
      refine ⟨_, rfl, ?_⟩
      dsimp only [tNil]
      refine tupOf (.inl (sc.at hd4 hwl4 nofun)) fun wA H6 s6 hwA => ?_
      refine ⟨_, rfl, ?_⟩
      dsimp only [tNil]
      refine tupOf (.inl (s6 _ _ (sc.at hd4 hpl4 nofun))) fun pA H7 s7 hpA => ?_
      refine ⟨_, rfl, nm, _, 0, _, rfl, rfl, SqL.of (s7 _ _ (s6 _ _ (sc.at hd4 hnm4 nofun))), hn0, _, rfl, small (n := 4) (by decide), fun p hp => ?_⟩
      have sp := Same.new (o := .lst [.ref wA, .ref pA, .str n0, .ref d]) hp
      have s57 := s6.trans (s7.trans sp)
      refine k p _ B' (fun b o e => s57 _ _ (sc b o (hfree b o e) (hH4 b o e))) ok ⟨wA, pA, d, xs, tt, ?_, ?_, ?_, ?_, s57 _ _ tb.at_, ?_, fun q hq => ?_⟩
      · rw [upd_same, fst, est]
      · rw [fW, eW]
        exact sp _ _ (s7 _ _ hwA)
      · exact sp _ _ hpA
      · rw [fP]
        exact al4.mono fun n v r => by
          obtain ⟨b, e, hb⟩ := r
          exact ⟨b, e, by rw [fs, fy]; exact s57 _ _ (sc.at hd4 hb nofun)⟩
      · have ek : keys B'.b = keys B.b := by
          show (B'.P.flatMap fun n => B'.W.flatMap fun w => (List.range (B'.s n + 1)).map fun c => (n, w, c)) = _
          rw [fP, fW, fs]
          rfl
        rw [ek]
        exact tb.kseq
      · obtain ⟨v, hv, r⟩ := hr' q hq
        exact ⟨v, hv, r.mono s57⟩
end
end FW

/-! FhL7: the law. -/
namespace FW
open PySem L2 FR FH
/-! ### how big -/
theorem wys_fit {N : Int} (h0 : 0 ≤ N) (h1 : N < 2 ^ 20) : ∀ d : Nat, (wys N d).natAbs ≤ 2 ^ (20 * d)
  | 0 => Nat.le_refl _
  | d + 1 => by
    have ih := wys_fit h0 h1 d
    show (wys N d * max 0 (N - d)).natAbs ≤ _
    rw [Int.natAbs_mul, show 20 * (d + 1) = 20 * d + 20 by omega, Nat.pow_add]
    exact Nat.mul_le_mul ih (by omega)
theorem words_fit {W n : Nat} (h : W ≤ 2) (hn : n ≤ 20) : W ^ n ≤ 2 ^ 20 := Nat.le_trans (Nat.pow_le_pow_left h n) (Nat.pow_le_pow_right (by decide) hn)
theorem cast_pow (W n : Nat) : ((W : Int)) ^ n = ((W ^ n : Nat) : Int) := by rw [Int.natCast_pow]
theorem kinds_fit {B : PBk} (ok : B.Ok) {n k : Nat} (hn : n ≤ 20) : ((kinds B.b n).getD k 0).natAbs < 2 ^ 80 := by
  obtain ⟨a, b⟩ := kinds_nn ok.ok n k
  rw [bel_one, cast_pow] at b
  obtain ⟨c, d⟩ := belN_le n (by omega)
  have e : B.b.W.length ^ n ≤ 2 ^ 20 := words_fit ok.w3 hn
  have f : ((B.b.W.length ^ n : Nat) : Int) * belN n ≤ (2 ^ 20 : Int) * 100000000000000 := Int.mul_le_mul (by omega) d c (by decide)
  omega
theorem pow_step (W N : Int) (i : Nat) : (W * N) ^ i * W * N = (W * N) ^ (i + 1) := by
  rw [Int.pow_succ, Int.mul_assoc]
theorem at_zero (v : V) (l : List V) : atI (v :: l) 0 = some v := by
  obtain ⟨x, a, b⟩ := at_list (xs := v :: l) (i := 0) (by decide) (by rw [List.length_cons]; omega)
  rw [a]
  exact b.symm
theorem sum_map {α : Type} (f : α → Int) : ∀ l : List α, (l.map f).sum = sm l f
  | [] => rfl
  | x :: l => by rw [List.map_cons, List.sum_cons, sm_cons, sum_map f l]
section
variable {P : Program} {w : World} {K : PySem.W.Frag} {mg : Str → Option Value} {base : Heap} {C : Addr}
def spLaw (K : PySem.W.Frag) : Sp := fun vs H Q _ => ∃ (a : Addr) (zs : List Int), vs = [.ref a] ∧ SqL K H a (zs.map V.int) ∧ zs.length ≤ 63 ∧ ∀ H', Q (.bl true) H'
theorem scLaw : FnScope ["_law_script", "_law_numbers_here", "_law_parts_here", "_law_reads", "_law_many", "_law_book", "_law_other", "_law_found", "_law_actual", "_law_every", "_law_words_here", "_law_turn", "_law_k"] ["_law_script"] (defScope sLaw) := ⟨rfl, rfl, rfl, by decide +kernel, rfl, by decide +kernel, by decide +kernel⟩
theorem ok_law {f : Addr} {fd : FuncData} (F : Fun K "law" "law" sLaw f fd) (T : Txt K mg C)
    (cNu : Cal P w K mg base 2 "_law_numbers" ["_law_script", "_law_many"] (spLawNumbers K)) (cPa : Cal P w K mg base 2 "_law_parts" ["_law_numbers_here", "_law_at", "_law_words_here"] spLawParts) (cWo : Cal P w K mg base 2 "_law_words" ["_law_numbers_here", "_law_at"] spLawWords)
    (cMa : Cal P w K mg base 5 "_law_make" ["_law_parts_here"] (spLawMake C)) (cT : MCal P w K mg base 6 C "turned" ["self"] (spTurned C)) (cKn : Cal P w K mg base 5 "kind_numbers" ["book", "reads"] (spKindNumbers C)) (cYc : Cal P w K mg base 7 "yes_count" ["book", "reads", "names"] (spYesCount C))
    (cWy : Cal P w K mg base 1 "_law_ways" ["_law_many", "_law_known"] spLawWays) (cKc : Cal P w K mg base 6 "kind_count" ["book", "reads"] (spKindCount C)) (cPt : Cal P w K mg base 1 "_law_parted" ["_law_reads"] spLawParted) :
    FnOk P w K mg base CX0 8 f fd ["_law_script"] (spLaw K) := by
  refine F.ok scLaw (fun vs H Q E h => ?_) (fun cdv A outer s H vs Q E hr h => ?_)
  · obtain ⟨a, zs, rfl, _⟩ := h
    rfl
  · obtain ⟨a, zs, rfl, ha, hl, k⟩ := h
    have nd := scLaw.nd
    have r1 := hr.mono (show 1 ≤ 7 by decide)
    have r2 := hr.mono (show 2 ≤ 7 by decide)
    have r5 := hr.mono (show 5 ≤ 7 by decide)
    have r6 := hr.mono (show 6 ≤ 7 by decide)
    refine ⟨_, pss_cons (ps_set (i := 1) nd rfl (.inl rfl) (pe_cal cNu r2 (pa_cons (pv 0) (pa_cons pe_int pa_nil))))
      (pss_cons (ps_set (i := 2) nd rfl (.inl rfl) (pe_cal cPa r2 (pa_cons (pv 1) (pa_cons pe_int (pa_cons (pe_cal cWo r2 (pa_cons (pv 1) (pa_cons pe_int pa_nil))) pa_nil)))))
      (pss_cons (ps_set (i := 3) nd rfl (.inl rfl) (pe_op op_mod (pe_callTy call_int1 (by rfl) T.int (by decide +kernel) (pa_cons (pe_ix ix_list (pv 1) pe_int (fun _ _ => rfl)) pa_nil)) pe_int))
      (pss_cons (ps_set (i := 4) nd rfl (.inr rfl) (pe_ix ix_list (pe_lst (pa_cons (pe_op op_mod (pe_callTy call_int1 (by rfl) T.int (by decide +kernel) (pa_cons (pe_ix ix_list (pv 1) pe_int (fun _ _ => rfl)) pa_nil)) pe_int)
          (pa_cons (pe_callTy call_int1 (by rfl) T.int (by decide +kernel) (pa_cons (pe_op op_add (pe_op op_mul (pe_ix ix_list (pv 1) pe_int (fun _ _ => rfl)) pe_int) (pe_ix ix_list (pv 1) pe_int (fun _ _ => rfl))) pa_nil)) pa_nil)))
          (pe_op op_mod (pe_callTy call_int1 (by rfl) T.int (by decide +kernel) (pa_cons (pe_ix ix_list (pv 1) pe_int (fun _ _ => rfl)) pa_nil)) pe_int) (fun _ _ => rfl)))
      (pss_cons (ps_set (i := 5) nd rfl (.inl rfl) (pe_cal cMa r5 (pa_cons (pv 2) pa_nil)))
      (pss_cons (ps_set (i := 6) nd rfl (.inl rfl) (pe_mcal0 cT r6 (pv 5) T.cl))
      (pss_cons (ps_set (i := 7) nd rfl (.inr rfl) (pe_cal cKn r5 (pa_cons (pv 5) (pa_cons (pv 3) pa_nil))))
      (pss_cons (ps_set (i := 8) nd rfl (.inl rfl) (pe_cal cYc hr (pa_cons (pv 5) (pa_cons (pv 3) (pa_cons (pv 4) pa_nil)))))
      (pss_cons (ps_if (pt_cmpR op_ne (pv 8) (pe_callB (cr_sum rfl) (by rfl) T.sum (by decide +kernel) (pa_cons
          (pe_lc (own := [("_law_k", 12)]) (g := gName 12) (tt := tYes) (te := tOp (rI CMulW fun i j => .int (i * j)) (tOp (rIxL K) (tVar 7) (tVar 12)) (tCal spLawWays (tCons (tVar 4) (tCons (tVar 12) tNil)))) rfl nd (pi_range1 rfl T.range (pa_cons (pe_len T.len (pv 7)) pa_nil))
            (blkOk_by (N := ["_law_script", "_law_numbers_here", "_law_parts_here", "_law_reads", "_law_many", "_law_book", "_law_other", "_law_found", "_law_actual", "_law_every", "_law_words_here", "_law_turn", "_law_k"]) (sc := defScope sLaw) (by decide +kernel))
            (fun _ _ _ _ _ => pg_name (i := 12) nd rfl (.inl rfl)) (fun _ _ _ _ _ => pts_nil) (fun _ _ _ _ _ => by exact pe_op op_mulW (pe_ix (kIxL K) (pv 7) (pv 12) (fun _ _ => rfl)) (pe_cal cWy r1 (pa_cons (pv 4) (pa_cons (pv 12) pa_nil))))) pa_nil)) (nomark _)) pss_never pss_nil)
      (pss_cons (ps_set (i := 9) nd rfl (.inl rfl) pe_int)
      (pss_cons (ps_set (i := 10) nd rfl (.inl rfl) pe_int)
      (pss_cons (ps_for PassesOwn.never rfl (pi_range1 rfl T.range (pa_cons (pv 3) pa_nil)) (pg_name (i := 11) nd rfl (.inl rfl))
        (pss_cons (ps_set (i := 9) nd rfl (.inl rfl) (pe_op op_mul (pe_op op_mul (pv 9) (pe_len T.len (pe_ix ix_list (pv 2) pe_int (fun _ _ => rfl)))) (pv 4)))
        (pss_one (ps_set (i := 10) nd rfl (.inl rfl) (pe_op op_mul (pv 10) (pe_len T.len (pe_ix ix_list (pv 2) pe_int (fun _ _ => rfl))))))))
      (pss_cons (ps_if (pt_cmpR op_ne (pe_op op_add (pv 8) (pe_cal cYc hr (pa_cons (pv 6) (pa_cons (pv 3) (pa_cons (pv 4) pa_nil))))) (pv 9) (nomark _)) pss_never pss_nil)
      (pss_one (ps_ret (pe_cmpR op_eq (pe_op op_add (pe_cal cKc r6 (pa_cons (pv 5) (pa_cons (pv 3) pa_nil))) (pe_cal cKc r6 (pa_cons (pv 6) (pa_cons (pv 3) pa_nil)))) (pe_op op_mul (pv 10) (pe_cal cPt r1 (pa_cons (pv 3) pa_nil))) (by rfl)))))))))))))))), ?_⟩
    refine ⟨_, rfl, a, zs, rfl, ha, hl, fun nA H1 ns hnA hnl hN => ?_⟩
    have num : ∀ i : Int, 0 ≤ i → i < 120 → ∃ z, atI (ns.map V.int) i = some (.int z) ∧ 0 ≤ z ∧ z < 1009 := fun i h0 h1 => at_num hN h0 (by omega)
    obtain ⟨z110, h110, _, _⟩ := num 110 (by decide) (by decide)
    obtain ⟨z111, h111, _, _⟩ := num 111 (by decide) (by decide)
    obtain ⟨z112, h112, _, _⟩ := num 112 (by decide) (by decide)
    obtain ⟨z113, h113, _, _⟩ := num 113 (by decide) (by decide)
    refine ⟨_, rfl, _, rfl, nA, ns, rfl, hnA, hnl, hN, fun wl H2 ws s2 hwl w1 w2 wnd wok => ?_⟩
    refine ⟨nA, wl, ns, ws, rfl, s2 _ _ hnA, hnl, hN, hwl, w1, w2, wnd, wok, fun pa H3 B s3 ok PA => ?_⟩
    have hn3 := s3 _ _ (s2 _ _ hnA)
    -- reads
    refine ⟨_, rfl, nA, _, 110, _, rfl, rfl, SqL.of hn3, h110, .inl ⟨_, rfl, _, _, rfl, rfl, (show (0 : Int) < 21 by decide), ?_⟩⟩
    obtain ⟨n, en, hn⟩ : ∃ n : Nat, z110 % 21 = (n : Int) ∧ n ≤ 20 := ⟨(z110 % 21).toNat, by omega, by omega⟩
    dsimp only
    rw [en]
    -- many
    refine ⟨_, rfl, nA, _, 111, _, rfl, rfl, SqL.of hn3, h111, .inl ⟨_, rfl, _, _, rfl, rfl, (show (0 : Int) < 10 by decide), ?_⟩⟩
    refine ⟨_, rfl, nA, _, 111, _, rfl, rfl, SqL.of hn3, h111, _, _, rfl, rfl, .inr ⟨by decide, by decide⟩, _, rfl, nA, _, 112, _, rfl, rfl, SqL.of hn3, h112, _, _, rfl, rfl, .inl ⟨_, rfl, small (n := 2) (by decide), fun q hq => ?_⟩⟩
    have sq := Same.new (o := .lst [.int (z111 % 10), .int (z111 * 991 + z112)]) hq
    refine ⟨_, rfl, nA, _, 113, _, rfl, rfl, SqL.of (sq _ _ hn3), h113, .inl ⟨_, rfl, _, _, rfl, rfl, (show (0 : Int) < 2 by decide), ?_⟩⟩
    obtain ⟨N, hN1, N0, N1⟩ : ∃ N : Int, atI [V.int (z111 % 10), V.int (z111 * 991 + z112)] (z113 % 2) = some (.int N) ∧ 0 ≤ N ∧ N < 2 ^ 20 := by
      obtain ⟨v, e, e2⟩ := at_list (xs := [V.int (z111 % 10), V.int (z111 * 991 + z112)]) (i := z113 % 2) (by omega) (by simp; omega)
      have hj : (z113 % 2).toNat = 0 ∨ (z113 % 2).toNat = 1 := by omega
      rcases hj with hj | hj
      · rw [hj] at e2
        cases e2
        exact ⟨_, e, by omega, by omega⟩
      · rw [hj] at e2
        cases e2
        exact ⟨_, e, by omega, by omega⟩
    refine ⟨q, _, _, _, rfl, rfl, SqL.of upd_same, hN1, ?_⟩
    generalize (upd H3 q (.lst [.int (z111 % 10), .int (z111 * 991 + z112)])) = H4 at sq ⊢
    have PA4 : ∃ wA rest, H4 pa = some (.lst (.ref wA :: rest)) ∧ H4 wA = some (.tup (B.W.map V.str)) := by
      obtain ⟨wA, pA, d, pvs, tt, h1, h2, _⟩ := PA
      exact ⟨wA, _, sq _ _ h1, sq _ _ h2⟩
    have PA' : PartsAt B H4 pa := by
      obtain ⟨wA, pA, d, pvs, tt, h1, h2, h3, h4, h5, h6, h7⟩ := PA
      exact ⟨wA, pA, d, pvs, tt, sq _ _ h1, sq _ _ h2, sq _ _ h3, h4.mono fun _ _ r => r.mono sq, sq _ _ h5, h6, fun key hk => let ⟨v, a, r⟩ := h7 key hk; ⟨v, a, r.mono sq⟩⟩
    obtain ⟨wA, rest, hpa4, hwA4⟩ := PA4
    -- the books
    refine ⟨_, rfl, B, pa, rfl, ok, PA', fun b H5 s5 BA5 => ?_⟩
    obtain ⟨dx5, fs5, hb5, hno5⟩ : ∃ dx fs, H5 b = some (.ins C dx fs) ∧ fs.lookup ("turned" : Str) = none := by
      obtain ⟨dx, _, _, _, _, _, _, _, h, _⟩ := BA5.ex
      exact ⟨dx, _, h, bfs_no (by decide +kernel)⟩
    refine ⟨_, rfl, b, dx5, fs5, rfl, hb5, hno5, B, b, rfl, ok, BA5, fun o H6 s6 BO6 => ?_⟩
    have okt := turn_ok ok
    have hN9 : N ≤ 1000000000 := by omega
    refine ⟨_, rfl, _, rfl, B, b, n, rfl, ok, BA5.mono s6, by omega, fun fA H7 s7 hfA0 hfA => ?_⟩
    have kl : (kinds B.b n).length = n + 1 := kinds_length B.b n
    refine ⟨_, rfl, _, rfl, _, rfl, B, b, n, N, rfl, ok, (BA5.mono s6).mono s7, by omega, N0, hN9, fun H8 s8 => ?_⟩
    have hfA8 := s8 _ _ hfA
    have BA8 := ((BA5.mono s6).mono s7).mono s8
    have BO8 := (BO6.mono s7).mono s8
    have hpa8 := s8 _ _ (s7 _ _ (s6 _ _ (s5 _ _ hpa4)))
    have hwA8 := s8 _ _ (s7 _ _ (s6 _ _ (s5 _ _ hwA4)))
    -- the first comparison
    refine ⟨_, rfl, _, rfl, _, _, rfl, lenV_of (.inl hfA8), ((kinds B.b n).map V.int).length, rfl, by rw [List.length_map]; omega, by rw [List.length_map]; omega, fun D hD => ?_⟩
    have hcnt : ((((kinds B.b n).map V.int).length : Nat) : Int).toNat = n + 1 := by rw [List.length_map]; omega
    rw [hcnt]
    refine lc_it walk_range (fun i H9 => Same H8 H9 ∧ H9 D = some (.lst (((List.range i).map fun k => (kinds B.b n).getD k 0 * wys N k).map V.int))) ⟨Same.new hD, upd_same⟩ (fun _ _ _ _ => True.intro) ?_ ?_
    · rintro i y H9 H10 hi ⟨s9, hD9⟩ ⟨rfl, rfl⟩
      have hi2 : i < (kinds B.b n).length := by omega
      obtain ⟨v, hv, hv2⟩ := at_list (xs := (kinds B.b n).map V.int) (i := 0 + (i : Int)) (by omega) (by rw [List.length_map]; omega)
      rw [show (0 + (i : Int)).toNat = i by omega, List.getElem?_map, List.getElem?_eq_getElem hi2] at hv2
      cases hv2
      have eg : (kinds B.b n)[i] = (kinds B.b n).getD i 0 := by rw [List.getD_eq_getElem?_getD, List.getElem?_eq_getElem hi2]; rfl
      refine ⟨rfl, yesT ⟨_, rfl, _, rfl, fA, _, _, _, rfl, rfl, SqL.of (s9 _ _ hfA8), hv, _, rfl, _, rfl, N, i, ?_, N0, hN9, by omega, ?_⟩⟩
      · show [V.int N, V.int (0 + (i : Int))] = _
        rw [Int.zero_add]
      refine ⟨_, _, rfl, rfl, wide_mul (a := 80) (b := 401) ?_ ?_ (by decide) (by decide) (by decide), _, hD9, smallL (by rw [List.length_map, List.length_map, List.length_range]; omega), s9.chg hD, ?_⟩
      · rw [eg]
        exact kinds_fit ok hn
      · exact Nat.lt_of_le_of_lt (wys_fit N0 N1 i) (Nat.pow_lt_pow_right (by decide) (by omega))
      · rw [upd_same, List.range_succ, List.map_append, List.map_append, eg]
        rfl
    rintro H9 ⟨s9, hD9⟩
    refine ⟨D, _, rfl, SqL.of hD9, rfl, _, rfl, ?_⟩
    have e1 : ((List.range (n + 1)).map fun k => (kinds B.b n).getD k 0 * wys N k).sum = ev N (yesP B.b n) := by
      rw [sum_map]
      exact (law1 ok.ok N0 n).symm
    rw [e1, decide_eq_true (show V.int (ev N (yesP B.b n)) = V.int (ev N (yesP B.b n)) from rfl)]
    refine iteF ?_
    have BA9 := BA8.mono s9
    have BO9 := BO8.mono s9
    have hpa9 := s9 _ _ hpa8
    have hwA9 := s9 _ _ hwA8
    -- every
    refine ⟨_, rfl, (n : Int), rfl, by omega, by omega, ?_⟩
    have hcnt2 : (n : Int).toNat = n := by omega
    rw [hcnt2]
    refine for_it walk_range (fun i σ Hc => ∃ o11, Hc = H9 ∧ σ = [some (.ref a), some (.ref nA), some (.ref pa), some (.int (n : Int)), some (.int N), some (.ref b), some (.ref o), some (.ref fA), some (.int (ev N (yesP B.b n))), some (.int (((B.W.length : Int) * N) ^ i)), some (.int ((B.W.length : Int) ^ i)), o11, none])
      ⟨none, rfl, by rw [Int.pow_zero, Int.pow_zero]; rfl⟩ (fun _ _ _ _ _ => True.intro) ?_ ?_
    · rintro i y σ Hc Hc' hi ⟨o11, rfl, rfl⟩ ⟨rfl, rfl⟩
      have hw3 := ok.w3
      refine ⟨_, rfl, _, rfl, pa, _, 0, .ref wA, rfl, rfl, SqL.of hpa9, at_zero _ _, _, _, rfl, lenV_of (.inr hwA9), _, _, rfl, rfl, .inr (by rw [List.length_map]; exact ⟨by omega, by omega⟩), _, rfl, _, _, rfl, rfl, .inr ⟨by omega, by omega⟩, ?_⟩
      refine ⟨_, rfl, _, rfl, pa, _, 0, .ref wA, rfl, rfl, SqL.of hpa9, at_zero _ _, _, _, rfl, lenV_of (.inr hwA9), _, _, rfl, rfl, .inr (by rw [List.length_map]; exact ⟨by omega, by omega⟩), ?_⟩
      refine ⟨some (.int (0 + (i : Int))), rfl, ?_⟩
      rw [List.length_map, ← pow_step, Int.pow_succ (B.W.length : Int)]
      rfl
    rintro σ Hc ⟨o11, rfl, rfl⟩
    -- the second comparison
    refine ⟨_, rfl, _, rfl, _, rfl, _, rfl, B.turn, o, n, N, rfl, okt, BO9, by omega, N0, hN9, fun H10 s10 => ?_⟩
    refine ⟨_, _, rfl, rfl, _, rfl, rfl, _, rfl, ?_⟩
    have e2 : ev N (yesP B.b n) + ev N (yesP B.turn.b n) = ((B.W.length : Int) * N) ^ n := law2 ok.ok okt.ok N n
    dsimp only
    rw [decide_eq_true (congrArg V.int e2)]
    refine iteF ?_
    -- the third comparison
    refine ⟨_, rfl, _, rfl, B, b, n, rfl, ok, BA9.mono s10, by omega, fun H11 s11 => ?_⟩
    refine ⟨_, rfl, _, rfl, B.turn, o, n, rfl, okt, (BO9.mono s10).mono s11, by omega, fun H12 s12 => ?_⟩
    refine ⟨_, _, rfl, rfl, _, rfl, _, rfl, n, rfl, hn, fun H13 s13 => ?_⟩
    have hwf : ((B.W.length : Int)) ^ n = ((B.W.length ^ n : Nat) : Int) := cast_pow _ _
    have hwf2 : B.W.length ^ n ≤ 2 ^ 20 := words_fit ok.w3 hn
    refine ⟨_, _, rfl, rfl, .inl (by rw [hwf]; exact ⟨by omega, by omega⟩), rfl, ?_⟩
    have e3 : (kinds B.b n).sum + (kinds B.turn.b n).sum = (B.W.length : Int) ^ n * belN n := by
      rw [← bel_one]
      exact law3 ok.ok okt.ok n
    dsimp only
    rw [decide_eq_true (congrArg V.int e3)]
    exact k _
end
end FW

/-! FhEnd: what the top has written, gathered. -/
namespace FW
open PySem L2 FR FH
theorem kw_mk {K : PySem.W.Frag} {D : Addr} (h1 : PySem.W.nsIn K D "places" = some (some .none)) (h2 : PySem.W.nsIn K D "start" = some (some .none)) (h3 : PySem.W.nsIn K D "rules" = some (some .none)) : ∀ q ∈ kwWith, ∃ u, PySem.W.nsIn K D q.1 = some (some u) ∧ RelV q.2 u := by
  intro q hq
  rcases List.mem_cons.mp hq with e | hq
  · subst e; exact ⟨_, h1, rfl⟩
  rcases List.mem_cons.mp hq with e | hq
  · subst e; exact ⟨_, h2, rfl⟩
  rcases List.mem_cons.mp hq with e | hq
  · subst e; exact ⟨_, h3, rfl⟩
  · cases hq
theorem all_mk {l : PySem.W.OpenLaw} {w : World} {K : PySem.W.Frag} {h : Heap} {mg : Str → Option Value} {fa C f1 f2 f3 f4 f5 f6 f7 f8 f9 f10 f11 f12 f13 f14 f15 f16 f17 p17 f18 p18 f19 f20 f21 f22 f23 f24 f25 f26 f27 f28 D f29 f30 f31 f32 f33 f34 f35 f36 f37 f38 f39 : Addr} (X : K.In h) (G : h.Ns mainGlobals mg) (hfa : mg "law" = some (.ref fa))
    {od1 an1 od2 an2 od3 an3 od4 an4 od5 an5 od6 an6 od7 an7 od8 an8 od9 an9 od10 an10 od11 an11 od12 an12 od13 an13 od14 an14 od15 an15 od16 an16 od17 an17 od18 an18 od19 an19 od20 an20 od21 an21 od22 an22 od23 an23 od24 an24 od25 an25 od26 an26 od27 an27 od28 an28 od29 an29 od30 an30 od31 an31 od32 an32 od33 an33 od34 an34 od35 an35 od36 an36 od37 an37 od38 an38 od39 an39 : Option Addr} {sl1 sl2 sl3 sl4 sl5 sl6 sl7 sl8 sl9 sl10 sl11 sl12 sl13 sl14 sl15 sl16 sl17 sl18 sl19 sl20 sl21 sl22 sl23 sl24 sl25 sl26 sl27 sl28 sl29 sl30 sl31 sl32 sl33 sl34 sl35 sl36 sl37 sl38 sl39 : Array (Option Value)} {oc1 kV1 dc1 pm1 cd1 ct1 oc2 kV2 dc2 pm2 cd2 ct2 oc3 kV3 dc3 pm3 cd3 ct3 oc4 kV4 dc4 pm4 cd4 ct4 oc5 kV5 dc5 pm5 cd5 ct5 oc6 kV6 dc6 pm6 cd6 ct6 oc7 kV7 dc7 pm7 cd7 ct7 oc8 kV8 dc8 pm8 cd8 ct8 oc9 kV9 dc9 pm9 cd9 ct9 oc10 kV10 dc10 pm10 cd10 ct10 oc11 kV11 dc11 pm11 cd11 ct11 oc12 kV12 dc12 pm12 cd12 ct12 oc13 kV13 dc13 pm13 cd13 ct13 oc14 kV14 dc14 pm14 cd14 ct14 oc15 kV15 dc15 pm15 cd15 ct15 oc16 kV16 dc16 pm16 cd16 ct16 oc17 kV17 dc17 pm17 cd17 ct17 oc18 kV18 dc18 pm18 cd18 ct18 oc19 kV19 dc19 pm19 cd19 ct19 oc20 kV20 dc20 pm20 cd20 ct20 oc21 kV21 dc21 pm21 cd21 ct21 oc22 kV22 dc22 pm22 cd22 ct22 oc23 kV23 dc23 pm23 cd23 ct23 oc24 kV24 dc24 pm24 cd24 ct24 oc25 kV25 dc25 pm25 cd25 ct25 oc26 kV26 dc26 pm26 cd26 ct26 oc27 kV27 dc27 pm27 cd27 ct27 oc28 dc28 pm28 cd28 ct28 oc29 kV29 dc29 pm29 cd29 ct29 oc30 kV30 dc30 pm30 cd30 ct30 oc31 kV31 dc31 pm31 cd31 ct31 oc32 kV32 dc32 pm32 cd32 ct32 oc33 kV33 dc33 pm33 cd33 ct33 oc34 kV34 dc34 pm34 cd34 ct34 oc35 kV35 dc35 pm35 cd35 ct35 oc36 kV36 dc36 pm36 cd36 ct36 oc37 kV37 dc37 pm37 cd37 ct37 oc38 kV38 dc38 pm38 cd38 ct38 oc39 kV39 dc39 pm39 cd39 ct39 : Value} {tk0 tk1 tk2 tk3 tk4 tk5 tk6 tk7 : Tok} {rs17 rs18 : List Value}
    (aC : PySem.W.nsIn K mainGlobals "Book" = some (some (.ref C)))
    (a1 : PySem.W.nsIn K mainGlobals "check_reads" = some (some (.ref f1)))
    (l1 : K.lookup f1 = some ⟨oc1, od1, .func (PySem.W.fnOf "check_reads" "check_reads" (defArgs sCheckReads) (defBody sCheckReads) (defScope sCheckReads) .none kV1 dc1 pm1 an1 cd1 ct1), sl1⟩)
    (c1 : PySem.W.codeIn K cd1 "check_reads" = true)
    (k1 : PySem.W.keepIn K (.ref f1) = true)
    (a2 : PySem.W.nsIn K mainGlobals "require" = some (some (.ref f2)))
    (l2 : K.lookup f2 = some ⟨oc2, od2, .func (PySem.W.fnOf "require" "require" (defArgs sRequire) (defBody sRequire) (defScope sRequire) .none kV2 dc2 pm2 an2 cd2 ct2), sl2⟩)
    (c2 : PySem.W.codeIn K cd2 "require" = true)
    (k2 : PySem.W.keepIn K (.ref f2) = true)
    (a3 : PySem.W.nsIn K mainGlobals "value" = some (some (.ref f3)))
    (l3 : K.lookup f3 = some ⟨oc3, od3, .func (PySem.W.fnOf "value" "value" (defArgs sValue) (defBody sValue) (defScope sValue) .none kV3 dc3 pm3 an3 cd3 ct3), sl3⟩)
    (c3 : PySem.W.codeIn K cd3 "value" = true)
    (k3 : PySem.W.keepIn K (.ref f3) = true)
    (a4 : PySem.W.nsIn K mainGlobals "trimmed" = some (some (.ref f4)))
    (l4 : K.lookup f4 = some ⟨oc4, od4, .func (PySem.W.fnOf "trimmed" "trimmed" (defArgs sTrimmed) (defBody sTrimmed) (defScope sTrimmed) .none kV4 dc4 pm4 an4 cd4 ct4), sl4⟩)
    (c4 : PySem.W.codeIn K cd4 "trimmed" = true)
    (k4 : PySem.W.keepIn K (.ref f4) = true)
    (a5 : PySem.W.nsIn K mainGlobals "plus" = some (some (.ref f5)))
    (l5 : K.lookup f5 = some ⟨oc5, od5, .func (PySem.W.fnOf "plus" "plus" (defArgs sPlus) (defBody sPlus) (defScope sPlus) .none kV5 dc5 pm5 an5 cd5 ct5), sl5⟩)
    (c5 : PySem.W.codeIn K cd5 "plus" = true)
    (k5 : PySem.W.keepIn K (.ref f5) = true)
    (a6 : PySem.W.nsIn K mainGlobals "times_rest" = some (some (.ref f6)))
    (l6 : K.lookup f6 = some ⟨oc6, od6, .func (PySem.W.fnOf "times_rest" "times_rest" (defArgs sTimesRest) (defBody sTimesRest) (defScope sTimesRest) .none kV6 dc6 pm6 an6 cd6 ct6), sl6⟩)
    (c6 : PySem.W.codeIn K cd6 "times_rest" = true)
    (k6 : PySem.W.keepIn K (.ref f6) = true)
    (a7 : PySem.W.nsIn K mainGlobals "is_name" = some (some (.ref f7)))
    (l7 : K.lookup f7 = some ⟨oc7, od7, .func (PySem.W.fnOf "is_name" "is_name" (defArgs sIsName) (defBody sIsName) (defScope sIsName) .none kV7 dc7 pm7 an7 cd7 ct7), sl7⟩)
    (c7 : PySem.W.codeIn K cd7 "is_name" = true)
    (k7 : PySem.W.keepIn K (.ref f7) = true)
    (a8 : PySem.W.nsIn K mainGlobals "are_different" = some (some (.ref f8)))
    (l8 : K.lookup f8 = some ⟨oc8, od8, .func (PySem.W.fnOf "are_different" "are_different" (defArgs sAreDifferent) (defBody sAreDifferent) (defScope sAreDifferent) .none kV8 dc8 pm8 an8 cd8 ct8), sl8⟩)
    (c8 : PySem.W.codeIn K cd8 "are_different" = true)
    (k8 : PySem.W.keepIn K (.ref f8) = true)
    (a9 : PySem.W.nsIn K mainGlobals "require_names" = some (some (.ref f9)))
    (l9 : K.lookup f9 = some ⟨oc9, od9, .func (PySem.W.fnOf "require_names" "require_names" (defArgs sRequireNames) (defBody sRequireNames) (defScope sRequireNames) .none kV9 dc9 pm9 an9 cd9 ct9), sl9⟩)
    (c9 : PySem.W.codeIn K cd9 "require_names" = true)
    (k9 : PySem.W.keepIn K (.ref f9) = true)
    (a10 : PySem.W.nsIn K mainGlobals "checked_place" = some (some (.ref f10)))
    (l10 : K.lookup f10 = some ⟨oc10, od10, .func (PySem.W.fnOf "checked_place" "checked_place" (defArgs sCheckedPlace) (defBody sCheckedPlace) (defScope sCheckedPlace) .none kV10 dc10 pm10 an10 cd10 ct10), sl10⟩)
    (c10 : PySem.W.codeIn K cd10 "checked_place" = true)
    (k10 : PySem.W.keepIn K (.ref f10) = true)
    (a11 : PySem.W.findIn K (.ref C) "place" = some (some (.ref f11)))
    (i11 : PySem.W.isFn K (.ref f11) = true)
    (l11 : K.lookup f11 = some ⟨oc11, od11, .func (PySem.W.fnOf "place" "Book.place" (defArgs sPlace) (defBody sPlace) (defScope sPlace) .none kV11 dc11 pm11 an11 cd11 ct11), sl11⟩)
    (c11 : PySem.W.codeIn K cd11 "Book.place" = true)
    (k11 : PySem.W.keepIn K (.ref f11) = true)
    (a12 : PySem.W.findIn K (.ref C) "slots" = some (some (.ref f12)))
    (i12 : PySem.W.isFn K (.ref f12) = true)
    (l12 : K.lookup f12 = some ⟨oc12, od12, .func (PySem.W.fnOf "slots" "Book.slots" (defArgs sSlots) (defBody sSlots) (defScope sSlots) .none kV12 dc12 pm12 an12 cd12 ct12), sl12⟩)
    (c12 : PySem.W.codeIn K cd12 "Book.slots" = true)
    (k12 : PySem.W.keepIn K (.ref f12) = true)
    (a13 : PySem.W.findIn K (.ref C) "says_yes" = some (some (.ref f13)))
    (i13 : PySem.W.isFn K (.ref f13) = true)
    (l13 : K.lookup f13 = some ⟨oc13, od13, .func (PySem.W.fnOf "says_yes" "Book.says_yes" (defArgs sSaysYes) (defBody sSaysYes) (defScope sSaysYes) .none kV13 dc13 pm13 an13 cd13 ct13), sl13⟩)
    (c13 : PySem.W.codeIn K cd13 "Book.says_yes" = true)
    (k13 : PySem.W.keepIn K (.ref f13) = true)
    (a14 : PySem.W.findIn K (.ref C) "check_word" = some (some (.ref f14)))
    (i14 : PySem.W.isFn K (.ref f14) = true)
    (l14 : K.lookup f14 = some ⟨oc14, od14, .func (PySem.W.fnOf "check_word" "Book.check_word" (defArgs sCheckWord) (defBody sCheckWord) (defScope sCheckWord) .none kV14 dc14 pm14 an14 cd14 ct14), sl14⟩)
    (c14 : PySem.W.codeIn K cd14 "Book.check_word" = true)
    (k14 : PySem.W.keepIn K (.ref f14) = true)
    (a15 : PySem.W.findIn K (.ref C) "rule" = some (some (.ref f15)))
    (i15 : PySem.W.isFn K (.ref f15) = true)
    (l15 : K.lookup f15 = some ⟨oc15, od15, .func (PySem.W.fnOf "rule" "Book.rule" (defArgs sRule) (defBody sRule) (defScope sRule) .none kV15 dc15 pm15 an15 cd15 ct15), sl15⟩)
    (c15 : PySem.W.codeIn K cd15 "Book.rule" = true)
    (k15 : PySem.W.keepIn K (.ref f15) = true)
    (a16 : PySem.W.findIn K (.ref C) "asked" = some (some (.ref f16)))
    (i16 : PySem.W.isFn K (.ref f16) = true)
    (l16 : K.lookup f16 = some ⟨oc16, od16, .func (PySem.W.fnOf "asked" "Book.asked" (defArgs sAsked) (defBody sAsked) (defScope sAsked) .none kV16 dc16 pm16 an16 cd16 ct16), sl16⟩)
    (c16 : PySem.W.codeIn K cd16 "Book.asked" = true)
    (k16 : PySem.W.keepIn K (.ref f16) = true)
    (a17 : PySem.W.findIn K (.ref C) "place_names" = some (some (.ref p17)))
    (g17 : PySem.W.specialIn K (.ref p17) "__get__" = some (some (.builtin "property.__get__")))
    (t17 : PySem.W.takesIn K (.ref p17) = some true)
    (r17 : PySem.W.recIn K p17 "property" = some (.ref f17 :: rs17))
    (l17 : K.lookup f17 = some ⟨oc17, od17, .func (PySem.W.fnOf "place_names" "Book.place_names" (defArgs sPlaceNames) (defBody sPlaceNames) (defScope sPlaceNames) .none kV17 dc17 pm17 an17 cd17 ct17), sl17⟩)
    (c17 : PySem.W.codeIn K cd17 "Book.place_names" = true)
    (k17 : PySem.W.keepIn K (.ref f17) = true)
    (a18 : PySem.W.findIn K (.ref C) "rules" = some (some (.ref p18)))
    (g18 : PySem.W.specialIn K (.ref p18) "__get__" = some (some (.builtin "property.__get__")))
    (t18 : PySem.W.takesIn K (.ref p18) = some true)
    (r18 : PySem.W.recIn K p18 "property" = some (.ref f18 :: rs18))
    (l18 : K.lookup f18 = some ⟨oc18, od18, .func (PySem.W.fnOf "rules" "Book.rules" (defArgs sRules) (defBody sRules) (defScope sRules) .none kV18 dc18 pm18 an18 cd18 ct18), sl18⟩)
    (c18 : PySem.W.codeIn K cd18 "Book.rules" = true)
    (k18 : PySem.W.keepIn K (.ref f18) = true)
    (a19 : PySem.W.nsIn K mainGlobals "polynomials" = some (some (.ref f19)))
    (l19 : K.lookup f19 = some ⟨oc19, od19, .func (PySem.W.fnOf "polynomials" "polynomials" (defArgs sPolynomials) (defBody sPolynomials) (defScope sPolynomials) .none kV19 dc19 pm19 an19 cd19 ct19), sl19⟩)
    (c19 : PySem.W.codeIn K cd19 "polynomials" = true)
    (k19 : PySem.W.keepIn K (.ref f19) = true)
    (a20 : PySem.W.nsIn K mainGlobals "place_polynomials" = some (some (.ref f20)))
    (l20 : K.lookup f20 = some ⟨oc20, od20, .func (PySem.W.fnOf "place_polynomials" "place_polynomials" (defArgs sPlacePolynomials) (defBody sPlacePolynomials) (defScope sPlacePolynomials) .none kV20 dc20 pm20 an20 cd20 ct20), sl20⟩)
    (c20 : PySem.W.codeIn K cd20 "place_polynomials" = true)
    (k20 : PySem.W.keepIn K (.ref f20) = true)
    (a21 : PySem.W.nsIn K mainGlobals "yes_polynomial" = some (some (.ref f21)))
    (l21 : K.lookup f21 = some ⟨oc21, od21, .func (PySem.W.fnOf "yes_polynomial" "yes_polynomial" (defArgs sYesPolynomial) (defBody sYesPolynomial) (defScope sYesPolynomial) .none kV21 dc21 pm21 an21 cd21 ct21), sl21⟩)
    (c21 : PySem.W.codeIn K cd21 "yes_polynomial" = true)
    (k21 : PySem.W.keepIn K (.ref f21) = true)
    (a22 : PySem.W.nsIn K mainGlobals "yes_count" = some (some (.ref f22)))
    (l22 : K.lookup f22 = some ⟨oc22, od22, .func (PySem.W.fnOf "yes_count" "yes_count" (defArgs sYesCount) (defBody sYesCount) (defScope sYesCount) .none kV22 dc22 pm22 an22 cd22 ct22), sl22⟩)
    (c22 : PySem.W.codeIn K cd22 "yes_count" = true)
    (k22 : PySem.W.keepIn K (.ref f22) = true)
    (a23 : PySem.W.nsIn K mainGlobals "steps" = some (some (.ref f23)))
    (l23 : K.lookup f23 = some ⟨oc23, od23, .func (PySem.W.fnOf "steps" "steps" (defArgs sSteps) (defBody sSteps) (defScope sSteps) .none kV23 dc23 pm23 an23 cd23 ct23), sl23⟩)
    (c23 : PySem.W.codeIn K cd23 "steps" = true)
    (k23 : PySem.W.keepIn K (.ref f23) = true)
    (a24 : PySem.W.nsIn K mainGlobals "kind_numbers" = some (some (.ref f24)))
    (l24 : K.lookup f24 = some ⟨oc24, od24, .func (PySem.W.fnOf "kind_numbers" "kind_numbers" (defArgs sKindNumbers) (defBody sKindNumbers) (defScope sKindNumbers) .none kV24 dc24 pm24 an24 cd24 ct24), sl24⟩)
    (c24 : PySem.W.codeIn K cd24 "kind_numbers" = true)
    (k24 : PySem.W.keepIn K (.ref f24) = true)
    (a25 : PySem.W.nsIn K mainGlobals "kind_count" = some (some (.ref f25)))
    (l25 : K.lookup f25 = some ⟨oc25, od25, .func (PySem.W.fnOf "kind_count" "kind_count" (defArgs sKindCount) (defBody sKindCount) (defScope sKindCount) .none kV25 dc25 pm25 an25 cd25 ct25), sl25⟩)
    (c25 : PySem.W.codeIn K cd25 "kind_count" = true)
    (k25 : PySem.W.keepIn K (.ref f25) = true)
    (a26 : PySem.W.findIn K (.ref C) "checked_rule" = some (some (.ref f26)))
    (i26 : PySem.W.isFn K (.ref f26) = true)
    (l26 : K.lookup f26 = some ⟨oc26, od26, .func (PySem.W.fnOf "checked_rule" "Book.checked_rule" (defArgs sCheckedRule) (defBody sCheckedRule) (defScope sCheckedRule) .none kV26 dc26 pm26 an26 cd26 ct26), sl26⟩)
    (c26 : PySem.W.codeIn K cd26 "Book.checked_rule" = true)
    (k26 : PySem.W.keepIn K (.ref f26) = true)
    (a27 : PySem.W.findIn K (.ref C) "__init__" = some (some (.ref f27)))
    (i27 : PySem.W.isFn K (.ref f27) = true)
    (l27 : K.lookup f27 = some ⟨oc27, od27, .func (PySem.W.fnOf "__init__" "Book.__init__" (defArgs sInit) (defBody sInit) (defScope sInit) .none kV27 dc27 pm27 an27 cd27 ct27), sl27⟩)
    (c27 : PySem.W.codeIn K cd27 "Book.__init__" = true)
    (k27 : PySem.W.keepIn K (.ref f27) = true)
    (a28 : PySem.W.findIn K (.ref C) "with_parts" = some (some (.ref f28)))
    (i28 : PySem.W.isFn K (.ref f28) = true)
    (l28 : K.lookup f28 = some ⟨oc28, od28, .func (PySem.W.fnOf "with_parts" "Book.with_parts" (defArgs sWithParts) (defBody sWithParts) (defScope sWithParts) .none (.ref D) dc28 pm28 an28 cd28 ct28), sl28⟩)
    (c28 : PySem.W.codeIn K cd28 "Book.with_parts" = true)
    (k28 : PySem.W.keepIn K (.ref f28) = true)
    (nu : PySem.W.nsIn K D "places" = some (some .none))
    (nv : PySem.W.nsIn K D "start" = some (some .none))
    (nw : PySem.W.nsIn K D "rules" = some (some .none))
    (a29 : PySem.W.findIn K (.ref C) "turned" = some (some (.ref f29)))
    (i29 : PySem.W.isFn K (.ref f29) = true)
    (l29 : K.lookup f29 = some ⟨oc29, od29, .func (PySem.W.fnOf "turned" "Book.turned" (defArgs sTurned) (defBody sTurned) (defScope sTurned) .none kV29 dc29 pm29 an29 cd29 ct29), sl29⟩)
    (c29 : PySem.W.codeIn K cd29 "Book.turned" = true)
    (k29 : PySem.W.keepIn K (.ref f29) = true)
    (a30 : PySem.W.nsIn K mainGlobals "_law_row" = some (some (.ref f30)))
    (l30 : K.lookup f30 = some ⟨oc30, od30, .func (PySem.W.fnOf "_law_row" "_law_row" (defArgs sLawRow) (defBody sLawRow) (defScope sLawRow) .none kV30 dc30 pm30 an30 cd30 ct30), sl30⟩)
    (c30 : PySem.W.codeIn K cd30 "_law_row" = true)
    (k30 : PySem.W.keepIn K (.ref f30) = true)
    (a31 : PySem.W.nsIn K mainGlobals "_law_numbers" = some (some (.ref f31)))
    (l31 : K.lookup f31 = some ⟨oc31, od31, .func (PySem.W.fnOf "_law_numbers" "_law_numbers" (defArgs sLawNumbers) (defBody sLawNumbers) (defScope sLawNumbers) .none kV31 dc31 pm31 an31 cd31 ct31), sl31⟩)
    (c31 : PySem.W.codeIn K cd31 "_law_numbers" = true)
    (k31 : PySem.W.keepIn K (.ref f31) = true)
    (a32 : PySem.W.nsIn K mainGlobals "_law_names" = some (some (.ref f32)))
    (l32 : K.lookup f32 = some ⟨oc32, od32, .func (PySem.W.fnOf "_law_names" "_law_names" (defArgs sLawNames) (defBody sLawNames) (defScope sLawNames) .none kV32 dc32 pm32 an32 cd32 ct32), sl32⟩)
    (c32 : PySem.W.codeIn K cd32 "_law_names" = true)
    (k32 : PySem.W.keepIn K (.ref f32) = true)
    (a33 : PySem.W.nsIn K mainGlobals "_law_words" = some (some (.ref f33)))
    (l33 : K.lookup f33 = some ⟨oc33, od33, .func (PySem.W.fnOf "_law_words" "_law_words" (defArgs sLawWords) (defBody sLawWords) (defScope sLawWords) .none kV33 dc33 pm33 an33 cd33 ct33), sl33⟩)
    (c33 : PySem.W.codeIn K cd33 "_law_words" = true)
    (k33 : PySem.W.keepIn K (.ref f33) = true)
    (a34 : PySem.W.nsIn K mainGlobals "_law_drawn_rule" = some (some (.ref f34)))
    (l34 : K.lookup f34 = some ⟨oc34, od34, .func (PySem.W.fnOf "_law_drawn_rule" "_law_drawn_rule" (defArgs sLawDrawnRule) (defBody sLawDrawnRule) (defScope sLawDrawnRule) .none kV34 dc34 pm34 an34 cd34 ct34), sl34⟩)
    (c34 : PySem.W.codeIn K cd34 "_law_drawn_rule" = true)
    (k34 : PySem.W.keepIn K (.ref f34) = true)
    (a35 : PySem.W.nsIn K mainGlobals "_law_ways" = some (some (.ref f35)))
    (l35 : K.lookup f35 = some ⟨oc35, od35, .func (PySem.W.fnOf "_law_ways" "_law_ways" (defArgs sLawWays) (defBody sLawWays) (defScope sLawWays) .none kV35 dc35 pm35 an35 cd35 ct35), sl35⟩)
    (c35 : PySem.W.codeIn K cd35 "_law_ways" = true)
    (k35 : PySem.W.keepIn K (.ref f35) = true)
    (a36 : PySem.W.nsIn K mainGlobals "_law_parted" = some (some (.ref f36)))
    (l36 : K.lookup f36 = some ⟨oc36, od36, .func (PySem.W.fnOf "_law_parted" "_law_parted" (defArgs sLawParted) (defBody sLawParted) (defScope sLawParted) .none kV36 dc36 pm36 an36 cd36 ct36), sl36⟩)
    (c36 : PySem.W.codeIn K cd36 "_law_parted" = true)
    (k36 : PySem.W.keepIn K (.ref f36) = true)
    (a37 : PySem.W.nsIn K mainGlobals "_law_make" = some (some (.ref f37)))
    (l37 : K.lookup f37 = some ⟨oc37, od37, .func (PySem.W.fnOf "_law_make" "_law_make" (defArgs sLawMake) (defBody sLawMake) (defScope sLawMake) .none kV37 dc37 pm37 an37 cd37 ct37), sl37⟩)
    (c37 : PySem.W.codeIn K cd37 "_law_make" = true)
    (k37 : PySem.W.keepIn K (.ref f37) = true)
    (a38 : PySem.W.nsIn K mainGlobals "_law_parts" = some (some (.ref f38)))
    (l38 : K.lookup f38 = some ⟨oc38, od38, .func (PySem.W.fnOf "_law_parts" "_law_parts" (defArgs sLawParts) (defBody sLawParts) (defScope sLawParts) .none kV38 dc38 pm38 an38 cd38 ct38), sl38⟩)
    (c38 : PySem.W.codeIn K cd38 "_law_parts" = true)
    (k38 : PySem.W.keepIn K (.ref f38) = true)
    (a39 : PySem.W.nsIn K mainGlobals "law" = some (some (.ref f39)))
    (l39 : K.lookup f39 = some ⟨oc39, od39, .func (PySem.W.fnOf "law" "law" (defArgs sLaw) (defBody sLaw) (defScope sLaw) .none kV39 dc39 pm39 an39 cd39 ct39), sl39⟩)
    (c39 : PySem.W.codeIn K cd39 "law" = true)
    (k39 : PySem.W.keepIn K (.ref f39) = true)
    (pg : PySem.W.plainGet K C Str.empty = true)
    (hd : PySem.W.hasDictIn K C = true)
    (po : PySem.W.plainOver K C = true)
    (sa : PySem.W.findIn K (.ref C) "__setattr__" = some (some (.builtin "object.__setattr__")))
    (mk : PySem.W.makesIn K C = true)
    (kc : PySem.W.keepIn K (.ref C) = true)
    (n_words : PySem.W.findIn K (.ref C) "words" = some none)
    (n_places : PySem.W.findIn K (.ref C) "places" = some none)
    (n_known : PySem.W.findIn K (.ref C) "known" = some none)
    (n_start : PySem.W.findIn K (.ref C) "start" = some none)
    (n_table : PySem.W.findIn K (.ref C) "table" = some none)
    (z_len : PySem.W.nsIn K mainGlobals "len" = some none)
    (z_range : PySem.W.nsIn K mainGlobals "range" = some none)
    (z_enumerate : PySem.W.nsIn K mainGlobals "enumerate" = some none)
    (z_list : PySem.W.nsIn K mainGlobals "list" = some none)
    (z_tuple : PySem.W.nsIn K mainGlobals "tuple" = some none)
    (z_all : PySem.W.nsIn K mainGlobals "all" = some none)
    (z_sum : PySem.W.nsIn K mainGlobals "sum" = some none)
    (z_abs : PySem.W.nsIn K mainGlobals "abs" = some none)
    (z_int : PySem.W.nsIn K mainGlobals "int" = some none)
    (z_max : PySem.W.nsIn K mainGlobals "max" = some none)
    (z_min : PySem.W.nsIn K mainGlobals "min" = some none)
    (y_MOST_READS : PySem.W.nsIn K mainGlobals "MOST_READS" = some (some (.int 40 tk0)))
    (y_MOST_NAMES : PySem.W.nsIn K mainGlobals "MOST_NAMES" = some (some (.int 1000000000 tk1)))
    (y_NAME_CHARS : PySem.W.nsIn K mainGlobals "NAME_CHARS" = some (some (.str "abcdefghijklmnopqrstuvwxyz0123456789" tk2)))
    (y_MOST_NAME_CHARS : PySem.W.nsIn K mainGlobals "MOST_NAME_CHARS" = some (some (.int 12 tk3)))
    (y_MOST_WORDS : PySem.W.nsIn K mainGlobals "MOST_WORDS" = some (some (.int 3 tk4)))
    (y_MOST_PLACES : PySem.W.nsIn K mainGlobals "MOST_PLACES" = some (some (.int 60 tk5)))
    (y_MOST_SLOTS : PySem.W.nsIn K mainGlobals "MOST_SLOTS" = some (some (.int 6 tk6)))
    (y_READ : PySem.W.nsIn K mainGlobals "READ" = some (some (.int 0 tk7))) :
    ∃ fd : FuncData, (∀ (s : Shared) (v : Value), BindsTo s fd ⟨[v], []⟩ [("_law_script", v)]) ∧ ∀ base : Heap, K.In base → base.Ns mainGlobals mg → FnOk l.prog w K mg base CX0 8 fa fd ["_law_script"] (spLaw K) := by
  have e := hfa.symm.trans (PySem.W.mg_of X G a39)
  cases e
  have T : Txt K mg C := ⟨PySem.W.mg_none_of X G z_len, PySem.W.mg_none_of X G z_range, PySem.W.mg_none_of X G z_enumerate, PySem.W.mg_none_of X G z_list, PySem.W.mg_none_of X G z_tuple, PySem.W.mg_none_of X G z_all, PySem.W.mg_none_of X G z_sum, PySem.W.mg_none_of X G z_abs, PySem.W.mg_none_of X G z_int, PySem.W.mg_none_of X G z_max, PySem.W.mg_none_of X G z_min, ⟨_, PySem.W.mg_of X G y_MOST_READS⟩, ⟨_, PySem.W.mg_of X G y_MOST_NAMES⟩, ⟨_, PySem.W.mg_of X G y_NAME_CHARS⟩, ⟨_, PySem.W.mg_of X G y_MOST_NAME_CHARS⟩, ⟨_, PySem.W.mg_of X G y_MOST_WORDS⟩, ⟨_, PySem.W.mg_of X G y_MOST_PLACES⟩, ⟨_, PySem.W.mg_of X G y_MOST_SLOTS⟩, ⟨_, PySem.W.mg_of X G y_READ⟩, PySem.W.mg_of X G aC, ⟨pg, hd, po, sa⟩, n_words, n_places, n_known, n_start, n_table⟩
  refine ⟨PySem.W.fnOf "law" "law" (defArgs sLaw) (defBody sLaw) (defScope sLaw) .none kV39 dc39 pm39 an39 cd39 ct39, fun s v => .of_eq rfl, fun base _ _ => ?_⟩
  have F1 := fun_mk (st := sCheckReads) l1 c1 k1
  have b1 := F1.binds (ps := ["reads"]) fun _ _ _ _ _ _ us hl => match us, hl with | [_], _ => rfl
  have c_check_reads : Cal l.prog w K mg base 1 "check_reads" ["reads"] spCheckReads := ⟨⟨_, _, (ok_check_reads F1 T), PySem.W.mg_of X G a1, k1, b1⟩⟩
  have F2 := fun_mk (st := sRequire) l2 c2 k2
  have b2 := F2.binds (ps := ["holds"]) fun _ _ _ _ _ _ us hl => match us, hl with | [_], _ => rfl
  have c_require : Cal l.prog w K mg base 1 "require" ["holds"] spRequire := ⟨⟨_, _, (ok_require F2 ), PySem.W.mg_of X G a2, k2, b2⟩⟩
  have F3 := fun_mk (st := sValue) l3 c3 k3
  have b3 := F3.binds (ps := ["polynomial", "number"]) fun _ _ _ _ _ _ us hl => match us, hl with | [_, _], _ => rfl
  have c_value : Cal l.prog w K mg base 1 "value" ["polynomial", "number"] spValue := ⟨⟨_, _, (ok_value F3 ), PySem.W.mg_of X G a3, k3, b3⟩⟩
  have F4 := fun_mk (st := sTrimmed) l4 c4 k4
  have b4 := F4.binds (ps := ["polynomial"]) fun _ _ _ _ _ _ us hl => match us, hl with | [_], _ => rfl
  have c_trimmed : Cal l.prog w K mg base 1 "trimmed" ["polynomial"] spTrimmed := ⟨⟨_, _, (ok_trimmed F4 T), PySem.W.mg_of X G a4, k4, b4⟩⟩
  have F5 := fun_mk (st := sPlus) l5 c5 k5
  have b5 := F5.binds (ps := ["one", "other"]) fun _ _ _ _ _ _ us hl => match us, hl with | [_, _], _ => rfl
  have c_plus : Cal l.prog w K mg base 1 "plus" ["one", "other"] spPlus := ⟨⟨_, _, (ok_plus F5 T), PySem.W.mg_of X G a5, k5, b5⟩⟩
  have F6 := fun_mk (st := sTimesRest) l6 c6 k6
  have b6 := F6.binds (ps := ["polynomial", "slots"]) fun _ _ _ _ _ _ us hl => match us, hl with | [_, _], _ => rfl
  have c_times_rest : Cal l.prog w K mg base 2 "times_rest" ["polynomial", "slots"] spTimesRest := ⟨⟨_, _, (ok_times_rest F6 c_plus), PySem.W.mg_of X G a6, k6, b6⟩⟩
  have F7 := fun_mk (st := sIsName) l7 c7 k7
  have b7 := F7.binds (ps := ["text"]) fun _ _ _ _ _ _ us hl => match us, hl with | [_], _ => rfl
  have c_is_name : Cal l.prog w K mg base 1 "is_name" ["text"] spIsName := ⟨⟨_, _, (ok_is_name F7 T), PySem.W.mg_of X G a7, k7, b7⟩⟩
  have F8 := fun_mk (st := sAreDifferent) l8 c8 k8
  have b8 := F8.binds (ps := ["parts"]) fun _ _ _ _ _ _ us hl => match us, hl with | [_], _ => rfl
  have c_are_different : Cal l.prog w K mg base 1 "are_different" ["parts"] spAreDifferent := ⟨⟨_, _, (ok_are_different F8 T), PySem.W.mg_of X G a8, k8, b8⟩⟩
  have F9 := fun_mk (st := sRequireNames) l9 c9 k9
  have b9 := F9.binds (ps := ["names", "most"]) fun _ _ _ _ _ _ us hl => match us, hl with | [_, _], _ => rfl
  have c_require_names : Cal l.prog w K mg base 2 "require_names" ["names", "most"] spRequireNames := ⟨⟨_, _, (ok_require_names F9 T c_is_name c_are_different c_require), PySem.W.mg_of X G a9, k9, b9⟩⟩
  have F10 := fun_mk (st := sCheckedPlace) l10 c10 k10
  have b10 := F10.binds (ps := ["place"]) fun _ _ _ _ _ _ us hl => match us, hl with | [_], _ => rfl
  have c_checked_place : Cal l.prog w K mg base 2 "checked_place" ["place"] spCheckedPlace := ⟨⟨_, _, (ok_checked_place F10 T c_require), PySem.W.mg_of X G a10, k10, b10⟩⟩
  have F11 := fun_mk (st := sPlace) l11 c11 k11
  have b11 := F11.binds (ps := ["self", "name"]) fun _ _ _ _ _ _ us hl => match us, hl with | [_, _], _ => rfl
  have m_place : MCal l.prog w K mg base 1 C "place" ["self", "name"] (spPlace C) := ⟨⟨_, _, (ok_place F11 T), ⟨a11, i11, k11⟩, b11⟩⟩
  have F12 := fun_mk (st := sSlots) l12 c12 k12
  have b12 := F12.binds (ps := ["self", "name"]) fun _ _ _ _ _ _ us hl => match us, hl with | [_, _], _ => rfl
  have m_slots : MCal l.prog w K mg base 2 C "slots" ["self", "name"] (spSlots C) := ⟨⟨_, _, (ok_slots F12 T m_place), ⟨a12, i12, k12⟩, b12⟩⟩
  have F13 := fun_mk (st := sSaysYes) l13 c13 k13
  have b13 := F13.binds (ps := ["self", "name"]) fun _ _ _ _ _ _ us hl => match us, hl with | [_, _], _ => rfl
  have m_says_yes : MCal l.prog w K mg base 2 C "says_yes" ["self", "name"] (spSaysYes C) := ⟨⟨_, _, (ok_says_yes F13 T m_place), ⟨a13, i13, k13⟩, b13⟩⟩
  have F14 := fun_mk (st := sCheckWord) l14 c14 k14
  have b14 := F14.binds (ps := ["self", "word"]) fun _ _ _ _ _ _ us hl => match us, hl with | [_, _], _ => rfl
  have m_check_word : MCal l.prog w K mg base 1 C "check_word" ["self", "word"] (spCheckWord C) := ⟨⟨_, _, (ok_check_word F14 T), ⟨a14, i14, k14⟩, b14⟩⟩
  have F15 := fun_mk (st := sRule) l15 c15 k15
  have b15 := F15.binds (ps := ["self", "name", "word", "case"]) fun _ _ _ _ _ _ us hl => match us, hl with | [_, _, _, _], _ => rfl
  have m_rule : MCal l.prog w K mg base 3 C "rule" ["self", "name", "word", "case"] (spRule C) := ⟨⟨_, _, (ok_rule F15 T m_slots m_check_word), ⟨a15, i15, k15⟩, b15⟩⟩
  have F16 := fun_mk (st := sAsked) l16 c16 k16
  have b16 := F16.binds (ps := ["self"]) fun _ _ _ _ _ _ us hl => match us, hl with | [_], _ => rfl
  have m_asked : MCal l.prog w K mg base 1 C "asked" ["self"] (spAsked C) := ⟨⟨_, _, (ok_asked F16 T), ⟨a16, i16, k16⟩, b16⟩⟩
  have F17 := fun_mk (st := sPlaceNames) l17 c17 k17
  have b17 := F17.binds (ps := ["self"]) fun _ _ _ _ _ _ us hl => match us, hl with | [_], _ => rfl
  have p_place_names : PCal l.prog w K mg base 1 C "place_names" (spPlaceNamesW C) := ⟨⟨_, _, _, (ok_place_namesW F17 T), ⟨a17, g17, t17, ⟨_, r17⟩⟩, b17⟩⟩
  have q_place_names : PCal l.prog w K mg base 1 C "place_names" (spPlaceNames C) := ⟨⟨_, _, _, (ok_place_namesW F17 T).imp (placeNames_imp C), ⟨a17, g17, t17, ⟨_, r17⟩⟩, b17⟩⟩
  have F18 := fun_mk (st := sRules) l18 c18 k18
  have b18 := F18.binds (ps := ["self"]) fun _ _ _ _ _ _ us hl => match us, hl with | [_], _ => rfl
  have p_rules : PCal l.prog w K mg base 2 C "rules" (spRules C) := ⟨⟨_, _, _, (ok_rules F18 T m_asked), ⟨a18, g18, t18, ⟨_, r18⟩⟩, b18⟩⟩
  have F19 := fun_mk (st := sPolynomials) l19 c19 k19
  have b19 := F19.binds (ps := ["book", "reads"]) fun _ _ _ _ _ _ us hl => match us, hl with | [_, _], _ => rfl
  have c_polynomials : Cal l.prog w K mg base 4 "polynomials" ["book", "reads"] (spPolynomials C) := ⟨⟨_, _, (ok_polynomials F19 T q_place_names p_rules c_times_rest m_slots c_plus c_trimmed), PySem.W.mg_of X G a19, k19, b19⟩⟩
  have F20 := fun_mk (st := sPlacePolynomials) l20 c20 k20
  have b20 := F20.binds (ps := ["book", "reads"]) fun _ _ _ _ _ _ us hl => match us, hl with | [_, _], _ => rfl
  have c_place_polynomials : Cal l.prog w K mg base 5 "place_polynomials" ["book", "reads"] (spPlacePolynomials C) := ⟨⟨_, _, (ok_place_polynomials F20 T c_check_reads c_polynomials q_place_names), PySem.W.mg_of X G a20, k20, b20⟩⟩
  have F21 := fun_mk (st := sYesPolynomial) l21 c21 k21
  have b21 := F21.binds (ps := ["book", "reads"]) fun _ _ _ _ _ _ us hl => match us, hl with | [_, _], _ => rfl
  have c_yes_polynomial : Cal l.prog w K mg base 6 "yes_polynomial" ["book", "reads"] (spYesPolynomial C) := ⟨⟨_, _, (ok_yes_polynomial F21 T c_place_polynomials m_says_yes c_plus c_trimmed), PySem.W.mg_of X G a21, k21, b21⟩⟩
  have F22 := fun_mk (st := sYesCount) l22 c22 k22
  have b22 := F22.binds (ps := ["book", "reads", "names"]) fun _ _ _ _ _ _ us hl => match us, hl with | [_, _, _], _ => rfl
  have c_yes_count : Cal l.prog w K mg base 7 "yes_count" ["book", "reads", "names"] (spYesCount C) := ⟨⟨_, _, (ok_yes_count F22 T c_check_reads c_yes_polynomial c_value), PySem.W.mg_of X G a22, k22, b22⟩⟩
  have F23 := fun_mk (st := sSteps) l23 c23 k23
  have b23 := F23.binds (ps := ["book", "name", "word", "known"]) fun _ _ _ _ _ _ us hl => match us, hl with | [_, _, _, _], _ => rfl
  have c_steps : Cal l.prog w K mg base 4 "steps" ["book", "name", "word", "known"] (spSteps C) := ⟨⟨_, _, (ok_steps F23 T m_slots m_rule), PySem.W.mg_of X G a23, k23, b23⟩⟩
  have F24 := fun_mk (st := sKindNumbers) l24 c24 k24
  have b24 := F24.binds (ps := ["book", "reads"]) fun _ _ _ _ _ _ us hl => match us, hl with | [_, _], _ => rfl
  have c_kind_numbers : Cal l.prog w K mg base 5 "kind_numbers" ["book", "reads"] (spKindNumbers C) := ⟨⟨_, _, (ok_kind_numbers F24 T c_check_reads c_steps m_says_yes), PySem.W.mg_of X G a24, k24, b24⟩⟩
  have F25 := fun_mk (st := sKindCount) l25 c25 k25
  have b25 := F25.binds (ps := ["book", "reads"]) fun _ _ _ _ _ _ us hl => match us, hl with | [_, _], _ => rfl
  have c_kind_count : Cal l.prog w K mg base 6 "kind_count" ["book", "reads"] (spKindCount C) := ⟨⟨_, _, (ok_kind_count F25 T c_kind_numbers), PySem.W.mg_of X G a25, k25, b25⟩⟩
  have F26 := fun_mk (st := sCheckedRule) l26 c26 k26
  have b26 := F26.binds (ps := ["self", "rule"]) fun _ _ _ _ _ _ us hl => match us, hl with | [_, _], _ => rfl
  have m_checked_rule : MCal l.prog w K mg base 2 C "checked_rule" ["self", "rule"] (spCheckedRule C) := ⟨⟨_, _, (ok_checked_rule F26 T c_are_different c_require), ⟨a26, i26, k26⟩, b26⟩⟩
  have F27 := fun_mk (st := sInit) l27 c27 k27
  have mkb : MkB l.prog w K mg base C := ⟨⟨_, _, ⟨mk, a27, i27, kc⟩, (ok_init F27 T c_require_names c_checked_place c_require p_place_names m_checked_rule m_asked), kbn_init F27⟩⟩
  have F28 : FunD K "with_parts" "Book.with_parts" (defArgs sWithParts) (defBody sWithParts) (defScope sWithParts) [] kwWith f28 _ := ⟨⟨_, _, _, _, _, _, _, _, _, _, rfl, l28, c28, .inl ⟨rfl, rfl⟩, .inr ⟨D, rfl, kw_mk nu nv nw⟩⟩, k28⟩
  have fw := ok_with_parts F28 T mkb p_rules
  obtain ⟨mvW, hkb⟩ := kbn_with F28
  have aW := a28
  have iW := i28
  have kW := k28
  have F29 := fun_mk (st := sTurned) l29 c29 k29
  have b29 := F29.binds (ps := ["self"]) fun _ _ _ _ _ _ us hl => match us, hl with | [_], _ => rfl
  have m_turned : MCal l.prog w K mg base 6 C "turned" ["self"] (spTurned C) := ⟨⟨_, _, (ok_turned F29 T fw ⟨aW, iW, kW⟩ hkb), ⟨a29, i29, k29⟩, b29⟩⟩
  have F30 := fun_mk (st := sLawRow) l30 c30 k30
  have b30 := F30.binds (ps := ["_law_cell", "_law_many"]) fun _ _ _ _ _ _ us hl => match us, hl with | [_, _], _ => rfl
  have c__law_row : Cal l.prog w K mg base 1 "_law_row" ["_law_cell", "_law_many"] spLawRow := ⟨⟨_, _, (ok_law_row F30 T), PySem.W.mg_of X G a30, k30, b30⟩⟩
  have F31 := fun_mk (st := sLawNumbers) l31 c31 k31
  have b31 := F31.binds (ps := ["_law_script", "_law_many"]) fun _ _ _ _ _ _ us hl => match us, hl with | [_, _], _ => rfl
  have c__law_numbers : Cal l.prog w K mg base 2 "_law_numbers" ["_law_script", "_law_many"] (spLawNumbers K) := ⟨⟨_, _, (ok_law_numbers F31 T c__law_row), PySem.W.mg_of X G a31, k31, b31⟩⟩
  have F32 := fun_mk (st := sLawNames) l32 c32 k32
  have b32 := F32.binds (ps := ["_law_number", "_law_many"]) fun _ _ _ _ _ _ us hl => match us, hl with | [_, _], _ => rfl
  have c__law_names : Cal l.prog w K mg base 1 "_law_names" ["_law_number", "_law_many"] spLawNames := ⟨⟨_, _, (ok_law_names F32 T), PySem.W.mg_of X G a32, k32, b32⟩⟩
  have F33 := fun_mk (st := sLawWords) l33 c33 k33
  have b33 := F33.binds (ps := ["_law_numbers_here", "_law_at"]) fun _ _ _ _ _ _ us hl => match us, hl with | [_, _], _ => rfl
  have c__law_words : Cal l.prog w K mg base 2 "_law_words" ["_law_numbers_here", "_law_at"] spLawWords := ⟨⟨_, _, (ok_law_words F33 T c__law_names), PySem.W.mg_of X G a33, k33, b33⟩⟩
  have F34 := fun_mk (st := sLawDrawnRule) l34 c34 k34
  have b34 := F34.binds (ps := ["_law_first", "_law_second", "_law_places", "_law_slots", "_law_case"]) fun _ _ _ _ _ _ us hl => match us, hl with | [_, _, _, _, _], _ => rfl
  have c__law_drawn_rule : Cal l.prog w K mg base 1 "_law_drawn_rule" ["_law_first", "_law_second", "_law_places", "_law_slots", "_law_case"] spLawDrawnRule := ⟨⟨_, _, (ok_law_drawn_rule F34 T), PySem.W.mg_of X G a34, k34, b34⟩⟩
  have F35 := fun_mk (st := sLawWays) l35 c35 k35
  have b35 := F35.binds (ps := ["_law_many", "_law_known"]) fun _ _ _ _ _ _ us hl => match us, hl with | [_, _], _ => rfl
  have c__law_ways : Cal l.prog w K mg base 1 "_law_ways" ["_law_many", "_law_known"] spLawWays := ⟨⟨_, _, (ok_law_ways F35 T), PySem.W.mg_of X G a35, k35, b35⟩⟩
  have F36 := fun_mk (st := sLawParted) l36 c36 k36
  have b36 := F36.binds (ps := ["_law_reads"]) fun _ _ _ _ _ _ us hl => match us, hl with | [_], _ => rfl
  have c__law_parted : Cal l.prog w K mg base 1 "_law_parted" ["_law_reads"] spLawParted := ⟨⟨_, _, (ok_law_parted F36 T), PySem.W.mg_of X G a36, k36, b36⟩⟩
  have F37 := fun_mk (st := sLawMake) l37 c37 k37
  have b37 := F37.binds (ps := ["_law_parts_here"]) fun _ _ _ _ _ _ us hl => match us, hl with | [_], _ => rfl
  have c__law_make : Cal l.prog w K mg base 5 "_law_make" ["_law_parts_here"] (spLawMake C) := ⟨⟨_, _, (ok_law_make F37 T mkb), PySem.W.mg_of X G a37, k37, b37⟩⟩
  have F38 := fun_mk (st := sLawParts) l38 c38 k38
  have b38 := F38.binds (ps := ["_law_numbers_here", "_law_at", "_law_words_here"]) fun _ _ _ _ _ _ us hl => match us, hl with | [_, _, _], _ => rfl
  have c__law_parts : Cal l.prog w K mg base 2 "_law_parts" ["_law_numbers_here", "_law_at", "_law_words_here"] spLawParts := ⟨⟨_, _, (ok_law_parts F38 T c__law_names c__law_drawn_rule), PySem.W.mg_of X G a38, k38, b38⟩⟩
  have F39 := fun_mk (st := sLaw) l39 c39 k39
  have b39 := F39.binds (ps := ["_law_script"]) fun _ _ _ _ _ _ us hl => match us, hl with | [_], _ => rfl
  exact ok_law F39 T c__law_numbers c__law_parts c__law_words c__law_make m_turned c_kind_numbers c_yes_count c__law_ways c_kind_count c__law_parted
theorem walk {l : PySem.W.OpenLaw} {q : Program} {loose : List Str} {XP : (Str → Option Value) → Heap → Prop} {YP : World → Heap → Prop} {d : DefRec} {K : Params → PySem.W.Frag} (hn : l.most = some 63) (hdf : d.params.defaults = [])
    (hY : ∀ (w : World) (h : Heap), YP w h → (K w.params).In h)
    (F : ∀ (w : World) (mg : Str → Option Value) (fa : Addr) (h : Heap), (K w.params).In h → h.Ns mainGlobals mg → mg d.name = some (.ref fa) →
      ∃ fd : FuncData, (∀ (s : Shared) (u : Value), BindsTo s fd ⟨[u], []⟩ [("_law_script", u)]) ∧ ∀ base : Heap, (K w.params).In base → base.Ns mainGlobals mg → FnOk l.prog w (K w.params) mg base CX0 8 fa fd ["_law_script"] (spLaw (K w.params))) :
    PySem.W.WalkO q loose XP YP l.row.toRowW d [] (fun f vs => PySem.call f vs) :=
  L2.walk_of (n := 63) (k := 8) (x := "_law_script") (CX := fun _ => CX0) (sp := fun w => spLaw (K w.params)) hn (by decide) hdf ⟨rfl, by decide, by decide⟩ hY F (fun _ _ a ns hl _ hS => ⟨a, ns, rfl, hS, hl, fun _ => rfl⟩) fun _ _ _ _ _ z => z
end FW

open PySem PySem.W PyProof.Rows
set_option maxRecDepth 100000 in
set_option maxHeartbeats 0 in
theorem PySem.Challenge.cw_fewestheld_k39_whole_kinds_and_rows_holds : PySem.Challenge.rw_fewestheld_k39_whole_kinds_and_rows.Holds := by
  w_on; o_law; k_head; (case hw => w_witness2)
  k_fill
  refine FW.walk (l := PySem.Challenge.rw_fewestheld_k39_whole_kinds_and_rows) rfl rfl (fun w h Y => PySem.W.kIn_of Y) ?F
  case F =>
    intro w mg fa h KX G hmg
    refine' FW.all_mk KX G hmg ?aC ?a1 ?l1 ?c1 ?k1 ?a2 ?l2 ?c2 ?k2 ?a3 ?l3 ?c3 ?k3 ?a4 ?l4 ?c4 ?k4 ?a5 ?l5 ?c5 ?k5 ?a6 ?l6 ?c6 ?k6 ?a7 ?l7 ?c7 ?k7 ?a8 ?l8 ?c8 ?k8 ?a9 ?l9 ?c9 ?k9 ?a10 ?l10 ?c10 ?k10 ?a11 ?i11 ?l11 ?c11 ?k11 ?a12 ?i12 ?l12 ?c12 ?k12 ?a13 ?i13 ?l13 ?c13 ?k13 ?a14 ?i14 ?l14 ?c14 ?k14 ?a15 ?i15 ?l15 ?c15 ?k15 ?a16 ?i16 ?l16 ?c16 ?k16 ?a17 ?g17 ?t17 ?r17 ?l17 ?c17 ?k17 ?a18 ?g18 ?t18 ?r18 ?l18 ?c18 ?k18 ?a19 ?l19 ?c19 ?k19 ?a20 ?l20 ?c20 ?k20 ?a21 ?l21 ?c21 ?k21 ?a22 ?l22 ?c22 ?k22 ?a23 ?l23 ?c23 ?k23 ?a24 ?l24 ?c24 ?k24 ?a25 ?l25 ?c25 ?k25 ?a26 ?i26 ?l26 ?c26 ?k26 ?a27 ?i27 ?l27 ?c27 ?k27 ?a28 ?i28 ?l28 ?c28 ?k28 ?nu ?nv ?nw ?a29 ?i29 ?l29 ?c29 ?k29 ?a30 ?l30 ?c30 ?k30 ?a31 ?l31 ?c31 ?k31 ?a32 ?l32 ?c32 ?k32 ?a33 ?l33 ?c33 ?k33 ?a34 ?l34 ?c34 ?k34 ?a35 ?l35 ?c35 ?k35 ?a36 ?l36 ?c36 ?k36 ?a37 ?l37 ?c37 ?k37 ?a38 ?l38 ?c38 ?k38 ?a39 ?l39 ?c39 ?k39 ?pg ?hd ?po ?sa ?mk ?kc ?n_words ?n_places ?n_known ?n_start ?n_table ?z_len ?z_range ?z_enumerate ?z_list ?z_tuple ?z_all ?z_sum ?z_abs ?z_int ?z_max ?z_min ?y_MOST_READS ?y_MOST_NAMES ?y_NAME_CHARS ?y_MOST_NAME_CHARS ?y_MOST_WORDS ?y_MOST_PLACES ?y_MOST_SLOTS ?y_READ
    (case aC => k_is)
    (case a1 => k_is)
    (case l1 => k_is)
    (case c1 => k_is)
    (case k1 => k_is)
    (case a2 => k_is)
    (case l2 => k_is)
    (case c2 => k_is)
    (case k2 => k_is)
    (case a3 => k_is)
    (case l3 => k_is)
    (case c3 => k_is)
    (case k3 => k_is)
    (case a4 => k_is)
    (case l4 => k_is)
    (case c4 => k_is)
    (case k4 => k_is)
    (case a5 => k_is)
    (case l5 => k_is)
    (case c5 => k_is)
    (case k5 => k_is)
    (case a6 => k_is)
    (case l6 => k_is)
    (case c6 => k_is)
    (case k6 => k_is)
    (case a7 => k_is)
    (case l7 => k_is)
    (case c7 => k_is)
    (case k7 => k_is)
    (case a8 => k_is)
    (case l8 => k_is)
    (case c8 => k_is)
    (case k8 => k_is)
    (case a9 => k_is)
    (case l9 => k_is)
    (case c9 => k_is)
    (case k9 => k_is)
    (case a10 => k_is)
    (case l10 => k_is)
    (case c10 => k_is)
    (case k10 => k_is)
    (case a11 => k_is)
    (case i11 => k_is)
    (case l11 => k_is)
    (case c11 => k_is)
    (case k11 => k_is)
    (case a12 => k_is)
    (case i12 => k_is)
    (case l12 => k_is)
    (case c12 => k_is)
    (case k12 => k_is)
    (case a13 => k_is)
    (case i13 => k_is)
    (case l13 => k_is)
    (case c13 => k_is)
    (case k13 => k_is)
    (case a14 => k_is)
    (case i14 => k_is)
    (case l14 => k_is)
    (case c14 => k_is)
    (case k14 => k_is)
    (case a15 => k_is)
    (case i15 => k_is)
    (case l15 => k_is)
    (case c15 => k_is)
    (case k15 => k_is)
    (case a16 => k_is)
    (case i16 => k_is)
    (case l16 => k_is)
    (case c16 => k_is)
    (case k16 => k_is)
    (case a17 => k_is)
    (case g17 => k_is)
    (case t17 => k_is)
    (case r17 => k_is)
    (case l17 => k_is)
    (case c17 => k_is)
    (case k17 => k_is)
    (case a18 => k_is)
    (case g18 => k_is)
    (case t18 => k_is)
    (case r18 => k_is)
    (case l18 => k_is)
    (case c18 => k_is)
    (case k18 => k_is)
    (case a19 => k_is)
    (case l19 => k_is)
    (case c19 => k_is)
    (case k19 => k_is)
    (case a20 => k_is)
    (case l20 => k_is)
    (case c20 => k_is)
    (case k20 => k_is)
    (case a21 => k_is)
    (case l21 => k_is)
    (case c21 => k_is)
    (case k21 => k_is)
    (case a22 => k_is)
    (case l22 => k_is)
    (case c22 => k_is)
    (case k22 => k_is)
    (case a23 => k_is)
    (case l23 => k_is)
    (case c23 => k_is)
    (case k23 => k_is)
    (case a24 => k_is)
    (case l24 => k_is)
    (case c24 => k_is)
    (case k24 => k_is)
    (case a25 => k_is)
    (case l25 => k_is)
    (case c25 => k_is)
    (case k25 => k_is)
    (case a26 => k_is)
    (case i26 => k_is)
    (case l26 => k_is)
    (case c26 => k_is)
    (case k26 => k_is)
    (case a27 => k_is)
    (case i27 => k_is)
    (case l27 => k_is)
    (case c27 => k_is)
    (case k27 => k_is)
    (case a28 => k_is)
    (case i28 => k_is)
    (case l28 => k_is)
    (case c28 => k_is)
    (case k28 => k_is)
    (case nu => k_is)
    (case nv => k_is)
    (case nw => k_is)
    (case a29 => k_is)
    (case i29 => k_is)
    (case l29 => k_is)
    (case c29 => k_is)
    (case k29 => k_is)
    (case a30 => k_is)
    (case l30 => k_is)
    (case c30 => k_is)
    (case k30 => k_is)
    (case a31 => k_is)
    (case l31 => k_is)
    (case c31 => k_is)
    (case k31 => k_is)
    (case a32 => k_is)
    (case l32 => k_is)
    (case c32 => k_is)
    (case k32 => k_is)
    (case a33 => k_is)
    (case l33 => k_is)
    (case c33 => k_is)
    (case k33 => k_is)
    (case a34 => k_is)
    (case l34 => k_is)
    (case c34 => k_is)
    (case k34 => k_is)
    (case a35 => k_is)
    (case l35 => k_is)
    (case c35 => k_is)
    (case k35 => k_is)
    (case a36 => k_is)
    (case l36 => k_is)
    (case c36 => k_is)
    (case k36 => k_is)
    (case a37 => k_is)
    (case l37 => k_is)
    (case c37 => k_is)
    (case k37 => k_is)
    (case a38 => k_is)
    (case l38 => k_is)
    (case c38 => k_is)
    (case k38 => k_is)
    (case a39 => k_is)
    (case l39 => k_is)
    (case c39 => k_is)
    (case k39 => k_is)
    (case pg => k_is)
    (case hd => k_is)
    (case po => k_is)
    (case sa => k_is)
    (case mk => k_is)
    (case kc => k_is)
    (case n_words => k_is)
    (case n_places => k_is)
    (case n_known => k_is)
    (case n_start => k_is)
    (case n_table => k_is)
    (case z_len => k_is)
    (case z_range => k_is)
    (case z_enumerate => k_is)
    (case z_list => k_is)
    (case z_tuple => k_is)
    (case z_all => k_is)
    (case z_sum => k_is)
    (case z_abs => k_is)
    (case z_int => k_is)
    (case z_max => k_is)
    (case z_min => k_is)
    (case y_MOST_READS => k_is)
    (case y_MOST_NAMES => k_is)
    (case y_NAME_CHARS => k_is)
    (case y_MOST_NAME_CHARS => k_is)
    (case y_MOST_WORDS => k_is)
    (case y_MOST_PLACES => k_is)
    (case y_MOST_SLOTS => k_is)
    (case y_READ => k_is)
