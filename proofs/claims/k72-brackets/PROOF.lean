import PyProof.Rows.All
import Wide.All
import OpenK.AllK
import Wide.FinOn
import HandS.ForExc
import HandS.ForMost
import HandS.Codes
import HandS.Defaults
import HandS.MakeKwOnly
import HandS.ExcInit
import HandS.Wide
import HandS.More
import HandS.Conv
import HandS.Rev
import HandS.EndBits
import HandS.ClsMeth
import HandS.RaiseMore
import HandS.Zip
import HandS.Walk
import HandS.IsInst
import KE.GoesEnumKw
import KE.GoesMore
import KE.KUnpackStar
import HandS.TryOnly
import HandS.ExcOwn
import PySem.Challenge.RW_forgeproved_k72_whole_each_bracket_neede
set_option Elab.async false
set_option linter.all false
set_option maxRecDepth 100000
/-! K72A: terms, kinds, words, what is written and what is read, in plain Lean. -/
namespace K72
abbrev L := List Nat
inductive Op where | plus | minus | times | less | same
  deriving DecidableEq
inductive Kw where | data | klet | kin | kcase | kof | knum
  deriving DecidableEq
inductive Tok where
  | lp | rp | lb | rb | semi | bs | arr | eq | bar
  | op (o : Op) | kw (k : Kw) | small (x : L) | great (x : L) | num (n : Nat) | fin
  deriving DecidableEq

/-- terms; par: brackets that are written but mean nothing -/
inductive Tm where
  | num (n : Nat)
  | name (x : L)
  | make (c : L)
  | app (f a : Tm)
  | fn (x : L) (b : Tm)
  | lt (ps : List (L × Tm)) (b : Tm)
  | cs (e : Tm) (ws : List (L × List L × Tm))
  | op (o : Op) (a b : Tm)
  | par (t : Tm)

/-! ### what is written -/
def ow : Op → Nat | .plus | .minus => 1 | .times => 2 | .less | .same => 0
def lvl : Tm → Nat
  | .fn .. | .lt .. | .cs .. => 0
  | .op o _ _ => ow o
  | .app .. => 3
  | _ => 4
/-- brackets around what stands at a level -/
def shB (n : Nat) (t : Tm) (u : List Tok) : List Tok := if lvl t < n then .lp :: (u ++ [.rp]) else u
def pre : Bool → List Tok | true => [.arr] | false => []
def smTk (xs : List L) : List Tok := xs.map Tok.small
mutual
/-- the words of a term; true: behind a function's names -/
def tw : Bool → Tm → List Tok
  | f, .num n => pre f ++ [.num n]
  | f, .name x => pre f ++ [.small x]
  | f, .make c => pre f ++ [.great c]
  | f, .app a b => pre f ++ (shB 3 a (tw false a) ++ shB 4 b (tw false b))
  | f, .op o a b => pre f ++ (shB (max (ow o) 1) a (tw false a) ++ .op o :: shB (ow o + 1) b (tw false b))
  | f, .fn x b => (if f then [] else [.bs]) ++ .small x :: tw true b
  | f, .lt ps b => pre f ++ (.kw .klet :: .lb :: (twPs ps ++ .rb :: .kw .kin :: tw false b))
  | f, .cs e ws => pre f ++ (.kw .kcase :: (tw false e ++ .kw .kof :: .lb :: (twWs ws ++ [.rb])))
  | f, .par t => pre f ++ (.lp :: (tw false t ++ [.rp]))
def twPs : List (L × Tm) → List Tok
  | [] => []
  | (x, t) :: r => .small x :: .eq :: (tw false t ++ (if r.isEmpty then [] else .semi :: twPs r))
def twWs : List (L × List L × Tm) → List Tok
  | [] => []
  | (c, xs, t) :: r => .great c :: (smTk xs ++ .arr :: (tw false t ++ (if r.isEmpty then [] else .semi :: twWs r)))
end
abbrev sh (n : Nat) (t : Tm) : List Tok := shB n t (tw false t)

/-! ### what is read -/
inductive Res (α : Type) where
  | out | fail | ok (a : α) (r : List Tok)
def Res.bind {α β : Type} (x : Res α) (f : α → List Tok → Res β) : Res β :=
  match x with | .out => .out | .fail => .fail | .ok a r => f a r
def now (s : List Tok) : Tok := s.headD .fin
def eat (t : Tok) (s : List Tok) : Res Unit := if now s = t then .ok () s.tail else .fail
def eatS (s : List Tok) : Res L := match now s with | .small x => .ok x s.tail | _ => .fail
def eatG (s : List Tok) : Res L := match now s with | .great x => .ok x s.tail | _ => .fail
def smalls : List Tok → List L × List Tok
  | .small x :: r => (x :: (smalls r).1, (smalls r).2)
  | s => ([], s)
def smallsU (seen : List L) : List Tok → Res (List L)
  | .small x :: r => if x ∈ seen then .fail else smallsU (seen ++ [x]) r
  | s => .ok seen s
def begins (s : List Tok) : Bool := match now s with
  | .num _ | .small _ | .great _ | .lp => true
  | _ => false
def isSum : Op → Bool | .plus | .minus => true | _ => false
def isProd : Op → Bool | .times => true | _ => false
def fns : List L → Tm → Tm
  | [], b => b
  | x :: r, b => .fn x (fns r b)
def chain (f : Op → Bool) (p : List Tok → Res Tm) (one : Tm) (s : List Tok) : Res Tm :=
  match now s with
  | .op o =>
    if f o = true then (p s.tail).bind fun b q => if h : q.length < s.length then chain f p (.op o one b) q else .out
    else .ok one s
  | _ => .ok one s
termination_by s.length
def callL (p : List Tok → Res Tm) (one : Tm) (s : List Tok) : Res Tm :=
  if begins s = true then (p s).bind fun b q => if h : q.length < s.length then callL p (.app one b) q else .out
  else .ok one s
termination_by s.length
def ltLoop (p : List Tok → Res Tm) (ps : List (L × Tm)) (s : List Tok) : Res (List (L × Tm)) :=
  (eatS s).bind fun x r1 => if x ∈ ps.map Prod.fst then .fail else (eat .eq r1).bind fun _ r2 => (p r2).bind fun t q =>
    if now q = .semi then (if h : q.tail.length < s.length then ltLoop p (ps ++ [(x, t)]) q.tail else .out) else .ok (ps ++ [(x, t)]) q
termination_by s.length
decreasing_by first | exact h | (simp only [List.length_tail] at h; exact h)
/-- one thing more behind each sep -/
def csLoop {α : Type} (sep : Tok) (p : List Tok → Res α) (ws : List α) (s : List Tok) : Res (List α) :=
  if now s = sep then (p s.tail).bind fun w q => if h : q.length < s.length then csLoop sep p (ws ++ [w]) q else .out
  else .ok ws s
termination_by s.length
mutual
def pT : Nat → List Tok → Res Tm
  | 0, _ => .out
  | n + 1, s => match now s with
    | .bs => pFn n s
    | .kw .klet => pLt n s
    | .kw .kcase => pCs n s
    | _ => pCmp n s
def pFn : Nat → List Tok → Res Tm
  | 0, _ => .out
  | n + 1, s => (eat .bs s).bind fun _ r => (eatS r).bind fun x r1 => (eat .arr (smalls r1).2).bind fun _ r2 => (pT n r2).bind fun b q => .ok (fns (x :: (smalls r1).1) b) q
def pLt : Nat → List Tok → Res Tm
  | 0, _ => .out
  | n + 1, s => (eat (.kw .klet) s).bind fun _ r => (eat .lb r).bind fun _ r1 => (ltLoop (pT n) [] r1).bind fun ps q => (eat .rb q).bind fun _ q1 => (eat (.kw .kin) q1).bind fun _ q2 =>
    (pT n q2).bind fun b q3 => .ok (.lt ps b) q3
def pCs : Nat → List Tok → Res Tm
  | 0, _ => .out
  | n + 1, s => (eat (.kw .kcase) s).bind fun _ r => (pT n r).bind fun e q => (eat (.kw .kof) q).bind fun _ q1 => (eat .lb q1).bind fun _ q2 => (pWay n q2).bind fun w q3 =>
    (csLoop .semi (pWay n) [w] q3).bind fun ws q4 => (eat .rb q4).bind fun _ q5 => .ok (.cs e ws) q5
def pWay : Nat → List Tok → Res (L × List L × Tm)
  | 0, _ => .out
  | n + 1, s => (eatG s).bind fun c r => (smallsU [] r).bind fun xs r1 => (eat .arr r1).bind fun _ r2 => (pT n r2).bind fun t q => .ok (c, xs, t) q
def pCmp : Nat → List Tok → Res Tm
  | 0, _ => .out
  | n + 1, s => (pSum n s).bind fun a q => match now q with
    | .op .less => (pSum n q.tail).bind fun b q1 => .ok (.op .less a b) q1
    | .op .same => (pSum n q.tail).bind fun b q1 => .ok (.op .same a b) q1
    | _ => .ok a q
def pSum : Nat → List Tok → Res Tm
  | 0, _ => .out
  | n + 1, s => (pProd n s).bind fun a q => chain isSum (pProd n) a q
def pProd : Nat → List Tok → Res Tm
  | 0, _ => .out
  | n + 1, s => (pCall n s).bind fun a q => chain isProd (pCall n) a q
def pCall : Nat → List Tok → Res Tm
  | 0, _ => .out
  | n + 1, s => (pThing n s).bind fun a q => callL (pThing n) a q
def pThing : Nat → List Tok → Res Tm
  | 0, _ => .out
  | n + 1, s => match now s with
    | .num k => .ok (.num k) s.tail
    | .small x => .ok (.name x) s.tail
    | .great c => .ok (.make c) s.tail
    | .lp => (pT n s.tail).bind fun t q => (eat .rp q).bind fun _ q1 => .ok t q1
    | _ => .fail
end
/-- what is read of a whole row: none where it is refused -/
def readT (n : Nat) (s : List Tok) : Option Tm := match pT n s with
  | .ok t q => if now q = .fin then some t else none
  | _ => none

/-! ### more fuel reads the same -/
def Le {α : Type} (x y : Res α) : Prop := x = .out ∨ y = x
theorem le_self {α : Type} {x : Res α} : Le x x := Or.inr rfl
theorem le_bind {α β : Type} {x y : Res α} {f g : α → List Tok → Res β} (h : Le x y) (k : ∀ a r, Le (f a r) (g a r)) : Le (x.bind f) (y.bind g) := by
  rcases h with h | h
  · rw [h]; exact Or.inl rfl
  · rw [h]
    cases x with
    | out => exact Or.inl rfl
    | fail => exact Or.inr rfl
    | ok a r => exact k a r
theorem le_ite {α : Type} {c : Prop} [Decidable c] {x y x' y' : Res α} (h : c → Le x x') (k : ¬ c → Le y y') : Le (if c then x else y) (if c then x' else y') := by
  by_cases hc : c
  · rw [if_pos hc, if_pos hc]; exact h hc
  · rw [if_neg hc, if_neg hc]; exact k hc
theorem le_dite {α : Type} {c : Prop} [Decidable c] {x x' : c → Res α} {y y' : ¬ c → Res α} (h : ∀ hc, Le (x hc) (x' hc)) (k : ∀ hc, Le (y hc) (y' hc)) : Le (if hc : c then x hc else y hc) (if hc : c then x' hc else y' hc) := by
  by_cases hc : c
  · rw [dif_pos hc, dif_pos hc]; exact h hc
  · rw [dif_neg hc, dif_neg hc]; exact k hc
theorem chain_mono {f : Op → Bool} {p p' : List Tok → Res Tm} (h : ∀ s, Le (p s) (p' s)) : ∀ (k : Nat) (one : Tm) (s : List Tok), s.length ≤ k → Le (chain f p one s) (chain f p' one s) := by
  intro k
  induction k with
  | zero =>
    intro one s hk
    have : s = [] := List.length_eq_zero_iff.mp (by omega)
    subst this
    rw [chain, chain]
    exact le_self
  | succ k ih =>
    intro one s hk
    rw [chain, chain]
    cases now s with
    | op o => exact le_ite (fun _ => le_bind (h _) fun b q => le_dite (fun hq => ih _ q (by omega)) fun _ => le_self) fun _ => le_self
    | _ => exact le_self
theorem callL_mono {p p' : List Tok → Res Tm} (h : ∀ s, Le (p s) (p' s)) : ∀ (k : Nat) (one : Tm) (s : List Tok), s.length ≤ k → Le (callL p one s) (callL p' one s) := by
  intro k
  induction k with
  | zero =>
    intro one s hk
    have : s = [] := List.length_eq_zero_iff.mp (by omega)
    subst this
    rw [callL, callL]
    exact le_self
  | succ k ih =>
    intro one s hk
    rw [callL, callL]
    exact le_ite (fun _ => le_bind (h _) fun b q => le_dite (fun hq => ih _ q (by omega)) fun _ => le_self) fun _ => le_self
theorem csLoop_mono {α : Type} {sep : Tok} {p p' : List Tok → Res α} (h : ∀ s, Le (p s) (p' s)) : ∀ (k : Nat) (ws : List α) (s : List Tok), s.length < k → Le (csLoop sep p ws s) (csLoop sep p' ws s) := by
  intro k
  induction k with
  | zero => intro ws s hk; omega
  | succ k ih =>
    intro ws s hk
    rw [csLoop, csLoop]
    exact le_ite (fun _ => le_bind (h _) fun b q => le_dite (fun hq => ih _ q (by omega)) fun _ => le_self) fun _ => le_self
theorem ltLoop_mono {p p' : List Tok → Res Tm} (h : ∀ s, Le (p s) (p' s)) : ∀ (k : Nat) (ps : List (L × Tm)) (s : List Tok), s.length < k → Le (ltLoop p ps s) (ltLoop p' ps s) := by
  intro k
  induction k with
  | zero => intro ws s hk; omega
  | succ k ih =>
    intro ps s hk
    rw [ltLoop, ltLoop]
    exact le_bind le_self fun x r1 => le_ite (fun _ => le_self) fun _ => le_bind le_self fun _ r2 => le_bind (h _) fun t q =>
      le_ite (fun _ => le_dite (fun hq => ih _ _ (by omega)) fun _ => le_self) fun _ => le_self
theorem p_mono (n : Nat) : (∀ s, Le (pT n s) (pT (n + 1) s)) ∧ (∀ s, Le (pFn n s) (pFn (n + 1) s)) ∧ (∀ s, Le (pLt n s) (pLt (n + 1) s)) ∧ (∀ s, Le (pCs n s) (pCs (n + 1) s)) ∧ (∀ s, Le (pWay n s) (pWay (n + 1) s)) ∧
    (∀ s, Le (pCmp n s) (pCmp (n + 1) s)) ∧ (∀ s, Le (pSum n s) (pSum (n + 1) s)) ∧ (∀ s, Le (pProd n s) (pProd (n + 1) s)) ∧ (∀ s, Le (pCall n s) (pCall (n + 1) s)) ∧ (∀ s, Le (pThing n s) (pThing (n + 1) s)) := by
  induction n with
  | zero => exact ⟨fun _ => Or.inl rfl, fun _ => Or.inl rfl, fun _ => Or.inl rfl, fun _ => Or.inl rfl, fun _ => Or.inl rfl, fun _ => Or.inl rfl, fun _ => Or.inl rfl, fun _ => Or.inl rfl, fun _ => Or.inl rfl, fun _ => Or.inl rfl⟩
  | succ n ih =>
    obtain ⟨h1, h2, h3, h4, h5, h6, h7, h8, h9, h10⟩ := ih
    refine ⟨fun s => ?_, fun s => ?_, fun s => ?_, fun s => ?_, fun s => ?_, fun s => ?_, fun s => ?_, fun s => ?_, fun s => ?_, fun s => ?_⟩
    · show Le (match now s with | .bs => pFn n s | .kw .klet => pLt n s | .kw .kcase => pCs n s | _ => pCmp n s) (match now s with | .bs => pFn (n + 1) s | .kw .klet => pLt (n + 1) s | .kw .kcase => pCs (n + 1) s | _ => pCmp (n + 1) s)
      split
      · exact h2 s
      · exact h3 s
      · exact h4 s
      · exact h6 s
    · exact le_bind le_self fun _ r => le_bind le_self fun x r1 => le_bind le_self fun _ r2 => le_bind (h1 _) fun b q => le_self
    · exact le_bind le_self fun _ r => le_bind le_self fun _ r1 => le_bind (ltLoop_mono h1 _ _ _ (Nat.lt_succ_self _)) fun ps q => le_bind le_self fun _ q1 => le_bind le_self fun _ q2 => le_bind (h1 _) fun b q3 => le_self
    · exact le_bind le_self fun _ r => le_bind (h1 _) fun e q => le_bind le_self fun _ q1 => le_bind le_self fun _ q2 => le_bind (h5 _) fun w q3 => le_bind (csLoop_mono h5 _ _ _ (Nat.lt_succ_self _)) fun ws q4 => le_bind le_self fun _ q5 => le_self
    · exact le_bind le_self fun c r => le_bind le_self fun xs r1 => le_bind le_self fun _ r2 => le_bind (h1 _) fun t q => le_self
    · refine le_bind (h7 _) fun a q => ?_
      split
      · exact le_bind (h7 _) fun b q1 => le_self
      · exact le_bind (h7 _) fun b q1 => le_self
      · exact le_self
    · exact le_bind (h8 _) fun a q => chain_mono h8 _ _ _ (Nat.le_refl _)
    · exact le_bind (h9 _) fun a q => chain_mono h9 _ _ _ (Nat.le_refl _)
    · exact le_bind (h10 _) fun a q => callL_mono h10 _ _ _ (Nat.le_refl _)
    · show Le (match now s with | .num k => .ok (.num k) s.tail | .small x => .ok (.name x) s.tail | .great c => .ok (.make c) s.tail | .lp => (pT n s.tail).bind fun t q => (eat .rp q).bind fun _ q1 => .ok t q1 | _ => .fail)
        (match now s with | .num k => .ok (.num k) s.tail | .small x => .ok (.name x) s.tail | .great c => .ok (.make c) s.tail | .lp => (pT (n + 1) s.tail).bind fun t q => (eat .rp q).bind fun _ q1 => .ok t q1 | _ => .fail)
      split
      · exact le_self
      · exact le_self
      · exact le_self
      · exact le_bind (h1 _) fun t q => le_self
      · exact le_self
/-- with more fuel, once it does not run out -/
theorem le_add {α : Type} {p : Nat → List Tok → Res α} (h : ∀ n s, Le (p n s) (p (n + 1) s)) {n : Nat} {s : List Tok} (k : Nat) : Le (p n s) (p (n + k) s) := by
  induction k with
  | zero => exact le_self
  | succ k ih =>
    rcases ih with e | e
    · exact Or.inl e
    · rcases h (n + k) s with e2 | e2
      · rw [e] at e2; exact Or.inl e2
      · exact Or.inr (e2.trans e)
theorem pT_le (n : Nat) (s : List Tok) : Le (pT n s) (pT (n + 1) s) := (p_mono n).1 s
theorem pSum_le (n : Nat) (s : List Tok) : Le (pSum n s) (pSum (n + 1) s) := (p_mono n).2.2.2.2.2.2.1 s
theorem pProd_le (n : Nat) (s : List Tok) : Le (pProd n s) (pProd (n + 1) s) := (p_mono n).2.2.2.2.2.2.2.1 s
theorem pCall_le (n : Nat) (s : List Tok) : Le (pCall n s) (pCall (n + 1) s) := (p_mono n).2.2.2.2.2.2.2.2.1 s
theorem pThing_le (n : Nat) (s : List Tok) : Le (pThing n s) (pThing (n + 1) s) := (p_mono n).2.2.2.2.2.2.2.2.2 s
theorem pWay_le (n : Nat) (s : List Tok) : Le (pWay n s) (pWay (n + 1) s) := (p_mono n).2.2.2.2.1 s
theorem Le.ok {α : Type} {x y : Res α} {a : α} {r : List Tok} (h : Le x y) (e : x = .ok a r) : y = .ok a r := by
  rcases h with h | h
  · rw [e] at h; cases h
  · exact h.trans e
end K72
/-! K72B: what is read is a beginning of the row; brackets are counted; the height of a row bounds the depth of reading. -/
namespace K72
/-! ### counts -/
def cnt : List Tok → Nat
  | [] => 0
  | .lp :: r => cnt r + 1
  | _ :: r => cnt r
theorem cnt_append : ∀ u v : List Tok, cnt (u ++ v) = cnt u + cnt v
  | [], v => by simp [cnt]
  | x :: r, v => by
    have ih := cnt_append r v
    cases x <;> simp only [List.cons_append, cnt, ih] <;> omega
def brk (n : Nat) (t : Tm) : Nat := if lvl t < n then 1 else 0
theorem brk_le {m n : Nat} {t : Tm} (h : m ≤ n) : brk m t ≤ brk n t := by
  unfold brk
  split
  · rw [if_pos (by omega)]; exact Nat.le_refl _
  · exact Nat.zero_le _
mutual
def br : Tm → Nat
  | .num _ | .name _ | .make _ => 0
  | .app f a => (br f + brk 3 f) + (br a + brk 4 a)
  | .fn _ b => br b
  | .lt ps b => brPs ps + br b
  | .cs e ws => br e + brWs ws
  | .op o a b => (br a + brk (max (ow o) 1) a) + (br b + brk (ow o + 1) b)
  | .par t => br t + 1
def brPs : List (L × Tm) → Nat
  | [] => 0
  | (_, t) :: r => br t + brPs r
def brWs : List (L × List L × Tm) → Nat
  | [] => 0
  | (_, _, t) :: r => br t + brWs r
end
theorem brPs_append : ∀ a b, brPs (a ++ b) = brPs a + brPs b
  | [], b => by simp [brPs]
  | (x, t) :: r, b => by rw [List.cons_append, brPs, brPs, brPs_append r b]; omega
theorem brWs_append : ∀ a b, brWs (a ++ b) = brWs a + brWs b
  | [], b => by simp [brWs]
  | (x, y, t) :: r, b => by rw [List.cons_append, brWs, brWs, brWs_append r b]; omega
/-! ### names are plain -/
def okL (x : L) : Prop := ∀ c ∈ x, c < 128
def okTok : Tok → Prop
  | .small x | .great x => okL x
  | _ => True
mutual
def okT : Tm → Prop
  | .num _ => True
  | .name x | .make x => okL x
  | .app f a => okT f ∧ okT a
  | .fn x b => okL x ∧ okT b
  | .lt ps b => okPs ps ∧ okT b
  | .cs e ws => okT e ∧ okWs ws
  | .op _ a b => okT a ∧ okT b
  | .par t => okT t
def okPs : List (L × Tm) → Prop
  | [] => True
  | (x, t) :: r => (okL x ∧ okT t) ∧ okPs r
def okWs : List (L × List L × Tm) → Prop
  | [] => True
  | (c, xs, t) :: r => (okL c ∧ (∀ x ∈ xs, okL x) ∧ okT t) ∧ okWs r
end
theorem okPs_append : ∀ a b, okPs (a ++ b) ↔ okPs a ∧ okPs b
  | [], b => by simp [okPs]
  | (x, t) :: r, b => by rw [List.cons_append, okPs, okPs, okPs_append r b]; exact and_assoc.symm
theorem okWs_append : ∀ a b, okWs (a ++ b) ↔ okWs a ∧ okWs b
  | [], b => by simp [okWs]
  | (x, y, t) :: r, b => by rw [List.cons_append, okWs, okWs, okWs_append r b]; exact and_assoc.symm
/-! ### heights -/
abbrev Hs := Nat × List Nat
def step (σ : Hs) : Tok → Hs
  | .lp => (6, σ.1 :: σ.2)
  | .lb => (0, σ.1 :: σ.2)
  | .rp | .rb => (σ.2.headD 0, σ.2.tail)
  | .semi | .bar => (0, σ.2)
  | .bs | .arr | .kw .klet | .kw .kcase => (σ.1 + 3, σ.2)
  | _ => σ
def run (σ : Hs) (u : List Tok) : Hs := u.foldl step σ
theorem run_append (σ : Hs) (u v : List Tok) : run σ (u ++ v) = run (run σ u) v := List.foldl_append
theorem run_nil (σ : Hs) : run σ [] = σ := rfl
theorem run_cons (σ : Hs) (x : Tok) (v : List Tok) : run σ (x :: v) = run (step σ x) v := rfl
def tot (σ : Hs) : Nat := σ.1 + σ.2.sum
/-- the stack is as before, and no less stands on it -/
def Up (σ τ : Hs) : Prop := τ.2 = σ.2 ∧ σ.1 ≤ τ.1
theorem Up.refl (σ : Hs) : Up σ σ := ⟨rfl, Nat.le_refl _⟩
theorem Up.trans {σ τ ρ : Hs} (a : Up σ τ) (b : Up τ ρ) : Up σ ρ := ⟨b.1.trans a.1, Nat.le_trans a.2 b.2⟩
theorem Up.tot {σ τ : Hs} (a : Up σ τ) : tot σ ≤ tot τ := by
  unfold K72.tot
  rw [a.1]
  have := a.2
  omega
def dull : Tok → Bool
  | .lp | .lb | .rp | .rb | .semi | .bar | .bs | .arr | .kw .klet | .kw .kcase => false
  | _ => true
theorem step_dull {σ : Hs} {x : Tok} (h : dull x = true) : step σ x = σ := by
  cases x with
  | kw k => cases k <;> first | rfl | cases h
  | _ => first | rfl | cases h

/-! ### what is eaten -/
theorem now_cons {s : List Tok} {t : Tok} (h : now s = t) (ht : t ≠ .fin) : s = t :: s.tail := by
  cases s with
  | nil => exact absurd h.symm ht
  | cons x r =>
    have e : x = t := h
    rw [e] <;> rfl
theorem eat_ok {t : Tok} {s r : List Tok} {a : Unit} (h : eat t s = .ok a r) (ht : t ≠ .fin) : s = t :: r := by
  unfold eat at h
  by_cases e : now s = t
  · rw [if_pos e] at h
    injection h with _ h2
    rw [← h2]
    exact now_cons e ht
  · rw [if_neg e] at h; cases h
theorem eatS_ok {x : L} {s r : List Tok} (h : eatS s = .ok x r) : s = .small x :: r := by
  unfold eatS at h
  split at h
  · rename_i y e
    injection h with h1 h2
    rw [← h1, ← h2]
    exact now_cons e (fun q => by cases q)
  · cases h
theorem eatG_ok {x : L} {s r : List Tok} (h : eatG s = .ok x r) : s = .great x :: r := by
  unfold eatG at h
  split at h
  · rename_i y e
    injection h with h1 h2
    rw [← h1, ← h2]
    exact now_cons e (fun q => by cases q)
  · cases h
theorem bind_ok {α β : Type} {x : Res α} {f : α → List Tok → Res β} {b : β} {r : List Tok} (h : x.bind f = .ok b r) : ∃ a q, x = .ok a q ∧ f a q = .ok b r := by
  cases x with
  | out => cases h
  | fail => cases h
  | ok a q => exact ⟨a, q, rfl, h⟩
theorem bind_out {α β : Type} {x : Res α} {f : α → List Tok → Res β} (h : x.bind f = .out) : x = .out ∨ ∃ a q, x = .ok a q ∧ f a q = .out := by
  cases x with
  | out => exact .inl rfl
  | fail => cases h
  | ok a q => exact .inr ⟨a, q, rfl, h⟩
theorem smalls_eq : ∀ s : List Tok, s = smTk (smalls s).1 ++ (smalls s).2
  | [] => rfl
  | .small x :: r => by
    show Tok.small x :: r = Tok.small x :: (smTk (smalls r).1 ++ (smalls r).2)
    rw [← smalls_eq r]
  | .lp :: r | .rp :: r | .lb :: r | .rb :: r | .semi :: r | .bs :: r | .arr :: r | .eq :: r | .bar :: r | .op _ :: r | .kw _ :: r | .great _ :: r | .num _ :: r | .fin :: r => rfl
theorem smallsU_ok : ∀ (s : List Tok) (seen xs : List L) (r : List Tok), smallsU seen s = .ok xs r → ∃ new, xs = seen ++ new ∧ s = smTk new ++ r
  | [], seen, xs, r, h => by
    injection h with h1 h2
    exact ⟨[], by simp [h1], by simp [smTk, h2]⟩
  | .small x :: q, seen, xs, r, h => by
    rw [smallsU] at h
    by_cases e : x ∈ seen
    · rw [if_pos e] at h; cases h
    · rw [if_neg e] at h
      obtain ⟨new, h1, h2⟩ := smallsU_ok q _ _ _ h
      exact ⟨x :: new, by simp [h1], by simp [smTk, h2]⟩
  | .lp :: q, seen, xs, r, h | .rp :: q, seen, xs, r, h | .lb :: q, seen, xs, r, h | .rb :: q, seen, xs, r, h | .semi :: q, seen, xs, r, h | .bs :: q, seen, xs, r, h | .arr :: q, seen, xs, r, h
  | .eq :: q, seen, xs, r, h | .bar :: q, seen, xs, r, h | .op _ :: q, seen, xs, r, h | .kw _ :: q, seen, xs, r, h | .great _ :: q, seen, xs, r, h | .num _ :: q, seen, xs, r, h | .fin :: q, seen, xs, r, h => by
    injection h with h1 h2
    exact ⟨[], by simp [h1], by simp [smTk, h2]⟩
theorem smallsU_out : ∀ (s : List Tok) (seen : List L), smallsU seen s ≠ .out
  | [], seen => fun h => by cases h
  | .small x :: q, seen => fun h => by
    rw [smallsU] at h
    by_cases e : x ∈ seen
    · rw [if_pos e] at h; cases h
    · rw [if_neg e] at h
      exact smallsU_out q _ h
  | .lp :: q, seen | .rp :: q, seen | .lb :: q, seen | .rb :: q, seen | .semi :: q, seen | .bs :: q, seen | .arr :: q, seen
  | .eq :: q, seen | .bar :: q, seen | .op _ :: q, seen | .kw _ :: q, seen | .great _ :: q, seen | .num _ :: q, seen | .fin :: q, seen => fun h => by cases h
theorem run_smTk (σ : Hs) (xs : List L) : run σ (smTk xs) = σ := by
  induction xs with
  | nil => rfl
  | cons x r ih => exact ih
theorem cnt_smTk (xs : List L) : cnt (smTk xs) = 0 := by
  induction xs with
  | nil => rfl
  | cons x r ih => exact ih

theorem nf_smTk (xs : List L) : Tok.fin ∉ smTk xs := by
  simp [smTk]
/-! ### what stands behind a reading -/
structure FT (n : Nat) (t : Tm) (u : List Tok) : Prop where
  c : br t + brk n t ≤ cnt u
  ok : (∀ x ∈ u, okTok x) → okT t
  up : ∀ σ, Up σ (run σ u)
  ne : 0 < u.length
  nf : Tok.fin ∉ u
structure FW (w : L × List L × Tm) (u : List Tok) : Prop where
  c : br w.2.2 ≤ cnt u
  ok : (∀ x ∈ u, okTok x) → okL w.1 ∧ (∀ x ∈ w.2.1, okL x) ∧ okT w.2.2
  up : ∀ σ, Up σ (run σ u)
  nf : Tok.fin ∉ u
def Post {α : Type} (x : Res α) (s : List Tok) (P : α → List Tok → Prop) : Prop := ∀ a r, x = .ok a r → ∃ u, s = u ++ r ∧ P a u
theorem FT.le {m n : Nat} {t : Tm} {u : List Tok} (h : FT n t u) (hm : m ≤ n) : FT m t u := ⟨Nat.le_trans (Nat.add_le_add_left (brk_le hm) _) h.c, h.ok, h.up, h.ne, h.nf⟩
theorem chain_post {f : Op → Bool} {p : List Tok → Res Tm} {n : Nat} (hp : ∀ s, Post (p s) s (FT (n + 1)))
    (hf : ∀ o a b, f o = true → br (.op o a b) + brk n (.op o a b) = (br a + brk n a) + (br b + brk (n + 1) b)) :
    ∀ (k : Nat) (one : Tm) (u₀ s : List Tok), s.length < k → FT n one u₀ → ∀ t r, chain f p one s = .ok t r → ∃ u, s = u ++ r ∧ FT n t (u₀ ++ u) := by
  intro k
  induction k with
  | zero => intro one u₀ s hk; omega
  | succ k ih =>
    intro one u₀ s hk h1 t r h
    rw [chain] at h
    have stop : ∀ {t r}, Res.ok one s = Res.ok t r → ∃ u, s = u ++ r ∧ FT n t (u₀ ++ u) := fun e => by
      injection e with e1 e2
      exact ⟨[], by simp [e2], by rw [List.append_nil, ← e1]; exact h1⟩
    split at h
    · rename_i o e
      by_cases ho : f o = true
      · rw [if_pos ho] at h
        obtain ⟨b, q, e1, e2⟩ := bind_ok h
        obtain ⟨v, hv, hb⟩ := hp _ _ _ e1
        by_cases hq : q.length < s.length
        · rw [dif_pos hq] at e2
          have hs := now_cons e (fun q => by cases q)
          have hft : FT n (.op o one b) (u₀ ++ .op o :: v) := by
            refine ⟨?_, ?_, ?_, by rw [List.length_append, List.length_cons]; omega, by simp [h1.nf, hb.nf]⟩
            · rw [hf o one b ho, cnt_append]
              have a1 := h1.c
              have a2 := hb.c
              show _ ≤ cnt u₀ + cnt v
              omega
            · intro hx
              exact ⟨h1.ok fun x m => hx x (by simp [m]), hb.ok fun x m => hx x (by simp [m])⟩
            · intro σ
              rw [run_append]
              exact (h1.up σ).trans (hb.up _)
          obtain ⟨w, hw, ht⟩ := ih (.op o one b) (u₀ ++ .op o :: v) q (by omega) hft t r e2
          refine ⟨.op o :: (v ++ w), ?_, by simpa using ht⟩
          rw [hs, hv, hw]
          simp only [List.cons_append, List.append_assoc]
        · rw [dif_neg hq] at e2; cases e2
      · rw [if_neg ho] at h
        exact stop h
    · exact stop h
theorem callL_post {p : List Tok → Res Tm} (hp : ∀ s, Post (p s) s (FT 4)) :
    ∀ (k : Nat) (one : Tm) (u₀ s : List Tok), s.length < k → FT 3 one u₀ → ∀ t r, callL p one s = .ok t r → ∃ u, s = u ++ r ∧ FT 3 t (u₀ ++ u) := by
  intro k
  induction k with
  | zero => intro one u₀ s hk; omega
  | succ k ih =>
    intro one u₀ s hk h1 t r h
    rw [callL] at h
    by_cases ho : begins s = true
    · rw [if_pos ho] at h
      obtain ⟨b, q, e1, e2⟩ := bind_ok h
      obtain ⟨v, hv, hb⟩ := hp _ _ _ e1
      by_cases hq : q.length < s.length
      · rw [dif_pos hq] at e2
        have hft : FT 3 (.app one b) (u₀ ++ v) := by
          refine ⟨?_, ?_, ?_, by have := h1.ne; rw [List.length_append]; omega, by simp [h1.nf, hb.nf]⟩
          · rw [cnt_append]
            have a1 := h1.c
            have a2 := hb.c
            show (br one + brk 3 one) + (br b + brk 4 b) + 0 ≤ _
            omega
          · intro hx
            exact ⟨h1.ok fun x m => hx x (by simp [m]), hb.ok fun x m => hx x (by simp [m])⟩
          · intro σ
            rw [run_append]
            exact (h1.up σ).trans (hb.up _)
        obtain ⟨w, hw, ht⟩ := ih (.app one b) (u₀ ++ v) q (by omega) hft t r e2
        refine ⟨v ++ w, ?_, by simpa using ht⟩
        rw [hv, hw]
        simp only [List.append_assoc]
      · rw [dif_neg hq] at e2; cases e2
    · rw [if_neg ho] at h
      injection h with e1 e2
      exact ⟨[], by simp [e2], by rw [List.append_nil, ← e1]; exact h1⟩
theorem ltLoop_post {p : List Tok → Res Tm} (hp : ∀ s, Post (p s) s (FT 0)) :
    ∀ (k : Nat) (ps : List (L × Tm)) (s : List Tok), s.length < k → ∀ ps' r, ltLoop p ps s = .ok ps' r →
      ∃ u new, s = u ++ r ∧ ps' = ps ++ new ∧ brPs new ≤ cnt u ∧ ((∀ x ∈ u, okTok x) → okPs new) ∧ (∀ σ, (run σ u).2 = σ.2) ∧ Tok.fin ∉ u := by
  intro k
  induction k with
  | zero => intro ps s hk; omega
  | succ k ih =>
    intro ps s hk ps' r h
    rw [ltLoop] at h
    obtain ⟨x, r1, e1, h⟩ := bind_ok h
    have hs := eatS_ok e1
    by_cases hx : x ∈ ps.map Prod.fst
    · rw [if_pos hx] at h; cases h
    · rw [if_neg hx] at h
      obtain ⟨_, r2, e2, h⟩ := bind_ok h
      have hs2 := eat_ok e2 (fun q => by cases q)
      obtain ⟨t, q, e3, h⟩ := bind_ok h
      obtain ⟨v, hv, hb⟩ := hp _ _ _ e3
      have hbc : br t ≤ cnt v := Nat.le_trans (Nat.le_add_right _ _) hb.c
      by_cases hq : now q = .semi
      · rw [if_pos hq] at h
        by_cases hl : q.tail.length < s.length
        · rw [dif_pos hl] at h
          obtain ⟨w, new, hw, h1, h2, h3, h4, h5⟩ := ih _ _ (by omega) _ _ h
          refine ⟨.small x :: .eq :: (v ++ .semi :: w), (x, t) :: new, ?_, by simp [h1], ?_, ?_, ?_, by simp [hb.nf, h5]⟩
          · rw [hs, hs2, hv, now_cons hq (fun q => by cases q), hw]
            simp
          · show br t + brPs new ≤ cnt (v ++ .semi :: w)
            rw [cnt_append]
            show _ ≤ cnt v + cnt w
            omega
          · intro ho
            exact ⟨⟨ho (.small x) (by simp), hb.ok fun y m => ho y (by simp [m])⟩, h3 fun y m => ho y (by simp [m])⟩
          · intro σ
            show (run σ (v ++ .semi :: w)).2 = σ.2
            rw [run_append, run_cons, h4]
            exact (hb.up σ).1
        · rw [dif_neg hl] at h; cases h
      · rw [if_neg hq] at h
        injection h with h1 h2
        refine ⟨.small x :: .eq :: v, [(x, t)], ?_, h1.symm, ?_, ?_, ?_, by simp [hb.nf]⟩
        · rw [hs, hs2, hv, h2]
          simp
        · show br t + 0 ≤ cnt v
          omega
        · intro ho
          exact ⟨⟨ho (.small x) (by simp), hb.ok fun y m => ho y (by simp [m])⟩, trivial⟩
        · intro σ
          exact (hb.up σ).1
theorem csLoop_post {α : Type} {sep : Tok} {p : List Tok → Res α} {P : α → List Tok → Prop} (hsep : sep ≠ .fin) (hp : ∀ s, Post (p s) s P) {G : List α → List Tok → Prop}
    (hG : ∀ ws w u v, G ws u → P w v → G (ws ++ [w]) (u ++ sep :: v)) :
    ∀ (k : Nat) (ws : List α) (u₀ s : List Tok), s.length < k → G ws u₀ → ∀ ws' r, csLoop sep p ws s = .ok ws' r → ∃ u, s = u ++ r ∧ G ws' (u₀ ++ u) := by
  intro k
  induction k with
  | zero => intro ws u₀ s hk; omega
  | succ k ih =>
    intro ws u₀ s hk h1 ws' r h
    rw [csLoop] at h
    by_cases ho : now s = sep
    · rw [if_pos ho] at h
      obtain ⟨b, q, e1, e2⟩ := bind_ok h
      obtain ⟨v, hv, hb⟩ := hp _ _ _ e1
      have hs := now_cons ho hsep
      by_cases hq : q.length < s.length
      · rw [dif_pos hq] at e2
        obtain ⟨w, hw, ht⟩ := ih (ws ++ [b]) (u₀ ++ sep :: v) q (by omega) (hG _ _ _ _ h1 hb) ws' r e2
        refine ⟨sep :: (v ++ w), ?_, by simpa using ht⟩
        rw [hs, hv, hw]
        simp
      · rw [dif_neg hq] at e2; cases e2
    · rw [if_neg ho] at h
      injection h with e1 e2
      exact ⟨[], by simp [e2], by rw [List.append_nil, ← e1]; exact h1⟩
theorem br_fns : ∀ (xs : List L) (b : Tm), br (fns xs b) = br b
  | [], b => rfl
  | x :: r, b => br_fns r b
theorem ok_fns : ∀ (xs : List L) (b : Tm), (∀ x ∈ xs, okL x) → okT b → okT (fns xs b)
  | [], b, _, h => h
  | x :: r, b, hx, h => ⟨hx x (by simp), ok_fns r b (fun y m => hx y (by simp [m])) h⟩
theorem brk0 (t : Tm) : brk 0 t = 0 := by unfold brk; rw [if_neg (by omega)]
structure All (n : Nat) : Prop where
  T : ∀ s, Post (pT n s) s (FT 0)
  Fn : ∀ s, Post (pFn n s) s (FT 0)
  Lt : ∀ s, Post (pLt n s) s (FT 0)
  Cs : ∀ s, Post (pCs n s) s (FT 0)
  Way : ∀ s, Post (pWay n s) s FW
  Cmp : ∀ s, Post (pCmp n s) s (FT 0)
  Sum : ∀ s, Post (pSum n s) s (FT 1)
  Prod : ∀ s, Post (pProd n s) s (FT 2)
  Call : ∀ s, Post (pCall n s) s (FT 3)
  Thing : ∀ s, Post (pThing n s) s (FT 4)
theorem hf_sum (o : Op) (a b : Tm) (h : isSum o = true) : br (.op o a b) + brk 1 (.op o a b) = (br a + brk 1 a) + (br b + brk 2 b) := by
  cases o <;> first | rfl | cases h
theorem hf_prod (o : Op) (a b : Tm) (h : isProd o = true) : br (.op o a b) + brk 2 (.op o a b) = (br a + brk 2 a) + (br b + brk 3 b) := by
  cases o <;> first | rfl | cases h
theorem all_post (n : Nat) : All n := by
  induction n with
  | zero =>
    refine ⟨?_, ?_, ?_, ?_, ?_, ?_, ?_, ?_, ?_, ?_⟩ <;> intro s a r h <;> cases h
  | succ n ih =>
    refine ⟨fun s => ?_, fun s t r h => ?_, fun s t r h => ?_, fun s t r h => ?_, fun s t r h => ?_, fun s t r h => ?_, fun s t r h => ?_, fun s t r h => ?_, fun s t r h => ?_, fun s t r h => ?_⟩
    · show Post (match now s with | .bs => pFn n s | .kw .klet => pLt n s | .kw .kcase => pCs n s | _ => pCmp n s) s (FT 0)
      split
      · exact ih.Fn s
      · exact ih.Lt s
      · exact ih.Cs s
      · exact ih.Cmp s
    · obtain ⟨_, r1, e1, h⟩ := bind_ok h
      obtain ⟨x, r2, e2, h⟩ := bind_ok h
      obtain ⟨_, r3, e3, h⟩ := bind_ok h
      obtain ⟨b, r4, e4, h⟩ := bind_ok h
      injection h with h1 h2
      subst h1 h2
      obtain ⟨v, hv, hb⟩ := ih.T _ _ _ e4
      have q1 := eat_ok e1 (fun q => by cases q)
      have q2 := eatS_ok e2
      have q3 := eat_ok e3 (fun q => by cases q)
      have q4 := smalls_eq r2
      refine ⟨.bs :: .small x :: (smTk (smalls r2).1 ++ .arr :: v), ?_, ?_, ?_, ?_, by simp, by simp [nf_smTk, hb.nf]⟩
      · rw [hv] at q3
        rw [q3] at q4
        rw [q1, q2]
        simp only [List.cons_append, List.append_assoc]
        rw [← q4]
      · rw [br_fns, brk0]
        show br b + 0 ≤ cnt (smTk (smalls r2).1 ++ .arr :: v)
        rw [cnt_append, cnt_smTk]
        have := hb.c
        show _ ≤ 0 + cnt v
        omega
      · intro ho
        refine ok_fns _ _ (fun y m => ?_) (hb.ok fun y m => ho y (by simp [m]))
        rcases List.mem_cons.mp m with rfl | m
        · exact ho (.small _) (by simp)
        · exact ho (.small y) (by simp [smTk, m])
      · intro σ
        rw [run_cons, run_cons, run_append, run_smTk, run_cons]
        exact Up.trans (τ := step (step (step σ .bs) (.small x)) .arr) ⟨rfl, by show σ.1 ≤ σ.1 + 3 + 3; omega⟩ (hb.up _)
    · obtain ⟨_, r1, e1, h⟩ := bind_ok h
      obtain ⟨_, r2, e2, h⟩ := bind_ok h
      obtain ⟨ps, r3, e3, h⟩ := bind_ok h
      obtain ⟨_, r4, e4, h⟩ := bind_ok h
      obtain ⟨_, r5, e5, h⟩ := bind_ok h
      obtain ⟨b, r6, e6, h⟩ := bind_ok h
      injection h with h1 h2
      subst h1 h2
      obtain ⟨v, hv, hb⟩ := ih.T _ _ _ e6
      obtain ⟨w, new, hw, z1, z2, z3, z4, z5⟩ := ltLoop_post ih.T _ _ _ (Nat.lt_succ_self _) _ _ e3
      have q1 := eat_ok e1 (fun q => by cases q)
      have q2 := eat_ok e2 (fun q => by cases q)
      have q4 := eat_ok e4 (fun q => by cases q)
      have q5 := eat_ok e5 (fun q => by cases q)
      rw [List.nil_append] at z1
      subst z1
      refine ⟨.kw .klet :: .lb :: (w ++ .rb :: .kw .kin :: v), ?_, ?_, ?_, ?_, by simp, by simp [z5, hb.nf]⟩
      · rw [q1, q2, hw, q4, q5, hv]
        simp
      · rw [brk0]
        show brPs ps + br b + 0 ≤ cnt (w ++ .rb :: .kw .kin :: v)
        rw [cnt_append]
        have := hb.c
        show _ ≤ cnt w + cnt v
        omega
      · intro ho
        exact ⟨z3 fun y m => ho y (by simp [m]), hb.ok fun y m => ho y (by simp [m])⟩
      · intro σ
        rw [run_cons, run_cons, run_append, run_cons, run_cons]
        refine Up.trans ⟨?_, ?_⟩ (hb.up _)
        · show (run (0, (σ.1 + 3) :: σ.2) w).2.tail = σ.2
          rw [z4] <;> rfl
        · show σ.1 ≤ (run (0, (σ.1 + 3) :: σ.2) w).2.headD 0
          rw [z4]
          show σ.1 ≤ σ.1 + 3
          omega
    · obtain ⟨_, r1, e1, h⟩ := bind_ok h
      obtain ⟨e, r2, e2, h⟩ := bind_ok h
      obtain ⟨_, r3, e3, h⟩ := bind_ok h
      obtain ⟨_, r4, e4, h⟩ := bind_ok h
      obtain ⟨w, r5, e5, h⟩ := bind_ok h
      obtain ⟨ws, r6, e6, h⟩ := bind_ok h
      obtain ⟨_, r7, e7, h⟩ := bind_ok h
      injection h with h1 h2
      subst h1 h2
      obtain ⟨v, hv, hb⟩ := ih.T _ _ _ e2
      obtain ⟨v1, hv1, hb1⟩ := ih.Way _ _ _ e5
      obtain ⟨v2, hv2, hc⟩ := csLoop_post (sep := .semi) (P := FW) (fun q => by cases q) ih.Way (G := fun ws u => brWs ws ≤ cnt u ∧ ((∀ x ∈ u, okTok x) → okWs ws) ∧ (∀ σ, (run σ u).2 = σ.2) ∧ Tok.fin ∉ u)
        (fun ws w u v hg hp => ⟨by
            rw [brWs_append, cnt_append]
            have a1 := hg.1
            have a2 := hp.c
            show brWs ws + (br w.2.2 + 0) ≤ cnt u + cnt v
            omega, fun ho => (okWs_append _ _).mpr ⟨hg.2.1 fun y m => ho y (by simp [m]), hp.ok fun y m => ho y (by simp [m]), trivial⟩, fun σ => by
            rw [run_append, run_cons, (hp.up _).1]
            exact hg.2.2.1 σ, by simp [hg.2.2.2, hp.nf]⟩) _ [w] v1 _ (Nat.lt_succ_self _) ⟨by have := hb1.c; show br w.2.2 + 0 ≤ _; omega, fun ho => ⟨hb1.ok ho, trivial⟩, fun σ => (hb1.up σ).1, hb1.nf⟩ _ _ e6
      have q1 := eat_ok e1 (fun q => by cases q)
      have q3 := eat_ok e3 (fun q => by cases q)
      have q4 := eat_ok e4 (fun q => by cases q)
      have q7 := eat_ok e7 (fun q => by cases q)
      refine ⟨.kw .kcase :: (v ++ .kw .kof :: .lb :: ((v1 ++ v2) ++ [.rb])), ?_, ?_, ?_, ?_, by simp, by have q := hc.2.2.2; simp at q; simp [hb.nf, q]⟩
      · rw [q1, hv, q3, q4, hv1, hv2, q7]
        simp
      · rw [brk0]
        show br e + brWs ws + 0 ≤ cnt (v ++ .kw .kof :: .lb :: ((v1 ++ v2) ++ [.rb]))
        rw [cnt_append]
        have a1 := hb.c
        have a2 := hc.1
        show _ ≤ cnt v + cnt ((v1 ++ v2) ++ [.rb])
        rw [cnt_append (v1 ++ v2)]
        omega
      · intro ho
        exact ⟨hb.ok fun y m => ho y (by simp [m]), hc.2.1 fun y m => ho y (by rcases List.mem_append.mp m with m | m <;> simp [m])⟩
      · intro σ
        rw [run_cons, run_append, run_cons, run_cons, run_append, run_cons, run_nil]
        have u1 := hb.up (step σ (.kw .kcase))
        have u2 := hc.2.2.1 (step (step (run (step σ (.kw .kcase)) v) (.kw .kof)) .lb)
        constructor
        · show (run _ (v1 ++ v2)).2.tail = σ.2
          rw [u2]
          exact u1.1
        · show σ.1 ≤ (run _ (v1 ++ v2)).2.headD 0
          rw [u2]
          have := u1.2
          show σ.1 ≤ (run (step σ (.kw .kcase)) v).1
          exact Nat.le_trans (Nat.le_add_right _ 3) this
    · obtain ⟨c, r1, e1, h⟩ := bind_ok h
      obtain ⟨xs, r2, e2, h⟩ := bind_ok h
      obtain ⟨_, r3, e3, h⟩ := bind_ok h
      obtain ⟨b, r4, e4, h⟩ := bind_ok h
      injection h with h1 h2
      subst h1 h2
      obtain ⟨v, hv, hb⟩ := ih.T _ _ _ e4
      have q1 := eatG_ok e1
      obtain ⟨new, q2, q2'⟩ := smallsU_ok _ _ _ _ e2
      have q3 := eat_ok e3 (fun q => by cases q)
      rw [List.nil_append] at q2
      subst q2
      refine ⟨.great c :: (smTk xs ++ .arr :: v), ?_, ?_, ?_, ?_, by simp [nf_smTk, hb.nf]⟩
      · rw [q1, q2', q3, hv]
        simp
      · show br b ≤ cnt (smTk xs ++ .arr :: v)
        rw [cnt_append, cnt_smTk]
        have := hb.c
        show _ ≤ 0 + cnt v
        omega
      · intro ho
        exact ⟨ho (.great c) (by simp), fun y m => ho (.small y) (by simp [smTk, m]), hb.ok fun y m => ho y (by simp [m])⟩
      · intro σ
        rw [run_cons, run_append, run_smTk, run_cons]
        exact Up.trans (τ := step (step σ (.great c)) .arr) ⟨rfl, by show σ.1 ≤ σ.1 + 3; omega⟩ (hb.up _)
    · obtain ⟨a, q, e1, h⟩ := bind_ok h
      obtain ⟨u, hu, ha⟩ := ih.Sum _ _ _ e1
      have two : ∀ o, (o = .less ∨ o = .same) → now q = .op o → ((pSum n q.tail).bind fun b q1 => Res.ok (.op o a b) q1) = .ok t r → ∃ u, s = u ++ r ∧ FT 0 t u := fun o ho hn h => by
        obtain ⟨b, q1, e2, h⟩ := bind_ok h
        injection h with h1 h2
        subst h1 h2
        obtain ⟨v, hv, hb⟩ := ih.Sum _ _ _ e2
        refine ⟨u ++ .op o :: v, ?_, ?_, ?_, ?_, by rw [List.length_append, List.length_cons]; omega, by simp [ha.nf, hb.nf]⟩
        · rw [hu, now_cons hn (fun q => by cases q), hv]
          simp
        · rw [brk0, cnt_append]
          have a1 := ha.c
          have a2 := hb.c
          have : br (.op o a b) = (br a + brk 1 a) + (br b + brk 1 b) := by rcases ho with rfl | rfl <;> rfl
          rw [this]
          show _ ≤ cnt u + cnt v
          omega
        · intro hx
          exact ⟨ha.ok fun x m => hx x (by simp [m]), hb.ok fun x m => hx x (by simp [m])⟩
        · intro σ
          rw [run_append]
          exact (ha.up σ).trans (hb.up _)
      split at h
      · rename_i e; exact two .less (.inl rfl) e h
      · rename_i e; exact two .same (.inr rfl) e h
      · injection h with h1 h2
        subst h1 h2
        exact ⟨u, hu, ha.le (by omega)⟩
    · obtain ⟨a, q, e1, h⟩ := bind_ok h
      obtain ⟨u, hu, ha⟩ := ih.Prod _ _ _ e1
      obtain ⟨v, hv, hb⟩ := chain_post ih.Prod hf_sum _ a u q (Nat.lt_succ_self _) (ha.le (by omega)) _ _ h
      exact ⟨u ++ v, by rw [hu, hv]; simp, hb⟩
    · obtain ⟨a, q, e1, h⟩ := bind_ok h
      obtain ⟨u, hu, ha⟩ := ih.Call _ _ _ e1
      obtain ⟨v, hv, hb⟩ := chain_post ih.Call hf_prod _ a u q (Nat.lt_succ_self _) (ha.le (by omega)) _ _ h
      exact ⟨u ++ v, by rw [hu, hv]; simp, hb⟩
    · obtain ⟨a, q, e1, h⟩ := bind_ok h
      obtain ⟨u, hu, ha⟩ := ih.Thing _ _ _ e1
      obtain ⟨v, hv, hb⟩ := callL_post ih.Thing _ a u q (Nat.lt_succ_self _) (ha.le (by omega)) _ _ h
      exact ⟨u ++ v, by rw [hu, hv]; simp, hb⟩
    · have h' : (match now s with | .num k => Res.ok (Tm.num k) s.tail | .small x => .ok (Tm.name x) s.tail | .great c => .ok (Tm.make c) s.tail | .lp => (pT n s.tail).bind fun t q => (eat .rp q).bind fun _ q1 => .ok t q1 | _ => .fail) = .ok t r := h
      split at h'
      · rename_i e
        injection h' with h1 h2
        subst h1 h2
        exact ⟨[_], now_cons e (fun q => by cases q), Nat.le_refl _, fun _ => trivial, fun σ => Up.refl σ, by simp, by simp⟩
      · rename_i e
        injection h' with h1 h2
        subst h1 h2
        refine ⟨[_], now_cons e (fun q => by cases q), Nat.le_refl _, fun ho => ?_, fun σ => Up.refl σ, by simp, by simp⟩
        exact (show okTok _ from ho _ (List.mem_singleton.mpr rfl))
      · rename_i e
        injection h' with h1 h2
        subst h1 h2
        refine ⟨[_], now_cons e (fun q => by cases q), Nat.le_refl _, fun ho => ?_, fun σ => Up.refl σ, by simp, by simp⟩
        exact (show okTok _ from ho _ (List.mem_singleton.mpr rfl))
      · rename_i e
        obtain ⟨b, q, e1, h⟩ := bind_ok h'
        obtain ⟨_, q1, e2, h⟩ := bind_ok h
        injection h with h1 h2
        subst h1 h2
        obtain ⟨v, hv, hb⟩ := ih.T _ _ _ e1
        have q2 := eat_ok e2 (fun q => by cases q)
        refine ⟨.lp :: (v ++ [.rp]), ?_, ?_, ?_, ?_, by simp, by simp [hb.nf]⟩
        · rw [now_cons e (fun q => by cases q), hv, q2]
          simp
        · show _ ≤ cnt (v ++ [.rp]) + 1
          rw [cnt_append]
          have a1 := hb.c
          have : brk 4 b ≤ 1 := by unfold brk; split <;> omega
          show _ ≤ cnt v + 0 + 1
          omega
        · intro ho
          exact hb.ok fun x m => ho x (by simp [m])
        · intro σ
          rw [run_cons, run_append, run_cons, run_nil]
          have u1 := hb.up (step σ .lp)
          constructor
          · show (run (step σ .lp) v).2.tail = σ.2
            rw [u1.1] <;> rfl
          · show σ.1 ≤ (run (step σ .lp) v).2.headD 0
            rw [u1.1]
            exact Nat.le_refl _
      · cases h'
end K72
/-! K72C: reading does not run out where the row is not high. -/
namespace K72
def Hg (n c : Nat) (σ : Hs) (s : List Tok) : Prop := ∀ p q, s = p ++ q → tot (run σ p) + c ≤ tot σ + n
theorem Hg.pos {n c : Nat} {σ : Hs} {s : List Tok} (h : Hg n c σ s) : c ≤ n := by
  have := h [] s rfl
  rw [run_nil] at this
  omega
theorem Hg.sub {n c m d : Nat} {σ : Hs} {s u r : List Tok} (h : Hg n c σ s) (hs : s = u ++ r) (k : tot σ + n + d ≤ tot (run σ u) + m + c) : Hg m d (run σ u) r := fun p q e => by
  have := h (u ++ p) q (by rw [hs, e, List.append_assoc])
  rw [run_append] at this
  omega
theorem Hg.to {n c m d : Nat} {σ : Hs} {s : List Tok} (h : Hg n c σ s) (k : n + d ≤ m + c) : Hg m d σ s := fun p q e => by
  have := h p q e
  omega
theorem chain_out {f : Op → Bool} {p : List Tok → Res Tm} {n c j : Nat} (hp : ∀ s σ, Hg n c σ s → p s ≠ .out) (hq : ∀ s, Post (p s) s (FT j)) :
    ∀ (k : Nat) (one : Tm) (s : List Tok) (σ : Hs), s.length < k → Hg n c σ s → chain f p one s ≠ .out := by
  intro k
  induction k with
  | zero => intro one s σ hk; omega
  | succ k ih =>
    intro one s σ hk hg h
    rw [chain] at h
    split at h
    · rename_i o e
      have hs := now_cons e (fun q => by cases q)
      have hl : s.length = s.tail.length + 1 := by rw [hs]; simp
      by_cases ho : f o = true
      · rw [if_pos ho] at h
        have g1 : Hg n c σ s.tail := hg.sub (u := [.op o]) hs (by rw [run_cons, run_nil]; exact Nat.le_refl _)
        rcases bind_out h with h | ⟨b, q, e1, h⟩
        · exact hp _ _ g1 h
        · obtain ⟨v, hv, hb⟩ := hq _ _ _ e1
          have l1 : q.length < s.length := by
            rw [hl, hv, List.length_append]
            omega
          rw [dif_pos l1] at h
          exact ih _ q (run σ v) (by omega) (g1.sub hv (by have := (hb.up σ).tot; omega)) h
      · rw [if_neg ho] at h; cases h
    · cases h
theorem callL_out {p : List Tok → Res Tm} {n c j : Nat} (hp : ∀ s σ, Hg n c σ s → p s ≠ .out) (hq : ∀ s, Post (p s) s (FT j)) :
    ∀ (k : Nat) (one : Tm) (s : List Tok) (σ : Hs), s.length < k → Hg n c σ s → callL p one s ≠ .out := by
  intro k
  induction k with
  | zero => intro one s σ hk; omega
  | succ k ih =>
    intro one s σ hk g1 h
    rw [callL] at h
    by_cases ho : begins s = true
    · rw [if_pos ho] at h
      rcases bind_out h with h | ⟨b, q, e1, h⟩
      · exact hp _ _ g1 h
      · obtain ⟨v, hv, hb⟩ := hq _ _ _ e1
        have l1 : q.length < s.length := by
          rw [hv, List.length_append]
          have := hb.ne
          omega
        rw [dif_pos l1] at h
        exact ih _ q (run σ v) (by omega) (g1.sub hv (by have := (hb.up σ).tot; omega)) h
    · rw [if_neg ho] at h; cases h
theorem eat_out {t : Tok} {s : List Tok} : eat t s ≠ .out := fun h => by
  unfold eat at h
  by_cases e : now s = t
  · rw [if_pos e] at h; cases h
  · rw [if_neg e] at h; cases h
theorem eatS_out {s : List Tok} : eatS s ≠ .out := fun h => by
  unfold eatS at h
  split at h <;> cases h
theorem eatG_out {s : List Tok} : eatG s ≠ .out := fun h => by
  unfold eatG at h
  split at h <;> cases h
theorem ltLoop_out {p : List Tok → Res Tm} {n c : Nat} (hp : ∀ s σ, Hg n c σ s → p s ≠ .out) (hq : ∀ s, Post (p s) s (FT 0)) :
    ∀ (k : Nat) (ps : List (L × Tm)) (s : List Tok) (st : List Nat), s.length < k → Hg n c (0, st) s → ltLoop p ps s ≠ .out := by
  intro k
  induction k with
  | zero => intro one s σ hk; omega
  | succ k ih =>
    intro ps s st hk g1 h
    rw [ltLoop] at h
    rcases bind_out h with h | ⟨x, r1, e1, h⟩
    · exact eatS_out h
    have hs := eatS_ok e1
    by_cases hx : x ∈ ps.map Prod.fst
    · rw [if_pos hx] at h; cases h
    · rw [if_neg hx] at h
      rcases bind_out h with h | ⟨_, r2, e2, h⟩
      · exact eat_out h
      have hs2 := eat_ok e2 (fun q => by cases q)
      have g2 : Hg n c (0, st) r2 := g1.sub (u := [.small x, .eq]) (by rw [hs, hs2]; rfl) (Nat.le_refl _)
      rcases bind_out h with h | ⟨t, q, e3, h⟩
      · exact hp _ _ g2 h
      obtain ⟨v, hv, hb⟩ := hq _ _ _ e3
      by_cases hn : now q = .semi
      · rw [if_pos hn] at h
        have hq := now_cons hn (fun q => by cases q)
        have hl : q.tail.length < s.length := by
          rw [hs, hs2, hv]
          simp
          omega
        rw [dif_pos hl] at h
        have e : run (0, st) (v ++ [.semi]) = (0, st) := by
          rw [run_append, run_cons, run_nil]
          show ((0 : Nat), (run (0, st) v).2) = (0, st)
          rw [(hb.up _).1]
        have g3 := g2.sub (u := v ++ [.semi]) (r := q.tail) (m := n) (d := c) (by rw [hv, List.append_assoc]; exact congrArg (v ++ ·) hq) (by rw [e]; exact Nat.le_refl _)
        rw [e] at g3
        exact ih _ _ st (by omega) g3 h
      · rw [if_neg hn] at h; cases h
theorem csLoop_out {α : Type} {p : List Tok → Res α} {P : α → List Tok → Prop} {n c : Nat} (hp : ∀ s σ, Hg n c σ s → p s ≠ .out) (hq : ∀ s, Post (p s) s P) (hP : ∀ a u, P a u → ∀ σ, Up σ (run σ u)) {sep : Tok} (hsep : sep ≠ .fin) (hz : ∀ σ, step σ sep = (0, σ.2)) :
    ∀ (k : Nat) (ws : List α) (s : List Tok) (σ : Hs), s.length < k → (∀ p q, s = p ++ q → tot (run σ p) + c ≤ tot (0, σ.2) + n) → csLoop sep p ws s ≠ .out := by
  intro k
  induction k with
  | zero => intro one s σ hk; omega
  | succ k ih =>
    intro ws s σ hk hg h
    rw [csLoop] at h
    by_cases e : now s = sep
    · rw [if_pos e] at h
      have hs := now_cons e hsep
      have hl : s.length = s.tail.length + 1 := by rw [hs]; simp
      have g1 : Hg n c (0, σ.2) s.tail := fun p q eq => by
        have := hg (sep :: p) q (by rw [hs, eq]; rfl)
        rw [run_cons, hz] at this
        exact this
      rcases bind_out h with h | ⟨b, q, e1, h⟩
      · exact hp _ _ g1 h
      · obtain ⟨v, hv, hb⟩ := hq _ _ _ e1
        have l1 : q.length < s.length := by
          rw [hl, hv, List.length_append]
          omega
        rw [dif_pos l1] at h
        refine ih _ q (run (0, σ.2) v) (by omega) (fun p r eq => ?_) h
        have := g1 (v ++ p) r (by rw [hv, eq, List.append_assoc])
        rw [run_append] at this
        rw [(hP _ _ hb _).1]
        exact this
    · rw [if_neg e] at h; cases h
structure NO (n : Nat) : Prop where
  T : ∀ s σ, Hg n 6 σ s → pT n s ≠ .out
  Fn : ∀ s σ, Hg n 5 σ s → pFn n s ≠ .out
  Lt : ∀ s σ, Hg n 5 σ s → pLt n s ≠ .out
  Cs : ∀ s σ, Hg n 5 σ s → pCs n s ≠ .out
  Way : ∀ s σ, Hg n 5 σ s → pWay n s ≠ .out
  Cmp : ∀ s σ, Hg n 5 σ s → pCmp n s ≠ .out
  Sum : ∀ s σ, Hg n 4 σ s → pSum n s ≠ .out
  Prod : ∀ s σ, Hg n 3 σ s → pProd n s ≠ .out
  Call : ∀ s σ, Hg n 2 σ s → pCall n s ≠ .out
  Thing : ∀ s σ, Hg n 1 σ s → pThing n s ≠ .out
theorem no_out (n : Nat) : NO n := by
  induction n with
  | zero =>
    refine ⟨?_, ?_, ?_, ?_, ?_, ?_, ?_, ?_, ?_, ?_⟩ <;> (intro s σ g; have := g.pos; omega)
  | succ n ih =>
    have A := all_post n
    refine ⟨fun s σ g => ?_, fun s σ g h => ?_, fun s σ g h => ?_, fun s σ g h => ?_, fun s σ g h => ?_, fun s σ g h => ?_, fun s σ g h => ?_, fun s σ g h => ?_, fun s σ g h => ?_, fun s σ g h => ?_⟩
    · have g' : Hg n 5 σ s := g.to (by omega)
      show (match now s with | .bs => pFn n s | .kw .klet => pLt n s | .kw .kcase => pCs n s | _ => pCmp n s) ≠ .out
      split
      · exact ih.Fn s σ g'
      · exact ih.Lt s σ g'
      · exact ih.Cs s σ g'
      · exact ih.Cmp s σ g'
    · rcases bind_out h with h | ⟨_, r1, e1, h⟩
      · exact eat_out h
      rcases bind_out h with h | ⟨x, r2, e2, h⟩
      · exact eatS_out h
      rcases bind_out h with h | ⟨_, r3, e3, h⟩
      · exact eat_out h
      rcases bind_out h with h | ⟨_, r4, e4, h⟩
      · have q1 := eat_ok e1 (fun q => by cases q)
        have q2 := eatS_ok e2
        have q3 := eat_ok e3 (fun q => by cases q)
        have q4 := smalls_eq r2
        have hr : run σ (.bs :: .small x :: (smTk (smalls r2).1 ++ [.arr])) = (σ.1 + 6, σ.2) := by
          rw [run_cons, run_cons, run_append, run_smTk] <;> rfl
        have hs : s = (.bs :: .small x :: (smTk (smalls r2).1 ++ [.arr])) ++ r3 := by
          rw [q3] at q4
          rw [q1, q2]
          simp only [List.cons_append, List.append_assoc, List.nil_append]
          rw [← q4]
        refine ih.T _ _ (g.sub hs ?_) h
        rw [hr]
        show σ.1 + σ.2.sum + (n + 1) + 6 ≤ σ.1 + 6 + σ.2.sum + n + 5
        omega
      · cases h
    · rcases bind_out h with h | ⟨_, r1, e1, h⟩
      · exact eat_out h
      rcases bind_out h with h | ⟨_, r2, e2, h⟩
      · exact eat_out h
      have q1 := eat_ok e1 (fun q => by cases q)
      have q2 := eat_ok e2 (fun q => by cases q)
      have g1 : Hg n 6 (0, (σ.1 + 3) :: σ.2) r2 := g.sub (u := [.kw .klet, .lb]) (by rw [q1, q2]; rfl) (by
        show σ.1 + σ.2.sum + (n + 1) + 6 ≤ 0 + ((σ.1 + 3) :: σ.2).sum + n + 5
        rw [List.sum_cons]
        omega)
      rcases bind_out h with h | ⟨ps, r3, e3, h⟩
      · exact ltLoop_out ih.T A.T _ _ _ _ (Nat.lt_succ_self _) g1 h
      obtain ⟨w, new, hw, z1, z2, z3, z4, z5⟩ := ltLoop_post A.T _ _ _ (Nat.lt_succ_self _) _ _ e3
      rcases bind_out h with h | ⟨_, r4, e4, h⟩
      · exact eat_out h
      rcases bind_out h with h | ⟨_, r5, e5, h⟩
      · exact eat_out h
      have q4 := eat_ok e4 (fun q => by cases q)
      have q5 := eat_ok e5 (fun q => by cases q)
      rcases bind_out h with h | ⟨b, r6, e6, h⟩
      · have e : run (0, (σ.1 + 3) :: σ.2) (w ++ [.rb, .kw .kin]) = (σ.1 + 3, σ.2) := by
          rw [run_append, run_cons, run_cons, run_nil]
          show ((run (0, (σ.1 + 3) :: σ.2) w).2.headD 0, (run (0, (σ.1 + 3) :: σ.2) w).2.tail) = _
          rw [z4] <;> rfl
        refine ih.T _ _ (g1.sub (u := w ++ [.rb, .kw .kin]) (r := r5) (m := n) (d := 6) (by rw [hw, q4, q5]; simp) ?_) h
        rw [e]
        show 0 + ((σ.1 + 3) :: σ.2).sum + n + 6 ≤ σ.1 + 3 + σ.2.sum + n + 6
        rw [List.sum_cons]
        omega
      · cases h
    · rcases bind_out h with h | ⟨_, r1, e1, h⟩
      · exact eat_out h
      have q1 := eat_ok e1 (fun q => by cases q)
      have g1 : Hg n 6 (σ.1 + 3, σ.2) r1 := g.sub (u := [.kw .kcase]) (by rw [q1]; rfl) (by
        show σ.1 + σ.2.sum + (n + 1) + 6 ≤ σ.1 + 3 + σ.2.sum + n + 5
        omega)
      rcases bind_out h with h | ⟨e, r2, e2, h⟩
      · exact ih.T _ _ g1 h
      obtain ⟨v, hv, hb⟩ := A.T _ _ _ e2
      rcases bind_out h with h | ⟨_, r3, e3, h⟩
      · exact eat_out h
      rcases bind_out h with h | ⟨_, r4, e4, h⟩
      · exact eat_out h
      have q3 := eat_ok e3 (fun q => by cases q)
      have q4 := eat_ok e4 (fun q => by cases q)
      have u1 := hb.up (σ.1 + 3, σ.2)
      have ev : run (σ.1 + 3, σ.2) (v ++ [.kw .kof, .lb]) = (0, (run (σ.1 + 3, σ.2) v).1 :: σ.2) := by
        rw [run_append, run_cons, run_cons, run_nil]
        show ((0 : Nat), (run (σ.1 + 3, σ.2) v).1 :: (run (σ.1 + 3, σ.2) v).2) = _
        rw [u1.1]
      have g2 := g1.sub (u := v ++ [.kw .kof, .lb]) (r := r4) (m := n) (d := 5) (by rw [hv, q3, q4]; simp) (by
        rw [ev]
        have := u1.2
        show σ.1 + 3 + σ.2.sum + n + 5 ≤ 0 + ((run (σ.1 + 3, σ.2) v).1 :: σ.2).sum + n + 6
        rw [List.sum_cons]
        omega)
      rw [ev] at g2
      rcases bind_out h with h | ⟨w, r5, e5, h⟩
      · exact ih.Way _ _ g2 h
      obtain ⟨v1, hv1, hb1⟩ := A.Way _ _ _ e5
      rcases bind_out h with h | ⟨ws, r6, e6, h⟩
      · refine csLoop_out ih.Way A.Way (fun a u h => h.up) (sep := .semi) (fun q => by cases q) (fun σ => rfl) _ _ r5 (run (0, (run (σ.1 + 3, σ.2) v).1 :: σ.2) v1) (Nat.lt_succ_self _) (fun p q e => ?_) h
        have := g2 (v1 ++ p) q (by rw [hv1, e, List.append_assoc])
        rw [run_append] at this
        rw [(hb1.up _).1]
        exact this
      rcases bind_out h with h | ⟨_, r7, e7, h⟩
      · exact eat_out h
      · cases h
    · rcases bind_out h with h | ⟨c, r1, e1, h⟩
      · exact eatG_out h
      rcases bind_out h with h | ⟨xs, r2, e2, h⟩
      · exact smallsU_out _ _ h
      rcases bind_out h with h | ⟨_, r3, e3, h⟩
      · exact eat_out h
      have q1 := eatG_ok e1
      obtain ⟨new, q2, q2'⟩ := smallsU_ok _ _ _ _ e2
      have q3 := eat_ok e3 (fun q => by cases q)
      rcases bind_out h with h | ⟨b, r4, e4, h⟩
      · refine ih.T _ _ (g.sub (u := .great c :: (smTk new ++ [.arr])) (r := r3) (by rw [q1, q2', q3]; simp) ?_) h
        rw [run_cons, run_append, run_smTk]
        show σ.1 + σ.2.sum + (n + 1) + 6 ≤ σ.1 + 3 + σ.2.sum + n + 5
        omega
      · cases h
    · have g1 : Hg n 4 σ s := g.to (by omega)
      rcases bind_out h with h | ⟨a, q, e1, h⟩
      · exact ih.Sum _ _ g1 h
      obtain ⟨u, hu, ha⟩ := A.Sum _ _ _ e1
      have two : ∀ o, now q = .op o → ((pSum n q.tail).bind fun b q1 => Res.ok (Tm.op o a b) q1) ≠ .out := fun o hn h => by
        rcases bind_out h with h | ⟨b, q1, e2, h⟩
        · refine ih.Sum _ _ (g1.sub (u := u ++ [.op o]) (r := q.tail) (by rw [hu, List.append_assoc]; exact congrArg (u ++ ·) (now_cons hn (fun q => by cases q))) ?_) h
          rw [run_append]
          have := (ha.up σ).tot
          show tot σ + n + 4 ≤ tot (run σ u) + n + 4
          omega
        · cases h
      split at h
      · rename_i e; exact two .less e h
      · rename_i e; exact two .same e h
      · cases h
    · have g1 : Hg n 3 σ s := g.to (by omega)
      rcases bind_out h with h | ⟨a, q, e1, h⟩
      · exact ih.Prod _ _ g1 h
      obtain ⟨u, hu, ha⟩ := A.Prod _ _ _ e1
      exact chain_out ih.Prod A.Prod _ a q (run σ u) (Nat.lt_succ_self _) (g1.sub hu (by have := (ha.up σ).tot; omega)) h
    · have g1 : Hg n 2 σ s := g.to (by omega)
      rcases bind_out h with h | ⟨a, q, e1, h⟩
      · exact ih.Call _ _ g1 h
      obtain ⟨u, hu, ha⟩ := A.Call _ _ _ e1
      exact chain_out ih.Call A.Call _ a q (run σ u) (Nat.lt_succ_self _) (g1.sub hu (by have := (ha.up σ).tot; omega)) h
    · have g1 : Hg n 1 σ s := g.to (by omega)
      rcases bind_out h with h | ⟨a, q, e1, h⟩
      · exact ih.Thing _ _ g1 h
      obtain ⟨u, hu, ha⟩ := A.Thing _ _ _ e1
      exact callL_out ih.Thing A.Thing _ a q (run σ u) (Nat.lt_succ_self _) (g1.sub hu (by have := (ha.up σ).tot; omega)) h
    · have h' : (match now s with | .num k => Res.ok (Tm.num k) s.tail | .small x => .ok (Tm.name x) s.tail | .great c => .ok (Tm.make c) s.tail | .lp => (pT n s.tail).bind fun t q => (eat .rp q).bind fun _ q1 => .ok t q1 | _ => .fail) = .out := h
      split at h'
      · cases h'
      · cases h'
      · cases h'
      · rename_i e
        rcases bind_out h' with h | ⟨b, q, e1, h⟩
        · refine ih.T _ _ (g.sub (u := [.lp]) (r := s.tail) (now_cons e (fun q => by cases q)) ?_) h
          show σ.1 + σ.2.sum + (n + 1) + 6 ≤ 6 + (σ.1 :: σ.2).sum + n + 1
          rw [List.sum_cons]
          omega
        · rcases bind_out h with h | ⟨_, q1, e2, h⟩
          · exact eat_out h
          · cases h
      · cases h'
end K72
/-! K72D: what is written: its brackets, its balance, its height. -/
namespace K72
theorem cnt_shB (n : Nat) (t : Tm) (u : List Tok) : cnt (shB n t u) = cnt u + brk n t := by
  unfold shB brk
  split
  · show cnt (u ++ [.rp]) + 1 = _
    rw [cnt_append]
    show cnt u + 0 + 1 = _
    omega
  · omega
theorem cnt_pre (f : Bool) : cnt (pre f) = 0 := by cases f <;> rfl
mutual
theorem cnt_tw : ∀ (f : Bool) (t : Tm), cnt (tw f t) = br t
  | f, .num n => by rw [tw, cnt_append, cnt_pre] <;> rfl
  | f, .name n => by rw [tw, cnt_append, cnt_pre] <;> rfl
  | f, .make n => by rw [tw, cnt_append, cnt_pre] <;> rfl
  | f, .app a b => by
    rw [tw, cnt_append, cnt_append, cnt_pre, cnt_shB, cnt_shB, cnt_tw false a, cnt_tw false b, br]
    omega
  | f, .op o a b => by
    rw [tw, cnt_append, cnt_append, cnt_pre, cnt_shB, cnt_tw false a, br]
    show 0 + (br a + brk (max (ow o) 1) a + cnt (shB (ow o + 1) b (tw false b))) = _
    rw [cnt_shB, cnt_tw false b]
    omega
  | f, .fn x b => by
    have e : cnt (if f then ([] : List Tok) else [.bs]) = 0 := by cases f <;> rfl
    rw [tw, cnt_append, e, br, ← cnt_tw true b]
    show 0 + cnt (tw true b) = _
    omega
  | f, .lt ps b => by
    rw [tw, cnt_append, cnt_pre, br]
    show 0 + cnt (twPs ps ++ .rb :: .kw .kin :: tw false b) = _
    rw [cnt_append, cnt_twPs ps]
    show 0 + (brPs ps + cnt (tw false b)) = _
    rw [cnt_tw false b]
    omega
  | f, .cs e ws => by
    rw [tw, cnt_append, cnt_pre, br]
    show 0 + cnt (tw false e ++ .kw .kof :: .lb :: (twWs ws ++ [.rb])) = _
    rw [cnt_append, cnt_tw false e]
    show 0 + (br e + cnt (twWs ws ++ [.rb])) = _
    rw [cnt_append, cnt_twWs ws]
    show 0 + (br e + (brWs ws + 0)) = _
    omega
  | f, .par t => by
    rw [tw, cnt_append, cnt_pre, br]
    show 0 + (cnt (tw false t ++ [.rp]) + 1) = _
    rw [cnt_append, cnt_tw false t]
    show 0 + (br t + 0 + 1) = _
    omega
theorem cnt_twPs : ∀ ps : List (L × Tm), cnt (twPs ps) = brPs ps
  | [] => by rw [twPs, brPs] <;> rfl
  | (x, t) :: r => by
    rw [twPs, brPs]
    show cnt (tw false t ++ _) = _
    rw [cnt_append, cnt_tw false t, ← cnt_twPs r]
    cases r with
    | nil => rw [twPs] <;> rfl
    | cons y r => rfl
theorem cnt_twWs : ∀ ws : List (L × List L × Tm), cnt (twWs ws) = brWs ws
  | [] => by rw [twWs, brWs] <;> rfl
  | (c, xs, t) :: r => by
    rw [twWs, brWs]
    show cnt (smTk xs ++ .arr :: (tw false t ++ _)) = _
    rw [cnt_append, cnt_smTk]
    show 0 + cnt (tw false t ++ _) = _
    rw [cnt_append, cnt_tw false t, ← cnt_twWs r]
    cases r with
    | nil => rw [twWs]; show 0 + (br t + 0) = br t + 0; omega
    | cons y r => show 0 + (br t + cnt (twWs (y :: r))) = _; omega
end

/-! ### balance -/
def chk : Nat → List Tok → Option Nat
  | d, [] => some d
  | d, .lp :: r => chk (d + 1) r
  | 0, .rp :: _ => none
  | d + 1, .rp :: r => chk d r
  | d, _ :: r => chk d r
def Bal (u : List Tok) : Prop := chk 0 u = some 0
theorem chk_append : ∀ (d : Nat) (u v : List Tok), chk d (u ++ v) = (chk d u).bind fun e => chk e v
  | d, [], v => rfl
  | d, .lp :: r, v => chk_append (d + 1) r v
  | 0, .rp :: r, v => rfl
  | d + 1, .rp :: r, v => chk_append d r v
  | d, .lb :: r, v | d, .rb :: r, v | d, .semi :: r, v | d, .bs :: r, v | d, .arr :: r, v | d, .eq :: r, v | d, .bar :: r, v | d, .op _ :: r, v | d, .kw _ :: r, v | d, .small _ :: r, v | d, .great _ :: r, v | d, .num _ :: r, v | d, .fin :: r, v => by
    cases d <;> exact chk_append _ r v
theorem chk_shift : ∀ (d e k : Nat) (u : List Tok), chk d u = some e → chk (d + k) u = some (e + k)
  | d, e, k, [], h => by injection h with h; rw [h] <;> rfl
  | d, e, k, .lp :: r, h => by
    have := chk_shift (d + 1) e k r h
    show chk (d + k + 1) r = _
    rw [← this]
    exact congrArg (fun z => chk z r) (by omega)
  | 0, e, k, .rp :: r, h => by cases h
  | d + 1, e, k, .rp :: r, h => by
    have := chk_shift d e k r h
    rw [Nat.add_right_comm]
    exact this
  | d, e, k, .lb :: r, h | d, e, k, .rb :: r, h | d, e, k, .semi :: r, h | d, e, k, .bs :: r, h | d, e, k, .arr :: r, h | d, e, k, .eq :: r, h | d, e, k, .bar :: r, h | d, e, k, .op _ :: r, h | d, e, k, .kw _ :: r, h
  | d, e, k, .small _ :: r, h | d, e, k, .great _ :: r, h | d, e, k, .num _ :: r, h | d, e, k, .fin :: r, h => by
    have h' : chk d r = some e := by cases d <;> exact h
    have := chk_shift d e k r h'
    cases h2 : d + k <;> rw [h2] at this <;> exact this
theorem Bal.at {u : List Tok} (h : Bal u) (d : Nat) : chk d u = some d := by
  have := chk_shift 0 0 d u h
  rw [Nat.zero_add] at this
  exact this
theorem Bal.nil : Bal [] := rfl
theorem Bal.cat {u v : List Tok} (h : Bal u) (k : Bal v) : Bal (u ++ v) := by
  unfold Bal
  rw [chk_append, h]
  exact k
def noP : Tok → Bool | .lp | .rp => false | _ => true
theorem Bal.cons {x : Tok} {u : List Tok} (hx : noP x = true) (h : Bal u) : Bal (x :: u) := by
  cases x <;> first | exact h | cases hx
theorem Bal.brack {u : List Tok} (h : Bal u) : Bal (.lp :: (u ++ [.rp])) := by
  show chk 1 (u ++ [.rp]) = some 0
  rw [chk_append, h.at 1] <;> rfl
theorem bal_shB {n : Nat} {t : Tm} {u : List Tok} (h : Bal u) : Bal (shB n t u) := by
  unfold shB
  split
  · exact h.brack
  · exact h
theorem bal_pre (f : Bool) : Bal (pre f) := by cases f <;> rfl
theorem bal_smTk : ∀ xs : List L, Bal (smTk xs)
  | [] => rfl
  | x :: r => Bal.cons (x := .small x) rfl (bal_smTk r)
mutual
theorem bal_tw : ∀ (f : Bool) (t : Tm), Bal (tw f t)
  | f, .num n => by rw [tw]; exact (bal_pre f).cat rfl
  | f, .name n => by rw [tw]; exact (bal_pre f).cat rfl
  | f, .make n => by rw [tw]; exact (bal_pre f).cat rfl
  | f, .app a b => by rw [tw]; exact (bal_pre f).cat ((bal_shB (bal_tw false a)).cat (bal_shB (bal_tw false b)))
  | f, .op o a b => by rw [tw]; exact (bal_pre f).cat ((bal_shB (bal_tw false a)).cat (Bal.cons rfl (bal_shB (bal_tw false b))))
  | f, .fn x b => by rw [tw]; exact (show Bal (if f then [] else [.bs]) by cases f <;> rfl).cat (Bal.cons rfl (bal_tw true b))
  | f, .lt ps b => by rw [tw]; exact (bal_pre f).cat (Bal.cons rfl (Bal.cons rfl ((bal_twPs ps).cat (Bal.cons rfl (Bal.cons rfl (bal_tw false b))))))
  | f, .cs e ws => by rw [tw]; exact (bal_pre f).cat (Bal.cons rfl ((bal_tw false e).cat (Bal.cons rfl (Bal.cons rfl ((bal_twWs ws).cat rfl)))))
  | f, .par t => by rw [tw]; exact (bal_pre f).cat (bal_tw false t).brack
theorem bal_twPs : ∀ ps : List (L × Tm), Bal (twPs ps)
  | [] => by rw [twPs]; rfl
  | (x, t) :: r => by
    rw [twPs]
    refine Bal.cons rfl (Bal.cons rfl ((bal_tw false t).cat ?_))
    split
    · rfl
    · exact Bal.cons rfl (bal_twPs r)
theorem bal_twWs : ∀ ws : List (L × List L × Tm), Bal (twWs ws)
  | [] => by rw [twWs]; rfl
  | (c, xs, t) :: r => by
    rw [twWs]
    refine Bal.cons rfl ((bal_smTk xs).cat (Bal.cons rfl ((bal_tw false t).cat ?_)))
    split
    · rfl
    · exact Bal.cons rfl (bal_twWs r)
end
/-- a pair of brackets in two pieces stands in one of them -/
theorem split2 : ∀ (X Y A B C : List Tok) (d : Nat), X ++ Y = A ++ .lp :: (B ++ .rp :: C) → chk d X = some 0 → Bal B →
    (∃ C1, X = A ++ .lp :: (B ++ .rp :: C1) ∧ C = C1 ++ Y) ∨ (∃ A1, A = X ++ A1 ∧ Y = A1 ++ .lp :: (B ++ .rp :: C))
  | [], Y, A, B, C, d, e, hx, hb => .inr ⟨A, rfl, e⟩
  | x :: X, Y, [], B, C, d, e, hx, hb => by
    rw [List.nil_append, List.cons_append] at e
    injection e with e1 e2
    subst e1
    left
    have hx' : chk (d + 1) X = some 0 := hx
    rcases List.append_eq_append_iff.mp e2 with ⟨a, h1, h2⟩ | ⟨c, h1, h2⟩
    · -- B = X ++ a: X would be a beginning of B
      exfalso
      have h3 := hb.at (d + 1)
      rw [h1, chk_append, hx'] at h3
      -- chk 0 a = some (d+1), but B is balanced from d + 1
      have h4 : Bal B := hb
      have h5 : ∃ e, chk 0 X = some e := by
        unfold Bal at h4
        rw [h1, chk_append] at h4
        cases hc : chk 0 X with
        | none => rw [hc] at h4; cases h4
        | some e => exact ⟨e, rfl⟩
      obtain ⟨e, h5⟩ := h5
      have h6 := chk_shift 0 e (d + 1) X h5
      rw [Nat.zero_add, hx'] at h6
      injection h6 with h6
      omega
    · cases c with
      | nil =>
        exfalso
        rw [List.append_nil] at h1
        rw [h1, hb.at (d + 1)] at hx'
        injection hx' with q
        omega
      | cons y c =>
        rw [List.cons_append] at h2
        injection h2 with h3 h4
        subst h3
        exact ⟨c, by rw [h1]; rfl, h4⟩
  | x :: X, Y, y :: A, B, C, d, e, hx, hb => by
    rw [List.cons_append, List.cons_append] at e
    injection e with e1 e2
    subst e1
    have go : ∀ d', chk d' X = some 0 → (∃ C1, x :: X = x :: A ++ .lp :: (B ++ .rp :: C1) ∧ C = C1 ++ Y) ∨ (∃ A1, x :: A = x :: X ++ A1 ∧ Y = A1 ++ .lp :: (B ++ .rp :: C)) := fun d' h => by
      rcases split2 X Y A B C d' e2 h hb with ⟨C1, h1, h2⟩ | ⟨A1, h1, h2⟩
      · exact .inl ⟨C1, by rw [h1]; rfl, h2⟩
      · exact .inr ⟨A1, by rw [h1]; rfl, h2⟩
    cases x with
    | lp => exact go (d + 1) hx
    | rp =>
      cases d with
      | zero => cases hx
      | succ d => exact go d hx
    | _ => refine go d ?_; cases d <;> exact hx
theorem split_cons {x : Tok} {Y A B C : List Tok} (e : x :: Y = A ++ .lp :: (B ++ .rp :: C)) (hx : x ≠ .lp) : ∃ A1, A = x :: A1 ∧ Y = A1 ++ .lp :: (B ++ .rp :: C) := by
  cases A with
  | nil =>
    rw [List.nil_append] at e
    injection e with e1 e2
    exact absurd e1 hx
  | cons y A =>
    rw [List.cons_append] at e
    injection e with e1 e2
    exact ⟨A, by rw [e1], e2⟩
theorem split_brack {w A B C : List Tok} (e : .lp :: (w ++ [.rp]) = A ++ .lp :: (B ++ .rp :: C)) (hw : Bal w) (hb : Bal B) :
    (A = [] ∧ B = w ∧ C = []) ∨ (∃ A1 C1, A = .lp :: A1 ∧ C = C1 ++ [.rp] ∧ w = A1 ++ .lp :: (B ++ .rp :: C1)) := by
  cases A with
  | nil =>
    left
    rw [List.nil_append] at e
    injection e with _ e
    rcases List.append_eq_append_iff.mp e with ⟨a, h1, h2⟩ | ⟨c, h1, h2⟩
    · cases a with
      | nil =>
        rw [List.nil_append] at h2
        injection h2 with _ h2
        rw [List.append_nil] at h1
        exact ⟨rfl, h1, h2.symm⟩
      | cons y a =>
        exfalso
        rw [List.cons_append] at h2
        injection h2 with h3 h4
        have h5 := congrArg List.length h4
        simp at h5
    · cases c with
      | nil =>
        rw [List.nil_append] at h2
        injection h2 with _ h2
        rw [List.append_nil] at h1
        exact ⟨rfl, h1.symm, h2⟩
      | cons y c =>
        exfalso
        rw [List.cons_append] at h2
        injection h2 with h3 h4
        subst h3
        have h5 : Bal w := hw
        unfold Bal at h5
        rw [h1, chk_append, hb] at h5
        cases h5
  | cons y A =>
    right
    rw [List.cons_append] at e
    injection e with e1 e2
    rcases split2 w [.rp] A B C 0 e2 hw hb with ⟨C1, h1, h2⟩ | ⟨A1, h1, h2⟩
    · exact ⟨A, C1, by rw [e1], h2, h1⟩
    · exfalso
      obtain ⟨A2, _, h3⟩ := split_cons h2 (fun q => by cases q)
      have := congrArg List.length h3
      simp at this

/-! ### heights of what is written -/
structure High (u : List Tok) (j h : Nat) : Prop where
  ex : ∀ c st, ∃ c', run (c, st) u = (c', st) ∧ c ≤ c' ∧ c' ≤ c + j
  top : ∀ c st p q, u = p ++ q → tot (run (c, st) p) ≤ c + st.sum + h
/-- .. in braces, from nothing -/
structure HighS (u : List Tok) (h : Nat) : Prop where
  ex : ∀ st, (run (0, st) u).2 = st
  top : ∀ st p q, u = p ++ q → tot (run (0, st) p) ≤ st.sum + h
theorem High.le {u : List Tok} {j h j' h' : Nat} (g : High u j h) (a : j ≤ j') (b : h ≤ h') : High u j' h' :=
  ⟨fun c st => by obtain ⟨c', h1, h2, h3⟩ := g.ex c st; exact ⟨c', h1, h2, by omega⟩, fun c st p q e => by have := g.top c st p q e; omega⟩
theorem High.nil : High [] 0 0 := ⟨fun c st => ⟨c, rfl, Nat.le_refl _, Nat.le_refl _⟩, fun c st p q e => by
  have : p = [] := (List.append_eq_nil_iff.mp e.symm).1
  subst this
  exact Nat.le_refl _⟩
theorem High.cat {u v : List Tok} {j1 h1 j2 h2 : Nat} (g : High u j1 h1) (k : High v j2 h2) : High (u ++ v) (j1 + j2) (max h1 (j1 + h2)) := by
  refine ⟨fun c st => ?_, fun c st p q e => ?_⟩
  · obtain ⟨c1, a1, a2, a3⟩ := g.ex c st
    obtain ⟨c2, b1, b2, b3⟩ := k.ex c1 st
    exact ⟨c2, by rw [run_append, a1, b1], by omega, by omega⟩
  · rcases List.append_eq_append_iff.mp e with ⟨a, e1, e2⟩ | ⟨a, e1, e2⟩
    · obtain ⟨c1, a1, a2, a3⟩ := g.ex c st
      rw [e1, run_append, a1]
      have := k.top c1 st a q e2
      have := Nat.le_max_right h1 (j1 + h2)
      omega
    · have := g.top c st p a e1
      have := Nat.le_max_left h1 (j1 + h2)
      omega
theorem High.one {x : Tok} {j : Nat} (h : ∀ σ, step σ x = (σ.1 + j, σ.2)) : High [x] j j := by
  refine ⟨fun c st => ⟨c + j, by rw [run_cons, run_nil, h], Nat.le_add_right _ _, Nat.le_refl _⟩, fun c st p q e => ?_⟩
  cases p with
  | nil => show c + st.sum ≤ _; omega
  | cons y p =>
    rw [List.cons_append] at e
    injection e with e1 e2
    have : p = [] := (List.append_eq_nil_iff.mp e2.symm).1
    subst this e1
    rw [run_cons, run_nil, h]
    show c + j + st.sum ≤ _
    omega
theorem High.dull {x : Tok} (h : dull x = true) : High [x] 0 0 := High.one fun σ => step_dull h
theorem High.cons {x : Tok} {u : List Tok} {j h : Nat} (hx : K72.dull x = true) (g : High u j h) : High (x :: u) j h := ((High.dull hx).cat g).le (by omega) (by omega)
theorem High.up {x : Tok} {u : List Tok} {j h : Nat} (hx : ∀ σ, step σ x = (σ.1 + 3, σ.2)) (g : High u j h) : High (x :: u) (3 + j) (3 + h) := ((High.one hx).cat g).le (Nat.le_refl _) (by omega)
theorem High.smTk (xs : List L) : High (smTk xs) 0 0 := by
  induction xs with
  | nil => exact High.nil
  | cons x r ih => exact High.cons (x := .small x) rfl ih
theorem High.brack {u : List Tok} {j h : Nat} (g : High u j h) : High (.lp :: (u ++ [.rp])) 0 (6 + h) := by
  refine ⟨fun c st => ?_, fun c st p q e => ?_⟩
  · obtain ⟨c', h1, h2, h3⟩ := g.ex 6 (c :: st)
    refine ⟨c, ?_, Nat.le_refl _, Nat.le_refl _⟩
    rw [run_cons, run_append]
    show run (run (6, c :: st) u) [.rp] = _
    rw [h1] <;> rfl
  · cases p with
    | nil => show c + st.sum ≤ _; omega
    | cons y p =>
      rw [List.cons_append] at e
      injection e with e1 e2
      subst e1
      rw [run_cons]
      show tot (run (6, c :: st) p) ≤ _
      rcases List.append_eq_append_iff.mp e2 with ⟨a, e1, e2⟩ | ⟨a, e1, e2⟩
      · obtain ⟨c', h1, h2, h3⟩ := g.ex 6 (c :: st)
        rw [e1, run_append, h1]
        cases a with
        | nil =>
          have := g.top 6 (c :: st) u [] (by simp)
          rw [h1, List.sum_cons] at this
          show tot (c', c :: st) ≤ _
          omega
        | cons y a =>
          rw [List.cons_append] at e2
          injection e2 with e3 e4
          have : a = [] := (List.append_eq_nil_iff.mp e4.symm).1
          subst this e3
          show c + st.sum ≤ _
          omega
      · have := g.top 6 (c :: st) p a e1
        rw [List.sum_cons] at this
        omega
theorem HighS.brace {u : List Tok} {h : Nat} (g : HighS u h) : High (.lb :: (u ++ [.rb])) 0 h := by
  refine ⟨fun c st => ?_, fun c st p q e => ?_⟩
  · refine ⟨c, ?_, Nat.le_refl _, Nat.le_refl _⟩
    rw [run_cons, run_append]
    show ((run (0, c :: st) u).2.headD 0, (run (0, c :: st) u).2.tail) = _
    rw [g.ex] <;> rfl
  · cases p with
    | nil => show c + st.sum ≤ _; omega
    | cons y p =>
      rw [List.cons_append] at e
      injection e with e1 e2
      subst e1
      rw [run_cons]
      show tot (run (0, c :: st) p) ≤ _
      rcases List.append_eq_append_iff.mp e2 with ⟨a, e1, e2⟩ | ⟨a, e1, e2⟩
      · cases a with
        | nil =>
          have := g.top (c :: st) u [] (by simp)
          rw [List.sum_cons] at this
          rw [e1, List.append_nil]
          omega
        | cons y a =>
          rw [List.cons_append] at e2
          injection e2 with e3 e4
          have : a = [] := (List.append_eq_nil_iff.mp e4.symm).1
          subst this e3
          rw [e1, run_append]
          show (run (0, c :: st) u).2.headD 0 + (run (0, c :: st) u).2.tail.sum ≤ _
          rw [g.ex]
          show c + st.sum ≤ _
          omega
      · have := g.top (c :: st) p a e1
        rw [List.sum_cons] at this
        omega
theorem High.s {u : List Tok} {j h : Nat} (g : High u j h) : HighS u h := ⟨fun st => by obtain ⟨c', h1, _⟩ := g.ex 0 st; rw [h1], fun st p q e => by have := g.top 0 st p q e; omega⟩
theorem HighS.le {u : List Tok} {h h' : Nat} (g : HighS u h) (b : h ≤ h') : HighS u h' := ⟨g.ex, fun st p q e => by have := g.top st p q e; omega⟩
theorem HighS.sep {u v : List Tok} {h : Nat} {x : Tok} (hx : ∀ σ, step σ x = (0, σ.2)) (g : HighS u h) (k : HighS v h) : HighS (u ++ x :: v) h := by
  refine ⟨fun st => ?_, fun st p q e => ?_⟩
  · rw [run_append, run_cons, hx, g.ex, k.ex]
  · rcases List.append_eq_append_iff.mp e with ⟨a, e1, e2⟩ | ⟨a, e1, e2⟩
    · cases a with
      | nil =>
        have := g.top st u [] (by simp)
        rw [e1, List.append_nil]
        exact this
      | cons y a =>
        rw [List.cons_append] at e2
        injection e2 with e3 e4
        subst e3
        rw [e1, run_append, run_cons, hx, g.ex]
        exact k.top st a q e4
    · exact g.top st p a e1
def Hb : Nat → Nat
  | 0 => 0
  | d + 1 => Hb d + 6 * (d + 1)
theorem Hb_mono {a b : Nat} (h : a ≤ b) : Hb a ≤ Hb b := by
  induction h with
  | refl => exact Nat.le_refl _
  | step _ ih => exact Nat.le_trans ih (Nat.le_add_right _ _)
mutual
def dp : Tm → Nat
  | .num _ | .name _ | .make _ => 0
  | .app a b => max (dp a) (dp b) + 1
  | .op _ a b => max (dp a) (dp b) + 1
  | .fn _ b => dp b + 1
  | .lt ps b => max (dpPs ps) (dp b) + 1
  | .cs e ws => max (dp e) (dpWs ws) + 1
  | .par t => dp t + 1
def dpPs : List (L × Tm) → Nat
  | [] => 0
  | (_, t) :: r => max (dp t) (dpPs r)
def dpWs : List (L × List L × Tm) → Nat
  | [] => 0
  | (_, _, t) :: r => max (dp t) (dpWs r)
end
def fl : Bool → Nat | true => 3 | false => 0
theorem high_pre (f : Bool) {u : List Tok} {j h : Nat} (g : High u j h) : High (pre f ++ u) (j + fl f) (h + fl f) := by
  cases f with
  | true => exact (High.up (x := .arr) (fun _ => rfl) g).le (by show 3 + j ≤ j + 3; omega) (by show 3 + h ≤ h + 3; omega)
  | false => exact g
theorem high_shB {n : Nat} {t : Tm} {u : List Tok} {j h : Nat} (hn : 1 ≤ n) (hj : 1 ≤ lvl t → j = 0) (g : High u j h) : High (shB n t u) 0 (6 + h) := by
  unfold shB
  split
  · exact g.brack
  · rename_i hl
    rw [hj (by omega)] at g
    exact g.le (Nat.le_refl _) (by omega)
/-- what stays of a term: nothing, where it is no function, let or case -/
def jn (t : Tm) : Nat := if 1 ≤ lvl t then 0 else 6 * dp t
theorem jn_le (t : Tm) : jn t ≤ 6 * dp t := by unfold jn; split <;> omega
theorem jn_pos {t : Tm} (h : 1 ≤ lvl t) : jn t = 0 := if_pos h
mutual
theorem high_tw : ∀ (f : Bool) (t : Tm), High (tw f t) (jn t + fl f) (Hb (dp t) + fl f)
  | f, .num n => by rw [tw]; exact (high_pre f (High.dull rfl)).le (by omega) (by omega)
  | f, .name n => by rw [tw]; exact (high_pre f (High.dull rfl)).le (by omega) (by omega)
  | f, .make n => by rw [tw]; exact (high_pre f (High.dull rfl)).le (by omega) (by omega)
  | f, .app a b => by
    rw [tw]
    have ga := high_shB (n := 3) (by omega) (fun h => by rw [jn_pos h] <;> rfl) (high_tw false a)
    have gb := high_shB (n := 4) (by omega) (fun h => by rw [jn_pos h] <;> rfl) (high_tw false b)
    have m1 := Hb_mono (Nat.le_max_left (dp a) (dp b))
    have m2 := Hb_mono (Nat.le_max_right (dp a) (dp b))
    refine (high_pre f (ga.cat gb)).le (by omega) ?_
    show _ ≤ Hb (max (dp a) (dp b)) + 6 * (max (dp a) (dp b) + 1) + fl f
    show max (6 + (Hb (dp a) + 0)) (0 + (6 + (Hb (dp b) + 0))) + fl f ≤ _
    omega
  | f, .op o a b => by
    rw [tw]
    have ga := high_shB (n := max (ow o) 1) (by omega) (fun h => by rw [jn_pos h] <;> rfl) (high_tw false a)
    have gb := high_shB (n := ow o + 1) (by omega) (fun h => by rw [jn_pos h] <;> rfl) (high_tw false b)
    have m1 := Hb_mono (Nat.le_max_left (dp a) (dp b))
    have m2 := Hb_mono (Nat.le_max_right (dp a) (dp b))
    have j0 : 0 ≤ jn (.op o a b) := Nat.zero_le _
    refine (high_pre f (ga.cat (High.cons (x := .op o) rfl gb))).le (by omega) ?_
    show max (6 + (Hb (dp a) + 0)) (0 + (6 + (Hb (dp b) + 0))) + fl f ≤ Hb (max (dp a) (dp b)) + 6 * (max (dp a) (dp b) + 1) + fl f
    omega
  | f, .fn x b => by
    rw [tw]
    have gb := High.cons (x := .small x) rfl (high_tw true b)
    have j1 := jn_le b
    have e : jn (.fn x b) = 6 * (dp b + 1) := rfl
    cases f with
    | true =>
      refine gb.le ?_ ?_
      · show jn b + 3 ≤ jn (.fn x b) + 3
        omega
      · show Hb (dp b) + 3 ≤ Hb (dp b) + 6 * (dp b + 1) + 3
        omega
    | false =>
      refine (High.up (x := .bs) (fun _ => rfl) gb).le ?_ ?_
      · show 3 + (jn b + 3) ≤ jn (.fn x b) + 0
        omega
      · show 3 + (Hb (dp b) + 3) ≤ Hb (dp b) + 6 * (dp b + 1) + 0
        omega
  | f, .lt ps b => by
    rw [tw]
    have gp := high_twPs ps
    have gb := high_tw false b
    have j1 := jn_le b
    have e : jn (.lt ps b) = 6 * (max (dpPs ps) (dp b) + 1) := rfl
    have m1 := Hb_mono (Nat.le_max_left (dpPs ps) (dp b))
    have m2 := Hb_mono (Nat.le_max_right (dpPs ps) (dp b))
    have g := High.up (x := .kw .klet) (fun _ => rfl) (gp.brace.cat (High.cons (x := .kw .kin) rfl gb))
    have eq : (.kw .klet :: .lb :: (twPs ps ++ .rb :: .kw .kin :: tw false b) : List Tok) = .kw .klet :: (.lb :: (twPs ps ++ [.rb]) ++ .kw .kin :: tw false b) := by simp
    rw [eq]
    refine (high_pre f g).le ?_ ?_
    · show 3 + (0 + (jn b + 0)) + fl f ≤ _
      omega
    · show 3 + max (Hb (dpPs ps)) (0 + (Hb (dp b) + 0)) + fl f ≤ Hb (max (dpPs ps) (dp b)) + 6 * (max (dpPs ps) (dp b) + 1) + fl f
      omega
  | f, .cs e ws => by
    rw [tw]
    have gw := high_twWs ws
    have ge := high_tw false e
    have j1 := jn_le e
    have ej : jn (.cs e ws) = 6 * (max (dp e) (dpWs ws) + 1) := rfl
    have m1 := Hb_mono (Nat.le_max_left (dp e) (dpWs ws))
    have m2 := Hb_mono (Nat.le_max_right (dp e) (dpWs ws))
    have g := High.up (x := .kw .kcase) (fun _ => rfl) (ge.cat (High.cons (x := .kw .kof) rfl gw.brace))
    refine (high_pre f g).le ?_ ?_
    · show 3 + (jn e + 0 + 0) + fl f ≤ _
      omega
    · show 3 + max (Hb (dp e) + 0) (jn e + 0 + (3 + Hb (dpWs ws))) + fl f ≤ Hb (max (dp e) (dpWs ws)) + 6 * (max (dp e) (dpWs ws) + 1) + fl f
      omega
  | f, .par t => by
    rw [tw]
    refine (high_pre f (high_tw false t).brack).le (by omega) ?_
    show 6 + (Hb (dp t) + 0) + fl f ≤ Hb (dp t) + 6 * (dp t + 1) + fl f
    omega
theorem high_twPs : ∀ ps : List (L × Tm), HighS (twPs ps) (Hb (dpPs ps))
  | [] => by rw [twPs]; exact High.nil.s
  | (x, t) :: r => by
    rw [twPs]
    have gt := (High.cons (x := .small x) rfl (High.cons (x := .eq) rfl (high_tw false t))).s
    have m1 := Hb_mono (Nat.le_max_left (dp t) (dpPs r))
    have m2 := Hb_mono (Nat.le_max_right (dp t) (dpPs r))
    have g1 : HighS (.small x :: .eq :: tw false t) (Hb (dpPs ((x, t) :: r))) := gt.le m1
    split
    · rw [List.append_nil]; exact g1
    · exact g1.sep (x := .semi) (fun _ => rfl) ((high_twPs r).le m2)
theorem high_twWs : ∀ ws : List (L × List L × Tm), HighS (twWs ws) (3 + Hb (dpWs ws))
  | [] => by rw [twWs]; exact High.nil.s.le (by omega)
  | (c, xs, t) :: r => by
    rw [twWs]
    have gt := (High.cons (x := .great c) rfl ((High.smTk xs).cat (High.up (x := .arr) (fun _ => rfl) (high_tw false t)))).s
    have m1 := Hb_mono (Nat.le_max_left (dp t) (dpWs r))
    have m2 := Hb_mono (Nat.le_max_right (dp t) (dpWs r))
    have g1 : HighS (.great c :: (smTk xs ++ .arr :: tw false t)) (3 + Hb (dpWs ((c, xs, t) :: r))) := gt.le (by
      show max 0 (0 + (3 + (Hb (dp t) + 0))) ≤ 3 + Hb (max (dp t) (dpWs r))
      omega)
    split
    · rw [List.append_nil]; exact g1
    · have := g1.sep (x := .semi) (fun _ => rfl) ((high_twWs r).le (show 3 + Hb (dpWs r) ≤ 3 + Hb (max (dp t) (dpWs r)) by omega))
      have eq : (.great c :: (smTk xs ++ .arr :: (tw false t ++ .semi :: twWs r)) : List Tok) = .great c :: (smTk xs ++ .arr :: tw false t) ++ .semi :: twWs r := by simp
      rw [eq]
      exact this
end
end K72
/-! K72E: what is written is read back, with brackets more too. -/
namespace K72
mutual
/-- without brackets that mean nothing -/
def strip : Tm → Tm
  | .num n => .num n
  | .name x => .name x
  | .make c => .make c
  | .app a b => .app (strip a) (strip b)
  | .op o a b => .op o (strip a) (strip b)
  | .fn x b => .fn x (strip b)
  | .lt ps b => .lt (stripPs ps) (strip b)
  | .cs e ws => .cs (strip e) (stripWs ws)
  | .par t => strip t
def stripPs : List (L × Tm) → List (L × Tm)
  | [] => []
  | (x, t) :: r => (x, strip t) :: stripPs r
def stripWs : List (L × List L × Tm) → List (L × List L × Tm)
  | [] => []
  | (c, xs, t) :: r => (c, xs, strip t) :: stripWs r
end
mutual
/-- lets and cases are not empty, names that are bound together differ -/
def wf : Tm → Prop
  | .num _ | .name _ | .make _ => True
  | .app a b => wf a ∧ wf b
  | .op _ a b => wf a ∧ wf b
  | .fn _ b => wf b
  | .lt ps b => (ps ≠ [] ∧ (ps.map Prod.fst).Nodup ∧ wfPs ps) ∧ wf b
  | .cs e ws => wf e ∧ ws ≠ [] ∧ wfWs ws
  | .par t => wf t
def wfPs : List (L × Tm) → Prop
  | [] => True
  | (_, t) :: r => wf t ∧ wfPs r
def wfWs : List (L × List L × Tm) → Prop
  | [] => True
  | (_, xs, t) :: r => (xs.Nodup ∧ wf t) ∧ wfWs r
end
/-- from some fuel on -/
def Ev {α : Type} (p : Nat → Res α) (x : Res α) : Prop := ∃ n0, ∀ n, n0 ≤ n → p n = x
theorem Ev.now {α : Type} {p : Nat → Res α} {x : Res α} (h : ∀ n, p n = x) : Ev p x := ⟨0, fun n _ => h n⟩
theorem Ev.of {α : Type} {p : Nat → Res α} {x : Res α} (n0 : Nat) (h : ∀ n, n0 ≤ n → p n = x) : Ev p x := ⟨n0, h⟩
theorem Ev.succ {α : Type} {p : Nat → Res α} {x : Res α} (h : Ev (fun n => p (n + 1)) x) : Ev p x := by
  obtain ⟨n0, h⟩ := h
  refine ⟨n0 + 1, fun n hn => ?_⟩
  have := h (n - 1) (by omega)
  have e : n - 1 + 1 = n := by omega
  dsimp only at this
  rw [e] at this
  exact this
theorem Ev.bind {α β : Type} {p : Nat → Res α} {f : Nat → α → List Tok → Res β} {a : α} {r : List Tok} {x : Res β} (h : Ev p (.ok a r)) (k : Ev (fun n => f n a r) x) : Ev (fun n => (p n).bind (f n)) x := by
  obtain ⟨n0, h⟩ := h
  obtain ⟨n1, k⟩ := k
  refine ⟨max n0 n1, fun n hn => ?_⟩
  show (p n).bind (f n) = x
  rw [h n (by omega)]
  exact k n (by omega)
theorem Ev.eq {α : Type} {p q : Nat → Res α} {x : Res α} (h : Ev q x) (e : ∀ n, p n = q n) : Ev p x := by
  obtain ⟨n0, h⟩ := h
  exact ⟨n0, fun n hn => (e n).trans (h n hn)⟩

def Fol (r : List Tok) : Prop := begins r = false ∧ ∀ o, now r ≠ .op o
def Fol1 (r : List Tok) : Prop := begins r = false ∧ ∀ o, now r = .op o → ow o = 0
def Fol2 (r : List Tok) : Prop := begins r = false ∧ now r ≠ .op .times
theorem Fol.one {r : List Tok} (h : Fol r) : Fol1 r := ⟨h.1, fun o e => absurd e (h.2 o)⟩
theorem Fol1.two {r : List Tok} (h : Fol1 r) : Fol2 r := ⟨h.1, fun e => by have := h.2 _ e; cases this⟩
/-- what a beginning is read as, at each level; loops go on with it -/
def R4 (u : List Tok) (t : Tm) : Prop := ∀ r, Ev (fun n => pThing n (u ++ r)) (.ok t r)
def R3 (u : List Tok) (t : Tm) : Prop := ∀ r x, Ev (fun n => callL (pThing n) t r) x → Ev (fun n => pCall n (u ++ r)) x
def R2 (u : List Tok) (t : Tm) : Prop := ∀ r x, begins r = false → Ev (fun n => chain isProd (pCall n) t r) x → Ev (fun n => pProd n (u ++ r)) x
def R1 (u : List Tok) (t : Tm) : Prop := ∀ r x, Fol2 r → Ev (fun n => chain isSum (pProd n) t r) x → Ev (fun n => pSum n (u ++ r)) x
def R0 (u : List Tok) (t : Tm) : Prop := ∀ r, Fol r → Ev (fun n => pT n (u ++ r)) (.ok t r)
theorem callL_stop {p : List Tok → Res Tm} {t : Tm} {r : List Tok} (h : begins r = false) : callL p t r = .ok t r := by
  rw [callL, if_neg (by rw [h]; exact Bool.false_ne_true)]
theorem chain_stop {f : Op → Bool} {p : List Tok → Res Tm} {t : Tm} {r : List Tok} (h : ∀ o, now r = .op o → f o = false) : chain f p t r = .ok t r := by
  rw [chain]
  split
  · rename_i o e
    rw [if_neg (by rw [h o e]; exact Bool.false_ne_true)]
  · rfl
theorem R4.to3 {u : List Tok} {t : Tm} (h : R4 u t) : R3 u t := fun r x k => by
  refine Ev.succ ?_
  exact Ev.bind (f := fun n a q => callL (pThing n) a q) (h r) k
theorem R3.c {u : List Tok} {t : Tm} (h : R3 u t) {r : List Tok} (hr : begins r = false) : Ev (fun n => pCall n (u ++ r)) (.ok t r) := h r _ (Ev.now fun n => callL_stop hr)
theorem R3.to2 {u : List Tok} {t : Tm} (h : R3 u t) : R2 u t := fun r x hr k => by
  refine Ev.succ ?_
  exact Ev.bind (f := fun n a q => chain isProd (pCall n) a q) (h.c hr) k
theorem R2.c {u : List Tok} {t : Tm} (h : R2 u t) {r : List Tok} (hr : Fol2 r) : Ev (fun n => pProd n (u ++ r)) (.ok t r) :=
  h r _ hr.1 (Ev.now fun n => chain_stop fun o e => by cases o <;> first | rfl | exact absurd e hr.2)
theorem R2.to1 {u : List Tok} {t : Tm} (h : R2 u t) : R1 u t := fun r x hr k => by
  refine Ev.succ ?_
  exact Ev.bind (f := fun n a q => chain isSum (pProd n) a q) (h.c hr) k
theorem R1.c {u : List Tok} {t : Tm} (h : R1 u t) {r : List Tok} (hr : Fol1 r) : Ev (fun n => pSum n (u ++ r)) (.ok t r) :=
  h r _ hr.two (Ev.now fun n => chain_stop fun o e => by have := hr.2 o e; cases o <;> first | rfl | cases this)
/-- the first word is none of those that begin a function, a let or a case -/
def Hd (u : List Tok) : Prop := ∀ r, now (u ++ r) ≠ .bs ∧ now (u ++ r) ≠ .kw .klet ∧ now (u ++ r) ≠ .kw .kcase
theorem pT_cmp {n : Nat} {s : List Tok} (h : now s ≠ .bs ∧ now s ≠ .kw .klet ∧ now s ≠ .kw .kcase) : pT (n + 1) s = pCmp n s := by
  show (match now s with | .bs => pFn n s | .kw .klet => pLt n s | .kw .kcase => pCs n s | _ => pCmp n s) = _
  split
  · rename_i e; exact absurd e h.1
  · rename_i e; exact absurd e h.2.1
  · rename_i e; exact absurd e h.2.2
  · rfl
theorem cmp_to0 {u : List Tok} {t : Tm} (hd : Hd u) (h : ∀ r, Fol r → Ev (fun n => pCmp n (u ++ r)) (.ok t r)) : R0 u t := fun r hr => by
  refine Ev.succ ?_
  exact (h r hr).eq fun n => pT_cmp (hd r)
theorem R1.cmp {u : List Tok} {t : Tm} (h : R1 u t) : ∀ r, Fol r → Ev (fun n => pCmp n (u ++ r)) (.ok t r) := fun r hr => by
  refine Ev.succ ?_
  refine Ev.bind (f := fun n a q => match now q with
    | .op .less => (pSum n q.tail).bind fun b q1 => .ok (.op .less a b) q1
    | .op .same => (pSum n q.tail).bind fun b q1 => .ok (.op .same a b) q1
    | _ => .ok a q) (h.c hr.one) (Ev.now fun n => ?_)
  split
  · rename_i e; exact absurd e (hr.2 _)
  · rename_i e; exact absurd e (hr.2 _)
  · rfl
theorem R1.to0 {u : List Tok} {t : Tm} (hd : Hd u) (h : R1 u t) : R0 u t := cmp_to0 hd h.cmp
theorem fol_rp (r : List Tok) : Fol (.rp :: r) := ⟨rfl, fun o e => by cases e⟩
theorem eat_cons (t : Tok) (r : List Tok) : eat t (t :: r) = .ok () r := by
  unfold eat
  rw [if_pos (show now (t :: r) = t from rfl)] <;> rfl
theorem brack_r4 {u : List Tok} {t : Tm} (h : R0 u t) : R4 (.lp :: (u ++ [.rp])) t := fun r => by
  refine Ev.succ ?_
  have k := h (.rp :: r) (fol_rp r)
  have e : (.lp :: (u ++ [.rp]) ++ r : List Tok) = .lp :: (u ++ .rp :: r) := by simp
  rw [e]
  show Ev (fun n => (pT n (u ++ .rp :: r)).bind fun t q => (eat .rp q).bind fun _ q1 => .ok t q1) _
  exact Ev.bind k (Ev.now fun n => by show (eat .rp (.rp :: r)).bind _ = _; rw [eat_cons] <;> rfl)
/-- all about a term at all levels -/
structure CF (t : Tm) : Prop where
  r0 : R0 (tw false t) (strip t)
  r1 : R1 (sh 1 t) (strip t)
  r2 : R2 (sh 2 t) (strip t)
  r3 : R3 (sh 3 t) (strip t)
  r4 : R4 (sh 4 t) (strip t)
  fb : ∃ xs b, tw true t = smTk xs ++ .arr :: tw false b ∧ strip t = fns xs (strip b) ∧ R0 (tw false b) (strip b)
theorem sh_brk {n : Nat} {t : Tm} (h : lvl t < n) : sh n t = .lp :: (tw false t ++ [.rp]) := if_pos h
theorem sh_bare {n : Nat} {t : Tm} (h : n ≤ lvl t) : sh n t = tw false t := if_neg (by omega)
theorem hd_cons {x : Tok} {u : List Tok} (h : x ≠ .bs ∧ x ≠ .kw .klet ∧ x ≠ .kw .kcase) : Hd (x :: u) := fun r => h
theorem hd_app {u v : List Tok} (h : Hd u) (hne : u ≠ []) : Hd (u ++ v) := fun r => by
  cases u with
  | nil => exact absurd rfl hne
  | cons x u => exact h r
theorem nofn {t : Tm} (h : ∀ x b, t ≠ .fn x b) : tw true t = .arr :: tw false t := by
  cases t <;> first | (rw [tw, tw]; rfl) | exact absurd rfl (h _ _)
theorem CF.of4 {t : Tm} (hl : lvl t = 4) (hd : Hd (tw false t)) (h : R4 (tw false t) (strip t)) (hn : ∀ x b, t ≠ .fn x b) : CF t := by
  have e : ∀ n, n ≤ 4 → sh n t = tw false t := fun n hn => sh_bare (by omega)
  refine ⟨h.to3.to2.to1.to0 hd, ?_, ?_, ?_, ?_, ⟨[], t, nofn hn, rfl, h.to3.to2.to1.to0 hd⟩⟩
  · rw [e 1 (by omega)]; exact h.to3.to2.to1
  · rw [e 2 (by omega)]; exact h.to3.to2
  · rw [e 3 (by omega)]; exact h.to3
  · rw [e 4 (by omega)]; exact h
theorem CF.of3 {t : Tm} (hl : lvl t = 3) (hd : Hd (tw false t)) (h : R3 (tw false t) (strip t)) (hn : ∀ x b, t ≠ .fn x b) : CF t := by
  have e : ∀ n, n ≤ 3 → sh n t = tw false t := fun n hn => sh_bare (by omega)
  have r0 := h.to2.to1.to0 hd
  refine ⟨r0, ?_, ?_, ?_, ?_, ⟨[], t, nofn hn, rfl, r0⟩⟩
  · rw [e 1 (by omega)]; exact h.to2.to1
  · rw [e 2 (by omega)]; exact h.to2
  · rw [e 3 (by omega)]; exact h
  · rw [sh_brk (by omega)]; exact brack_r4 r0
theorem CF.of2 {t : Tm} (hl : lvl t = 2) (hd : Hd (tw false t)) (h : R2 (tw false t) (strip t)) (hn : ∀ x b, t ≠ .fn x b) : CF t := by
  have e : ∀ n, n ≤ 2 → sh n t = tw false t := fun n hn => sh_bare (by omega)
  have r0 := h.to1.to0 hd
  refine ⟨r0, ?_, ?_, ?_, ?_, ⟨[], t, nofn hn, rfl, r0⟩⟩
  · rw [e 1 (by omega)]; exact h.to1
  · rw [e 2 (by omega)]; exact h
  · rw [sh_brk (by omega)]; exact (brack_r4 r0).to3
  · rw [sh_brk (by omega)]; exact brack_r4 r0
theorem CF.of1 {t : Tm} (hl : lvl t = 1) (hd : Hd (tw false t)) (h : R1 (tw false t) (strip t)) (hn : ∀ x b, t ≠ .fn x b) : CF t := by
  have r0 := h.to0 hd
  refine ⟨r0, ?_, ?_, ?_, ?_, ⟨[], t, nofn hn, rfl, r0⟩⟩
  · rw [sh_bare (by omega)]; exact h
  · rw [sh_brk (by omega)]; exact (brack_r4 r0).to3.to2
  · rw [sh_brk (by omega)]; exact (brack_r4 r0).to3
  · rw [sh_brk (by omega)]; exact brack_r4 r0
theorem CF.of0 {t : Tm} (hl : lvl t = 0) (r0 : R0 (tw false t) (strip t)) (fb : ∃ xs b, tw true t = smTk xs ++ .arr :: tw false b ∧ strip t = fns xs (strip b) ∧ R0 (tw false b) (strip b)) : CF t := by
  refine ⟨r0, ?_, ?_, ?_, ?_, fb⟩
  · rw [sh_brk (by omega)]; exact (brack_r4 r0).to3.to2.to1
  · rw [sh_brk (by omega)]; exact (brack_r4 r0).to3.to2
  · rw [sh_brk (by omega)]; exact (brack_r4 r0).to3
  · rw [sh_brk (by omega)]; exact brack_r4 r0
theorem CF.of0' {t : Tm} (hl : lvl t = 0) (r0 : R0 (tw false t) (strip t)) (hn : ∀ x b, t ≠ .fn x b) : CF t := .of0 hl r0 ⟨[], t, nofn hn, rfl, r0⟩
/-- the head of what is written at a level of at least 1 -/
theorem hd_shB {n : Nat} {t : Tm} (hn : 1 ≤ n) (h : 1 ≤ lvl t → Hd (tw false t) ∧ tw false t ≠ []) : Hd (sh n t) ∧ sh n t ≠ [] := by
  by_cases hl : lvl t < n
  · rw [sh_brk hl]
    exact ⟨hd_cons (by refine ⟨?_, ?_, ?_⟩ <;> intro e <;> cases e), fun e => by cases e⟩
  · rw [sh_bare (by omega)]
    exact h (by omega)
theorem hd_tw : ∀ t : Tm, 1 ≤ lvl t → Hd (tw false t) ∧ tw false t ≠ []
  | .num k, _ => by rw [tw]; exact ⟨hd_cons (by refine ⟨?_, ?_, ?_⟩ <;> intro e <;> cases e), fun e => by cases e⟩
  | .name k, _ => by rw [tw]; exact ⟨hd_cons (by refine ⟨?_, ?_, ?_⟩ <;> intro e <;> cases e), fun e => by cases e⟩
  | .make k, _ => by rw [tw]; exact ⟨hd_cons (by refine ⟨?_, ?_, ?_⟩ <;> intro e <;> cases e), fun e => by cases e⟩
  | .par k, _ => by rw [tw]; exact ⟨hd_cons (by refine ⟨?_, ?_, ?_⟩ <;> intro e <;> cases e), fun e => by cases e⟩
  | .app a b, _ => by
    rw [tw]
    have := hd_shB (n := 3) (by omega) (hd_tw a)
    show Hd (sh 3 a ++ sh 4 b) ∧ sh 3 a ++ sh 4 b ≠ []
    exact ⟨hd_app this.1 this.2, fun e => this.2 (List.append_eq_nil_iff.mp e).1⟩
  | .op o a b, _ => by
    rw [tw]
    have := hd_shB (n := max (ow o) 1) (by omega) (hd_tw a)
    show Hd (sh (max (ow o) 1) a ++ .op o :: sh (ow o + 1) b) ∧ sh (max (ow o) 1) a ++ .op o :: sh (ow o + 1) b ≠ []
    exact ⟨hd_app this.1 this.2, fun e => this.2 (List.append_eq_nil_iff.mp e).1⟩
  | .fn _ _, h => absurd h (by show ¬ 1 ≤ 0; omega)
  | .lt _ _, h => absurd h (by show ¬ 1 ≤ 0; omega)
  | .cs _ _, h => absurd h (by show ¬ 1 ≤ 0; omega)
/-- the head of a term's words: it is no semi, brace or the like; and an argument begins a thing -/
theorem begins_app {u : List Tok} (r : List Tok) (h : begins u = true) : begins (u ++ r) = true := by
  cases u with
  | nil => cases h
  | cons x u => exact h
theorem begins_lp (u : List Tok) : begins (.lp :: u) = true := rfl
theorem begins4 : ∀ t : Tm, begins (sh 4 t) = true
  | .num _ | .name _ | .make _ | .par _ => by rw [sh_bare (by show 4 ≤ 4; omega), tw]; rfl
  | .app _ _ => by rw [sh_brk (by show 3 < 4; omega)]; rfl
  | .fn _ _ | .lt _ _ | .cs _ _ => by rw [sh_brk (by show 0 < 4; omega)]; rfl
  | .op o _ _ => by rw [sh_brk (by show ow o < 4; cases o <;> decide)]; rfl
/-- apps -/
theorem app_r3 {a b : Tm} (ca : CF a) (cb : CF b) : R3 (tw false (.app a b)) (strip (.app a b)) := fun r x k => by
  rw [tw]
  show Ev (fun n => pCall n ((sh 3 a ++ sh 4 b) ++ r)) x
  rw [List.append_assoc]
  refine ca.r3 _ _ ?_
  obtain ⟨n0, h0⟩ := cb.r4 r
  obtain ⟨n1, h1⟩ := k
  refine ⟨max n0 n1, fun n hn => ?_⟩
  have h0' : pThing n (sh 4 b ++ r) = .ok (strip b) r := h0 n (by omega)
  show callL (pThing n) (strip a) (sh 4 b ++ r) = x
  rw [callL, if_pos (begins_app r (begins4 b)), h0']
  show (if h : r.length < (sh 4 b ++ r).length then callL (pThing n) (.app (strip a) (strip b)) r else .out) = x
  have hl : r.length < (sh 4 b ++ r).length := by
    have : sh 4 b ≠ [] := fun e => by have := begins4 b; rw [e] at this; cases this
    have := List.length_pos_iff.mpr this
    rw [List.length_append]
    omega
  rw [dif_pos hl]
  exact h1 n (by omega)
theorem fol_op2 {o : Op} (h : o ≠ .times) (r : List Tok) : Fol2 (.op o :: r) := ⟨rfl, fun e => by injection e with e; exact h e⟩
/-- one step of a chain -/
theorem chain_step {f : Op → Bool} {p : List Tok → Res Tm} {o : Op} {a b : Tm} {u r : List Tok} (hf : f o = true) (hp : p (u ++ r) = .ok b r) : chain f p a (.op o :: (u ++ r)) = chain f p (.op o a b) r := by
  rw [chain]
  show (if f o = true then (p (u ++ r)).bind fun b q => if h : q.length < (Tok.op o :: (u ++ r)).length then chain f p (.op o a b) q else .out else _) = _
  rw [if_pos hf, hp]
  show (if h : r.length < (Tok.op o :: (u ++ r)).length then chain f p (.op o a b) r else .out) = _
  rw [dif_pos (by rw [List.length_cons, List.length_append]; omega)]
theorem sum_r1 {o : Op} (ho : isSum o = true) {a b : Tm} (ca : CF a) (cb : CF b) : R1 (tw false (.op o a b)) (strip (.op o a b)) := fun r x hr k => by
  have e1 : max (ow o) 1 = 1 := by cases o <;> first | rfl | cases ho
  have e2 : ow o + 1 = 2 := by cases o <;> first | rfl | cases ho
  have e3 : o ≠ .times := fun e => by rw [e] at ho; cases ho
  rw [tw, e1, e2]
  show Ev (fun n => pSum n ((sh 1 a ++ .op o :: sh 2 b) ++ r)) x
  rw [List.append_assoc]
  refine ca.r1 _ _ (fol_op2 e3 _) ?_
  obtain ⟨n0, h0⟩ := cb.r2.c hr
  obtain ⟨n1, h1⟩ := k
  refine ⟨max n0 n1, fun n hn => ?_⟩
  show chain isSum (pProd n) (strip a) (.op o :: (sh 2 b ++ r)) = x
  rw [chain_step ho (h0 n (by omega))]
  exact h1 n (by omega)
theorem prod_r2 {a b : Tm} (ca : CF a) (cb : CF b) : R2 (tw false (.op .times a b)) (strip (.op .times a b)) := fun r x hr k => by
  rw [tw]
  show Ev (fun n => pProd n ((sh 2 a ++ .op .times :: sh 3 b) ++ r)) x
  rw [List.append_assoc]
  refine ca.r2 _ _ rfl ?_
  obtain ⟨n0, h0⟩ := cb.r3.c hr
  obtain ⟨n1, h1⟩ := k
  refine ⟨max n0 n1, fun n hn => ?_⟩
  show chain isProd (pCall n) (strip a) (.op .times :: (sh 3 b ++ r)) = x
  rw [chain_step rfl (h0 n (by omega))]
  exact h1 n (by omega)
theorem cmp_r0 {o : Op} (ho : o = .less ∨ o = .same) {a b : Tm} (ca : CF a) (cb : CF b) : R0 (tw false (.op o a b)) (strip (.op o a b)) := by
  have e1 : max (ow o) 1 = 1 := by rcases ho with rfl | rfl <;> rfl
  have e2 : ow o + 1 = 1 := by rcases ho with rfl | rfl <;> rfl
  have eq : tw false (.op o a b) = sh 1 a ++ .op o :: sh 1 b := by rw [tw, e1, e2]; rfl
  have hda := hd_shB (n := 1) (by omega) (hd_tw a)
  rw [eq]
  refine cmp_to0 (hd_app hda.1 hda.2) fun r hr => ?_
  refine Ev.succ ?_
  have f1 : Fol1 (.op o :: (sh 1 b ++ r)) := ⟨rfl, fun p e => by
    injection e with e
    subst e
    rcases ho with rfl | rfl <;> rfl⟩
  have k1 := ca.r1.c f1
  have k2 := cb.r1.c hr.one
  show Ev (fun n => (pSum n ((sh 1 a ++ .op o :: sh 1 b) ++ r)).bind fun a q => match now q with
    | .op .less => (pSum n q.tail).bind fun b q1 => .ok (.op .less a b) q1
    | .op .same => (pSum n q.tail).bind fun b q1 => .ok (.op .same a b) q1
    | _ => .ok a q) _
  rw [List.append_assoc]
  refine Ev.bind k1 ?_
  rcases ho with rfl | rfl
  · exact Ev.bind (f := fun n b q1 => Res.ok (Tm.op .less (strip a) b) q1) k2 (Ev.now fun n => rfl)
  · exact Ev.bind (f := fun n b q1 => Res.ok (Tm.op .same (strip a) b) q1) k2 (Ev.now fun n => rfl)
theorem smalls_app : ∀ (xs : List L) (r : List Tok), (∀ x, now r ≠ .small x) → smalls (smTk xs ++ r) = (xs, r)
  | [], r, h => by
    cases r with
    | nil => rfl
    | cons y r => cases y <;> first | rfl | exact absurd rfl (h _)
  | x :: xs, r, h => by
    show (x :: (smalls (smTk xs ++ r)).1, (smalls (smTk xs ++ r)).2) = _
    rw [smalls_app xs r h]
theorem smallsU_app : ∀ (xs seen : List L) (r : List Tok), (∀ x, now r ≠ .small x) → (seen ++ xs).Nodup → smallsU seen (smTk xs ++ r) = .ok (seen ++ xs) r
  | [], seen, r, h, hn => by
    rw [List.append_nil]
    cases r with
    | nil => rfl
    | cons y r => cases y <;> first | rfl | exact absurd rfl (h _)
  | x :: xs, seen, r, h, hn => by
    show smallsU seen (.small x :: (smTk xs ++ r)) = _
    have hx : x ∉ seen := fun m => (List.nodup_append.mp hn).2.2 x m x (List.mem_cons_self ..) rfl
    rw [smallsU, if_neg hx, smallsU_app xs (seen ++ [x]) r h (by rw [List.append_assoc]; exact hn), List.append_assoc] <;> rfl
theorem pFn_succ (n : Nat) (s : List Tok) : pFn (n + 1) s = (eat .bs s).bind fun _ r => (eatS r).bind fun x r1 => (eat .arr (smalls r1).2).bind fun _ r2 => (pT n r2).bind fun b q => .ok (fns (x :: (smalls r1).1) b) q := rfl
theorem pLt_succ (n : Nat) (s : List Tok) : pLt (n + 1) s = (eat (.kw .klet) s).bind fun _ r => (eat .lb r).bind fun _ r1 => (ltLoop (pT n) [] r1).bind fun ps q => (eat .rb q).bind fun _ q1 => (eat (.kw .kin) q1).bind fun _ q2 =>
    (pT n q2).bind fun b q3 => .ok (.lt ps b) q3 := rfl
theorem pCs_succ (n : Nat) (s : List Tok) : pCs (n + 1) s = (eat (.kw .kcase) s).bind fun _ r => (pT n r).bind fun e q => (eat (.kw .kof) q).bind fun _ q1 => (eat .lb q1).bind fun _ q2 => (pWay n q2).bind fun w q3 =>
    (csLoop .semi (pWay n) [w] q3).bind fun ws q4 => (eat .rb q4).bind fun _ q5 => .ok (.cs e ws) q5 := rfl
theorem pWay_succ (n : Nat) (s : List Tok) : pWay (n + 1) s = (eatG s).bind fun c r => (smallsU [] r).bind fun xs r1 => (eat .arr r1).bind fun _ r2 => (pT n r2).bind fun t q => .ok (c, xs, t) q := rfl
theorem ok_bind {α β : Type} (a : α) (r : List Tok) (f : α → List Tok → Res β) : (Res.ok a r).bind f = f a r := rfl
theorem eatS_cons (x : L) (r : List Tok) : eatS (.small x :: r) = .ok x r := rfl
theorem eatG_cons (x : L) (r : List Tok) : eatG (.great x :: r) = .ok x r := rfl
theorem fn_cf {x : L} {b : Tm} (cb : CF b) : CF (.fn x b) := by
  obtain ⟨xs, c, e1, e2, h⟩ := cb.fb
  have t1 : tw false (.fn x b) = .bs :: .small x :: (smTk xs ++ .arr :: tw false c) := by rw [tw, e1] <;> rfl
  have t2 : tw true (.fn x b) = .small x :: (smTk xs ++ .arr :: tw false c) := by rw [tw, e1] <;> rfl
  refine .of0 rfl ?_ ⟨x :: xs, c, t2, by show Tm.fn x (strip b) = _; rw [e2] <;> rfl, h⟩
  intro r hr
  rw [t1]
  refine Ev.succ ?_
  refine Ev.eq (q := fun n => pFn n (.bs :: .small x :: (smTk xs ++ .arr :: tw false c) ++ r)) ?_ (fun n => rfl)
  refine Ev.succ ?_
  have e3 : smalls (smTk xs ++ .arr :: tw false c ++ r) = (xs, .arr :: tw false c ++ r) := by
    rw [List.append_assoc]
    exact smalls_app xs _ (fun x e => by cases e)
  refine Ev.eq (q := fun n => (pT n (tw false c ++ r)).bind fun b q => .ok (fns (x :: xs) b) q) (Ev.bind (h r hr) (Ev.now fun n => ?_)) (fun n => ?_)
  · show Res.ok (fns (x :: xs) (strip c)) r = .ok (.fn x (strip b)) r
    rw [e2] <;> rfl
  · rw [pFn_succ, List.cons_append, List.cons_append, eat_cons, ok_bind, eatS_cons, ok_bind, e3]
    show (eat .arr (.arr :: (tw false c ++ r))).bind _ = _
    rw [eat_cons] <;> rfl
theorem fol_semi (r : List Tok) : Fol (.semi :: r) := ⟨rfl, fun o e => by cases e⟩
theorem fol_rb (r : List Tok) : Fol (.rb :: r) := ⟨rfl, fun o e => by cases e⟩
theorem fol_of (r : List Tok) : Fol (.kw .kof :: r) := ⟨rfl, fun o e => by cases e⟩
/-- the parts of a let -/
def RPs (ps : List (L × Tm)) : Prop := ps ≠ [] → ∀ (acc : List (L × Tm)) (r : List Tok), ((acc.map Prod.fst) ++ ps.map Prod.fst).Nodup → Ev (fun n => ltLoop (pT n) acc (twPs ps ++ .rb :: r)) (.ok (acc ++ stripPs ps) (.rb :: r))
theorem rps_cons {x : L} {t : Tm} {r : List (L × Tm)} (ht : CF t) (hr : RPs r) : RPs ((x, t) :: r) := by
  intro _ acc q hn
  have hx : x ∉ acc.map Prod.fst := fun m => (List.nodup_append.mp hn).2.2 x m x (List.mem_cons_self ..) rfl
  rw [twPs]
  cases r with
  | nil =>
    obtain ⟨n0, h0⟩ := ht.r0 _ (fol_rb q)
    refine ⟨n0, fun n hn => ?_⟩
    show ltLoop (pT n) acc (.small x :: .eq :: (tw false t ++ []) ++ .rb :: q) = _
    rw [List.append_nil, ltLoop]
    show (if x ∈ acc.map Prod.fst then Res.fail else (eat .eq (.eq :: (tw false t ++ .rb :: q))).bind _) = _
    rw [if_neg hx, eat_cons]
    have h0' : pT n (tw false t ++ .rb :: q) = .ok (strip t) (.rb :: q) := h0 n hn
    show (pT n (tw false t ++ .rb :: q)).bind _ = _
    rw [h0']
    rw [ok_bind, if_neg (fun e => by cases e)] <;> rfl
  | cons y r =>
    obtain ⟨n0, h0⟩ := ht.r0 _ (fol_semi (twPs (y :: r) ++ .rb :: q))
    obtain ⟨n1, h1⟩ := hr (fun e => by cases e) (acc ++ [(x, strip t)]) q (by rw [List.map_append, List.append_assoc]; exact hn)
    refine ⟨max n0 n1, fun n hn => ?_⟩
    have e : (.small x :: .eq :: (tw false t ++ .semi :: twPs (y :: r)) ++ .rb :: q : List Tok) = .small x :: .eq :: (tw false t ++ .semi :: (twPs (y :: r) ++ .rb :: q)) := by simp
    show ltLoop (pT n) acc (.small x :: .eq :: (tw false t ++ .semi :: twPs (y :: r)) ++ .rb :: q) = _
    rw [e, ltLoop]
    show (if x ∈ acc.map Prod.fst then Res.fail else (eat .eq (.eq :: (tw false t ++ .semi :: (twPs (y :: r) ++ .rb :: q)))).bind _) = _
    rw [if_neg hx, eat_cons]
    have h0' : pT n (tw false t ++ .semi :: (twPs (y :: r) ++ .rb :: q)) = .ok (strip t) (.semi :: (twPs (y :: r) ++ .rb :: q)) := h0 n (by omega)
    show (pT n (tw false t ++ .semi :: (twPs (y :: r) ++ .rb :: q))).bind _ = _
    rw [h0']
    rw [ok_bind, if_pos (show now (Tok.semi :: (twPs (y :: r) ++ .rb :: q)) = .semi from rfl), dif_pos (by simp; omega)]
    have := h1 n (by omega)
    rw [List.append_assoc] at this
    exact this
theorem lt_cf {ps : List (L × Tm)} {b : Tm} (hne : ps ≠ []) (hn : (ps.map Prod.fst).Nodup) (hp : RPs ps) (cb : CF b) : CF (.lt ps b) := by
  refine .of0' rfl (fun r hr => ?_) (fun _ _ e => by cases e)
  rw [tw]
  have e : (pre false ++ (.kw .klet :: .lb :: (twPs ps ++ .rb :: .kw .kin :: tw false b)) ++ r : List Tok) = .kw .klet :: .lb :: (twPs ps ++ .rb :: (.kw .kin :: (tw false b ++ r))) := by simp [pre]
  rw [e]
  refine Ev.succ ?_
  refine Ev.eq (q := fun n => pLt n (.kw .klet :: .lb :: (twPs ps ++ .rb :: (.kw .kin :: (tw false b ++ r))))) ?_ (fun n => rfl)
  refine Ev.succ ?_
  refine Ev.eq (q := fun n => (ltLoop (pT n) [] (twPs ps ++ .rb :: (.kw .kin :: (tw false b ++ r)))).bind fun ps q => (eat .rb q).bind fun _ q1 => (eat (.kw .kin) q1).bind fun _ q2 =>
    (pT n q2).bind fun b q3 => .ok (.lt ps b) q3) ?_ (fun n => ?_)
  · refine Ev.bind (hp hne [] _ (by simpa using hn)) ?_
    refine Ev.eq (q := fun n => (pT n (tw false b ++ r)).bind fun b q3 => .ok (.lt ([] ++ stripPs ps) b) q3) (Ev.bind (cb.r0 r hr) (Ev.now fun n => rfl)) (fun n => ?_)
    rw [eat_cons, ok_bind, eat_cons] <;> rfl
  · rw [pLt_succ, eat_cons, ok_bind, eat_cons] <;> rfl
theorem way_ev {c : L} {xs : List L} {t : Tm} (hx : xs.Nodup) (ct : CF t) {r : List Tok} (hr : Fol r) : Ev (fun n => pWay n (.great c :: (smTk xs ++ .arr :: (tw false t ++ r)))) (.ok (c, xs, strip t) r) := by
  refine Ev.succ ?_
  refine Ev.eq (q := fun n => (pT n (tw false t ++ r)).bind fun t q => .ok (c, xs, t) q) (Ev.bind (ct.r0 r hr) (Ev.now fun n => rfl)) (fun n => ?_)
  rw [pWay_succ, eatG_cons, ok_bind, smallsU_app xs [] _ (fun x e => by cases e) (by simpa using hx), ok_bind, eat_cons] <;> rfl
/-- further ways of a case -/
def RWs (ws : List (L × List L × Tm)) : Prop := ws ≠ [] → ∀ (acc : List (L × List L × Tm)) (r : List Tok), Ev (fun n => csLoop .semi (pWay n) acc (.semi :: (twWs ws ++ .rb :: r))) (.ok (acc ++ stripWs ws) (.rb :: r))
theorem csLoop_step {α : Type} {p : List Tok → Res α} {acc : List α} {s q : List Tok} {w : α} (h : p s = .ok w q) (hl : q.length < s.length + 1) : csLoop .semi p acc (.semi :: s) = csLoop .semi p (acc ++ [w]) q := by
  rw [csLoop, if_pos (show now (Tok.semi :: s) = .semi from rfl)]
  show (p s).bind _ = _
  rw [h]
  rw [ok_bind, dif_pos (show q.length < (Tok.semi :: s).length from hl)]
theorem csLoop_stop {α : Type} {p : List Tok → Res α} {acc : List α} {r : List Tok} (h : now r ≠ .semi) : csLoop .semi p acc r = .ok acc r := by
  rw [csLoop, if_neg h]
theorem rws_cons {c : L} {xs : List L} {t : Tm} {r : List (L × List L × Tm)} (hx : xs.Nodup) (ct : CF t) (hr : RWs r) : RWs ((c, xs, t) :: r) := by
  intro _ acc q
  rw [twWs]
  cases r with
  | nil =>
    obtain ⟨n0, h0⟩ := way_ev (c := c) hx ct (fol_rb q)
    refine ⟨n0, fun n hn => ?_⟩
    have e : (.great c :: (smTk xs ++ .arr :: (tw false t ++ (if (([] : List (L × List L × Tm)).isEmpty = true) then [] else .semi :: twWs []))) ++ .rb :: q : List Tok) = .great c :: (smTk xs ++ .arr :: (tw false t ++ .rb :: q)) := by simp
    dsimp only
    rw [e, csLoop_step (h0 n hn) (by simp; omega), csLoop_stop (fun e => by cases e)] <;> rfl
  | cons y r =>
    obtain ⟨n0, h0⟩ := way_ev (c := c) hx ct (fol_semi (twWs (y :: r) ++ .rb :: q))
    obtain ⟨n1, h1⟩ := hr (fun e => by cases e) (acc ++ [(c, xs, strip t)]) q
    refine ⟨max n0 n1, fun n hn => ?_⟩
    have e : (.great c :: (smTk xs ++ .arr :: (tw false t ++ (if ((y :: r).isEmpty = true) then [] else .semi :: twWs (y :: r)))) ++ .rb :: q : List Tok) = .great c :: (smTk xs ++ .arr :: (tw false t ++ .semi :: (twWs (y :: r) ++ .rb :: q))) := by simp
    have h1' := h1 n (by omega)
    dsimp only at h1' ⊢
    rw [e, csLoop_step (h0 n (by omega)) (by simp; omega), h1', List.append_assoc] <;> rfl
theorem cs_cf {e : Tm} {ws : List (L × List L × Tm)} (ce : CF e) (hne : ws ≠ []) (hw : ∀ r, Ev (fun n => (pWay n (twWs ws ++ .rb :: r)).bind fun w q => csLoop .semi (pWay n) [w] q) (.ok (stripWs ws) (.rb :: r))) : CF (.cs e ws) := by
  refine .of0' rfl (fun r hr => ?_) (fun _ _ e => by cases e)
  rw [tw]
  have eq : (pre false ++ (.kw .kcase :: (tw false e ++ .kw .kof :: .lb :: (twWs ws ++ [.rb]))) ++ r : List Tok) = .kw .kcase :: (tw false e ++ .kw .kof :: .lb :: (twWs ws ++ .rb :: r)) := by simp [pre]
  rw [eq]
  refine Ev.succ ?_
  refine Ev.eq (q := fun n => pCs n (.kw .kcase :: (tw false e ++ .kw .kof :: .lb :: (twWs ws ++ .rb :: r)))) ?_ (fun n => rfl)
  refine Ev.succ ?_
  refine Ev.eq (q := fun n => (pT n (tw false e ++ .kw .kof :: .lb :: (twWs ws ++ .rb :: r))).bind fun e q => (eat (.kw .kof) q).bind fun _ q1 => (eat .lb q1).bind fun _ q2 => (pWay n q2).bind fun w q3 =>
    (csLoop .semi (pWay n) [w] q3).bind fun ws q4 => (eat .rb q4).bind fun _ q5 => .ok (.cs e ws) q5) ?_ (fun n => ?_)
  · refine Ev.bind (ce.r0 _ (fol_of _)) ?_
    obtain ⟨n0, h0⟩ := hw r
    refine ⟨n0, fun n hn => ?_⟩
    dsimp only
    rw [eat_cons, ok_bind, eat_cons, ok_bind]
    have h := h0 n hn
    obtain ⟨w, q3, a1, a2⟩ := bind_ok h
    rw [a1]
    rw [ok_bind, a2, ok_bind, eat_cons] <;> rfl
  · rw [pCs_succ, eat_cons] <;> rfl
theorem ways_all {c : L} {xs : List L} {t : Tm} {r : List (L × List L × Tm)} (hx : xs.Nodup) (ct : CF t) (hr : RWs r) (q : List Tok) :
    Ev (fun n => (pWay n (twWs ((c, xs, t) :: r) ++ .rb :: q)).bind fun w q => csLoop .semi (pWay n) [w] q) (.ok (stripWs ((c, xs, t) :: r)) (.rb :: q)) := by
  rw [twWs]
  cases r with
  | nil =>
    have e : (.great c :: (smTk xs ++ .arr :: (tw false t ++ (if (([] : List (L × List L × Tm)).isEmpty = true) then [] else .semi :: twWs []))) ++ .rb :: q : List Tok) = .great c :: (smTk xs ++ .arr :: (tw false t ++ .rb :: q)) := by simp
    rw [e]
    exact Ev.bind (f := fun n w q => csLoop .semi (pWay n) [w] q) (way_ev (c := c) hx ct (fol_rb q)) (Ev.now fun n => csLoop_stop (fun e => by cases e))
  | cons y r =>
    have e : (.great c :: (smTk xs ++ .arr :: (tw false t ++ (if ((y :: r).isEmpty = true) then [] else .semi :: twWs (y :: r)))) ++ .rb :: q : List Tok) = .great c :: (smTk xs ++ .arr :: (tw false t ++ .semi :: (twWs (y :: r) ++ .rb :: q))) := by simp
    rw [e]
    exact Ev.bind (f := fun n w q => csLoop .semi (pWay n) [w] q) (way_ev (c := c) hx ct (fol_semi _)) (hr (fun e => by cases e) [(c, xs, strip t)] q)
mutual
theorem cf : ∀ t : Tm, wf t → CF t
  | .num n, _ => .of4 rfl (hd_tw _ (by show 1 ≤ 4; omega)).1 (fun r => Ev.succ (Ev.now fun n => by rw [tw]; rfl)) (fun _ _ e => by cases e)
  | .name n, _ => .of4 rfl (hd_tw _ (by show 1 ≤ 4; omega)).1 (fun r => Ev.succ (Ev.now fun n => by rw [tw]; rfl)) (fun _ _ e => by cases e)
  | .make n, _ => .of4 rfl (hd_tw _ (by show 1 ≤ 4; omega)).1 (fun r => Ev.succ (Ev.now fun n => by rw [tw]; rfl)) (fun _ _ e => by cases e)
  | .par t, h => .of4 rfl (hd_tw _ (by show 1 ≤ 4; omega)).1 (by rw [tw]; exact brack_r4 (cf t h).r0) (fun _ _ e => by cases e)
  | .app a b, h => .of3 rfl (hd_tw _ (by show 1 ≤ 3; omega)).1 (app_r3 (cf a h.1) (cf b h.2)) (fun _ _ e => by cases e)
  | .op .plus a b, h => .of1 rfl (hd_tw _ (by show 1 ≤ 1; omega)).1 (sum_r1 rfl (cf a h.1) (cf b h.2)) (fun _ _ e => by cases e)
  | .op .minus a b, h => .of1 rfl (hd_tw _ (by show 1 ≤ 1; omega)).1 (sum_r1 rfl (cf a h.1) (cf b h.2)) (fun _ _ e => by cases e)
  | .op .times a b, h => .of2 rfl (hd_tw _ (by show 1 ≤ 2; omega)).1 (prod_r2 (cf a h.1) (cf b h.2)) (fun _ _ e => by cases e)
  | .op .less a b, h => .of0' rfl (cmp_r0 (.inl rfl) (cf a h.1) (cf b h.2)) (fun _ _ e => by cases e)
  | .op .same a b, h => .of0' rfl (cmp_r0 (.inr rfl) (cf a h.1) (cf b h.2)) (fun _ _ e => by cases e)
  | .fn x b, h => fn_cf (cf b h)
  | .lt ps b, h => lt_cf h.1.1 h.1.2.1 (cfPs ps h.1.2.2) (cf b h.2)
  | .cs e [], h => absurd rfl h.2.1
  | .cs e ((c, xs, t) :: r), h => cs_cf (cf e h.1) h.2.1 (ways_all h.2.2.1.1 (cf t h.2.2.1.2) (cfWs r h.2.2.2))
theorem cfPs : ∀ ps : List (L × Tm), wfPs ps → RPs ps
  | [], _ => fun h => absurd rfl h
  | (x, t) :: r, h => rps_cons (cf t h.1) (cfPs r h.2)
theorem cfWs : ∀ ws : List (L × List L × Tm), wfWs ws → RWs ws
  | [], _ => fun h => absurd rfl h
  | (c, xs, t) :: r, h => rws_cons h.1.1 (cf t h.1.2) (cfWs r h.2)
end
end K72
/-! K72F: one pair of brackets twice, or left out. -/
namespace K72
theorem pre_split {f : Bool} {Y A R : List Tok} (e : pre f ++ Y = A ++ .lp :: R) : ∃ A1, A = pre f ++ A1 ∧ Y = A1 ++ .lp :: R := by
  cases f with
  | false => exact ⟨A, rfl, e⟩
  | true =>
    cases A with
    | nil =>
      have e' : Tok.arr :: Y = .lp :: R := e
      injection e' with e1 e2
      cases e1
    | cons y A =>
      have e' : Tok.arr :: Y = y :: (A ++ .lp :: R) := e
      injection e' with e1 e2
      exact ⟨A, by rw [← e1]; rfl, e2⟩
/-- t written with that pair twice is t' written; without it it is not high -/
structure Dw (f : Bool) (t : Tm) (A B C : List Tok) (t' : Tm) : Prop where
  w : tw f t' = A ++ .lp :: .lp :: (B ++ .rp :: .rp :: C)
  s : strip t' = strip t
  wf : wf t'
  l : lvl t' = lvl t
  d : dp t' ≤ dp t + 2
  h : High (A ++ (B ++ C)) (12 * dp t + fl f) (Hb (dp t) + 6 * dp t + fl f)
structure Ds (n : Nat) (t : Tm) (A B C : List Tok) (t' : Tm) : Prop where
  w : sh n t' = A ++ .lp :: .lp :: (B ++ .rp :: .rp :: C)
  s : strip t' = strip t
  wf : K72.wf t'
  d : dp t' ≤ dp t + 2
  h : High (A ++ (B ++ C)) (12 * dp t) (Hb (dp t) + 6 * dp t + 6)
theorem ds_of {n : Nat} {t : Tm} {A B C : List Tok} (hn : n ≤ 4) (hw : wf t) (e : sh n t = A ++ .lp :: (B ++ .rp :: C)) (hb : Bal B)
    (k : ∀ A B C, tw false t = A ++ .lp :: (B ++ .rp :: C) → Bal B → ∃ t', Dw false t A B C t') : ∃ t', Ds n t A B C t' := by
  by_cases hl : lvl t < n
  · rw [sh_brk hl] at e
    rcases split_brack e (bal_tw false t) hb with ⟨rfl, rfl, rfl⟩ | ⟨A1, C1, rfl, rfl, e1⟩
    · refine ⟨.par (.par t), ?_, rfl, hw, ?_, ?_⟩
      · rw [sh_bare (show n ≤ 4 from hn), tw, tw]
        simp [pre]
      · show dp t + 1 + 1 ≤ dp t + 2
        omega
      · have g := high_tw false t
        have j := jn_le t
        rw [List.append_nil]
        refine g.le ?_ ?_
        · show jn t + 0 ≤ 12 * dp t
          omega
        · show Hb (dp t) + 0 ≤ _
          omega
    · obtain ⟨t', g⟩ := k A1 B C1 e1 hb
      refine ⟨t', ?_, g.s, g.wf, g.d, ?_⟩
      · rw [sh_brk (by rw [g.l]; exact hl), g.w]
        simp
      · have h1 := g.h.brack
        have eq : (.lp :: A1 ++ (B ++ (C1 ++ [.rp])) : List Tok) = .lp :: ((A1 ++ (B ++ C1)) ++ [.rp]) := by simp
        rw [eq]
        refine h1.le (Nat.zero_le _) ?_
        show 6 + (Hb (dp t) + 6 * dp t + 0) ≤ _
        omega
  · rw [sh_bare (by omega)] at e
    obtain ⟨t', g⟩ := k A B C e hb
    exact ⟨t', by rw [sh_bare (by rw [g.l]; omega), g.w], g.s, g.wf, g.d, g.h.le (by show 12 * dp t + 0 ≤ _; omega) (by show Hb (dp t) + 6 * dp t + 0 ≤ _; omega)⟩
theorem high_sh (n : Nat) (hn : 1 ≤ n) (t : Tm) : High (sh n t) 0 (6 + Hb (dp t)) := high_shB hn (fun h => by rw [jn_pos h] <;> rfl) (high_tw false t)
mutual
/-- no brackets that mean nothing -/
def pu : Tm → Prop
  | .num _ | .name _ | .make _ => True
  | .app a b => pu a ∧ pu b
  | .op _ a b => pu a ∧ pu b
  | .fn _ b => pu b
  | .lt ps b => puPs ps ∧ pu b
  | .cs e ws => pu e ∧ puWs ws
  | .par _ => False
def puPs : List (L × Tm) → Prop
  | [] => True
  | (_, t) :: r => pu t ∧ puPs r
def puWs : List (L × List L × Tm) → Prop
  | [] => True
  | (_, _, t) :: r => pu t ∧ puWs r
end
mutual
theorem strip_pu : ∀ t : Tm, pu t → strip t = t
  | .num _, _ | .name _, _ | .make _, _ => rfl
  | .app a b, h => by rw [strip, strip_pu a h.1, strip_pu b h.2]
  | .op _ a b, h => by rw [strip, strip_pu a h.1, strip_pu b h.2]
  | .fn _ b, h => by rw [strip, strip_pu b h]
  | .lt ps b, h => by rw [strip, strip_puPs ps h.1, strip_pu b h.2]
  | .cs e ws, h => by rw [strip, strip_pu e h.1, strip_puWs ws h.2]
theorem strip_puPs : ∀ ps, puPs ps → stripPs ps = ps
  | [], _ => rfl
  | (_, t) :: r, h => by rw [stripPs, strip_pu t h.1, strip_puPs r h.2]
theorem strip_puWs : ∀ ws, puWs ws → stripWs ws = ws
  | [], _ => rfl
  | (_, _, t) :: r, h => by rw [stripWs, strip_pu t h.1, strip_puWs r h.2]
end
theorem no_lp {A B C : List Tok} (e : ([] : List Tok) = A ++ .lp :: (B ++ .rp :: C)) : False := by
  cases A <;> cases e
theorem no_lp1 {x : Tok} (hx : x ≠ .lp) {A B C : List Tok} (e : [x] = A ++ .lp :: (B ++ .rp :: C)) : False := by
  obtain ⟨A1, _, e1⟩ := split_cons e hx
  exact no_lp e1
structure Dps (ps : List (L × Tm)) (A B C : List Tok) (ps' : List (L × Tm)) : Prop where
  w : twPs ps' = A ++ .lp :: .lp :: (B ++ .rp :: .rp :: C)
  s : stripPs ps' = stripPs ps
  wf : wfPs ps'
  n : ps'.map Prod.fst = ps.map Prod.fst
  d : dpPs ps' ≤ dpPs ps + 2
  h : HighS (A ++ (B ++ C)) (Hb (dpPs ps) + 6 * dpPs ps)
structure Dws (ws : List (L × List L × Tm)) (A B C : List Tok) (ws' : List (L × List L × Tm)) : Prop where
  w : twWs ws' = A ++ .lp :: .lp :: (B ++ .rp :: .rp :: C)
  s : stripWs ws' = stripWs ws
  wf : wfWs ws'
  n : ws'.length = ws.length
  d : dpWs ws' ≤ dpWs ws + 2
  h : HighS (A ++ (B ++ C)) (3 + (Hb (dpWs ws) + 6 * dpWs ws))
theorem emp_of {α : Type} {a b : List α} (h : a.length = b.length) : a.isEmpty = b.isEmpty := by
  cases a <;> cases b <;> first | rfl | cases h
theorem bin_dw {f : Bool} {a b : Tm} {n m : Nat} {mid : List Tok} {g : Tm → Tm → Tm} {A B C : List Tok} (hn : 1 ≤ n ∧ n ≤ 4) (hm : 1 ≤ m ∧ m ≤ 4)
    (hmid : ∀ {A B C}, mid ++ sh m b = A ++ .lp :: (B ++ .rp :: C) → ∃ A1, A = mid ++ A1 ∧ sh m b = A1 ++ .lp :: (B ++ .rp :: C)) (hmh : High mid 0 0)
    (hg : ∀ a b, tw f (g a b) = pre f ++ (sh n a ++ (mid ++ sh m b))) (hs : ∀ a b, strip (g a b) = g (strip a) (strip b)) (hw : ∀ a b, wf (g a b) ↔ wf a ∧ wf b) (hl : ∀ a b a' b', lvl (g a b) = lvl (g a' b')) (hd : ∀ a b, dp (g a b) = max (dp a) (dp b) + 1)
    (e : tw f (g a b) = A ++ .lp :: (B ++ .rp :: C)) (hb : Bal B) (wa : wf a) (wb : wf b)
    (ka : ∀ A B C, tw false a = A ++ .lp :: (B ++ .rp :: C) → Bal B → ∃ t', Dw false a A B C t') (kb : ∀ A B C, tw false b = A ++ .lp :: (B ++ .rp :: C) → Bal B → ∃ t', Dw false b A B C t') : ∃ t', Dw f (g a b) A B C t' := by
  rw [hg] at e
  obtain ⟨A1, rfl, e1⟩ := pre_split e
  have m1 := Hb_mono (Nat.le_max_left (dp a) (dp b))
  have m2 := Hb_mono (Nat.le_max_right (dp a) (dp b))
  have l1 := Nat.le_max_left (dp a) (dp b)
  have l2 := Nat.le_max_right (dp a) (dp b)
  rcases split2 _ _ _ _ _ 0 e1 (bal_shB (bal_tw false a)) hb with ⟨C1, e2, rfl⟩ | ⟨A2, rfl, e2⟩
  · obtain ⟨a', ga⟩ := ds_of hn.2 wa e2 hb ka
    refine ⟨g a' b, ?_, ?_, (hw _ _).mpr ⟨ga.wf, wb⟩, hl _ _ _ _, ?_, ?_⟩
    · rw [hg, ga.w]
      simp
    · rw [hs, hs, ga.s]
    · rw [hd, hd]
      have := ga.d
      omega
    · have h1 := high_pre f (ga.h.cat (hmh.cat (high_sh m hm.1 b)))
      have eq : (pre f ++ A1 ++ (B ++ (C1 ++ (mid ++ sh m b))) : List Tok) = pre f ++ ((A1 ++ (B ++ C1)) ++ (mid ++ sh m b)) := by simp
      rw [eq, hd]
      refine h1.le (by omega) ?_
      show max (Hb (dp a) + 6 * dp a + 6) (12 * dp a + max 0 (0 + (6 + Hb (dp b)))) + fl f ≤ Hb (max (dp a) (dp b)) + 6 * (max (dp a) (dp b) + 1) + 6 * (max (dp a) (dp b) + 1) + fl f
      omega
  · obtain ⟨A3, rfl, e3⟩ := hmid e2
    obtain ⟨b', gb⟩ := ds_of hm.2 wb e3 hb kb
    refine ⟨g a b', ?_, ?_, (hw _ _).mpr ⟨wa, gb.wf⟩, hl _ _ _ _, ?_, ?_⟩
    · rw [hg, gb.w]
      simp
    · rw [hs, hs, gb.s]
    · rw [hd, hd]
      have := gb.d
      omega
    · have h1 := high_pre f ((high_sh n hn.1 a).cat (hmh.cat gb.h))
      have eq : (pre f ++ (sh n a ++ (mid ++ A3)) ++ (B ++ C) : List Tok) = pre f ++ (sh n a ++ (mid ++ (A3 ++ (B ++ C)))) := by simp
      rw [eq, hd]
      refine h1.le (by omega) ?_
      show max (6 + Hb (dp a)) (0 + max 0 (0 + (Hb (dp b) + 6 * dp b + 6))) + fl f ≤ Hb (max (dp a) (dp b)) + 6 * (max (dp a) (dp b) + 1) + 6 * (max (dp a) (dp b) + 1) + fl f
      omega
theorem fn_split {f : Bool} {x : L} {Y A R : List Tok} (e : (if f then ([] : List Tok) else [.bs]) ++ .small x :: Y = A ++ .lp :: R) : ∃ A1, A = (if f then ([] : List Tok) else [.bs]) ++ .small x :: A1 ∧ Y = A1 ++ .lp :: R := by
  cases f with
  | true =>
    cases A with
    | nil =>
      have e' : Tok.small x :: Y = .lp :: R := e
      injection e' with e1 e2
      cases e1
    | cons y A =>
      have e' : Tok.small x :: Y = y :: (A ++ .lp :: R) := e
      injection e' with e1 e2
      exact ⟨A, by rw [← e1]; rfl, e2⟩
  | false =>
    cases A with
    | nil =>
      have e' : Tok.bs :: .small x :: Y = .lp :: R := e
      injection e' with e1 e2
      cases e1
    | cons y A =>
      have e' : Tok.bs :: .small x :: Y = y :: (A ++ .lp :: R) := e
      injection e' with e1 e2
      cases A with
      | nil =>
        have e3 : Tok.small x :: Y = .lp :: R := e2
        injection e3 with e4 e5
        cases e4
      | cons z A =>
        have e3 : Tok.small x :: Y = z :: (A ++ .lp :: R) := e2
        injection e3 with e4 e5
        exact ⟨A, by rw [← e1, ← e4]; rfl, e5⟩
theorem sm_split : ∀ (xs : List L) {Y A B C : List Tok}, smTk xs ++ Y = A ++ .lp :: (B ++ .rp :: C) → ∃ A1, A = smTk xs ++ A1 ∧ Y = A1 ++ .lp :: (B ++ .rp :: C)
  | [], Y, A, B, C, e => ⟨A, rfl, e⟩
  | x :: xs, Y, A, B, C, e => by
    have e' : Tok.small x :: (smTk xs ++ Y) = A ++ .lp :: (B ++ .rp :: C) := e
    obtain ⟨A1, rfl, e1⟩ := split_cons e' (fun q => by cases q)
    obtain ⟨A2, rfl, e2⟩ := sm_split xs e1
    exact ⟨A2, rfl, e2⟩
theorem fn_dw {f : Bool} {x : L} {b : Tm} {A B C : List Tok} (e : tw f (.fn x b) = A ++ .lp :: (B ++ .rp :: C)) (hb : Bal B)
    (k : ∀ A B C, tw true b = A ++ .lp :: (B ++ .rp :: C) → Bal B → ∃ t', Dw true b A B C t') : ∃ t', Dw f (.fn x b) A B C t' := by
  rw [tw] at e
  obtain ⟨A1, rfl, e1⟩ := fn_split e
  obtain ⟨b', g⟩ := k _ _ _ e1 hb
  refine ⟨.fn x b', ?_, ?_, g.wf, rfl, ?_, ?_⟩
  · rw [tw, g.w]
    simp
  · rw [strip, strip, g.s]
  · show dp b' + 1 ≤ dp b + 1 + 2
    have := g.d
    omega
  · have h1 := High.cons (x := .small x) rfl g.h
    cases f with
    | true =>
      have eq : ((if true = true then ([] : List Tok) else [.bs]) ++ .small x :: A1 ++ (B ++ C) : List Tok) = .small x :: (A1 ++ (B ++ C)) := by simp
      rw [eq]
      refine h1.le ?_ ?_
      · show 12 * dp b + 3 ≤ 12 * (dp b + 1) + 3
        omega
      · show Hb (dp b) + 6 * dp b + 3 ≤ Hb (dp b) + 6 * (dp b + 1) + 6 * (dp b + 1) + 3
        omega
    | false =>
      have h2 := High.up (x := .bs) (fun _ => rfl) h1
      have eq : ((if false = true then ([] : List Tok) else [.bs]) ++ .small x :: A1 ++ (B ++ C) : List Tok) = .bs :: .small x :: (A1 ++ (B ++ C)) := by simp
      rw [eq]
      refine h2.le ?_ ?_
      · show 3 + (12 * dp b + 3) ≤ 12 * (dp b + 1) + 0
        omega
      · show 3 + (Hb (dp b) + 6 * dp b + 3) ≤ Hb (dp b) + 6 * (dp b + 1) + 6 * (dp b + 1) + 0
        omega
theorem lt_dw {f : Bool} {ps : List (L × Tm)} {b : Tm} {A B C : List Tok} (e : tw f (.lt ps b) = A ++ .lp :: (B ++ .rp :: C)) (hb : Bal B) (hw : wf (.lt ps b))
    (kp : ∀ A B C, twPs ps = A ++ .lp :: (B ++ .rp :: C) → Bal B → ∃ ps', Dps ps A B C ps') (kb : ∀ A B C, tw false b = A ++ .lp :: (B ++ .rp :: C) → Bal B → ∃ t', Dw false b A B C t') : ∃ t', Dw f (.lt ps b) A B C t' := by
  rw [tw] at e
  obtain ⟨A1, rfl, e1⟩ := pre_split e
  obtain ⟨A2, rfl, e2⟩ := split_cons e1 (fun q => by cases q)
  obtain ⟨A3, rfl, e3⟩ := split_cons e2 (fun q => by cases q)
  have m1 := Hb_mono (Nat.le_max_left (dpPs ps) (dp b))
  have m2 := Hb_mono (Nat.le_max_right (dpPs ps) (dp b))
  have l1 := Nat.le_max_left (dpPs ps) (dp b)
  have l2 := Nat.le_max_right (dpPs ps) (dp b)
  have gb0 := high_tw false b
  have j0 := jn_le b
  rcases split2 _ _ _ _ _ 0 e3 (bal_twPs ps) hb with ⟨C1, e4, rfl⟩ | ⟨A4, rfl, e4⟩
  · obtain ⟨ps', g⟩ := kp _ _ _ e4 hb
    refine ⟨.lt ps' b, ?_, ?_, ⟨⟨fun q => ?_, by rw [g.n]; exact hw.1.2.1, g.wf⟩, hw.2⟩, rfl, ?_, ?_⟩
    · rw [tw, g.w]
      simp
    · rw [strip, strip, g.s]
    · have := g.n
      rw [q] at this
      cases ps with
      | nil => exact hw.1.1 rfl
      | cons y r => cases this
    · show max (dpPs ps') (dp b) + 1 ≤ max (dpPs ps) (dp b) + 1 + 2
      have := g.d
      omega
    · have h1 := high_pre f (High.up (x := .kw .klet) (fun _ => rfl) (g.h.brace.cat (High.cons (x := .kw .kin) rfl gb0)))
      have eq : (pre f ++ .kw .klet :: .lb :: A3 ++ (B ++ (C1 ++ .rb :: .kw .kin :: tw false b)) : List Tok) = pre f ++ (.kw .klet :: (.lb :: ((A3 ++ (B ++ C1)) ++ [.rb]) ++ .kw .kin :: tw false b)) := by simp
      rw [eq]
      refine h1.le ?_ ?_
      · show 3 + (0 + (jn b + 0)) + fl f ≤ 12 * (max (dpPs ps) (dp b) + 1) + fl f
        omega
      · show 3 + max (Hb (dpPs ps) + 6 * dpPs ps) (0 + (Hb (dp b) + 0)) + fl f ≤ Hb (max (dpPs ps) (dp b)) + 6 * (max (dpPs ps) (dp b) + 1) + 6 * (max (dpPs ps) (dp b) + 1) + fl f
        omega
  · obtain ⟨A5, rfl, e5⟩ := split_cons e4 (fun q => by cases q)
    obtain ⟨A6, rfl, e6⟩ := split_cons e5 (fun q => by cases q)
    obtain ⟨b', g⟩ := kb _ _ _ e6 hb
    refine ⟨.lt ps b', ?_, ?_, ⟨hw.1, g.wf⟩, rfl, ?_, ?_⟩
    · rw [tw, g.w]
      simp
    · rw [strip, strip, g.s]
    · show max (dpPs ps) (dp b') + 1 ≤ max (dpPs ps) (dp b) + 1 + 2
      have := g.d
      omega
    · have h1 := high_pre f (High.up (x := .kw .klet) (fun _ => rfl) ((high_twPs ps).brace.cat (High.cons (x := .kw .kin) rfl g.h)))
      have eq : (pre f ++ .kw .klet :: .lb :: (twPs ps ++ .rb :: .kw .kin :: A6) ++ (B ++ C) : List Tok) = pre f ++ (.kw .klet :: (.lb :: (twPs ps ++ [.rb]) ++ .kw .kin :: (A6 ++ (B ++ C)))) := by simp
      rw [eq]
      refine h1.le ?_ ?_
      · show 3 + (0 + (12 * dp b + 0)) + fl f ≤ 12 * (max (dpPs ps) (dp b) + 1) + fl f
        omega
      · show 3 + max (Hb (dpPs ps)) (0 + (Hb (dp b) + 6 * dp b + 0)) + fl f ≤ Hb (max (dpPs ps) (dp b)) + 6 * (max (dpPs ps) (dp b) + 1) + 6 * (max (dpPs ps) (dp b) + 1) + fl f
        omega
theorem cs_dw {f : Bool} {x : Tm} {ws : List (L × List L × Tm)} {A B C : List Tok} (e : tw f (.cs x ws) = A ++ .lp :: (B ++ .rp :: C)) (hb : Bal B) (hw : wf (.cs x ws))
    (kx : ∀ A B C, tw false x = A ++ .lp :: (B ++ .rp :: C) → Bal B → ∃ t', Dw false x A B C t') (kp : ∀ A B C, twWs ws = A ++ .lp :: (B ++ .rp :: C) → Bal B → ∃ ws', Dws ws A B C ws') : ∃ t', Dw f (.cs x ws) A B C t' := by
  rw [tw] at e
  obtain ⟨A1, rfl, e1⟩ := pre_split e
  obtain ⟨A2, rfl, e2⟩ := split_cons e1 (fun q => by cases q)
  have m1 := Hb_mono (Nat.le_max_left (dp x) (dpWs ws))
  have m2 := Hb_mono (Nat.le_max_right (dp x) (dpWs ws))
  have l1 := Nat.le_max_left (dp x) (dpWs ws)
  have l2 := Nat.le_max_right (dp x) (dpWs ws)
  have gx0 := high_tw false x
  have j0 := jn_le x
  rcases split2 _ _ _ _ _ 0 e2 (bal_tw false x) hb with ⟨C1, e4, rfl⟩ | ⟨A4, rfl, e4⟩
  · obtain ⟨x', g⟩ := kx _ _ _ e4 hb
    refine ⟨.cs x' ws, ?_, ?_, ⟨g.wf, hw.2⟩, rfl, ?_, ?_⟩
    · rw [tw, g.w]
      simp
    · rw [strip, strip, g.s]
    · show max (dp x') (dpWs ws) + 1 ≤ max (dp x) (dpWs ws) + 1 + 2
      have := g.d
      omega
    · have h1 := high_pre f (High.up (x := .kw .kcase) (fun _ => rfl) (g.h.cat (High.cons (x := .kw .kof) rfl (high_twWs ws).brace)))
      have eq : (pre f ++ .kw .kcase :: A2 ++ (B ++ (C1 ++ .kw .kof :: .lb :: (twWs ws ++ [.rb]))) : List Tok) = pre f ++ (.kw .kcase :: ((A2 ++ (B ++ C1)) ++ .kw .kof :: .lb :: (twWs ws ++ [.rb]))) := by simp
      rw [eq]
      refine h1.le ?_ ?_
      · show 3 + (12 * dp x + 0 + 0) + fl f ≤ 12 * (max (dp x) (dpWs ws) + 1) + fl f
        omega
      · show 3 + max (Hb (dp x) + 6 * dp x + 0) (12 * dp x + 0 + (3 + Hb (dpWs ws))) + fl f ≤ Hb (max (dp x) (dpWs ws)) + 6 * (max (dp x) (dpWs ws) + 1) + 6 * (max (dp x) (dpWs ws) + 1) + fl f
        omega
  · obtain ⟨A5, rfl, e5⟩ := split_cons e4 (fun q => by cases q)
    obtain ⟨A6, rfl, e6⟩ := split_cons e5 (fun q => by cases q)
    rcases split2 _ _ _ _ _ 0 e6 (bal_twWs ws) hb with ⟨C1, e7, rfl⟩ | ⟨A7, rfl, e7⟩
    · obtain ⟨ws', g⟩ := kp _ _ _ e7 hb
      refine ⟨.cs x ws', ?_, ?_, ⟨hw.1, fun q => ?_, g.wf⟩, rfl, ?_, ?_⟩
      · rw [tw, g.w]
        simp
      · rw [strip, strip, g.s]
      · have := g.n
        rw [q] at this
        cases ws with
        | nil => exact hw.2.1 rfl
        | cons y r => cases this
      · show max (dp x) (dpWs ws') + 1 ≤ max (dp x) (dpWs ws) + 1 + 2
        have := g.d
        omega
      · have h1 := high_pre f (High.up (x := .kw .kcase) (fun _ => rfl) (gx0.cat (High.cons (x := .kw .kof) rfl g.h.brace)))
        have eq : (pre f ++ .kw .kcase :: (tw false x ++ .kw .kof :: .lb :: A6) ++ (B ++ (C1 ++ [.rb])) : List Tok) = pre f ++ (.kw .kcase :: (tw false x ++ .kw .kof :: .lb :: ((A6 ++ (B ++ C1)) ++ [.rb]))) := by simp
        rw [eq]
        refine h1.le ?_ ?_
        · show 3 + (jn x + 0 + 0) + fl f ≤ 12 * (max (dp x) (dpWs ws) + 1) + fl f
          omega
        · show 3 + max (Hb (dp x) + 0) (jn x + 0 + (3 + (Hb (dpWs ws) + 6 * dpWs ws))) + fl f ≤ Hb (max (dp x) (dpWs ws)) + 6 * (max (dp x) (dpWs ws) + 1) + 6 * (max (dp x) (dpWs ws) + 1) + fl f
          omega
    · exact (no_lp1 (fun q => by cases q) e7).elim
theorem ps_dw {x : L} {t : Tm} {r : List (L × Tm)} {A B C : List Tok} (e : twPs ((x, t) :: r) = A ++ .lp :: (B ++ .rp :: C)) (hb : Bal B) (hw : wfPs ((x, t) :: r))
    (kt : ∀ A B C, tw false t = A ++ .lp :: (B ++ .rp :: C) → Bal B → ∃ t', Dw false t A B C t') (kr : ∀ A B C, twPs r = A ++ .lp :: (B ++ .rp :: C) → Bal B → ∃ ps', Dps r A B C ps') : ∃ ps', Dps ((x, t) :: r) A B C ps' := by
  rw [twPs] at e
  obtain ⟨A1, rfl, e1⟩ := split_cons e (fun q => by cases q)
  obtain ⟨A2, rfl, e2⟩ := split_cons e1 (fun q => by cases q)
  have m1 := Hb_mono (Nat.le_max_left (dp t) (dpPs r))
  have m2 := Hb_mono (Nat.le_max_right (dp t) (dpPs r))
  have l1 := Nat.le_max_left (dp t) (dpPs r)
  have l2 := Nat.le_max_right (dp t) (dpPs r)
  have gt0 := high_tw false t
  rcases split2 _ _ _ _ _ 0 e2 (bal_tw false t) hb with ⟨C1, e4, rfl⟩ | ⟨A4, rfl, e4⟩
  · obtain ⟨t', g⟩ := kt _ _ _ e4 hb
    refine ⟨(x, t') :: r, ?_, ?_, ⟨g.wf, hw.2⟩, rfl, ?_, ?_⟩
    · rw [twPs, g.w]
      simp
    · rw [stripPs, stripPs, g.s]
    · show max (dp t') (dpPs r) ≤ max (dp t) (dpPs r) + 2
      have := g.d
      omega
    · have h1 : HighS (.small x :: .eq :: (A2 ++ (B ++ C1))) (Hb (max (dp t) (dpPs r)) + 6 * max (dp t) (dpPs r)) := (High.cons (x := .small x) rfl (High.cons (x := .eq) rfl g.h)).s.le (by
        show Hb (dp t) + 6 * dp t + 0 ≤ _
        omega)
      show HighS _ (Hb (max (dp t) (dpPs r)) + 6 * max (dp t) (dpPs r))
      cases r with
      | nil =>
        have eq : (.small x :: .eq :: A2 ++ (B ++ (C1 ++ (if (([] : List (L × Tm)).isEmpty = true) then [] else .semi :: twPs []))) : List Tok) = .small x :: .eq :: (A2 ++ (B ++ C1)) := by simp
        rw [eq]
        exact h1
      | cons y r =>
        have h2 := h1.sep (x := .semi) (fun _ => rfl) ((high_twPs (y :: r)).le (show Hb (dpPs (y :: r)) ≤ Hb (max (dp t) (dpPs (y :: r))) + 6 * max (dp t) (dpPs (y :: r)) by omega))
        have eq : (.small x :: .eq :: A2 ++ (B ++ (C1 ++ (if ((y :: r).isEmpty = true) then [] else .semi :: twPs (y :: r)))) : List Tok) = .small x :: .eq :: (A2 ++ (B ++ C1)) ++ .semi :: twPs (y :: r) := by simp
        rw [eq]
        exact h2
  · cases r with
    | nil => exact (no_lp e4).elim
    | cons y r =>
      have e5 : Tok.semi :: twPs (y :: r) = A4 ++ .lp :: (B ++ .rp :: C) := e4
      obtain ⟨A6, rfl, e6⟩ := split_cons e5 (fun q => by cases q)
      obtain ⟨r', g⟩ := kr _ _ _ e6 hb
      have em : r'.isEmpty = false := by
        have := congrArg List.length g.n
        rw [List.length_map, List.length_map] at this
        rw [emp_of this] <;> rfl
      refine ⟨(x, t) :: r', ?_, ?_, ⟨hw.1, g.wf⟩, ?_, ?_, ?_⟩
      · rw [twPs, em, g.w]
        simp
      · rw [stripPs, stripPs, g.s]
      · rw [List.map_cons, List.map_cons, g.n]
      · show max (dp t) (dpPs r') ≤ max (dp t) (dpPs (y :: r)) + 2
        have := g.d
        omega
      · have h1 : HighS (.small x :: .eq :: tw false t) (Hb (max (dp t) (dpPs (y :: r))) + 6 * max (dp t) (dpPs (y :: r))) := (High.cons (x := .small x) rfl (High.cons (x := .eq) rfl gt0)).s.le (by
          show Hb (dp t) + 0 ≤ _
          omega)
        have h2 := h1.sep (x := .semi) (fun _ => rfl) (g.h.le (show Hb (dpPs (y :: r)) + 6 * dpPs (y :: r) ≤ Hb (max (dp t) (dpPs (y :: r))) + 6 * max (dp t) (dpPs (y :: r)) by omega))
        have eq : (.small x :: .eq :: (tw false t ++ .semi :: A6) ++ (B ++ C) : List Tok) = .small x :: .eq :: tw false t ++ .semi :: (A6 ++ (B ++ C)) := by simp
        rw [eq]
        exact h2
theorem ws_dw {c : L} {xs : List L} {t : Tm} {r : List (L × List L × Tm)} {A B C : List Tok} (e : twWs ((c, xs, t) :: r) = A ++ .lp :: (B ++ .rp :: C)) (hb : Bal B) (hw : wfWs ((c, xs, t) :: r))
    (kt : ∀ A B C, tw false t = A ++ .lp :: (B ++ .rp :: C) → Bal B → ∃ t', Dw false t A B C t') (kr : ∀ A B C, twWs r = A ++ .lp :: (B ++ .rp :: C) → Bal B → ∃ ps', Dws r A B C ps') : ∃ ps', Dws ((c, xs, t) :: r) A B C ps' := by
  rw [twWs] at e
  obtain ⟨A0, rfl, e0⟩ := split_cons e (fun q => by cases q)
  obtain ⟨A1, rfl, e1⟩ := sm_split xs e0
  obtain ⟨A2, rfl, e2⟩ := split_cons e1 (fun q => by cases q)
  have m1 := Hb_mono (Nat.le_max_left (dp t) (dpWs r))
  have m2 := Hb_mono (Nat.le_max_right (dp t) (dpWs r))
  have l1 := Nat.le_max_left (dp t) (dpWs r)
  have l2 := Nat.le_max_right (dp t) (dpWs r)
  have gt0 := high_tw false t
  rcases split2 _ _ _ _ _ 0 e2 (bal_tw false t) hb with ⟨C1, e4, rfl⟩ | ⟨A4, rfl, e4⟩
  · obtain ⟨t', g⟩ := kt _ _ _ e4 hb
    refine ⟨(c, xs, t') :: r, ?_, ?_, ⟨⟨hw.1.1, g.wf⟩, hw.2⟩, rfl, ?_, ?_⟩
    · rw [twWs, g.w]
      simp
    · rw [stripWs, stripWs, g.s]
    · show max (dp t') (dpWs r) ≤ max (dp t) (dpWs r) + 2
      have := g.d
      omega
    · have h1 : HighS (.great c :: (smTk xs ++ .arr :: (A2 ++ (B ++ C1)))) (3 + (Hb (max (dp t) (dpWs r)) + 6 * max (dp t) (dpWs r))) := (High.cons (x := .great c) rfl ((High.smTk xs).cat (High.up (x := .arr) (fun _ => rfl) g.h))).s.le (by
        show max 0 (0 + (3 + (Hb (dp t) + 6 * dp t + 0))) ≤ _
        omega)
      show HighS _ (3 + (Hb (max (dp t) (dpWs r)) + 6 * max (dp t) (dpWs r)))
      cases r with
      | nil =>
        have eq : (.great c :: (smTk xs ++ .arr :: A2) ++ (B ++ (C1 ++ (if (([] : List (L × List L × Tm)).isEmpty = true) then [] else .semi :: twWs []))) : List Tok) = .great c :: (smTk xs ++ .arr :: (A2 ++ (B ++ C1))) := by simp
        rw [eq]
        exact h1
      | cons y r =>
        have h2 := h1.sep (x := .semi) (fun _ => rfl) ((high_twWs (y :: r)).le (show 3 + Hb (dpWs (y :: r)) ≤ 3 + (Hb (max (dp t) (dpWs (y :: r))) + 6 * max (dp t) (dpWs (y :: r))) by omega))
        have eq : (.great c :: (smTk xs ++ .arr :: A2) ++ (B ++ (C1 ++ (if ((y :: r).isEmpty = true) then [] else .semi :: twWs (y :: r)))) : List Tok) = .great c :: (smTk xs ++ .arr :: (A2 ++ (B ++ C1))) ++ .semi :: twWs (y :: r) := by simp
        rw [eq]
        exact h2
  · cases r with
    | nil => exact (no_lp e4).elim
    | cons y r =>
      have e5 : Tok.semi :: twWs (y :: r) = A4 ++ .lp :: (B ++ .rp :: C) := e4
      obtain ⟨A6, rfl, e6⟩ := split_cons e5 (fun q => by cases q)
      obtain ⟨r', g⟩ := kr _ _ _ e6 hb
      have em : r'.isEmpty = false := by
        rw [emp_of g.n] <;> rfl
      refine ⟨(c, xs, t) :: r', ?_, ?_, ⟨hw.1, g.wf⟩, ?_, ?_, ?_⟩
      · rw [twWs, em, g.w]
        simp
      · rw [stripWs, stripWs, g.s]
      · rw [List.length_cons, List.length_cons, g.n]
      · show max (dp t) (dpWs r') ≤ max (dp t) (dpWs (y :: r)) + 2
        have := g.d
        omega
      · have h1 : HighS (.great c :: (smTk xs ++ .arr :: tw false t)) (3 + (Hb (max (dp t) (dpWs (y :: r))) + 6 * max (dp t) (dpWs (y :: r)))) := (High.cons (x := .great c) rfl ((High.smTk xs).cat (High.up (x := .arr) (fun _ => rfl) gt0))).s.le (by
          show max 0 (0 + (3 + (Hb (dp t) + 0))) ≤ _
          omega)
        have h2 := h1.sep (x := .semi) (fun _ => rfl) (g.h.le (show 3 + (Hb (dpWs (y :: r)) + 6 * dpWs (y :: r)) ≤ 3 + (Hb (max (dp t) (dpWs (y :: r))) + 6 * max (dp t) (dpWs (y :: r))) by omega))
        have eq : (.great c :: (smTk xs ++ .arr :: (tw false t ++ .semi :: A6)) ++ (B ++ C) : List Tok) = .great c :: (smTk xs ++ .arr :: tw false t) ++ .semi :: (A6 ++ (B ++ C)) := by simp
        rw [eq]
        exact h2
theorem op_dw {f : Bool} {o : Op} {a b : Tm} {A B C : List Tok} (e : tw f (.op o a b) = A ++ .lp :: (B ++ .rp :: C)) (hb : Bal B) (wa : wf a) (wb : wf b)
    (ka : ∀ A B C, tw false a = A ++ .lp :: (B ++ .rp :: C) → Bal B → ∃ t', Dw false a A B C t') (kb : ∀ A B C, tw false b = A ++ .lp :: (B ++ .rp :: C) → Bal B → ∃ t', Dw false b A B C t') : ∃ t', Dw f (.op o a b) A B C t' :=
  bin_dw (f := f) (n := max (ow o) 1) (m := ow o + 1) (mid := [.op o]) (g := Tm.op o) (by cases o <;> decide) (by cases o <;> decide)
    (fun e => by
      obtain ⟨A1, h1, h2⟩ := split_cons (x := .op o) e (fun q => by cases q)
      exact ⟨A1, h1, h2⟩) (High.dull rfl) (fun a b => by rw [tw] <;> rfl) (fun a b => by rw [strip]) (fun a b => Iff.rfl) (fun _ _ _ _ => rfl) (fun a b => rfl) e hb wa wb ka kb
mutual
theorem dw : ∀ (t : Tm), wf t → pu t → ∀ (f : Bool) (A B C : List Tok), tw f t = A ++ .lp :: (B ++ .rp :: C) → Bal B → ∃ t', Dw f t A B C t'
  | .num n, _, _, f, A, B, C, e, hb => by
    rw [tw] at e
    obtain ⟨A1, rfl, e1⟩ := pre_split e
    exact (no_lp1 (fun q => by cases q) e1).elim
  | .name n, _, _, f, A, B, C, e, hb => by
    rw [tw] at e
    obtain ⟨A1, rfl, e1⟩ := pre_split e
    exact (no_lp1 (fun q => by cases q) e1).elim
  | .make n, _, _, f, A, B, C, e, hb => by
    rw [tw] at e
    obtain ⟨A1, rfl, e1⟩ := pre_split e
    exact (no_lp1 (fun q => by cases q) e1).elim
  | .app a b, hw, hp, f, A, B, C, e, hb =>
    bin_dw (f := f) (n := 3) (m := 4) (mid := []) (g := Tm.app) (by decide) (by decide) (fun {A B C} e => ⟨A, rfl, e⟩) High.nil (fun a b => by rw [tw] <;> rfl) (fun a b => by rw [strip]) (fun a b => Iff.rfl) (fun _ _ _ _ => rfl) (fun a b => rfl) e hb hw.1 hw.2
      (dw a hw.1 hp.1 false) (dw b hw.2 hp.2 false)
  | .op o a b, hw, hp, f, A, B, C, e, hb => op_dw e hb hw.1 hw.2 (dw a hw.1 hp.1 false) (dw b hw.2 hp.2 false)
  | .fn x b, hw, hp, f, A, B, C, e, hb => fn_dw e hb (dw b hw hp true)
  | .lt ps b, hw, hp, f, A, B, C, e, hb => lt_dw e hb hw (dwPs ps hw.1.2.2 hp.1) (dw b hw.2 hp.2 false)
  | .cs x ws, hw, hp, f, A, B, C, e, hb => cs_dw e hb hw (dw x hw.1 hp.1 false) (dwWs ws hw.2.2 hp.2)
theorem dwPs : ∀ (ps : List (L × Tm)), wfPs ps → puPs ps → ∀ (A B C : List Tok), twPs ps = A ++ .lp :: (B ++ .rp :: C) → Bal B → ∃ ps', Dps ps A B C ps'
  | [], _, _, A, B, C, e, hb => by
    rw [twPs] at e
    exact (no_lp e).elim
  | (x, t) :: r, hw, hp, A, B, C, e, hb => ps_dw e hb hw (dw t hw.1 hp.1 false) (dwPs r hw.2 hp.2)
theorem dwWs : ∀ (ws : List (L × List L × Tm)), wfWs ws → puWs ws → ∀ (A B C : List Tok), twWs ws = A ++ .lp :: (B ++ .rp :: C) → Bal B → ∃ ws', Dws ws A B C ws'
  | [], _, _, A, B, C, e, hb => by
    rw [twWs] at e
    exact (no_lp e).elim
  | (c, xs, t) :: r, hw, hp, A, B, C, e, hb => ws_dw e hb hw (dw t hw.1.2 hp.1 false) (dwWs r hw.2 hp.2)
end
/-! ### what the law asks of a term's row -/
/-- not high: read with fuel N it does not run out -/
theorem not_out {n : Nat} {u : List Tok} {j h : Nat} (g : High u j h) (hn : h + 6 + j ≤ n) : pT n (u ++ [.fin]) ≠ .out := by
  refine (no_out n).T _ (0, []) (fun p q e => ?_)
  have t0 : tot ((0, []) : Hs) = 0 := rfl
  rw [t0]
  rcases List.append_eq_append_iff.mp e with ⟨a, e1, e2⟩ | ⟨a, e1, e2⟩
  · obtain ⟨c', h1, h2, h3⟩ := g.ex 0 []
    rw [e1, run_append, h1]
    have : run (c', []) a = (c', []) := by
      cases a with
      | nil => rfl
      | cons y a =>
        rw [List.cons_append] at e2
        injection e2 with e3 e4
        have : a = [] := (List.append_eq_nil_iff.mp e4.symm).1
        subst this e3
        rfl
    rw [this]
    show c' + 0 + 6 ≤ 0 + n
    omega
  · have := g.top 0 [] p a e1
    have z : ([] : List Nat).sum = 0 := rfl
    rw [z] at this
    omega
theorem fol_fin : Fol [.fin] := ⟨rfl, fun o e => by cases e⟩
theorem now_fin_of {t : Tm} {n : Nat} {s : List Tok} (h : pT n s = .ok t [.fin]) : readT n s = some t := by
  unfold readT
  rw [h] <;> rfl
/-- a row that a term writes, with brackets more, is read as it -/
theorem reads_back {t : Tm} (hw : wf t) {n : Nat} (hn : Hb (dp t) + 6 + 6 * dp t ≤ n) : pT n (tw false t ++ [.fin]) = .ok (strip t) [.fin] := by
  obtain ⟨n0, h0⟩ := (cf t hw).r0 [.fin] fol_fin
  have g := high_tw false t
  have j := jn_le t
  have hno : pT n (tw false t ++ [.fin]) ≠ .out := not_out (g.le (j' := 6 * dp t) (h' := Hb (dp t)) (by show jn t + 0 ≤ _; omega) (Nat.le_refl _)) hn
  have h1 := h0 (n + n0) (by omega)
  rcases le_add (n := n) (s := tw false t ++ [.fin]) pT_le n0 with e | e
  · exact absurd e hno
  · rw [← e]; exact h1
/-- once it is read, the words have as many brackets at least as the term needs -/
theorem read_cnt {n : Nat} {s r : List Tok} {t : Tm} (h : pT n s = .ok t r) : br t ≤ cnt s := by
  obtain ⟨u, rfl, f⟩ := (all_post n).T s t r h
  have := f.c
  rw [cnt_append]
  omega
theorem read_ok {n : Nat} {s r : List Tok} {t : Tm} (h : pT n s = .ok t r) (ho : ∀ x ∈ s, okTok x) : okT t := by
  obtain ⟨u, rfl, f⟩ := (all_post n).T s t r h
  exact f.ok fun x m => ho x (List.mem_append_left _ m)
/-- without one pair of brackets another term is read, or none -/
theorem less_ne {t : Tm} {A B C : List Tok} (e : tw false t = A ++ .lp :: (B ++ .rp :: C)) {n : Nat} {r : List Tok} {t' : Tm} (h : pT n (A ++ (B ++ C) ++ [.fin]) = .ok t' r) : t' ≠ t := fun q => by
  have h1 := read_cnt h
  have h2 := cnt_tw false t
  rw [q] at h1
  rw [e] at h2
  simp only [cnt_append] at h1 h2
  have h3 : cnt (.lp :: (B ++ .rp :: C)) = cnt (B ++ .rp :: C) + 1 := rfl
  have h4 : cnt (.rp :: C) = cnt C := rfl
  have h5 : cnt [Tok.fin] = 0 := rfl
  rw [h3, cnt_append, h4] at h2
  omega
end K72
/-! K72G: kinds and datas, the same way. -/
namespace K72
inductive Kd where
  | num
  | var (x : L)
  | data (d : L) (ks : List Kd)
  | fn (a b : Kd)
  | par (k : Kd)
def lvK : Kd → Nat
  | .fn .. => 0
  | .data _ (_ :: _) => 1
  | _ => 2
def shKB (n : Nat) (k : Kd) (u : List Tok) : List Tok := if lvK k < n then .lp :: (u ++ [.rp]) else u
mutual
def tk : Kd → List Tok
  | .num => [.kw .knum]
  | .var x => [.small x]
  | .data d ks => .great d :: tks ks
  | .fn a b => shKB 1 a (tk a) ++ .arr :: tk b
  | .par k => .lp :: (tk k ++ [.rp])
def tks : List Kd → List Tok
  | [] => []
  | k :: r => shKB 2 k (tk k) ++ tks r
end
abbrev shK (n : Nat) (k : Kd) : List Tok := shKB n k (tk k)
abbrev Mk := L × List Kd
def twMs : List Mk → List Tok
  | [] => []
  | (c, ks) :: r => .great c :: (tks ks ++ (if r.isEmpty then [] else .bar :: twMs r))
abbrev Dt := L × List L × List Mk
def twD (d : Dt) : List Tok := .kw .data :: .great d.1 :: (smTk d.2.1 ++ .eq :: twMs d.2.2)
/-! ### reading -/
def beginsK (s : List Tok) : Bool := match now s with
  | .small _ | .great _ | .kw .knum | .lp => true
  | _ => false
def lonesL (p : List Tok → Res Kd) (acc : List Kd) (s : List Tok) : Res (List Kd) :=
  if beginsK s = true then (p s).bind fun b q => if h : q.length < s.length then lonesL p (acc ++ [b]) q else .out
  else .ok acc s
termination_by s.length
def kTail (p : List Tok → Res Kd) (one : Kd) (q : List Tok) : Res Kd := if now q = .arr then (p q.tail).bind fun b q1 => .ok (.fn one b) q1 else .ok one q
mutual
def pLone : Nat → List Tok → Res Kd
  | 0, _ => .out
  | n + 1, s => match now s with
    | .kw .knum => .ok .num s.tail
    | .small x => .ok (.var x) s.tail
    | .great c => .ok (.data c []) s.tail
    | .lp => (pKind n s.tail).bind fun t q => (eat .rp q).bind fun _ q1 => .ok t q1
    | _ => .fail
def pLones : Nat → List Tok → Res (List Kd)
  | 0, _ => .out
  | n + 1, s => lonesL (pLone n) [] s
def pKind : Nat → List Tok → Res Kd
  | 0, _ => .out
  | n + 1, s => match now s with
    | .great c => (pLones n s.tail).bind fun ks q => kTail (pKind n) (.data c ks) q
    | _ => (pLone n s).bind fun k q => kTail (pKind n) k q
end
def pMaker (n : Nat) (s : List Tok) : Res Mk := (eatG s).bind fun c r => (pLones n r).bind fun ks q => .ok (c, ks) q
def pData (n : Nat) (s : List Tok) : Res Dt := (eat (.kw .data) s).bind fun _ r => (eatG r).bind fun d r1 => (eat .eq (smalls r1).2).bind fun _ r2 => (pMaker n r2).bind fun m q =>
  (csLoop .bar (pMaker n) [m] q).bind fun ms q1 => if now q1 = .fin then .ok (d, (smalls r1).1, ms) q1 else .fail
/-! ### more fuel -/
theorem lonesL_mono {p p' : List Tok → Res Kd} (h : ∀ s, Le (p s) (p' s)) : ∀ (k : Nat) (acc : List Kd) (s : List Tok), s.length < k → Le (lonesL p acc s) (lonesL p' acc s) := by
  intro k
  induction k with
  | zero => intro ws s hk; omega
  | succ k ih =>
    intro acc s hk
    rw [lonesL, lonesL]
    exact le_ite (fun _ => le_bind (h _) fun b q => le_dite (fun hq => ih _ q (by omega)) fun _ => le_self) fun _ => le_self
theorem kTail_mono {p p' : List Tok → Res Kd} (h : ∀ s, Le (p s) (p' s)) (one : Kd) (q : List Tok) : Le (kTail p one q) (kTail p' one q) := le_ite (fun _ => le_bind (h _) fun b q => le_self) fun _ => le_self
theorem k_mono (n : Nat) : (∀ s, Le (pLone n s) (pLone (n + 1) s)) ∧ (∀ s, Le (pLones n s) (pLones (n + 1) s)) ∧ (∀ s, Le (pKind n s) (pKind (n + 1) s)) := by
  induction n with
  | zero => exact ⟨fun _ => Or.inl rfl, fun _ => Or.inl rfl, fun _ => Or.inl rfl⟩
  | succ n ih =>
    obtain ⟨h1, h2, h3⟩ := ih
    refine ⟨fun s => ?_, fun s => ?_, fun s => ?_⟩
    · show Le (match now s with | .kw .knum => .ok .num s.tail | .small x => .ok (.var x) s.tail | .great c => .ok (.data c []) s.tail | .lp => (pKind n s.tail).bind fun t q => (eat .rp q).bind fun _ q1 => .ok t q1 | _ => .fail)
        (match now s with | .kw .knum => .ok .num s.tail | .small x => .ok (.var x) s.tail | .great c => .ok (.data c []) s.tail | .lp => (pKind (n + 1) s.tail).bind fun t q => (eat .rp q).bind fun _ q1 => .ok t q1 | _ => .fail)
      split
      · exact le_self
      · exact le_self
      · exact le_self
      · exact le_bind (h3 _) fun t q => le_self
      · exact le_self
    · exact lonesL_mono h1 _ _ _ (Nat.lt_succ_self _)
    · show Le (match now s with | .great c => (pLones n s.tail).bind fun ks q => kTail (pKind n) (.data c ks) q | _ => (pLone n s).bind fun k q => kTail (pKind n) k q)
        (match now s with | .great c => (pLones (n + 1) s.tail).bind fun ks q => kTail (pKind (n + 1)) (.data c ks) q | _ => (pLone (n + 1) s).bind fun k q => kTail (pKind (n + 1)) k q)
      split
      · exact le_bind (h2 _) fun ks q => kTail_mono h3 _ _
      · exact le_bind (h1 _) fun ks q => kTail_mono h3 _ _
theorem pMaker_le (n : Nat) (s : List Tok) : Le (pMaker n s) (pMaker (n + 1) s) := le_bind le_self fun c r => le_bind ((k_mono n).2.1 _) fun ks q => le_self
theorem pData_le (n : Nat) (s : List Tok) : Le (pData n s) (pData (n + 1) s) :=
  le_bind le_self fun _ r => le_bind le_self fun d r1 => le_bind le_self fun _ r2 => le_bind (pMaker_le n _) fun m q => le_bind (csLoop_mono (pMaker_le n) _ _ _ (Nat.lt_succ_self _)) fun ms q1 => le_self
/-! ### counts -/
def bkK (n : Nat) (k : Kd) : Nat := if lvK k < n then 1 else 0
theorem bkK_le {m n : Nat} {t : Kd} (h : m ≤ n) : bkK m t ≤ bkK n t := by
  unfold bkK
  split
  · rw [if_pos (by omega)]; exact Nat.le_refl _
  · exact Nat.zero_le _
theorem bkK0 (t : Kd) : bkK 0 t = 0 := if_neg (by omega)
mutual
def brK : Kd → Nat
  | .num | .var _ => 0
  | .data _ ks => brKs ks
  | .fn a b => (brK a + bkK 1 a) + brK b
  | .par k => brK k + 1
def brKs : List Kd → Nat
  | [] => 0
  | k :: r => (brK k + bkK 2 k) + brKs r
end
def brMs : List Mk → Nat
  | [] => 0
  | (_, ks) :: r => brKs ks + brMs r
theorem brKs_append : ∀ a b, brKs (a ++ b) = brKs a + brKs b
  | [], b => by simp [brKs]
  | t :: r, b => by rw [List.cons_append, brKs, brKs, brKs_append r b]; omega
theorem brMs_append : ∀ a b, brMs (a ++ b) = brMs a + brMs b
  | [], b => by simp [brMs]
  | (_, t) :: r, b => by rw [List.cons_append, brMs, brMs, brMs_append r b]; omega
mutual
def okK : Kd → Prop
  | .num => True
  | .var x => okL x
  | .data d ks => okL d ∧ okKs ks
  | .fn a b => okK a ∧ okK b
  | .par k => okK k
def okKs : List Kd → Prop
  | [] => True
  | k :: r => okK k ∧ okKs r
end
def okMs : List Mk → Prop
  | [] => True
  | (c, ks) :: r => (okL c ∧ okKs ks) ∧ okMs r
theorem okKs_append : ∀ a b, okKs (a ++ b) ↔ okKs a ∧ okKs b
  | [], b => by simp [okKs]
  | t :: r, b => by rw [List.cons_append, okKs, okKs, okKs_append r b]; exact and_assoc.symm
theorem okMs_append : ∀ a b, okMs (a ++ b) ↔ okMs a ∧ okMs b
  | [], b => by simp [okMs]
  | (_, t) :: r, b => by rw [List.cons_append, okMs, okMs, okMs_append r b]; exact and_assoc.symm
structure FK (n : Nat) (t : Kd) (u : List Tok) : Prop where
  c : brK t + bkK n t ≤ cnt u
  ok : (∀ x ∈ u, okTok x) → okK t
  up : ∀ σ, Up σ (run σ u)
  ne : 0 < u.length
  nf : Tok.fin ∉ u
structure FKs (ks : List Kd) (u : List Tok) : Prop where
  c : brKs ks ≤ cnt u
  ok : (∀ x ∈ u, okTok x) → okKs ks
  up : ∀ σ, Up σ (run σ u)
  nf : Tok.fin ∉ u
structure FM (m : Mk) (u : List Tok) : Prop where
  c : brKs m.2 ≤ cnt u
  ok : (∀ x ∈ u, okTok x) → okL m.1 ∧ okKs m.2
  up : ∀ σ, Up σ (run σ u)
  nf : Tok.fin ∉ u
theorem FK.le {m n : Nat} {t : Kd} {u : List Tok} (h : FK n t u) (hm : m ≤ n) : FK m t u := ⟨Nat.le_trans (Nat.add_le_add_left (bkK_le hm) _) h.c, h.ok, h.up, h.ne, h.nf⟩
theorem lonesL_post {p : List Tok → Res Kd} (hp : ∀ s, Post (p s) s (FK 2)) :
    ∀ (k : Nat) (acc : List Kd) (u₀ s : List Tok), s.length < k → FKs acc u₀ → ∀ t r, lonesL p acc s = .ok t r → ∃ u, s = u ++ r ∧ FKs t (u₀ ++ u) := by
  intro k
  induction k with
  | zero => intro one u₀ s hk; omega
  | succ k ih =>
    intro acc u₀ s hk h1 t r h
    rw [lonesL] at h
    by_cases ho : beginsK s = true
    · rw [if_pos ho] at h
      obtain ⟨b, q, e1, e2⟩ := bind_ok h
      obtain ⟨v, hv, hb⟩ := hp _ _ _ e1
      by_cases hq : q.length < s.length
      · rw [dif_pos hq] at e2
        have hft : FKs (acc ++ [b]) (u₀ ++ v) := by
          refine ⟨?_, ?_, ?_, by simp [h1.nf, hb.nf]⟩
          · rw [cnt_append, brKs_append]
            have a1 := h1.c
            have a2 := hb.c
            show brKs acc + (brK b + bkK 2 b + 0) ≤ _
            omega
          · intro hx
            exact (okKs_append _ _).mpr ⟨h1.ok fun x m => hx x (by simp [m]), hb.ok fun x m => hx x (by simp [m]), trivial⟩
          · intro σ
            rw [run_append]
            exact (h1.up σ).trans (hb.up _)
        obtain ⟨w, hw, ht⟩ := ih (acc ++ [b]) (u₀ ++ v) q (by omega) hft t r e2
        refine ⟨v ++ w, ?_, by simpa using ht⟩
        rw [hv, hw]
        simp only [List.append_assoc]
      · rw [dif_neg hq] at e2; cases e2
    · rw [if_neg ho] at h
      injection h with e1 e2
      exact ⟨[], by simp [e2], by rw [List.append_nil, ← e1]; exact h1⟩
structure AllK (n : Nat) : Prop where
  Lone : ∀ s, Post (pLone n s) s (FK 2)
  Lones : ∀ s, Post (pLones n s) s FKs
  Kind : ∀ s, Post (pKind n s) s (FK 0)
theorem kTail_post {p : List Tok → Res Kd} (hp : ∀ s, Post (p s) s (FK 0)) {one : Kd} {u q : List Tok} (h1 : FK 1 one u) {t : Kd} {r : List Tok} (h : kTail p one q = .ok t r) : ∃ v, q = v ++ r ∧ FK 0 t (u ++ v) := by
  unfold kTail at h
  by_cases e : now q = .arr
  · rw [if_pos e] at h
    obtain ⟨b, q1, e1, h⟩ := bind_ok h
    injection h with h2 h3
    subst h2 h3
    obtain ⟨v, hv, hb⟩ := hp _ _ _ e1
    refine ⟨.arr :: v, ?_, ?_, ?_, ?_, by rw [List.length_append, List.length_cons]; omega, by simp [h1.nf, hb.nf]⟩
    · rw [now_cons e (fun q => by cases q), hv] <;> rfl
    · rw [cnt_append, bkK0]
      have a1 := h1.c
      have a2 := hb.c
      show (brK one + bkK 1 one) + brK b + 0 ≤ cnt u + cnt v
      omega
    · intro hx
      exact ⟨h1.ok fun x m => hx x (by simp [m]), hb.ok fun x m => hx x (by simp [m])⟩
    · intro σ
      rw [run_append, run_cons]
      refine (h1.up σ).trans (Up.trans (τ := step (run σ u) .arr) ⟨rfl, ?_⟩ (hb.up _))
      show (run σ u).1 ≤ (run σ u).1 + 3
      omega
  · rw [if_neg e] at h
    injection h with h2 h3
    subst h2 h3
    exact ⟨[], rfl, by rw [List.append_nil]; exact h1.le (by omega)⟩
theorem all_postK (n : Nat) : AllK n := by
  induction n with
  | zero => refine ⟨?_, ?_, ?_⟩ <;> intro s a r h <;> cases h
  | succ n ih =>
    refine ⟨fun s t r h => ?_, fun s t r h => ?_, fun s t r h => ?_⟩
    · have h' : (match now s with | .kw .knum => Res.ok Kd.num s.tail | .small x => .ok (Kd.var x) s.tail | .great c => .ok (Kd.data c []) s.tail | .lp => (pKind n s.tail).bind fun t q => (eat .rp q).bind fun _ q1 => .ok t q1 | _ => .fail) = .ok t r := h
      split at h'
      · rename_i e
        injection h' with h1 h2
        subst h1 h2
        exact ⟨[_], now_cons e (fun q => by cases q), Nat.le_refl _, fun _ => trivial, fun σ => Up.refl σ, by simp, by simp⟩
      · rename_i e
        injection h' with h1 h2
        subst h1 h2
        refine ⟨[_], now_cons e (fun q => by cases q), Nat.le_refl _, fun ho => ?_, fun σ => Up.refl σ, by simp, by simp⟩
        exact (show okTok _ from ho _ (List.mem_singleton.mpr rfl))
      · rename_i e
        injection h' with h1 h2
        subst h1 h2
        refine ⟨[_], now_cons e (fun q => by cases q), Nat.le_refl _, fun ho => ?_, fun σ => Up.refl σ, by simp, by simp⟩
        exact ⟨(show okTok _ from ho _ (List.mem_singleton.mpr rfl)), trivial⟩
      · rename_i e
        obtain ⟨b, q, e1, h⟩ := bind_ok h'
        obtain ⟨_, q1, e2, h⟩ := bind_ok h
        injection h with h1 h2
        subst h1 h2
        obtain ⟨v, hv, hb⟩ := ih.Kind _ _ _ e1
        have q2 := eat_ok e2 (fun q => by cases q)
        refine ⟨.lp :: (v ++ [.rp]), ?_, ?_, ?_, ?_, by simp, by simp [hb.nf]⟩
        · rw [now_cons e (fun q => by cases q), hv, q2]
          simp
        · show _ ≤ cnt (v ++ [.rp]) + 1
          rw [cnt_append]
          have a1 := hb.c
          have : bkK 2 b ≤ 1 := by unfold bkK; split <;> omega
          show _ ≤ cnt v + 0 + 1
          omega
        · intro ho
          exact hb.ok fun x m => ho x (by simp [m])
        · intro σ
          rw [run_cons, run_append, run_cons, run_nil]
          have u1 := hb.up (step σ .lp)
          constructor
          · show (run (step σ .lp) v).2.tail = σ.2
            rw [u1.1] <;> rfl
          · show σ.1 ≤ (run (step σ .lp) v).2.headD 0
            rw [u1.1]
            exact Nat.le_refl _
      · cases h'
    · exact lonesL_post ih.Lone _ [] [] s (Nat.lt_succ_self _) ⟨Nat.le_refl _, fun _ => trivial, fun σ => Up.refl σ, by simp⟩ t r h
    · have h' : (match now s with | .great c => (pLones n s.tail).bind fun ks q => kTail (pKind n) (.data c ks) q | _ => (pLone n s).bind fun k q => kTail (pKind n) k q) = .ok t r := h
      split at h'
      · rename_i c e
        obtain ⟨ks, q, e1, h⟩ := bind_ok h'
        obtain ⟨u, hu, hk⟩ := ih.Lones _ _ _ e1
        have f1 : FK 1 (.data c ks) (.great c :: u) := by
          refine ⟨?_, ?_, ?_, by simp, by simp [hk.nf]⟩
          · have : bkK 1 (.data c ks) = 0 := by
              unfold bkK
              cases ks <;> rfl
            rw [this]
            exact hk.c
          · intro ho
            exact ⟨ho (.great c) (by simp), hk.ok fun x m => ho x (by simp [m])⟩
          · exact hk.up
        obtain ⟨v, hv, hb⟩ := kTail_post ih.Kind f1 h
        refine ⟨.great c :: u ++ v, ?_, hb⟩
        rw [now_cons e (fun q => by cases q), hu, hv]
        simp
      · obtain ⟨k, q, e1, h⟩ := bind_ok h'
        obtain ⟨u, hu, hk⟩ := ih.Lone _ _ _ e1
        obtain ⟨v, hv, hb⟩ := kTail_post ih.Kind (hk.le (by omega)) h
        exact ⟨u ++ v, by rw [hu, hv]; simp, hb⟩
theorem maker_post (n : Nat) (s : List Tok) : Post (pMaker n s) s FM := fun t r h => by
  obtain ⟨c, r1, e1, h⟩ := bind_ok h
  obtain ⟨ks, q, e2, h⟩ := bind_ok h
  injection h with h1 h2
  subst h1 h2
  obtain ⟨u, hu, hk⟩ := (all_postK n).Lones _ _ _ e2
  exact ⟨.great c :: u, by rw [eatG_ok e1, hu]; rfl, hk.c, fun ho => ⟨ho (.great c) (by simp), hk.ok fun x m => ho x (by simp [m])⟩, hk.up, by simp [hk.nf]⟩
/-- a row that is read as a data has as many brackets at least as its kinds need, and plain names -/
theorem data_post {n : Nat} {s r : List Tok} {d : Dt} (h : pData n s = .ok d r) : ∃ u, s = u ++ r ∧ now r = .fin ∧ brMs d.2.2 ≤ cnt u ∧ ((∀ x ∈ u, okTok x) → okL d.1 ∧ (∀ x ∈ d.2.1, okL x) ∧ okMs d.2.2) := by
  obtain ⟨_, r1, e1, h⟩ := bind_ok h
  obtain ⟨c, r2, e2, h⟩ := bind_ok h
  obtain ⟨_, r3, e3, h⟩ := bind_ok h
  obtain ⟨m, r4, e4, h⟩ := bind_ok h
  obtain ⟨ms, r5, e5, h⟩ := bind_ok h
  by_cases hf : now r5 = .fin
  · rw [if_pos hf] at h
    injection h with h1 h2
    subst h1 h2
    obtain ⟨v1, hv1, hb1⟩ := maker_post n _ _ _ e4
    obtain ⟨v2, hv2, hc⟩ := csLoop_post (sep := .bar) (P := FM) (fun q => by cases q) (maker_post n) (G := fun ms u => brMs ms ≤ cnt u ∧ ((∀ x ∈ u, okTok x) → okMs ms))
      (fun ws w u v hg hp => ⟨by
        rw [brMs_append, cnt_append]
        have a1 := hg.1
        have a2 := hp.c
        show brMs ws + (brKs w.2 + 0) ≤ cnt u + cnt v
        omega, fun ho => (okMs_append _ _).mpr ⟨hg.2 fun y m => ho y (by simp [m]), hp.ok fun y m => ho y (by simp [m]), trivial⟩⟩) _ [m] v1 _ (Nat.lt_succ_self _) ⟨by have := hb1.c; show brKs m.2 + 0 ≤ _; omega, fun ho => ⟨hb1.ok ho, trivial⟩⟩ _ _ e5
    have q1 := eat_ok e1 (fun q => by cases q)
    have q2 := eatG_ok e2
    have q3 := eat_ok e3 (fun q => by cases q)
    have q4 := smalls_eq r2
    refine ⟨.kw .data :: .great c :: (smTk (smalls r2).1 ++ .eq :: (v1 ++ v2)), ?_, hf, ?_, ?_⟩
    · rw [hv1, hv2] at q3
      rw [q3] at q4
      rw [q1, q2]
      simp only [List.cons_append, List.append_assoc]
      rw [← q4]
    · show brMs ms ≤ cnt (smTk (smalls r2).1 ++ .eq :: (v1 ++ v2))
      rw [cnt_append, cnt_smTk]
      have := hc.1
      show _ ≤ 0 + cnt (v1 ++ v2)
      omega
    · intro ho
      exact ⟨ho (.great c) (by simp), fun x m => ho (.small x) (by simp [smTk, m]), hc.2 fun y m => ho y (by rcases List.mem_append.mp m with m | m <;> simp [m])⟩
  · rw [if_neg hf] at h; cases h
/-! ### no running out -/
theorem lonesL_out {p : List Tok → Res Kd} {n c : Nat} (hp : ∀ s σ, Hg n c σ s → p s ≠ .out) (hq : ∀ s, Post (p s) s (FK 2)) :
    ∀ (k : Nat) (acc : List Kd) (s : List Tok) (σ : Hs), s.length < k → Hg n c σ s → lonesL p acc s ≠ .out := by
  intro k
  induction k with
  | zero => intro one s σ hk; omega
  | succ k ih =>
    intro acc s σ hk g1 h
    rw [lonesL] at h
    by_cases ho : beginsK s = true
    · rw [if_pos ho] at h
      rcases bind_out h with h | ⟨b, q, e1, h⟩
      · exact hp _ _ g1 h
      · obtain ⟨v, hv, hb⟩ := hq _ _ _ e1
        have l1 : q.length < s.length := by
          rw [hv, List.length_append]
          have := hb.ne
          omega
        rw [dif_pos l1] at h
        exact ih _ q (run σ v) (by omega) (g1.sub hv (by have := (hb.up σ).tot; omega)) h
    · rw [if_neg ho] at h; cases h
structure NOK (n : Nat) : Prop where
  Lone : ∀ s σ, Hg n 1 σ s → pLone n s ≠ .out
  Lones : ∀ s σ, Hg n 2 σ s → pLones n s ≠ .out
  Kind : ∀ s σ, Hg n 3 σ s → pKind n s ≠ .out
theorem kTail_out {n : Nat} (hp : ∀ s σ, Hg n 3 σ s → pKind n s ≠ .out) {one : Kd} {u q s : List Tok} {σ : Hs} (g : Hg (n + 1) 3 σ s) (hs : s = u ++ q) (hu : Up σ (run σ u)) : kTail (pKind n) one q ≠ .out := fun h => by
  unfold kTail at h
  by_cases e : now q = .arr
  · rw [if_pos e] at h
    rcases bind_out h with h | ⟨b, q1, e1, h⟩
    · refine hp _ _ (g.sub (u := u ++ [.arr]) (r := q.tail) (by rw [hs, List.append_assoc]; exact congrArg (u ++ ·) (now_cons e (fun q => by cases q))) ?_) h
      rw [run_append]
      have := hu.tot
      show tot σ + (n + 1) + 3 ≤ (run σ u).1 + 3 + (run σ u).2.sum + n + 3
      unfold tot at this ⊢
      omega
    · cases h
  · rw [if_neg e] at h; cases h
theorem no_outK (n : Nat) : NOK n := by
  induction n with
  | zero => refine ⟨?_, ?_, ?_⟩ <;> (intro s σ g; have := g.pos; omega)
  | succ n ih =>
    have A := all_postK n
    refine ⟨fun s σ g h => ?_, fun s σ g h => ?_, fun s σ g h => ?_⟩
    · have h' : (match now s with | .kw .knum => Res.ok Kd.num s.tail | .small x => .ok (Kd.var x) s.tail | .great c => .ok (Kd.data c []) s.tail | .lp => (pKind n s.tail).bind fun t q => (eat .rp q).bind fun _ q1 => .ok t q1 | _ => .fail) = .out := h
      split at h'
      · cases h'
      · cases h'
      · cases h'
      · rename_i e
        rcases bind_out h' with h | ⟨b, q, e1, h⟩
        · refine ih.Kind _ _ (g.sub (u := [.lp]) (r := s.tail) (now_cons e (fun q => by cases q)) ?_) h
          show σ.1 + σ.2.sum + (n + 1) + 3 ≤ 6 + (σ.1 :: σ.2).sum + n + 1
          rw [List.sum_cons]
          omega
        · rcases bind_out h with h | ⟨_, q1, e2, h⟩
          · exact eat_out h
          · cases h
      · cases h'
    · exact lonesL_out ih.Lone A.Lone _ _ _ σ (Nat.lt_succ_self _) (g.to (by omega)) h
    · have h' : (match now s with | .great c => (pLones n s.tail).bind fun ks q => kTail (pKind n) (.data c ks) q | _ => (pLone n s).bind fun k q => kTail (pKind n) k q) = .out := h
      split at h'
      · rename_i c e
        have hs := now_cons e (fun q => by cases q)
        rcases bind_out h' with h | ⟨ks, q, e1, h⟩
        · exact ih.Lones _ _ (g.sub (u := [.great c]) (r := s.tail) hs (by show tot σ + (n + 1) + 2 ≤ tot σ + n + 3; omega)) h
        · obtain ⟨u, hu, hk⟩ := A.Lones _ _ _ e1
          exact kTail_out ih.Kind g (u := .great c :: u) (by rw [hs, hu]; rfl) (hk.up σ) h
      · rcases bind_out h' with h | ⟨k, q, e1, h⟩
        · exact ih.Lone _ _ (g.to (by omega)) h
        · obtain ⟨u, hu, hk⟩ := A.Lone _ _ _ e1
          exact kTail_out ih.Kind g hu (hk.up σ) h
theorem maker_out {n : Nat} {s : List Tok} {σ : Hs} (g : Hg n 2 σ s) : pMaker n s ≠ .out := fun h => by
  rcases bind_out h with h | ⟨c, r, e, h⟩
  · exact eatG_out h
  rcases bind_out h with h | ⟨ks, q, e1, h⟩
  · exact (no_outK n).Lones _ _ (g.sub (u := [.great c]) (r := r) (eatG_ok e) (Nat.le_refl _)) h
  · cases h
theorem data_out {n : Nat} {s : List Tok} (g : Hg n 2 (0, []) s) : pData n s ≠ .out := fun h => by
  rcases bind_out h with h | ⟨_, r1, e1, h⟩
  · exact eat_out h
  rcases bind_out h with h | ⟨c, r2, e2, h⟩
  · exact eatG_out h
  rcases bind_out h with h | ⟨_, r3, e3, h⟩
  · exact eat_out h
  have q1 := eat_ok e1 (fun q => by cases q)
  have q2 := eatG_ok e2
  have q3 := eat_ok e3 (fun q => by cases q)
  have q4 := smalls_eq r2
  have hs : s = (.kw .data :: .great c :: (smTk (smalls r2).1 ++ [.eq])) ++ r3 := by
    rw [q3] at q4
    rw [q1, q2]
    simp only [List.cons_append, List.append_assoc, List.nil_append]
    rw [← q4]
  have hr : run (0, []) (.kw .data :: .great c :: (smTk (smalls r2).1 ++ [.eq])) = (0, []) := by
    rw [run_cons, run_cons, run_append, run_smTk] <;> rfl
  have g1 := g.sub (m := n) (d := 2) hs (by rw [hr]; exact Nat.le_refl _)
  rw [hr] at g1
  rcases bind_out h with h | ⟨m, r4, e4, h⟩
  · exact maker_out g1 h
  obtain ⟨v1, hv1, hb1⟩ := maker_post n _ _ _ e4
  rcases bind_out h with h | ⟨ms, r5, e5, h⟩
  · refine csLoop_out (fun s σ g => maker_out g) (maker_post n) (fun a u h => h.up) (sep := .bar) (fun q => by cases q) (fun σ => rfl) _ _ r4 (run (0, []) v1) (Nat.lt_succ_self _) (fun p q e => ?_) h
    have := g1 (v1 ++ p) q (by rw [hv1, e, List.append_assoc])
    rw [run_append] at this
    rw [(hb1.up _).1]
    exact this
  · by_cases hf : now r5 = .fin
    · rw [if_pos hf] at h; cases h
    · rw [if_neg hf] at h; cases h
end K72
/-! K72H: kinds and datas: read back, doubled, left out. -/
namespace K72
mutual
def stripK : Kd → Kd
  | .num => .num
  | .var x => .var x
  | .data d ks => .data d (stripKs ks)
  | .fn a b => .fn (stripK a) (stripK b)
  | .par k => stripK k
def stripKs : List Kd → List Kd
  | [] => []
  | k :: r => stripK k :: stripKs r
end
def stripMs : List Mk → List Mk
  | [] => []
  | (c, ks) :: r => (c, stripKs ks) :: stripMs r
theorem shK_brk {n : Nat} {k : Kd} (h : lvK k < n) : shK n k = .lp :: (tk k ++ [.rp]) := if_pos h
theorem shK_bare {n : Nat} {k : Kd} (h : n ≤ lvK k) : shK n k = tk k := if_neg (by omega)
theorem cnt_shKB (n : Nat) (t : Kd) (u : List Tok) : cnt (shKB n t u) = cnt u + bkK n t := by
  unfold shKB bkK
  split
  · show cnt (u ++ [.rp]) + 1 = _
    rw [cnt_append]
    show cnt u + 0 + 1 = _
    omega
  · omega
mutual
theorem cnt_tk : ∀ k : Kd, cnt (tk k) = brK k
  | .num => rfl
  | .var x => rfl
  | .data d ks => by
    rw [tk, brK]
    exact cnt_tks ks
  | .fn a b => by
    rw [tk, brK, cnt_append, cnt_shKB, cnt_tk a]
    show brK a + bkK 1 a + cnt (tk b) = _
    rw [cnt_tk b]
  | .par k => by
    rw [tk, brK]
    show cnt (tk k ++ [.rp]) + 1 = _
    rw [cnt_append, cnt_tk k] <;> rfl
theorem cnt_tks : ∀ ks : List Kd, cnt (tks ks) = brKs ks
  | [] => rfl
  | k :: r => by rw [tks, brKs, cnt_append, cnt_shKB, cnt_tk k, cnt_tks r]
end
theorem cnt_twMs : ∀ ms : List Mk, cnt (twMs ms) = brMs ms
  | [] => rfl
  | (c, ks) :: r => by
    rw [twMs, brMs]
    show cnt (tks ks ++ _) = _
    rw [cnt_append, cnt_tks, ← cnt_twMs r]
    cases r with
    | nil => rfl
    | cons y r => rfl
theorem cnt_twD (d : Dt) : cnt (twD d) = brMs d.2.2 := by
  show cnt (smTk d.2.1 ++ .eq :: twMs d.2.2) = _
  rw [cnt_append, cnt_smTk]
  show 0 + cnt (twMs d.2.2) = _
  rw [cnt_twMs]
  omega
theorem bal_shKB {n : Nat} {t : Kd} {u : List Tok} (h : Bal u) : Bal (shKB n t u) := by
  unfold shKB
  split
  · exact h.brack
  · exact h
mutual
theorem bal_tk : ∀ k : Kd, Bal (tk k)
  | .num => rfl
  | .var x => rfl
  | .data d ks => by rw [tk]; exact Bal.cons rfl (bal_tks ks)
  | .fn a b => by rw [tk]; exact (bal_shKB (bal_tk a)).cat (Bal.cons rfl (bal_tk b))
  | .par k => by rw [tk]; exact (bal_tk k).brack
theorem bal_tks : ∀ ks : List Kd, Bal (tks ks)
  | [] => rfl
  | k :: r => by rw [tks]; exact (bal_shKB (bal_tk k)).cat (bal_tks r)
end
/-! ### heights -/
mutual
def dpK : Kd → Nat
  | .num | .var _ => 0
  | .data _ ks => dpKs ks + 1
  | .fn a b => max (dpK a) (dpK b) + 1
  | .par k => dpK k + 1
def dpKs : List Kd → Nat
  | [] => 0
  | k :: r => max (dpK k) (dpKs r)
end
def dpMs : List Mk → Nat
  | [] => 0
  | (_, ks) :: r => max (dpKs ks) (dpMs r)
def jnK (k : Kd) : Nat := if 1 ≤ lvK k then 0 else 6 * dpK k
theorem jnK_le (t : Kd) : jnK t ≤ 6 * dpK t := by unfold jnK; split <;> omega
theorem jnK_pos {t : Kd} (h : 1 ≤ lvK t) : jnK t = 0 := if_pos h
theorem high_shKB {n : Nat} {t : Kd} {u : List Tok} {j h : Nat} (hn : 1 ≤ n) (hj : 1 ≤ lvK t → j = 0) (g : High u j h) : High (shKB n t u) 0 (6 + h) := by
  unfold shKB
  split
  · exact g.brack
  · rename_i hl
    rw [hj (by omega)] at g
    exact g.le (Nat.le_refl _) (by omega)
mutual
theorem high_tk : ∀ k : Kd, High (tk k) (jnK k) (Hb (dpK k))
  | .num => by rw [tk]; exact (High.dull rfl).le (by omega) (by omega)
  | .var x => by rw [tk]; exact (High.dull rfl).le (by omega) (by omega)
  | .data d ks => by
    rw [tk]
    refine (High.cons (x := .great d) rfl (high_tks ks)).le (by omega) ?_
    show 6 + Hb (dpKs ks) ≤ Hb (dpKs ks) + 6 * (dpKs ks + 1)
    omega
  | .fn a b => by
    rw [tk]
    have ga := high_shKB (n := 1) (by omega) (fun h => jnK_pos h) (high_tk a)
    have gb := High.up (x := .arr) (fun _ => rfl) (high_tk b)
    have m1 := Hb_mono (Nat.le_max_left (dpK a) (dpK b))
    have m2 := Hb_mono (Nat.le_max_right (dpK a) (dpK b))
    have j := jnK_le b
    have l := Nat.le_max_right (dpK a) (dpK b)
    refine (ga.cat gb).le ?_ ?_
    · show 0 + (3 + jnK b) ≤ 6 * (max (dpK a) (dpK b) + 1)
      omega
    · show max (6 + Hb (dpK a)) (0 + (3 + Hb (dpK b))) ≤ Hb (max (dpK a) (dpK b)) + 6 * (max (dpK a) (dpK b) + 1)
      omega
  | .par k => by
    rw [tk]
    refine (high_tk k).brack.le (Nat.zero_le _) ?_
    show 6 + Hb (dpK k) ≤ Hb (dpK k) + 6 * (dpK k + 1)
    omega
theorem high_tks : ∀ ks : List Kd, High (tks ks) 0 (6 + Hb (dpKs ks))
  | [] => by rw [tks]; exact High.nil.le (Nat.le_refl _) (Nat.zero_le _)
  | k :: r => by
    rw [tks]
    have ga := high_shKB (n := 2) (by omega) (fun h => jnK_pos h) (high_tk k)
    have m1 := Hb_mono (Nat.le_max_left (dpK k) (dpKs r))
    have m2 := Hb_mono (Nat.le_max_right (dpK k) (dpKs r))
    refine (ga.cat (high_tks r)).le (by omega) ?_
    show max (6 + Hb (dpK k)) (0 + (6 + Hb (dpKs r))) ≤ 6 + Hb (max (dpK k) (dpKs r))
    omega
end
theorem high_shK (n : Nat) (hn : 1 ≤ n) (k : Kd) : High (shK n k) 0 (6 + Hb (dpK k)) := high_shKB hn (fun h => jnK_pos h) (high_tk k)
theorem high_twMs : ∀ ms : List Mk, HighS (twMs ms) (6 + Hb (dpMs ms))
  | [] => by rw [twMs]; exact High.nil.s.le (by omega)
  | (c, ks) :: r => by
    rw [twMs]
    have m1 := Hb_mono (Nat.le_max_left (dpKs ks) (dpMs r))
    have m2 := Hb_mono (Nat.le_max_right (dpKs ks) (dpMs r))
    have g1 : HighS (.great c :: tks ks) (6 + Hb (dpMs ((c, ks) :: r))) := (High.cons (x := .great c) rfl (high_tks ks)).s.le (show 6 + Hb (dpKs ks) ≤ 6 + Hb (max (dpKs ks) (dpMs r)) by omega)
    cases r with
    | nil =>
      have eq : (.great c :: (tks ks ++ (if (([] : List Mk).isEmpty = true) then [] else .bar :: twMs [])) : List Tok) = .great c :: tks ks := by simp
      rw [eq]
      exact g1
    | cons y r =>
      have h2 := g1.sep (x := .bar) (fun _ => rfl) ((high_twMs (y :: r)).le (show 6 + Hb (dpMs (y :: r)) ≤ 6 + Hb (max (dpKs ks) (dpMs (y :: r))) by omega))
      have eq : (.great c :: (tks ks ++ (if ((y :: r).isEmpty = true) then [] else .bar :: twMs (y :: r))) : List Tok) = .great c :: tks ks ++ .bar :: twMs (y :: r) := by simp
      rw [eq]
      exact h2
/-! ### read back -/
def FolK (r : List Tok) : Prop := beginsK r = false ∧ now r ≠ .arr
def K2 (u : List Tok) (t : Kd) : Prop := ∀ r, Ev (fun n => pLone n (u ++ r)) (.ok t r)
def K1 (u : List Tok) (t : Kd) : Prop := ∀ r x, beginsK r = false → Ev (fun n => kTail (pKind n) t r) x → Ev (fun n => pKind n (u ++ r)) x
def K0 (u : List Tok) (t : Kd) : Prop := ∀ r, FolK r → Ev (fun n => pKind n (u ++ r)) (.ok t r)
theorem K1.to0 {u : List Tok} {t : Kd} (h : K1 u t) : K0 u t := fun r hr => h r _ hr.1 (Ev.now fun n => by unfold kTail; rw [if_neg hr.2])
def HdK (u : List Tok) : Prop := ∀ r c, now (u ++ r) ≠ .great c
theorem K2.to1 {u : List Tok} {t : Kd} (hd : HdK u) (h : K2 u t) : K1 u t := fun r x hr k => by
  refine Ev.succ ?_
  refine Ev.eq (q := fun n => (pLone n (u ++ r)).bind fun k q => kTail (pKind n) k q) (Ev.bind (f := fun n a q => kTail (pKind n) a q) (h r) k) (fun n => ?_)
  show (match now (u ++ r) with | .great c => (pLones n (u ++ r).tail).bind fun ks q => kTail (pKind n) (.data c ks) q | _ => (pLone n (u ++ r)).bind fun k q => kTail (pKind n) k q) = _
  split
  · rename_i c e; exact absurd e (hd r c)
  · rfl
theorem folK_rp (r : List Tok) : FolK (.rp :: r) := ⟨rfl, fun e => by cases e⟩
theorem brackK {u : List Tok} {t : Kd} (h : K0 u t) : K2 (.lp :: (u ++ [.rp])) t := fun r => by
  refine Ev.succ ?_
  have k := h (.rp :: r) (folK_rp r)
  have e : (.lp :: (u ++ [.rp]) ++ r : List Tok) = .lp :: (u ++ .rp :: r) := by simp
  rw [e]
  show Ev (fun n => (pKind n (u ++ .rp :: r)).bind fun t q => (eat .rp q).bind fun _ q1 => .ok t q1) _
  exact Ev.bind k (Ev.now fun n => by rw [eat_cons] <;> rfl)
structure CK (k : Kd) : Prop where
  k0 : K0 (tk k) (stripK k)
  k1 : K1 (shK 1 k) (stripK k)
  k2 : K2 (shK 2 k) (stripK k)
theorem hdK_cons {x : Tok} {u : List Tok} (h : ∀ c, x ≠ .great c) : HdK (x :: u) := fun r c => h c
theorem CK.of2 {k : Kd} (hl : lvK k = 2) (hd : HdK (tk k)) (h : K2 (tk k) (stripK k)) : CK k :=
  ⟨(h.to1 hd).to0, by rw [shK_bare (by omega)]; exact h.to1 hd, by rw [shK_bare (by omega)]; exact h⟩
theorem CK.of0 {k : Kd} (hl : lvK k = 0) (h : K0 (tk k) (stripK k)) : CK k :=
  ⟨h, by rw [shK_brk (by omega)]; exact (brackK h).to1 (hdK_cons fun c e => by cases e), by rw [shK_brk (by omega)]; exact brackK h⟩
/-- lone kinds, one behind the other -/
def CKs (ks : List Kd) : Prop := ∀ r acc, beginsK r = false → Ev (fun n => lonesL (pLone n) acc (tks ks ++ r)) (.ok (acc ++ stripKs ks) r)
theorem beginsK_app {u : List Tok} (r : List Tok) (h : beginsK u = true) : beginsK (u ++ r) = true := by
  cases u with
  | nil => cases h
  | cons x u => exact h
theorem begins2 : ∀ k : Kd, beginsK (shK 2 k) = true
  | .num => rfl
  | .var _ => rfl
  | .data _ [] => rfl
  | .data _ (_ :: _) => rfl
  | .fn _ _ => rfl
  | .par _ => rfl
theorem lones_stop {p : List Tok → Res Kd} {acc : List Kd} {r : List Tok} (h : beginsK r = false) : lonesL p acc r = .ok acc r := by
  rw [lonesL, if_neg (by rw [h]; exact Bool.false_ne_true)]
theorem cks_nil : CKs [] := fun r acc hr => Ev.now fun n => by
  show lonesL (pLone n) acc r = _
  rw [lones_stop hr, stripKs, List.append_nil]
theorem cks_cons {k : Kd} {ks : List Kd} (hk : CK k) (hr : CKs ks) : CKs (k :: ks) := fun r acc hb => by
  obtain ⟨n0, h0⟩ := hk.k2 (tks ks ++ r)
  obtain ⟨n1, h1⟩ := hr r (acc ++ [stripK k]) hb
  refine ⟨max n0 n1, fun n hn => ?_⟩
  have h0' : pLone n (shK 2 k ++ (tks ks ++ r)) = .ok (stripK k) (tks ks ++ r) := h0 n (by omega)
  have h1' : lonesL (pLone n) (acc ++ [stripK k]) (tks ks ++ r) = .ok (acc ++ [stripK k] ++ stripKs ks) r := h1 n (by omega)
  have e : tks (k :: ks) ++ r = shK 2 k ++ (tks ks ++ r) := by rw [tks, List.append_assoc]
  show lonesL (pLone n) acc (tks (k :: ks) ++ r) = _
  rw [e, lonesL, if_pos (beginsK_app _ (begins2 k)), h0', ok_bind]
  have hl : (tks ks ++ r).length < (shK 2 k ++ (tks ks ++ r)).length := by
    have : shK 2 k ≠ [] := fun e => by have := begins2 k; rw [e] at this; cases this
    have := List.length_pos_iff.mpr this
    rw [List.length_append (as := shK 2 k)]
    omega
  rw [dif_pos hl, h1', List.append_assoc] <;> rfl
theorem data_k1 {d : L} {ks : List Kd} (h : CKs ks) : K1 (tk (.data d ks)) (stripK (.data d ks)) := fun r x hr k => by
  rw [tk]
  refine Ev.succ ?_
  refine Ev.eq (q := fun n => (pLones n (tks ks ++ r)).bind fun ks q => kTail (pKind n) (.data d ks) q) ?_ (fun n => rfl)
  refine Ev.bind (f := fun n ks q => kTail (pKind n) (.data d ks) q) (a := stripKs ks) (r := r) (Ev.succ ((h r [] hr).eq fun n => rfl)) ?_
  rw [stripK] at k
  exact k
theorem fn_k0 {a b : Kd} (ha : CK a) (hb : CK b) : K0 (tk (.fn a b)) (stripK (.fn a b)) := fun r hr => by
  rw [tk, stripK]
  show Ev (fun n => pKind n (shK 1 a ++ .arr :: tk b ++ r)) _
  rw [List.append_assoc]
  refine ha.k1 _ _ rfl ?_
  refine Ev.eq (q := fun n => (pKind n (tk b ++ r)).bind fun c q1 => .ok (Kd.fn (stripK a) c) q1) (Ev.bind (hb.k0 r hr) (Ev.now fun n => rfl)) (fun n => ?_)
  unfold kTail
  rw [if_pos (show now (Tok.arr :: tk b ++ r) = .arr from rfl)] <;> rfl
mutual
theorem ck : ∀ k : Kd, CK k
  | .num => .of2 rfl (by rw [tk]; exact hdK_cons fun c e => by cases e) (fun r => Ev.succ (Ev.now fun n => by rw [tk]; rfl))
  | .var x => .of2 rfl (by rw [tk]; exact hdK_cons fun c e => by cases e) (fun r => Ev.succ (Ev.now fun n => by rw [tk]; rfl))
  | .par k => .of2 rfl (by rw [tk]; exact hdK_cons fun c e => by cases e) (by rw [tk]; exact brackK (ck k).k0)
  | .fn a b => .of0 rfl (fn_k0 (ck a) (ck b))
  | .data d [] => by
    have h1 := data_k1 (d := d) cks_nil
    exact ⟨h1.to0, by rw [shK_bare (show 1 ≤ 2 by omega)]; exact h1, by rw [shK_bare (show 2 ≤ 2 by omega)]; exact fun r => Ev.succ (Ev.now fun n => by rw [tk]; rfl)⟩
  | .data d (k :: ks) => by
    have h1 := data_k1 (d := d) (cks_cons (ck k) (cks ks))
    exact ⟨h1.to0, by rw [shK_bare (show 1 ≤ 1 by omega)]; exact h1, by rw [shK_brk (show 1 < 2 by omega)]; exact brackK h1.to0⟩
theorem cks : ∀ ks : List Kd, CKs ks
  | [] => cks_nil
  | k :: r => cks_cons (ck k) (cks r)
end
theorem maker_ev (c : L) (ks : List Kd) {r : List Tok} (hr : beginsK r = false) : Ev (fun n => pMaker n (.great c :: (tks ks ++ r))) (.ok (c, stripKs ks) r) := by
  refine Ev.eq (q := fun n => (pLones n (tks ks ++ r)).bind fun ks q => .ok (c, ks) q) (Ev.bind (a := stripKs ks) (r := r) (Ev.succ ((cks ks r [] hr).eq fun n => rfl)) (Ev.now fun n => rfl)) (fun n => rfl)
theorem makers_ev : ∀ (ms : List Mk), ms ≠ [] → ∀ (acc : List Mk), Ev (fun n => csLoop .bar (pMaker n) acc (.bar :: (twMs ms ++ [.fin]))) (.ok (acc ++ stripMs ms) [.fin])
  | [], h, _ => absurd rfl h
  | [(c, ks)], _, acc => by
    obtain ⟨n0, h0⟩ := maker_ev c ks (r := [.fin]) rfl
    refine ⟨n0, fun n hn => ?_⟩
    have h0' : pMaker n (.great c :: (tks ks ++ [.fin])) = .ok (c, stripKs ks) [.fin] := h0 n hn
    have e : twMs [(c, ks)] ++ [.fin] = .great c :: (tks ks ++ [.fin]) := by rw [twMs]; simp
    show csLoop .bar (pMaker n) acc (.bar :: (twMs [(c, ks)] ++ [.fin])) = _
    rw [e, csLoop, if_pos (show now (Tok.bar :: (.great c :: (tks ks ++ [.fin]))) = .bar from rfl)]
    show (pMaker n (.great c :: (tks ks ++ [.fin]))).bind _ = _
    rw [h0', ok_bind, dif_pos (by simp), csLoop, if_neg (fun e => by cases e)] <;> rfl
  | (c, ks) :: y :: r, _, acc => by
    obtain ⟨n0, h0⟩ := maker_ev c ks (r := .bar :: (twMs (y :: r) ++ [.fin])) rfl
    obtain ⟨n1, h1⟩ := makers_ev (y :: r) (fun e => by cases e) (acc ++ [(c, stripKs ks)])
    refine ⟨max n0 n1, fun n hn => ?_⟩
    have h0' : pMaker n (.great c :: (tks ks ++ .bar :: (twMs (y :: r) ++ [.fin]))) = .ok (c, stripKs ks) (.bar :: (twMs (y :: r) ++ [.fin])) := h0 n (by omega)
    have h1' : csLoop .bar (pMaker n) (acc ++ [(c, stripKs ks)]) (.bar :: (twMs (y :: r) ++ [.fin])) = .ok (acc ++ [(c, stripKs ks)] ++ stripMs (y :: r)) [.fin] := h1 n (by omega)
    have e : twMs ((c, ks) :: y :: r) ++ [.fin] = .great c :: (tks ks ++ .bar :: (twMs (y :: r) ++ [.fin])) := by rw [twMs]; simp
    show csLoop .bar (pMaker n) acc (.bar :: (twMs ((c, ks) :: y :: r) ++ [.fin])) = _
    rw [e, csLoop, if_pos (show now (Tok.bar :: (.great c :: (tks ks ++ .bar :: (twMs (y :: r) ++ [.fin])))) = .bar from rfl)]
    show (pMaker n (.great c :: (tks ks ++ .bar :: (twMs (y :: r) ++ [.fin])))).bind _ = _
    rw [h0', ok_bind, dif_pos (by simp; omega), h1', List.append_assoc] <;> rfl
/-- a data with brackets more is read -/
theorem data_ev (d : L) (ps : List L) (ms : List Mk) (hne : ms ≠ []) : Ev (fun n => pData n (twD (d, ps, ms) ++ [.fin])) (.ok (d, ps, stripMs ms) [.fin]) := by
  have e : (twD (d, ps, ms) ++ [.fin] : List Tok) = .kw .data :: .great d :: (smTk ps ++ .eq :: (twMs ms ++ [.fin])) := by unfold twD; simp
  rw [e]
  have e2 : smalls (smTk ps ++ .eq :: (twMs ms ++ [.fin])) = (ps, .eq :: (twMs ms ++ [.fin])) := smalls_app ps _ (fun x e => by cases e)
  refine Ev.eq (q := fun n => (pMaker n (twMs ms ++ [.fin])).bind fun m q => (csLoop .bar (pMaker n) [m] q).bind fun ms q1 => if now q1 = .fin then .ok (d, ps, ms) q1 else .fail) ?_ (fun n => ?_)
  · match ms, hne with
    | [(c, ks)], _ =>
      have e3 : twMs [(c, ks)] ++ [.fin] = .great c :: (tks ks ++ [.fin]) := by rw [twMs]; simp
      rw [e3]
      refine Ev.bind (maker_ev c ks (r := [.fin]) rfl) (Ev.now fun n => ?_)
      rw [csLoop, if_neg (fun e => by cases e), ok_bind, if_pos (show now [Tok.fin] = .fin from rfl)] <;> rfl
    | (c, ks) :: y :: r, _ =>
      have e3 : twMs ((c, ks) :: y :: r) ++ [.fin] = .great c :: (tks ks ++ .bar :: (twMs (y :: r) ++ [.fin])) := by rw [twMs]; simp
      rw [e3]
      refine Ev.bind (maker_ev c ks (r := .bar :: (twMs (y :: r) ++ [.fin])) rfl) ?_
      refine Ev.bind (makers_ev (y :: r) (fun e => by cases e) [(c, stripKs ks)]) (Ev.now fun n => ?_)
      rw [if_pos (show now [Tok.fin] = .fin from rfl)] <;> rfl
  · show (eat (.kw .data) (.kw .data :: .great d :: (smTk ps ++ .eq :: (twMs ms ++ [.fin])))).bind _ = _
    rw [eat_cons, ok_bind, eatG_cons, ok_bind, e2]
    show (eat .eq (.eq :: (twMs ms ++ [.fin]))).bind _ = _
    rw [eat_cons] <;> rfl
/-! ### one pair twice, or left out -/
mutual
def puK : Kd → Prop
  | .num | .var _ => True
  | .data _ ks => puKs ks
  | .fn a b => puK a ∧ puK b
  | .par _ => False
def puKs : List Kd → Prop
  | [] => True
  | k :: r => puK k ∧ puKs r
end
def puMs : List Mk → Prop
  | [] => True
  | (_, ks) :: r => puKs ks ∧ puMs r
mutual
theorem stripK_pu : ∀ k : Kd, puK k → stripK k = k
  | .num, _ => rfl
  | .var _, _ => rfl
  | .data _ ks, h => by rw [stripK, stripKs_pu ks h]
  | .fn a b, h => by rw [stripK, stripK_pu a h.1, stripK_pu b h.2]
theorem stripKs_pu : ∀ ks : List Kd, puKs ks → stripKs ks = ks
  | [], _ => rfl
  | k :: r, h => by rw [stripKs, stripK_pu k h.1, stripKs_pu r h.2]
end
theorem stripMs_pu : ∀ ms : List Mk, puMs ms → stripMs ms = ms
  | [], _ => rfl
  | (_, ks) :: r, h => by rw [stripMs, stripKs_pu ks h.1, stripMs_pu r h.2]
def jd (k : Kd) : Nat := if 1 ≤ lvK k then 6 * dpK k else 12 * dpK k
theorem jd_le (k : Kd) : jd k ≤ 12 * dpK k := by unfold jd; split <;> omega
theorem jd_pos {k : Kd} (h : 1 ≤ lvK k) : jd k = 6 * dpK k := if_pos h
structure Dk (k : Kd) (A B C : List Tok) (k' : Kd) : Prop where
  w : tk k' = A ++ .lp :: .lp :: (B ++ .rp :: .rp :: C)
  s : stripK k' = stripK k
  l : lvK k' = lvK k
  d : dpK k' ≤ dpK k + 2
  h : High (A ++ (B ++ C)) (jd k) (Hb (dpK k) + 6 * dpK k)
structure Dsk (n : Nat) (k : Kd) (A B C : List Tok) (k' : Kd) : Prop where
  w : shKB n k' (tk k') = A ++ .lp :: .lp :: (B ++ .rp :: .rp :: C)
  s : stripK k' = stripK k
  d : dpK k' ≤ dpK k + 2
  h : High (A ++ (B ++ C)) (6 * dpK k) (Hb (dpK k) + 6 * dpK k + 6)
structure Dks (ks : List Kd) (A B C : List Tok) (ks' : List Kd) : Prop where
  w : tks ks' = A ++ .lp :: .lp :: (B ++ .rp :: .rp :: C)
  s : stripKs ks' = stripKs ks
  n : ks'.isEmpty = ks.isEmpty
  d : dpKs ks' ≤ dpKs ks + 2
  h : High (A ++ (B ++ C)) (6 * dpKs ks) (Hb (dpKs ks) + 6 * dpKs ks + 6)
structure Dms (ms : List Mk) (A B C : List Tok) (ms' : List Mk) : Prop where
  w : twMs ms' = A ++ .lp :: .lp :: (B ++ .rp :: .rp :: C)
  s : stripMs ms' = stripMs ms
  n : ms'.isEmpty = ms.isEmpty
  d : dpMs ms' ≤ dpMs ms + 2
  h : HighS (A ++ (B ++ C)) (Hb (dpMs ms) + 6 * dpMs ms + 6)
theorem dsk_of {n : Nat} {k : Kd} {A B C : List Tok} (hn : 1 ≤ n ∧ n ≤ 2) (e : shKB n k (tk k) = A ++ .lp :: (B ++ .rp :: C)) (hb : Bal B)
    (kk : ∀ A B C, tk k = A ++ .lp :: (B ++ .rp :: C) → Bal B → ∃ k', Dk k A B C k') : ∃ k', Dsk n k A B C k' := by
  by_cases hl : lvK k < n
  · rw [show shKB n k (tk k) = .lp :: (tk k ++ [.rp]) from shK_brk hl] at e
    rcases split_brack e (bal_tk k) hb with ⟨rfl, rfl, rfl⟩ | ⟨A1, C1, rfl, rfl, e1⟩
    · refine ⟨.par (.par k), ?_, rfl, ?_, ?_⟩
      · rw [show shKB n (.par (.par k)) (tk (.par (.par k))) = tk (.par (.par k)) from shK_bare (show n ≤ 2 from hn.2), tk, tk]
        simp
      · show dpK k + 1 + 1 ≤ dpK k + 2
        omega
      · have g := high_tk k
        have j := jnK_le k
        rw [List.append_nil]
        exact g.le (by omega) (by omega)
    · obtain ⟨k', g⟩ := kk A1 B C1 e1 hb
      refine ⟨k', ?_, g.s, g.d, ?_⟩
      · rw [show shKB n k' (tk k') = .lp :: (tk k' ++ [.rp]) from shK_brk (by rw [g.l]; exact hl), g.w]
        simp
      · have h1 := g.h.brack
        have eq : (.lp :: A1 ++ (B ++ (C1 ++ [.rp])) : List Tok) = .lp :: ((A1 ++ (B ++ C1)) ++ [.rp]) := by simp
        rw [eq]
        exact h1.le (Nat.zero_le _) (by omega)
  · rw [show shKB n k (tk k) = tk k from shK_bare (by omega)] at e
    obtain ⟨k', g⟩ := kk A B C e hb
    refine ⟨k', ?_, g.s, g.d, g.h.le (by rw [jd_pos (by omega)]; exact Nat.le_refl _) (by omega)⟩
    rw [show shKB n k' (tk k') = tk k' from shK_bare (by rw [g.l]; omega), g.w]
theorem fn_dk {a b : Kd} {A B C : List Tok} (e : tk (.fn a b) = A ++ .lp :: (B ++ .rp :: C)) (hb : Bal B)
    (ka : ∀ A B C, tk a = A ++ .lp :: (B ++ .rp :: C) → Bal B → ∃ k', Dk a A B C k') (kb : ∀ A B C, tk b = A ++ .lp :: (B ++ .rp :: C) → Bal B → ∃ k', Dk b A B C k') : ∃ k', Dk (.fn a b) A B C k' := by
  rw [tk] at e
  have m1 := Hb_mono (Nat.le_max_left (dpK a) (dpK b))
  have m2 := Hb_mono (Nat.le_max_right (dpK a) (dpK b))
  have l1 := Nat.le_max_left (dpK a) (dpK b)
  have l2 := Nat.le_max_right (dpK a) (dpK b)
  have jb := jnK_le b
  have jb2 := jd_le b
  rcases split2 _ _ _ _ _ 0 e (bal_shKB (bal_tk a)) hb with ⟨C1, e2, rfl⟩ | ⟨A2, rfl, e2⟩
  · obtain ⟨a', g⟩ := dsk_of (by omega) e2 hb ka
    refine ⟨.fn a' b, ?_, ?_, rfl, ?_, ?_⟩
    · rw [tk, g.w]
      simp
    · rw [stripK, stripK, g.s]
    · show max (dpK a') (dpK b) + 1 ≤ max (dpK a) (dpK b) + 1 + 2
      have := g.d
      omega
    · have h1 := g.h.cat (High.up (x := .arr) (fun _ => rfl) (high_tk b))
      have eq : (A ++ (B ++ (C1 ++ .arr :: tk b)) : List Tok) = (A ++ (B ++ C1)) ++ .arr :: tk b := by simp
      rw [eq]
      refine h1.le ?_ ?_
      · show 6 * dpK a + (3 + jnK b) ≤ 12 * (max (dpK a) (dpK b) + 1)
        omega
      · show max (Hb (dpK a) + 6 * dpK a + 6) (6 * dpK a + (3 + Hb (dpK b))) ≤ Hb (max (dpK a) (dpK b)) + 6 * (max (dpK a) (dpK b) + 1) + 6 * (max (dpK a) (dpK b) + 1)
        omega
  · obtain ⟨A3, rfl, e3⟩ := split_cons e2 (fun q => by cases q)
    obtain ⟨b', g⟩ := kb _ _ _ e3 hb
    refine ⟨.fn a b', ?_, ?_, rfl, ?_, ?_⟩
    · rw [tk, g.w]
      simp
    · rw [stripK, stripK, g.s]
    · show max (dpK a) (dpK b') + 1 ≤ max (dpK a) (dpK b) + 1 + 2
      have := g.d
      omega
    · have h1 := (high_shK 1 (by omega) a).cat (High.up (x := .arr) (fun _ => rfl) g.h)
      have eq : (shKB 1 a (tk a) ++ .arr :: A3 ++ (B ++ C) : List Tok) = shK 1 a ++ .arr :: (A3 ++ (B ++ C)) := by simp
      rw [eq]
      refine h1.le ?_ ?_
      · show 0 + (3 + jd b) ≤ 12 * (max (dpK a) (dpK b) + 1)
        omega
      · show max (6 + Hb (dpK a)) (0 + (3 + (Hb (dpK b) + 6 * dpK b))) ≤ Hb (max (dpK a) (dpK b)) + 6 * (max (dpK a) (dpK b) + 1) + 6 * (max (dpK a) (dpK b) + 1)
        omega
theorem ks_dk {k : Kd} {r : List Kd} {A B C : List Tok} (e : tks (k :: r) = A ++ .lp :: (B ++ .rp :: C)) (hb : Bal B)
    (ka : ∀ A B C, tk k = A ++ .lp :: (B ++ .rp :: C) → Bal B → ∃ k', Dk k A B C k') (kb : ∀ A B C, tks r = A ++ .lp :: (B ++ .rp :: C) → Bal B → ∃ r', Dks r A B C r') : ∃ ks', Dks (k :: r) A B C ks' := by
  rw [tks] at e
  have m1 := Hb_mono (Nat.le_max_left (dpK k) (dpKs r))
  have m2 := Hb_mono (Nat.le_max_right (dpK k) (dpKs r))
  have l1 := Nat.le_max_left (dpK k) (dpKs r)
  have l2 := Nat.le_max_right (dpK k) (dpKs r)
  rcases split2 _ _ _ _ _ 0 e (bal_shKB (bal_tk k)) hb with ⟨C1, e2, rfl⟩ | ⟨A2, rfl, e2⟩
  · obtain ⟨k', g⟩ := dsk_of (by omega) e2 hb ka
    refine ⟨k' :: r, ?_, ?_, rfl, ?_, ?_⟩
    · rw [tks, g.w]
      simp
    · rw [stripKs, stripKs, g.s]
    · show max (dpK k') (dpKs r) ≤ max (dpK k) (dpKs r) + 2
      have := g.d
      omega
    · have h1 := g.h.cat (high_tks r)
      have eq : (A ++ (B ++ (C1 ++ tks r)) : List Tok) = (A ++ (B ++ C1)) ++ tks r := by simp
      rw [eq]
      refine h1.le ?_ ?_
      · show 6 * dpK k + 0 ≤ 6 * max (dpK k) (dpKs r)
        omega
      · show max (Hb (dpK k) + 6 * dpK k + 6) (6 * dpK k + (6 + Hb (dpKs r))) ≤ Hb (max (dpK k) (dpKs r)) + 6 * max (dpK k) (dpKs r) + 6
        omega
  · obtain ⟨r', g⟩ := kb _ _ _ e2 hb
    refine ⟨k :: r', ?_, ?_, rfl, ?_, ?_⟩
    · rw [tks, g.w]
      simp
    · rw [stripKs, stripKs, g.s]
    · show max (dpK k) (dpKs r') ≤ max (dpK k) (dpKs r) + 2
      have := g.d
      omega
    · have h1 := (high_shK 2 (by omega) k).cat g.h
      have eq : (shKB 2 k (tk k) ++ A2 ++ (B ++ C) : List Tok) = shK 2 k ++ (A2 ++ (B ++ C)) := by simp
      rw [eq]
      refine h1.le ?_ ?_
      · show 0 + 6 * dpKs r ≤ 6 * max (dpK k) (dpKs r)
        omega
      · show max (6 + Hb (dpK k)) (0 + (Hb (dpKs r) + 6 * dpKs r + 6)) ≤ Hb (max (dpK k) (dpKs r)) + 6 * max (dpK k) (dpKs r) + 6
        omega
mutual
theorem dk : ∀ (k : Kd), puK k → ∀ (A B C : List Tok), tk k = A ++ .lp :: (B ++ .rp :: C) → Bal B → ∃ k', Dk k A B C k'
  | .num, _, A, B, C, e, hb => by rw [tk] at e; exact (no_lp1 (fun q => by cases q) e).elim
  | .var x, _, A, B, C, e, hb => by rw [tk] at e; exact (no_lp1 (fun q => by cases q) e).elim
  | .fn a b, hp, A, B, C, e, hb => fn_dk e hb (dk a hp.1) (dk b hp.2)
  | .data d ks, hp, A, B, C, e, hb => by
    rw [tk] at e
    obtain ⟨A1, rfl, e1⟩ := split_cons e (fun q => by cases q)
    obtain ⟨ks', g⟩ := dks ks hp _ _ _ e1 hb
    have el : lvK (.data d ks') = lvK (.data d ks) := by
      have := g.n
      cases ks <;> cases ks' <;> first | rfl | cases this
    have ln : 1 ≤ lvK (.data d ks) := by
      cases ks with
      | nil => show 1 ≤ 2; omega
      | cons y r => show 1 ≤ 1; omega
    refine ⟨.data d ks', ?_, ?_, el, ?_, ?_⟩
    · rw [tk, g.w] <;> rfl
    · rw [stripK, stripK, g.s]
    · show dpKs ks' + 1 ≤ dpKs ks + 1 + 2
      have := g.d
      omega
    · rw [jd_pos ln]
      refine (High.cons (x := .great d) rfl g.h).le ?_ ?_
      · show 6 * dpKs ks ≤ 6 * (dpKs ks + 1)
        omega
      · show Hb (dpKs ks) + 6 * dpKs ks + 6 ≤ Hb (dpKs ks) + 6 * (dpKs ks + 1) + 6 * (dpKs ks + 1)
        omega
theorem dks : ∀ (ks : List Kd), puKs ks → ∀ (A B C : List Tok), tks ks = A ++ .lp :: (B ++ .rp :: C) → Bal B → ∃ ks', Dks ks A B C ks'
  | [], _, A, B, C, e, hb => by rw [tks] at e; exact (no_lp e).elim
  | k :: r, hp, A, B, C, e, hb => ks_dk e hb (dk k hp.1) (dks r hp.2)
end
theorem dms : ∀ (ms : List Mk), puMs ms → ∀ (A B C : List Tok), twMs ms = A ++ .lp :: (B ++ .rp :: C) → Bal B → ∃ ms', Dms ms A B C ms'
  | [], _, A, B, C, e, hb => by rw [twMs] at e; exact (no_lp e).elim
  | (c, ks) :: r, hp, A, B, C, e, hb => by
    rw [twMs] at e
    obtain ⟨A1, rfl, e1⟩ := split_cons e (fun q => by cases q)
    have m1 := Hb_mono (Nat.le_max_left (dpKs ks) (dpMs r))
    have m2 := Hb_mono (Nat.le_max_right (dpKs ks) (dpMs r))
    have l1 := Nat.le_max_left (dpKs ks) (dpMs r)
    have l2 := Nat.le_max_right (dpKs ks) (dpMs r)
    rcases split2 _ _ _ _ _ 0 e1 (bal_tks ks) hb with ⟨C1, e2, rfl⟩ | ⟨A2, rfl, e2⟩
    · obtain ⟨ks', g⟩ := dks ks hp.1 _ _ _ e2 hb
      refine ⟨(c, ks') :: r, ?_, ?_, rfl, ?_, ?_⟩
      · rw [twMs, g.w]
        simp
      · rw [stripMs, stripMs, g.s]
      · show max (dpKs ks') (dpMs r) ≤ max (dpKs ks) (dpMs r) + 2
        have := g.d
        omega
      · have h1 : HighS (.great c :: (A1 ++ (B ++ C1))) (Hb (max (dpKs ks) (dpMs r)) + 6 * max (dpKs ks) (dpMs r) + 6) := (High.cons (x := .great c) rfl g.h).s.le (by omega)
        show HighS _ (Hb (max (dpKs ks) (dpMs r)) + 6 * max (dpKs ks) (dpMs r) + 6)
        cases r with
        | nil =>
          have eq : (.great c :: A1 ++ (B ++ (C1 ++ (if (([] : List Mk).isEmpty = true) then [] else .bar :: twMs []))) : List Tok) = .great c :: (A1 ++ (B ++ C1)) := by simp
          rw [eq]
          exact h1
        | cons y r =>
          have h2 := h1.sep (x := .bar) (fun _ => rfl) ((high_twMs (y :: r)).le (show 6 + Hb (dpMs (y :: r)) ≤ Hb (max (dpKs ks) (dpMs (y :: r))) + 6 * max (dpKs ks) (dpMs (y :: r)) + 6 by omega))
          have eq : (.great c :: A1 ++ (B ++ (C1 ++ (if ((y :: r).isEmpty = true) then [] else .bar :: twMs (y :: r)))) : List Tok) = .great c :: (A1 ++ (B ++ C1)) ++ .bar :: twMs (y :: r) := by simp
          rw [eq]
          exact h2
    · cases r with
      | nil => exact (no_lp e2).elim
      | cons y r =>
        have e3 : Tok.bar :: twMs (y :: r) = A2 ++ .lp :: (B ++ .rp :: C) := e2
        obtain ⟨A3, rfl, e4⟩ := split_cons e3 (fun q => by cases q)
        obtain ⟨r', g⟩ := dms (y :: r) hp.2 _ _ _ e4 hb
        have em : r'.isEmpty = false := g.n
        refine ⟨(c, ks) :: r', ?_, ?_, rfl, ?_, ?_⟩
        · rw [twMs, em, g.w]
          simp
        · rw [stripMs, stripMs, g.s]
        · show max (dpKs ks) (dpMs r') ≤ max (dpKs ks) (dpMs (y :: r)) + 2
          have := g.d
          omega
        · have h1 : HighS (.great c :: tks ks) (Hb (max (dpKs ks) (dpMs (y :: r))) + 6 * max (dpKs ks) (dpMs (y :: r)) + 6) := (High.cons (x := .great c) rfl (high_tks ks)).s.le (by omega)
          have h2 := h1.sep (x := .bar) (fun _ => rfl) (g.h.le (show Hb (dpMs (y :: r)) + 6 * dpMs (y :: r) + 6 ≤ Hb (max (dpKs ks) (dpMs (y :: r))) + 6 * max (dpKs ks) (dpMs (y :: r)) + 6 by omega))
          have eq : (.great c :: (tks ks ++ .bar :: A3) ++ (B ++ C) : List Tok) = .great c :: tks ks ++ .bar :: (A3 ++ (B ++ C)) := by simp
          rw [eq]
          exact h2
/-! ### what the law asks of a data's row -/
theorem row_split {d : Dt} {A B C : List Tok} (e : twD d = A ++ .lp :: (B ++ .rp :: C)) : ∃ A1, A = .kw .data :: .great d.1 :: (smTk d.2.1 ++ .eq :: A1) ∧ twMs d.2.2 = A1 ++ .lp :: (B ++ .rp :: C) := by
  unfold twD at e
  obtain ⟨A1, rfl, e1⟩ := split_cons e (fun q => by cases q)
  obtain ⟨A2, rfl, e2⟩ := split_cons e1 (fun q => by cases q)
  obtain ⟨A3, rfl, e3⟩ := sm_split _ e2
  obtain ⟨A4, rfl, e4⟩ := split_cons e3 (fun q => by cases q)
  exact ⟨A4, rfl, e4⟩
/-- a row whose makers are not high -/
theorem data_not_out {n : Nat} {c : L} {xs : List L} {u : List Tok} {h : Nat} (g : HighS u h) (hn : h + 2 ≤ n) : pData n (.kw .data :: .great c :: (smTk xs ++ .eq :: u) ++ [.fin]) ≠ .out := by
  refine data_out fun p q e => ?_
  have pre : ∀ v, run (0, []) (.kw .data :: .great c :: (smTk xs ++ .eq :: v)) = run (0, []) v := fun v => by
    rw [run_cons, run_cons, run_append, run_smTk, run_cons] <;> rfl
  have t0 : tot ((0, []) : Hs) = 0 := rfl
  have hp : ∀ (v w : List Tok), u ++ [.fin] = v ++ w → tot (run (0, []) v) ≤ h := fun v w e => by
    rcases List.append_eq_append_iff.mp e with ⟨a, e1, e2⟩ | ⟨a, e1, e2⟩
    · have q0 := g.top [] u [] (by simp)
      have z : ([] : List Nat).sum = 0 := rfl
      rw [z] at q0
      cases a with
      | nil =>
        rw [e1, List.append_nil]
        omega
      | cons y a =>
        rw [List.cons_append] at e2
        injection e2 with e3 e4
        have : a = [] := (List.append_eq_nil_iff.mp e4.symm).1
        subst this e3
        rw [e1, run_append]
        show tot (run (0, []) u) ≤ h
        omega
    · have := g.top [] v a e1
      have z : ([] : List Nat).sum = 0 := rfl
      rw [z] at this
      omega
  have small : ∀ (xs : List L) (p q : List Tok), smTk xs ++ (.eq :: u ++ [.fin]) = p ++ q → tot (run (0, []) p) ≤ h := fun xs => by
    induction xs with
    | nil =>
      intro p q e
      cases p with
      | nil => exact Nat.zero_le _
      | cons y p =>
        have e' : Tok.eq :: (u ++ [.fin]) = y :: (p ++ q) := e
        injection e' with e1 e2
        subst e1
        exact hp p q e2
    | cons x r ih =>
      intro p q e
      cases p with
      | nil => exact Nat.zero_le _
      | cons y p =>
        have e' : Tok.small x :: (smTk r ++ (.eq :: u ++ [.fin])) = y :: (p ++ q) := e
        injection e' with e1 e2
        subst e1
        exact ih p q e2
  rw [t0]
  have : tot (run (0, []) p) ≤ h := by
    have e' : (.kw .data :: .great c :: (smTk xs ++ (.eq :: u ++ [.fin])) : List Tok) = p ++ q := by
      rw [← e]
      simp
    cases p with
    | nil => exact Nat.zero_le _
    | cons y p =>
      rw [List.cons_append] at e'
      injection e' with e1 e2
      subst e1
      cases p with
      | nil => exact Nat.zero_le _
      | cons y p =>
        have e5 : Tok.great c :: (smTk xs ++ (.eq :: u ++ [.fin])) = y :: (p ++ q) := e2
        injection e5 with e3 e4
        subst e3
        exact small xs p q e4
  omega
theorem data_back {d : L} {ps : List L} {ms : List Mk} (hne : ms ≠ []) {n : Nat} (hn : 6 + Hb (dpMs ms) + 2 ≤ n) : pData n (twD (d, ps, ms) ++ [.fin]) = .ok (d, ps, stripMs ms) [.fin] := by
  obtain ⟨n0, h0⟩ := data_ev d ps ms hne
  have hno : pData n (twD (d, ps, ms) ++ [.fin]) ≠ .out := data_not_out (high_twMs ms) hn
  have h1 := h0 (n + n0) (by omega)
  rcases le_add (n := n) (s := twD (d, ps, ms) ++ [.fin]) pData_le n0 with e | e
  · exact absurd e hno
  · rw [← e]; exact h1
theorem data_less {d d' : Dt} {A B C : List Tok} (e : twD d = A ++ .lp :: (B ++ .rp :: C)) {n : Nat} {r : List Tok} (h : pData n (A ++ (B ++ C) ++ [.fin]) = .ok d' r) : d' ≠ d := fun q => by
  obtain ⟨u, hu, _, h1, _⟩ := data_post h
  have h2 := cnt_twD d
  rw [q] at h1
  rw [e] at h2
  have h0 := congrArg cnt hu
  simp only [cnt_append] at h0 h2
  have h3 : cnt (.lp :: (B ++ .rp :: C)) = cnt (B ++ .rp :: C) + 1 := rfl
  have h4 : cnt (.rp :: C) = cnt C := rfl
  have h5 : cnt [Tok.fin] = 0 := rfl
  rw [h3, cnt_append, h4] at h2
  omega
end K72
/-! K72I: what means the same has no more brackets than what was read. -/
namespace K72
mutual
theorem pu_strip : ∀ t : Tm, pu (strip t)
  | .num _ => trivial
  | .name _ => trivial
  | .make _ => trivial
  | .app a b => ⟨pu_strip a, pu_strip b⟩
  | .op _ a b => ⟨pu_strip a, pu_strip b⟩
  | .fn _ b => pu_strip b
  | .lt ps b => ⟨pu_stripPs ps, pu_strip b⟩
  | .cs e ws => ⟨pu_strip e, pu_stripWs ws⟩
  | .par t => pu_strip t
theorem pu_stripPs : ∀ ps : List (L × Tm), puPs (stripPs ps)
  | [] => trivial
  | (_, t) :: r => ⟨pu_strip t, pu_stripPs r⟩
theorem pu_stripWs : ∀ ws : List (L × List L × Tm), puWs (stripWs ws)
  | [] => trivial
  | (_, _, t) :: r => ⟨pu_strip t, pu_stripWs r⟩
end
theorem brk_one (n : Nat) (t : Tm) : brk n t ≤ 1 := by unfold brk; split <;> omega
theorem ow1 (o : Op) : ow o + 1 ≤ 4 ∧ max (ow o) 1 ≤ 4 := by cases o <;> decide
mutual
theorem br_strip : ∀ (t : Tm) (n : Nat), n ≤ 4 → br (strip t) + brk n (strip t) ≤ br t + brk n t
  | .num _, n, _ => Nat.le_refl _
  | .name _, n, _ => Nat.le_refl _
  | .make _, n, _ => Nat.le_refl _
  | .app a b, n, _ => by
    have h1 := br_strip a 3 (by omega)
    have h2 := br_strip b 4 (by omega)
    show ((br (strip a) + brk 3 (strip a)) + (br (strip b) + brk 4 (strip b))) + brk n (.app (strip a) (strip b)) ≤ ((br a + brk 3 a) + (br b + brk 4 b)) + brk n (.app a b)
    have e : brk n (.app (strip a) (strip b)) = brk n (.app a b) := rfl
    omega
  | .op o a b, n, _ => by
    have h1 := br_strip a (max (ow o) 1) (ow1 o).2
    have h2 := br_strip b (ow o + 1) (ow1 o).1
    show ((br (strip a) + brk (max (ow o) 1) (strip a)) + (br (strip b) + brk (ow o + 1) (strip b))) + brk n (.op o (strip a) (strip b)) ≤ ((br a + brk (max (ow o) 1) a) + (br b + brk (ow o + 1) b)) + brk n (.op o a b)
    have e : brk n (.op o (strip a) (strip b)) = brk n (.op o a b) := rfl
    omega
  | .fn x b, n, _ => by
    have h2 := br_strip b 0 (by omega)
    have e1 : brk 0 (strip b) = 0 := if_neg (by omega)
    have e2 : brk 0 b = 0 := if_neg (by omega)
    show br (strip b) + brk n (.fn x (strip b)) ≤ br b + brk n (.fn x b)
    have e : brk n (.fn x (strip b)) = brk n (.fn x b) := rfl
    omega
  | .lt ps b, n, _ => by
    have h1 := br_stripPs ps
    have h2 := br_strip b 0 (by omega)
    have e1 : brk 0 (strip b) = 0 := if_neg (by omega)
    have e2 : brk 0 b = 0 := if_neg (by omega)
    show brPs (stripPs ps) + br (strip b) + brk n (.lt (stripPs ps) (strip b)) ≤ brPs ps + br b + brk n (.lt ps b)
    have e : brk n (.lt (stripPs ps) (strip b)) = brk n (.lt ps b) := rfl
    omega
  | .cs x ws, n, _ => by
    have h1 := br_stripWs ws
    have h2 := br_strip x 0 (by omega)
    have e1 : brk 0 (strip x) = 0 := if_neg (by omega)
    have e2 : brk 0 x = 0 := if_neg (by omega)
    show br (strip x) + brWs (stripWs ws) + brk n (.cs (strip x) (stripWs ws)) ≤ br x + brWs ws + brk n (.cs x ws)
    have e : brk n (.cs (strip x) (stripWs ws)) = brk n (.cs x ws) := rfl
    omega
  | .par t, n, h => by
    have h2 := br_strip t n h
    have h3 := brk_one n t
    show br (strip t) + brk n (strip t) ≤ (br t + 1) + brk n (.par t)
    omega
theorem br_stripPs : ∀ ps : List (L × Tm), brPs (stripPs ps) ≤ brPs ps
  | [] => Nat.le_refl _
  | (x, t) :: r => by
    have h1 := br_strip t 0 (by omega)
    have h2 := br_stripPs r
    have e1 : brk 0 (strip t) = 0 := if_neg (by omega)
    have e2 : brk 0 t = 0 := if_neg (by omega)
    show br (strip t) + brPs (stripPs r) ≤ br t + brPs r
    omega
theorem br_stripWs : ∀ ws : List (L × List L × Tm), brWs (stripWs ws) ≤ brWs ws
  | [] => Nat.le_refl _
  | (c, xs, t) :: r => by
    have h1 := br_strip t 0 (by omega)
    have h2 := br_stripWs r
    have e1 : brk 0 (strip t) = 0 := if_neg (by omega)
    have e2 : brk 0 t = 0 := if_neg (by omega)
    show br (strip t) + brWs (stripWs r) ≤ br t + brWs r
    omega
end
theorem br_strip0 (t : Tm) : br (strip t) ≤ br t := by
  have h := br_strip t 0 (by omega)
  have e1 : brk 0 (strip t) = 0 := if_neg (by omega)
  have e2 : brk 0 t = 0 := if_neg (by omega)
  omega
/-- .. even up to brackets that mean nothing -/
theorem less_ne' {t : Tm} {A B C : List Tok} (e : tw false t = A ++ .lp :: (B ++ .rp :: C)) {n : Nat} {r : List Tok} {t' : Tm} (h : pT n (A ++ (B ++ C) ++ [.fin]) = .ok t' r) : strip t' ≠ t := fun q => by
  have h1 := read_cnt h
  have h2 := cnt_tw false t
  have h6 := br_strip0 t'
  rw [q] at h6
  rw [e] at h2
  simp only [cnt_append] at h1 h2
  have h3 : cnt (.lp :: (B ++ .rp :: C)) = cnt (B ++ .rp :: C) + 1 := rfl
  have h4 : cnt (.rp :: C) = cnt C := rfl
  have h5 : cnt [Tok.fin] = 0 := rfl
  rw [h3, cnt_append, h4] at h2
  omega
/-! ### kinds -/
mutual
theorem pu_stripK : ∀ k : Kd, puK (stripK k)
  | .num => trivial
  | .var _ => trivial
  | .data _ ks => pu_stripKs ks
  | .fn a b => ⟨pu_stripK a, pu_stripK b⟩
  | .par k => pu_stripK k
theorem pu_stripKs : ∀ ks : List Kd, puKs (stripKs ks)
  | [] => trivial
  | k :: r => ⟨pu_stripK k, pu_stripKs r⟩
end
theorem pu_stripMs : ∀ ms : List Mk, puMs (stripMs ms)
  | [] => trivial
  | (c, ks) :: r => ⟨pu_stripKs ks, pu_stripMs r⟩
theorem bkK_one (n : Nat) (t : Kd) : bkK n t ≤ 1 := by unfold bkK; split <;> omega
mutual
theorem brK_strip : ∀ (k : Kd) (n : Nat), brK (stripK k) + bkK n (stripK k) ≤ brK k + bkK n k
  | .num, n => Nat.le_refl _
  | .var _, n => Nat.le_refl _
  | .data d ks, n => by
    have h1 := brKs_strip ks
    have e : bkK n (.data d (stripKs ks)) = bkK n (.data d ks) := by cases ks <;> rfl
    show brKs (stripKs ks) + bkK n (.data d (stripKs ks)) ≤ brKs ks + bkK n (.data d ks)
    omega
  | .fn a b, n => by
    have h1 := brK_strip a 1
    have h2 := brK_strip b 0
    rw [bkK0, bkK0] at h2
    show ((brK (stripK a) + bkK 1 (stripK a)) + brK (stripK b)) + bkK n (.fn (stripK a) (stripK b)) ≤ ((brK a + bkK 1 a) + brK b) + bkK n (.fn a b)
    have e : bkK n (.fn (stripK a) (stripK b)) = bkK n (.fn a b) := rfl
    omega
  | .par k, n => by
    have h1 := brK_strip k n
    have h2 := bkK_one n k
    show brK (stripK k) + bkK n (stripK k) ≤ (brK k + 1) + bkK n (.par k)
    omega
theorem brKs_strip : ∀ ks : List Kd, brKs (stripKs ks) ≤ brKs ks
  | [] => Nat.le_refl _
  | k :: r => by
    have h1 := brK_strip k 2
    have h2 := brKs_strip r
    show (brK (stripK k) + bkK 2 (stripK k)) + brKs (stripKs r) ≤ (brK k + bkK 2 k) + brKs r
    omega
end
theorem brMs_strip : ∀ ms : List Mk, brMs (stripMs ms) ≤ brMs ms
  | [] => Nat.le_refl _
  | (c, ks) :: r => by
    have h1 := brKs_strip ks
    have h2 := brMs_strip r
    show brKs (stripKs ks) + brMs (stripMs r) ≤ brKs ks + brMs r
    omega
def stripD (d : Dt) : Dt := (d.1, d.2.1, stripMs d.2.2)
theorem data_less' {d d' : Dt} {A B C : List Tok} (e : twD d = A ++ .lp :: (B ++ .rp :: C)) {n : Nat} {r : List Tok} (h : pData n (A ++ (B ++ C) ++ [.fin]) = .ok d' r) : stripD d' ≠ d := fun q => by
  obtain ⟨u, hu, _, h1, _⟩ := data_post h
  have h2 := cnt_twD d
  have h6 : brMs (stripMs d'.2.2) ≤ brMs d'.2.2 := brMs_strip _
  have h7 : brMs d.2.2 = brMs (stripMs d'.2.2) := by rw [← q] <;> rfl
  rw [e] at h2
  have h0 := congrArg cnt hu
  simp only [cnt_append] at h0 h2
  have h3 : cnt (.lp :: (B ++ .rp :: C)) = cnt (B ++ .rp :: C) + 1 := rfl
  have h4 : cnt (.rp :: C) = cnt C := rfl
  have h5 : cnt [Tok.fin] = 0 := rfl
  rw [h3, cnt_append, h4] at h2
  omega
end K72
/-! W0: the text by places, rules of our own, what stands in the heap. -/
namespace W72
open PySem L2
def top (i : Nat) : Stmt := PySem.Challenge.pw_forgeproved_k72_whole_each_bracket_neede.main.body.getD i (.Pass ⟨0, 0, 0, 0⟩)
abbrev S := SX.S

/-! ### defs and methods that may be called; all may raise, as far as their promises say -/
abbrev CXX (P : Program) (w : World) : CXT := L2.CX P w
structure Cl (P : Program) (w : World) (K : PySem.W.Frag) (mg : Str → Option Value) (base : Heap) (k : Nat) (x : Str) (sp : Sp) : Prop where
  ex : ∃ (f : Addr) (fd : FuncData) (ps : List Str), FnOk P w K mg base (L2.CX P w) k f fd ps sp ∧ mg x = some (.ref f) ∧ PySem.W.keepIn K (.ref f) = true ∧ Binds K fd ps []
structure Mt (P : Program) (w : World) (K : PySem.W.Frag) (mg : Str → Option Value) (base : Heap) (k : Nat) (C : Addr) (m : Str) (sp : Sp) : Prop where
  ex : ∃ (f : Addr) (fd : FuncData) (ps : List Str), Cls K C ∧ Meth K C m f ∧ FnOk P w K mg base (L2.CX P w) k f fd ps sp ∧ Binds K fd ps []
/-- .. called with the keywords ks -/
structure Mtk (P : Program) (w : World) (K : PySem.W.Frag) (mg : Str → Option Value) (base : Heap) (k : Nat) (C : Addr) (m : Str) (ks : List Str) (gV : List V → List V → List V) (sp : Sp) : Prop where
  ex : ∃ (f : Addr) (fd : FuncData) (ps : List Str) (g : List Value → List Value → List Value), Cls K C ∧ Meth K C m f ∧ FnOk P w K mg base (L2.CX P w) k f fd ps sp ∧ KBn K fd ps 1 ks g gV
section
variable {X : Cx} {k j : Nat} {C : Addr} {x m : Str} {sp : Sp} {E : XK} {p pos apos : Pos} {e o : Expr} {es : List Expr} {kws : List Keyword} {ta : TE} {t tk : TA} {ks : List Str} {gV : List V → List V → List V}
theorem pe_cl (c : Cl X.prog X.w X.K X.mg X.base k x sp) (hr : Room k X.A) (hx : Passes (L2.CX X.prog X.w) X E) (hg : Gl X x) (ha : PA X (e :: es) t)
    (hdb : (x == ("__debug__" : Str)) = false := by decide) (he : starEach (e :: es) X.env = (false, eval e X.env) :: starEach es X.env := by rfl) (hpl : (backTo pos (starEach es X.env)).any (·.1) = false := by rfl) :
    PE X (.Call (.Name x p) (e :: es) [] pos) (tCall sp [] E t) := by
  obtain ⟨f, fd, ps, F, hm, kp, b⟩ := c.ex
  exact pe_call F hr hg hm kp b .nil hx ha hdb he hpl
theorem pe_mt1 {pl : Sem Bool} (c : Mt X.prog X.w X.K X.mg X.base k C m sp) (hr : Room k X.A) (hx : Passes (L2.CX X.prog X.w) X E) (he : PE X o ta) (ha : PA X (e :: es) t)
    (hst : starEach (e :: es) X.env = (false, eval e X.env) :: starEach es X.env := by rfl) (hpl : (backTo pos (starEach es X.env)).any (·.1) = false := by rfl)
    (ht : eval (.Call (.Attribute o m apos) (e :: es) [] pos) X.env = (do
      let ov ← eval o X.env
      standAt apos.atName
      let (f, first) ← holding [ov] (getMethod ov m pl)
      callWith pos f first (backTo pos (starEach (e :: es) X.env)) (backToKw pos (keywordEach [] X.env))) := by rfl) :
    PE X (.Call (.Attribute o m apos) (e :: es) [] pos) (tMeth C m sp [] E ta t) := by
  obtain ⟨f, fd, ps, hc, hm, F, b⟩ := c.ex
  exact pe_meth (pl := pl) he hc hm F hr b .nil hx ha hst hpl ht
theorem pe_mt0 {pl : Sem Bool} (c : Mt X.prog X.w X.K X.mg X.base k C m sp) (hr : Room k X.A) (hx : Passes (L2.CX X.prog X.w) X E) (he : PE X o ta)
    (ht : eval (.Call (.Attribute o m apos) [] [] pos) X.env = (do
      let ov ← eval o X.env
      standAt apos.atName
      let (f, first) ← holding [ov] (getMethod ov m pl)
      callWith pos f first (backTo pos (starEach [] X.env)) (backToKw pos (keywordEach [] X.env))) := by rfl) :
    PE X (.Call (.Attribute o m apos) [] [] pos) (tMeth C m sp [] E ta tNil) := by
  obtain ⟨f, fd, ps, hc, hm, F, b⟩ := c.ex
  exact pe_meth0 (pl := pl) he hc hm F hr b .nil hx ht
/-- o.m(k = v, ..) -/
def tMethK (C : Addr) (m : Str) (sp : Sp) (gV : List V → List V → List V) (n : Nat) (E : XK) (ta : TE) (tk : TA) : TE := fun σ H Q => ta σ H fun x H1 => ∃ a dx fs, x = .ref a ∧ H1 a = some (.ins C dx fs) ∧ fs.lookup m = none ∧
  tk σ H1 fun zs H2 => zs.length = n ∧ sp (gV [x] zs) H2 Q E
theorem pe_mtk {pl : Sem Bool} (c : Mtk X.prog X.w X.K X.mg X.base k C m ks gV sp) (hr : Room k X.A) (hx : Passes (L2.CX X.prog X.w) X E) (he : PE X o ta) (hkw : PK X kws tk)
    (hall : (backToKw pos (keywordEach kws X.env)).all (·.1.isSome) = true := by rfl) (hks : (backToKw pos (keywordEach kws X.env)).filterMap (·.1) = ks := by rfl)
    (hpl : ((backTo pos (starEach [] X.env)).any (·.1) || (backToKw pos (keywordEach kws X.env)).any (·.1.isNone)) = false := by rfl)
    (ht : eval (.Call (.Attribute o m apos) [] kws pos) X.env = (do
      let ov ← eval o X.env
      standAt apos.atName
      let (f, first) ← holding [ov] (getMethod ov m pl)
      callWith pos f first (backTo pos (starEach [] X.env)) (backToKw pos (keywordEach kws X.env))) := by rfl) :
    PE X (.Call (.Attribute o m apos) [] kws pos) (tMethK C m sp gV ks.length E ta tk) := by
  obtain ⟨f, fd, ps, g, hc, hm, F, b⟩ := c.ex
  refine ⟨fun pins s σ H Q I h => ?_⟩
  refine PySem.W.methodCall_KW (pl := pl) (thn (he.run pins s σ H _ I h) fun u s1 ⟨x, H1, I1, rx, a, dx, fs, ex, ea, l, q⟩ => ?_) ht
  subst ex
  obtain rfl : u = Value.ref a := rx
  refine getmeth_ok I1 ea hc hm l ?_
  refine PySem.W.callWith_KW0 (first := [.ref a]) (h₀ := X.base) I.ok.mod.kin hm.kp hall (thn (hkw.run pos pins s1 σ H1 _ I1 q) fun ws s2 ⟨zs, H2, I2, rz, l2, q2⟩ => ⟨I2.kIn, ?_⟩) hpl
  rw [hks]
  exact run_fnN (us := [.ref a]) (vs := [.ref a]) F hr b hx I2 (.cons rfl .nil) rz rfl l2 q2
/-- nothing leaves: for callees that do not raise -/
theorem pxN : Passes (L2.CX X.prog X.w) X E0 := passL
/-- what the callee lets out, the body lets out -/
theorem pxE {P : Program} {w : World} {K : PySem.W.Frag} {mg : Str → Option Value} {base : Heap} {N : List Str} {qual : Str} {sc : Scope} {f : Addr} {cdv : Value} {A : Around} {outer : List Env} {s : Shared} {H : Hp} {E : XK} :
    Passes (L2.CX P w) (cxOf (L2.CX P w) P w K mg base N qual sc f cdv A outer s H E) E :=
  passes_call (W := fun cls d _ H => E cls d H) (takes_of rfl rfl rfl rfl) (fun _ _ _ _ h => h)
end
end W72
/-! W1: Word, NoText, Reader: small methods. -/
namespace W72
open PySem L2
abbrev KTok := K72.Tok
/-! ### words as texts -/
def manS : KTok → Str
  | .kw _ => "kept"
  | .small _ => "small"
  | .great _ => "great"
  | .num _ => "number"
  | .fin => "end"
  | _ => "sign"
def opS : K72.Op → Str
  | .plus => "+" | .minus => "-" | .times => "*" | .less => "<" | .same => "=="
def kwS : K72.Kw → Str
  | .data => "data" | .klet => "let" | .kin => "in" | .kcase => "case" | .kof => "of" | .knum => "num"
def toldS : KTok → Str
  | .lp => "(" | .rp => ")" | .lb => "{" | .rb => "}" | .semi => ";" | .bs => "\\" | .arr => "->" | .eq => "=" | .bar => "|"
  | .op o => opS o
  | .kw k => kwS k
  | .small x => S x
  | .great x => S x
  | .num n => S (TL.numL n)
  | .fin => ""
def wordFs (t : KTok) (col : Int) : List (Str × V) := [("manner", .str (manS t)), ("told", .str (toldS t)), ("column", .int col)]
def WordAt (CW : Addr) (H : Hp) (p : Addr) (t : KTok) : Prop := ∃ dx col, H p = some (.ins CW dx (wordFs t col))
def WsAt (CW : Addr) (H : Hp) : List Addr → List KTok → Prop
  | [], [] => True
  | a :: as, t :: ts => WordAt CW H a t ∧ WsAt CW H as ts
  | _, _ => False
def rdFs (l : Addr) (i : Nat) (n : Int) : List (Str × V) := [("all_words", .ref l), ("at", .int (i : Int)), ("number", .int n)]
/-- a reader: its place, its dict, its list of words, its row's number, the words' places -/
structure Rdr where
  r : Addr
  dx : Addr
  l : Addr
  n : Int
  as : List Addr
/-- .. that has the words s ahead -/
structure RdX (CW CR : Addr) (H : Hp) (ρ : Rdr) (i : Nat) (s : List KTok) : Prop where
  h : H ρ.r = some (.ins CR ρ.dx (rdFs ρ.l i ρ.n))
  l : H ρ.l = some (.lst (ρ.as.map V.ref))
  w : WsAt CW H (ρ.as.drop i) s
  z : ρ.as.length ≤ 100000
def RdAt (CW CR : Addr) (H : Hp) (ρ : Rdr) (s : List KTok) : Prop := ∃ i, RdX CW CR H ρ i s
/-- all but r stands -/
def Kp (r : Addr) (H H' : Hp) : Prop := ∀ b o, b ≠ r → H b = some o → H' b = some o
theorem Kp.refl (r : Addr) (H : Hp) : Kp r H H := fun _ _ _ h => h
theorem Kp.trans {r : Addr} {H H1 H2 : Hp} (a : Kp r H H1) (b : Kp r H1 H2) : Kp r H H2 := fun c o n h => b c o n (a c o n h)
theorem Kp.of {r : Addr} {H H' : Hp} (h : Same H H') : Kp r H H' := fun b o _ e => h b o e
theorem same_new {H : Hp} {p : Addr} {o : HO} (h : H p = none) : Same H (upd H p o) := fun b u e => by rw [upd_ne (ne_of_none e h)]; exact e
theorem kp_upd {r : Addr} {H : Hp} {o : HO} : Kp r H (upd H r o) := fun b u n e => by rw [upd_ne n]; exact e
/-- .. all but r, with what may be new: what r is not -/
theorem Kp.same {r : Addr} {H H' : Hp} (k : Kp r H H') {b : Addr} {o u : HO} (hr : H r = some u) (hb : H b = some o) (ne : o ≠ u) : H' b = some o := k b o (fun z => by rw [z, hr] at hb; exact ne (Option.some.inj hb).symm) hb
theorem WordAt.mono {CW : Addr} {H H' : Hp} {p : Addr} {t : KTok} (k : ∀ dx fs, H p = some (.ins CW dx fs) → H' p = some (.ins CW dx fs)) (h : WordAt CW H p t) : WordAt CW H' p t := by
  obtain ⟨dx, col, e⟩ := h
  exact ⟨dx, col, k _ _ e⟩
theorem WsAt.mono {CW : Addr} {H H' : Hp} (k : ∀ p dx fs, H p = some (.ins CW dx fs) → H' p = some (.ins CW dx fs)) : ∀ {as : List Addr} {ts : List KTok}, WsAt CW H as ts → WsAt CW H' as ts
  | [], [], _ => trivial
  | a :: as, t :: ts, h => ⟨h.1.mono (k a), WsAt.mono k h.2⟩
  | [], _ :: _, h => h.elim
  | _ :: _, [], h => h.elim
theorem WsAt.len {CW : Addr} {H : Hp} : ∀ {as : List Addr} {ts : List KTok}, WsAt CW H as ts → as.length = ts.length
  | [], [], _ => rfl
  | a :: as, t :: ts, h => congrArg Nat.succ (WsAt.len h.2)
  | [], _ :: _, h => h.elim
  | _ :: _, [], h => h.elim
theorem RdAt.same {CW CR : Addr} {H H' : Hp} {ρ : Rdr} {s : List KTok} (h : RdAt CW CR H ρ s) (k : Same H H') : RdAt CW CR H' ρ s := by
  obtain ⟨i, g⟩ := h
  exact ⟨i, k _ _ g.h, k _ _ g.l, g.w.mono (fun p dx fs e => k _ _ e), g.z⟩
/-- another thing is written -/
theorem RdAt.upd {CW CR : Addr} {H : Hp} {ρ : Rdr} {s : List KTok} {p : Addr} {o : HO} (h : RdAt CW CR H ρ s) (h1 : p ≠ ρ.r) (h2 : p ≠ ρ.l) (h3 : ∀ C dx fs, H p ≠ some (.ins C dx fs)) : RdAt CW CR (upd H p o) ρ s := by
  obtain ⟨i, g⟩ := h
  exact ⟨i, by rw [upd_ne h1.symm]; exact g.h, by rw [upd_ne h2.symm]; exact g.l, g.w.mono (fun q dx fs e => by rw [upd_ne (fun z => h3 _ _ _ (z ▸ e))]; exact e), g.z⟩
theorem RdAt.hr {CW CR : Addr} {H : Hp} {ρ : Rdr} {s : List KTok} (h : RdAt CW CR H ρ s) : ∃ fs, H ρ.r = some (.ins CR ρ.dx fs) := let ⟨_, g⟩ := h; ⟨_, g.h⟩
theorem RdAt.hl {CW CR : Addr} {H : Hp} {ρ : Rdr} {s : List KTok} (h : RdAt CW CR H ρ s) : H ρ.l = some (.lst (ρ.as.map V.ref)) := let ⟨_, g⟩ := h; g.l
theorem RdAt.len {CW CR : Addr} {H : Hp} {ρ : Rdr} {s : List KTok} (h : RdAt CW CR H ρ s) : s.length ≤ 100000 := by
  obtain ⟨i, g⟩ := h
  have e := g.w.len
  rw [List.length_drop] at e
  have := g.z
  omega
/-- what the top says of the three classes -/
structure Txt (K : PySem.W.Frag) (mg : Str → Option Value) (CE CN CW CR fN : Addr) (mcE : Value) : Prop where
  clW : Cls K CW
  wM : NoAttr K CW "manner"
  wT : NoAttr K CW "told"
  wC : NoAttr K CW "column"
  mgW : mg "Word" = some (.ref CW)
  clR : Cls K CR
  rA : NoAttr K CR "all_words"
  rT : NoAttr K CR "at"
  rN : NoAttr K CR "number"
  mgR : mg "Reader" = some (.ref CR)
  neC : CW ≠ CR
  oex : OexC K CN
  mgN : mg "NoText" = some (.ref CN)
  iN : PySem.W.findIn K (.ref CN) "__init__" = some (some (.ref fN))
  tN : PySem.W.typeIn K (.ref fN) = some (.type "function")
  nR : PySem.W.findIn K (.ref CN) "row" = some none
  nC : PySem.W.findIn K (.ref CN) "column" = some none
  mgE : mg "ForgeError" = some (.ref CE)
  rdE : ClX.CRead K CE mcE
  atE : PySem.W.findCls K (.ref CE) mcE "__init__" = some (.val (.builtin "ValueError.__init__"))
  teN : PySem.W.exmOne K (.ref CN) (.ref CN) = some true
end W72
namespace W72
open PySem L2
theorem ne_mt : ¬ (("manner" : Str) = "told") := by decide +kernel
theorem ne_mc : ¬ (("manner" : Str) = "column") := by decide +kernel
theorem ne_tc : ¬ (("told" : Str) = "column") := by decide +kernel
theorem ne_aa : ¬ (("all_words" : Str) = "at") := by decide +kernel
theorem ne_an : ¬ (("all_words" : Str) = "number") := by decide +kernel
theorem ne_tn : ¬ (("at" : Str) = "number") := by decide +kernel
theorem word_put (a b : V) (c : V) : putF "column" c (putF "told" b (putF "manner" a [])) = ([(("manner" : Str), a), (("told" : Str), b), (("column" : Str), c)] : List (Str × V)) := by
  simp only [putF, if_neg ne_mt, if_neg ne_mc, if_neg ne_tc]
theorem rd_put (a b : V) (c : V) : putF "number" c (putF "at" b (putF "all_words" a [])) = ([(("all_words" : Str), a), (("at" : Str), b), (("number" : Str), c)] : List (Str × V)) := by
  simp only [putF, if_neg ne_aa, if_neg ne_an, if_neg ne_tn]
theorem rd_at (l : Addr) (i j : Nat) (n : Int) : putF "at" (.int (j : Int)) (rdFs l i n) = rdFs l j n := by
  simp only [putF, rdFs, if_neg ne_aa, if_pos]
theorem w_m (t : KTok) (c : Int) : (wordFs t c).lookup ("manner" : Str) = some (.str (manS t)) := by
  simp [wordFs, List.lookup]
theorem w_t (t : KTok) (c : Int) : (wordFs t c).lookup ("told" : Str) = some (.str (toldS t)) := by
  have e : (("told" : Str) == ("manner" : Str)) = false := by decide +kernel
  simp [wordFs, List.lookup, e]
theorem w_c (t : KTok) (c : Int) : (wordFs t c).lookup ("column" : Str) = some (.int c) := by
  have e : (("column" : Str) == ("manner" : Str)) = false := by decide +kernel
  have e2 : (("column" : Str) == ("told" : Str)) = false := by decide +kernel
  simp [wordFs, List.lookup, e, e2]
theorem r_a (l : Addr) (i : Nat) (n : Int) : (rdFs l i n).lookup ("all_words" : Str) = some (.ref l) := by
  simp [rdFs, List.lookup]
theorem r_t (l : Addr) (i : Nat) (n : Int) : (rdFs l i n).lookup ("at" : Str) = some (.int (i : Int)) := by
  have e : (("at" : Str) == ("all_words" : Str)) = false := by decide +kernel
  simp [rdFs, List.lookup, e]
theorem r_n (l : Addr) (i : Nat) (n : Int) : (rdFs l i n).lookup ("number" : Str) = some (.int n) := by
  have e : (("number" : Str) == ("all_words" : Str)) = false := by decide +kernel
  have e2 : (("number" : Str) == ("at" : Str)) = false := by decide +kernel
  simp [rdFs, List.lookup, e, e2]
theorem r_no (l : Addr) (i : Nat) (n : Int) {m : Str} (h : (m == ("all_words" : Str)) = false) (h1 : (m == ("at" : Str)) = false) (h2 : (m == ("number" : Str)) = false) : (rdFs l i n).lookup m = none := by
  simp [rdFs, List.lookup, h, h1, h2]

/-! ### Word.__init__ -/
abbrev sWi : Stmt := inClass (top 15) 0
theorem scWi : FnScope ["self", "sort", "text", "column"] ["self", "sort", "text", "column"] (defScope sWi) := ⟨rfl, rfl, rfl, by decide +kernel, rfl, by decide +kernel, by decide +kernel⟩
def spWi (CW : Addr) : Sp := fun vs H Q _ => ∃ p dx t col, vs = [.ref p, .str (manS t), .str (toldS t), .int col] ∧ H p = some (.ins CW dx []) ∧ ∀ H', Kp p H H' → H' p = some (.ins CW dx (wordFs t col)) → Q .non H'
section
variable {P : Program} {w : World} {K : PySem.W.Frag} {mg : Str → Option Value} {base : Heap} {CE CN CW CR fN f : Addr} {mcE : Value} {fd : FuncData}
theorem ok_Wi (F : Fun K "__init__" "Word.__init__" sWi f fd) (T : Txt K mg CE CN CW CR fN mcE) : FnOk P w K mg base (L2.CX P w) 1 f fd ["self", "sort", "text", "column"] (spWi CW) := by
  refine F.okX scWi (fun vs H Q E h => ?_) (fun cdv A outer s H vs Q E hr h => ?_)
  · obtain ⟨p, dx, t, col, rfl, _⟩ := h
    rfl
  obtain ⟨p, dx, t, col, rfl, hp, k⟩ := h
  refine ⟨_, pss_cons (ps_fld (pv 0) (pv 1) rfl) (pss_cons (ps_fld (pv 0) (pv 2) rfl) (pss_one (ps_fld (pv 0) (pv 3) rfl))), ?_⟩
  refine ⟨_, rfl, _, rfl, p, CW, dx, [], rfl, hp, T.clW, T.wM, (by show 0 < 1000; decide), _, rfl, _, rfl, p, CW, dx, _, rfl, upd_same, T.clW, T.wT, (by show 1 < 1000; decide), _, rfl, _, rfl, p, CW, dx, _, rfl, upd_same, T.clW, T.wC, (by
    show (putF "told" _ (putF "manner" _ [])).length < 1000
    simp only [putF, if_neg ne_mt]
    show 2 < 1000
    decide), ?_⟩
  refine k _ (fun b o n e => by rw [upd_ne n, upd_ne n, upd_ne n]; exact e) ?_
  rw [upd_same, word_put]
  rfl

/-! ### NoText.__init__ -/
theorem pe_feinit {X : Cx} {e : Expr} {es : List Expr} {ta : TA} {p1 p2 pos : Pos} {CE : Addr} {mc : Value} {pl : Sem Bool} (hg : Gl X "ForgeError") (hm : X.mg "ForgeError" = some (.ref CE)) (r : ClX.CRead X.K CE mc) (vV : PySem.W.findCls X.K (.ref CE) mc "__init__" = some (.val (.builtin "ValueError.__init__"))) (ha : PA X (e :: es) ta)
    (hc : eval (.Call (.Attribute (.Name "ForgeError" p1) "__init__" p2) (e :: es) [] pos) X.env = (do
      let ov ← eval (.Name "ForgeError" p1) X.env
      standAt p2.atName
      let (f, first) ← holding [ov] (getMethod ov "__init__" pl)
      callWith pos f first (backTo pos (starEach (e :: es) X.env)) (backToKw pos (keywordEach [] X.env))) := by rfl)
    (he : starEach (e :: es) X.env = (false, eval e X.env) :: starEach es X.env := by rfl) (hpl : (backTo pos (starEach es X.env)).any (·.1) = false := by rfl) :
    PE X (.Call (.Attribute (.Name "ForgeError" p1) "__init__" p2) (e :: es) [] pos) (tVeI X.K ta) := by
  refine ⟨fun pins s σ H Q I h => ?_⟩
  refine PySem.W.methodCall_KW (ld_glob I hg hm ?_ (by decide)) hc
  refine PySem.W.method_cls I.kIn r.ga (PySem.W.cls_value I.kIn r.rd vV (by decide +kernel) ?_)
  show wpAny _ _ (callWith pos (Value.builtin "ValueError.__init__") [] (backTo pos (starEach (e :: es) X.env)) []) _ _ _
  refine PyProof.Rows.callWith_method1 (thn (ha.run pos pins _ σ H _ (I.tok _) h) fun us s1 ⟨vs, H1, I1, r1, a, C, ws, ev, hl, T, ea, q⟩ => ?_) he hpl
  subst ev
  cases r1 with
  | @cons _ u0 _ ur ra rw' =>
    obtain rfl : u0 = Value.ref a := ra
    have hlen : ur.length ≤ sizeLine := by
      rw [← Paired.length rw', sizeLine_eq]
      omega
    exact oinit_ok T I1 ea hlen fun s' J => ⟨.non, H1, J, rfl, q⟩
abbrev sNi : Stmt := inClass (top 2) 0
theorem scNi : FnScope ["self", "row", "column"] ["self", "row", "column"] (defScope sNi) := ⟨rfl, rfl, rfl, by decide +kernel, rfl, by decide +kernel, by decide +kernel⟩
def spNi (CN : Addr) : Sp := fun vs H Q _ => ∃ a v1 v2, vs = [.ref a, v1, v2] ∧ H a = some (exo a CN none) ∧ ∀ d fs H', Kp a H H' → H' a = some (exo a CN (some d)) → H' d = some (exd d fs) → H d = none → Q .non H'
theorem ok_Ni (F : Fun K "__init__" "NoText.__init__" sNi f fd) (T : Txt K mg CE CN CW CR fN mcE) : FnOk P w K mg base (L2.CX P w) 1 f fd ["self", "row", "column"] (spNi CN) := by
  refine F.okX scNi (fun vs H Q E h => ?_) (fun cdv A outer s H vs Q E hr h => ?_)
  · obtain ⟨a, v1, v2, rfl, _⟩ := h
    rfl
  obtain ⟨a, v1, v2, rfl, ha, k⟩ := h
  refine ⟨_, pss_cons (ps_expr (pe_feinit rfl T.mgE T.rdE T.atE (pa_cons (pv 0) (pa_cons pe_str pa_nil)))) (pss_cons (ps_ost (pv 0) (pv 1)) (pss_one (ps_ost (pv 0) (pv 2)))), ?_⟩
  refine ⟨_, rfl, a, CN, [_], rfl, (by decide), T.oex, ha, ?_⟩
  refine ⟨_, rfl, _, rfl, a, CN, rfl, T.oex, T.nR, .inl ⟨ha, fun dx ndx ne => ?_⟩⟩
  have e1 : ∀ o, upd (upd H dx o) a (exo a CN (some dx)) dx = some o := fun o => by rw [upd_ne ne, upd_same]
  refine ⟨_, rfl, _, rfl, a, CN, rfl, T.oex, T.nC, .inr ⟨dx, _, upd_same, e1 _, (by show 1 ≤ 900; decide), ?_⟩⟩
  refine k dx _ _ (fun b o n e => ?_) ?_ upd_same ndx
  · rw [upd_ne (ne_of_none e ndx), upd_ne n, upd_ne (ne_of_none e ndx)]
    exact e
  · rw [upd_ne ne.symm, upd_same]
end
end W72
/-! W3: the methods of Reader. -/
namespace W72
open PySem L2
/-- a def at a known address -/
structure Ini (P : Program) (w : World) (K : PySem.W.Frag) (mg : Str → Option Value) (base : Heap) (k : Nat) (f : Addr) (sp : Sp) : Prop where
  ex : ∃ (fd : FuncData) (ps : List Str), FnOk P w K mg base (L2.CX P w) k f fd ps sp ∧ Binds K fd ps []
/-- .. a method whose further parameters take their defaults dvs -/
structure Mtd (P : Program) (w : World) (K : PySem.W.Frag) (mg : Str → Option Value) (base : Heap) (k : Nat) (C : Addr) (m : Str) (dvs : List V) (sp : Sp) : Prop where
  ex : ∃ (f : Addr) (fd : FuncData) (ps : List Str) (ds : List Value), Cls K C ∧ Meth K C m f ∧ FnOk P w K mg base (L2.CX P w) k f fd ps sp ∧ Binds K fd ps ds ∧ Vals dvs ds
section
variable {X : Cx} {k j : Nat} {C fN : Addr} {x m : Str} {sp : Sp} {E : XK} {p pos apos : Pos} {e o : Expr} {es : List Expr} {ta : TE} {t : TA} {dvs : List V}
theorem pe_mtd0 {pl : Sem Bool} (c : Mtd X.prog X.w X.K X.mg X.base k C m dvs sp) (hr : Room k X.A) (hx : Passes (L2.CX X.prog X.w) X E) (he : PE X o ta)
    (ht : eval (.Call (.Attribute o m apos) [] [] pos) X.env = (do
      let ov ← eval o X.env
      standAt apos.atName
      let (f, first) ← holding [ov] (getMethod ov m pl)
      callWith pos f first (backTo pos (starEach [] X.env)) (backToKw pos (keywordEach [] X.env))) := by rfl) :
    PE X (.Call (.Attribute o m apos) [] [] pos) (tMeth C m sp dvs E ta tNil) := by
  obtain ⟨f, fd, ps, ds, hc, hm, F, b, d⟩ := c.ex
  exact pe_meth0 (pl := pl) he hc hm F hr b d hx ht
/-- C(e, ..) of an exception of our own -/
theorem pmk_o (T : OexC X.K C) (iC : PySem.W.findIn X.K (.ref C) "__init__" = some (some (.ref fN))) (tI : PySem.W.typeIn X.K (.ref fN) = some (.type "function")) (c : Ini X.prog X.w X.K X.mg X.base k fN sp) (hr : Room (k + 1) X.A)
    (hx : Passes (L2.CX X.prog X.w) X (fun _ _ _ => False)) (hg : Gl X x) (hm : X.mg x = some (.ref C)) (ha : PA X (e :: es) t)
    (hdb : (x == ("__debug__" : Str)) = false := by decide) (he : starEach (e :: es) X.env = (false, eval e X.env) :: starEach es X.env := by rfl) (hpl : (backTo pos (starEach es X.env)).any (·.1) = false := by rfl) :
    PMk X (.Call (.Name x p) (e :: es) [] pos) (tMkO C sp [] t) := by
  obtain ⟨fd, ps, F, b⟩ := c.ex
  exact pmk_oex T iC tI F hr b .nil hx hg hm ha hdb he hpl
end
abbrev sR (j : Nat) : Stmt := inClass (top 20) j
theorem scNow : FnScope ["self"] ["self"] (defScope (sR 1)) := ⟨rfl, rfl, rfl, by decide +kernel, rfl, by decide +kernel, by decide +kernel⟩
theorem scFail : FnScope ["self"] ["self"] (defScope (sR 2)) := ⟨rfl, rfl, rfl, by decide +kernel, rfl, by decide +kernel, by decide +kernel⟩
theorem scIs : FnScope ["self", "sort", "text", "word"] ["self", "sort", "text"] (defScope (sR 3)) := ⟨rfl, rfl, rfl, by decide +kernel, rfl, by decide +kernel, by decide +kernel⟩
theorem scTake : FnScope ["self", "sort", "text", "told"] ["self", "sort", "text"] (defScope (sR 4)) := ⟨rfl, rfl, rfl, by decide +kernel, rfl, by decide +kernel, by decide +kernel⟩
theorem scUn : FnScope ["self", "names"] ["self", "names"] (defScope (sR 5)) := ⟨rfl, rfl, rfl, by decide +kernel, rfl, by decide +kernel, by decide +kernel⟩
theorem scSm : FnScope ["self", "unlike", "found"] ["self", "unlike"] (defScope (sR 6)) := ⟨rfl, rfl, rfl, by decide +kernel, rfl, by decide +kernel, by decide +kernel⟩
theorem scEnds : FnScope ["self"] ["self"] (defScope (sR 7)) := ⟨rfl, rfl, rfl, by decide +kernel, rfl, by decide +kernel, by decide +kernel⟩
def spNow (CW CR : Addr) : Sp := fun vs H Q _ => ∃ (ρ : Rdr) (t : KTok) (s : List KTok), vs = [.ref ρ.r] ∧ RdAt CW CR H ρ (t :: s) ∧ ∀ p, WordAt CW H p t → Q (.ref p) H
def spFail (CN CW CR : Addr) : Sp := fun vs H _ E => ∃ (ρ : Rdr) (t : KTok) (s : List KTok), vs = [.ref ρ.r] ∧ RdAt CW CR H ρ (t :: s) ∧ ∀ d H', Same H H' → E (.ref CN) (some d) H'
def isNow (t : KTok) (m : Str) (tx : V) : Bool := decide (manS t = m) && (decide (tx = .non) || decide (V.str (toldS t) = tx))
def spIs (CW CR : Addr) : Sp := fun vs H Q _ => ∃ (ρ : Rdr) (t : KTok) (s : List KTok) (m : Str) (tx : V), vs = [.ref ρ.r, .str m, tx] ∧ RdAt CW CR H ρ (t :: s) ∧ (tx = .non ∨ ∃ w, tx = .str w) ∧ Q (.bl (isNow t m tx)) H
def spTake (CN CW CR : Addr) : Sp := fun vs H Q E => ∃ (ρ : Rdr) (t : KTok) (s : List KTok) (m : Str) (tx : V), vs = [.ref ρ.r, .str m, tx] ∧ RdAt CW CR H ρ (t :: s) ∧ (tx = .non ∨ ∃ w, tx = .str w) ∧
  (isNow t m tx = true → ∀ H', Kp ρ.r H H' → RdAt CW CR H' ρ s → Q (.str (toldS t)) H') ∧ (isNow t m tx = false → ∀ d H', Same H H' → E (.ref CN) (some d) H')
theorem ws_head {CW : Addr} {H : Hp} {as : List Addr} {i : Nat} {t : KTok} {s : List KTok} (h : WsAt CW H (as.drop i) (t :: s)) : ∃ p, as[i]? = some p ∧ WordAt CW H p t ∧ WsAt CW H (as.drop (i + 1)) s := by
  cases e : as.drop i with
  | nil => rw [e] at h; exact h.elim
  | cons p q =>
    rw [e] at h
    refine ⟨p, ?_, h.1, ?_⟩
    · have := List.getElem?_drop (xs := as) (i := i) (j := 0)
      rw [e, Nat.add_zero] at this
      exact this.symm
    · have : as.drop (i + 1) = q := by
        rw [← List.drop_drop, e]
        rfl
      rw [this]
      exact h.2
section
variable {P : Program} {w : World} {K : PySem.W.Frag} {mg : Str → Option Value} {base : Heap} {CE CN CW CR fN f : Addr} {mcE : Value} {fd : FuncData}
theorem ok_now (F : Fun K "now" "Reader.now" (sR 1) f fd) (T : Txt K mg CE CN CW CR fN mcE) : FnOk P w K mg base (L2.CX P w) 1 f fd ["self"] (spNow CW CR) := by
  refine F.okX scNow (fun vs H Q E h => ?_) (fun cdv A outer s H vs Q E hr h => ?_)
  · obtain ⟨ρ, t, s, rfl, _⟩ := h
    rfl
  obtain ⟨ρ, t, s, rfl, ⟨i, R⟩, k⟩ := h
  refine ⟨_, pss_one (ps_ret (pe_ix ix_list (pe_fld (pv 0) rfl) (pe_fld (pv 0) rfl) (fun _ _ => rfl))), ?_⟩
  obtain ⟨p, hp, hw, _⟩ := ws_head R.w
  refine ⟨_, rfl, ρ.r, CR, ρ.dx, _, _, rfl, R.h, T.clR, T.rA, r_a _ _ _, _, rfl, ρ.r, CR, ρ.dx, _, _, rfl, R.h, T.clR, T.rT, r_t _ _ _, ρ.l, _, _, _, rfl, rfl, SqL.of R.l, atI_nat (by rw [List.getElem?_map, hp]; rfl), k p hw⟩
theorem ok_fail (F : Fun K "fail" "Reader.fail" (sR 2) f fd) (T : Txt K mg CE CN CW CR fN mcE) (cN : Mt P w K mg base 1 CR "now" (spNow CW CR)) (cI : Ini P w K mg base 1 fN (spNi CN)) : FnOk P w K mg base (L2.CX P w) 3 f fd ["self"] (spFail CN CW CR) := by
  refine F.okX scFail (fun vs H Q E h => ?_) (fun cdv A outer s H vs Q E hr h => ?_)
  · obtain ⟨ρ, t, s, rfl, _⟩ := h
    rfl
  obtain ⟨ρ, t, s, rfl, R0, k⟩ := h
  refine ⟨_, pss_one (ps_raise rfl (W := fun cls d _ H => E cls d H) (takes_of rfl rfl rfl rfl) (pmk_o T.oex T.iN T.tN cI hr pxN rfl T.mgN (pa_cons (pe_fld (pv 0) rfl) (pa_cons (pe_fld (pe_mt0 cN (hr.mono (by decide)) pxN (pv 0)) rfl) pa_nil)))), ?_⟩
  obtain ⟨i, R⟩ := id R0
  refine ⟨_, rfl, ρ.r, CR, ρ.dx, _, _, rfl, R.h, T.clR, T.rN, r_n _ _ _, _, rfl, ρ.r, ρ.dx, _, rfl, R.h, r_no _ _ _ (by decide +kernel) (by decide +kernel) (by decide +kernel), ρ, t, s, rfl, R0, fun p ⟨dw, col, hw⟩ => ?_⟩
  refine ⟨p, CW, dw, _, _, rfl, hw, T.clW, T.wC, w_c _ _, (by show 2 ≤ 1000; decide), fun a ha => ?_⟩
  refine ⟨a, _, _, rfl, upd_same, fun d fs H' kp e1 e2 e3 => ⟨rfl, d, fs, e1, e2, ?_, k d _ (fun b o e => ?_)⟩⟩
  · by_cases q : d = a
    · rw [q]; exact ha
    · rw [upd_ne q] at e3; exact e3
  · have nb : b ≠ a := ne_of_none e ha
    have nd : b ≠ d := fun q => by
      rw [← q, upd_ne nb, e] at e3
      cases e3
    rw [upd_ne nd, del_ne nb]
    exact kp b o nb (by rw [upd_ne nb]; exact e)
theorem ok_is (F : Fun K "is_now" "Reader.is_now" (sR 3) f fd) (T : Txt K mg CE CN CW CR fN mcE) (cN : Mt P w K mg base 1 CR "now" (spNow CW CR)) : FnOk P w K mg base (L2.CX P w) 2 f fd ["self", "sort", "text"] (spIs CW CR) := by
  refine F.okX scIs (fun vs H Q E h => ?_) (fun cdv A outer s H vs Q E hr h => ?_)
  · obtain ⟨ρ, t, s, m, tx, rfl, _⟩ := h
    rfl
  obtain ⟨ρ, t, s, m, tx, rfl, R0, htx, k⟩ := h
  refine ⟨_, pss_cons (ps_set (i := 3) scIs.nd rfl (Or.inl rfl) (pe_mt0 cN hr pxN (pv 0)))
    (pss_one (ps_ret (pe_and (pe_cmpR op_eq (pe_fld (pv 3) rfl) (pv 1) (nomark _)) (pe_one (pe_or (pe_cmp (pc_isN (pv 2)) rfl) (pe_one (pe_cmpR op_eq (pe_fld (pv 3) rfl) (pv 2) (nomark _)))))))), ?_⟩
  obtain ⟨i, R⟩ := id R0
  refine ⟨_, rfl, ρ.r, ρ.dx, _, rfl, R.h, r_no _ _ _ (by decide +kernel) (by decide +kernel) (by decide +kernel), ρ, t, s, rfl, R0, fun p ⟨dw, col, hw⟩ => ?_⟩
  refine ⟨_, rfl, p, CW, dw, _, _, rfl, hw, T.clW, T.wM, w_m _ _, _, rfl, rfl, _, rfl, ?_⟩
  refine ite2 (fun c => ?_) (fun c => ?_)
  · have e : decide (manS t = m) = true := by
      have e0 : V.str (manS t) = V.str m := of_decide_eq_true c
      injection e0 with e1
      exact decide_eq_true e1
    refine ⟨_, rfl, _, rfl, ?_⟩
    refine ite2 (fun c2 => ?_) (fun c2 => ?_)
    · have ek : isNow t m tx = true := by unfold isNow; rw [e, c2] <;> rfl
      rw [ek] at k
      exact k
    · refine ⟨_, rfl, p, CW, dw, _, _, rfl, hw, T.clW, T.wT, w_t _ _, _, rfl, ?_⟩
      obtain ⟨w', rfl⟩ : ∃ w', tx = .str w' := by
        rcases htx with z | z
        · exact absurd (decide_eq_true z) c2
        · exact z
      refine ⟨rfl, ?_⟩
      have ek : isNow t m (.str w') = decide (V.str (toldS t) = .str w') := by unfold isNow; rw [e] <;> rfl
      rw [ek] at k
      exact k
  · have e : decide (manS t = m) = false := by
      refine decide_eq_false fun q => c ?_
      rw [q]
      exact decide_eq_true rfl
    have ek : isNow t m tx = false := by unfold isNow; rw [e] <;> rfl
    rw [ek] at k
    exact k
abbrev gST : List V → List V → List V := fun vs zs => vs ++ zs
abbrev gT : List V → List V → List V := fun vs zs => vs ++ (V.str "sign" :: zs)
abbrev gS : List V → List V → List V := fun vs zs => vs ++ (zs ++ [V.non])
theorem ok_take (F : Fun K "take" "Reader.take" (sR 4) f fd) (T : Txt K mg CE CN CW CR fN mcE) (cN : Mt P w K mg base 1 CR "now" (spNow CW CR)) (cF : Mt P w K mg base 3 CR "fail" (spFail CN CW CR)) (cI : Mtk P w K mg base 2 CR "is_now" ["sort", "text"] gST (spIs CW CR)) :
    FnOk P w K mg base (L2.CX P w) 4 f fd ["self", "sort", "text"] (spTake CN CW CR) := by
  refine F.okX scTake (fun vs H Q E h => ?_) (fun cdv A outer s H vs Q E hr h => ?_)
  · obtain ⟨ρ, t, s, m, tx, rfl, _⟩ := h
    rfl
  obtain ⟨ρ, t, s, m, tx, rfl, R0, htx, k1, k2⟩ := h
  refine ⟨_, pss_cons (ps_if (pt_not (pt_val (pe_mtk cI (hr.mono (by decide)) pxN (pv 0) (pk_cons (pv 1) (pk_cons (pv 2) pk_nil))))) (pss_one (ps_expr (pe_mt0 cF hr pxE (pv 0)))) pss_nil)
    (pss_cons (ps_set (i := 3) scTake.nd rfl (Or.inl rfl) (pe_fld (pe_mt0 cN (hr.mono (by decide)) pxN (pv 0)) rfl)) (pss_cons (ps_fldaug (pv 0) pe_int in_add) (pss_one (ps_ret (pv 3))))), ?_⟩
  obtain ⟨i, R⟩ := id R0
  have no : ∀ {m : Str}, (m == ("all_words" : Str)) = false → (m == ("at" : Str)) = false → (m == ("number" : Str)) = false → (rdFs ρ.l i ρ.n).lookup m = none := fun a b c => r_no ρ.l i ρ.n a b c
  refine ⟨_, rfl, ρ.r, ρ.dx, _, rfl, R.h, no (by decide +kernel) (by decide +kernel) (by decide +kernel), _, rfl, _, rfl, rfl, ρ, t, s, m, tx, rfl, R0, htx, _, rfl, ?_⟩
  refine ite2 (fun c => ?_) (fun c => ?_)
  · have c' : isNow t m tx = false := by simpa using c
    refine ⟨_, rfl, ρ.r, ρ.dx, _, rfl, R.h, no (by decide +kernel) (by decide +kernel) (by decide +kernel), ρ, t, s, rfl, R0, fun d H' sm => k2 c' d H' sm⟩
  · have c' : isNow t m tx = true := by simpa using c
    refine ⟨_, rfl, ρ.r, ρ.dx, _, rfl, R.h, no (by decide +kernel) (by decide +kernel) (by decide +kernel), ρ, t, s, rfl, R0, fun p ⟨dw, col, hw⟩ => ?_⟩
    refine ⟨p, CW, dw, _, _, rfl, hw, T.clW, T.wT, w_t _ _, ?_⟩
    refine ⟨_, rfl, ρ.r, CR, ρ.dx, _, _, rfl, R.h, T.clR, T.rT, r_t _ _ _, _, _, rfl, rfl, ρ.dx, _, R.h, (by show 3 < 1000; decide), _, rfl, ?_⟩
    have e : ((i : Int) + 1) = ((i + 1 : Nat) : Int) := by omega
    rw [e, rd_at]
    refine k1 c' _ kp_upd ⟨i + 1, upd_same, ?_, ?_, R.z⟩
    · rw [upd_ne (ne_of R.l R.h (fun z => by cases z))]
      exact R.l
    · obtain ⟨_, _, _, hs⟩ := ws_head R.w
      refine hs.mono fun p' dx' fs e' => ?_
      rw [upd_ne (ne_of e' R.h (fun z => by injection z with z1; exact T.neC z1))]
      exact e'
def spEnds (CN CW CR : Addr) : Sp := fun vs H Q E => ∃ (ρ : Rdr) (t : KTok) (s : List KTok), vs = [.ref ρ.r] ∧ RdAt CW CR H ρ (t :: s) ∧ (t = .fin → Q .non H) ∧ (t ≠ .fin → ∀ d H', Same H H' → E (.ref CN) (some d) H')
theorem isNow_fin (t : KTok) : isNow t "end" .non = decide (t = .fin) := by
  cases t <;> first | rfl | decide +kernel
end
end W72
/-! W4: Reader: ends, take_unlike, small_names. -/
namespace W72
open PySem L2
/-- the words end as a row ends; numbers have few figures -/
structure EndF (s : List KTok) : Prop where
  e : ∃ u, s = u ++ [.fin]
  n : ∀ k, K72.Tok.num k ∈ s → k < 10 ^ 100
theorem EndF.tail {x : KTok} {s : List KTok} (h : EndF (x :: s)) (hx : x ≠ .fin) : EndF s := by
  refine ⟨?_, fun k m => h.n k (List.mem_cons_of_mem _ m)⟩
  obtain ⟨u, e⟩ := h.e
  cases u with
  | nil =>
    rw [List.nil_append] at e
    injection e with e1 e2
    exact absurd e1 hx
  | cons y u =>
    rw [List.cons_append] at e
    injection e with e1 e2
    exact ⟨u, e2⟩
theorem EndF.cons {s : List KTok} (h : EndF s) : ∃ t r, s = t :: r := by
  obtain ⟨u, rfl⟩ := h.e
  cases u with
  | nil => exact ⟨_, _, rfl⟩
  | cons x u => exact ⟨_, _, rfl⟩
theorem EndF.app {u s : List KTok} (h : EndF (u ++ s)) (hs : s ≠ []) : EndF s := by
  refine ⟨?_, fun k m => h.n k (List.mem_append_right _ m)⟩
  obtain ⟨v, e⟩ := h.e
  rcases List.append_eq_append_iff.mp e with ⟨a, h1, h2⟩ | ⟨a, h1, h2⟩
  · exact ⟨a, h2⟩
  · cases a with
    | nil => exact ⟨[], by simpa using h2.symm⟩
    | cons y a =>
      rw [List.cons_append] at h2
      injection h2 with h3 h4
      exact absurd (List.append_eq_nil_iff.mp h4.symm).2 hs
abbrev stxs (xs : List K72.L) : List V := xs.map fun x => V.str (S x)
theorem flat_stxs (xs : List K72.L) : (stxs xs).all flatV = true := by
  induction xs with
  | nil => rfl
  | cons x r ih => exact ih
theorem inV_stxs (x : K72.L) (xs : List K72.L) : inV (.str (S x)) (stxs xs) = decide (x ∈ xs) := by
  induction xs with
  | nil => rfl
  | cons y r ih =>
    show (eqV (.str (S y)) (.str (S x)) || inV (.str (S x)) (stxs r)) = _
    rw [ih]
    show ((S y == S x) || decide (x ∈ r)) = _
    rw [SX.S_beq_eq]
    by_cases h : y = x
    · subst h; simp
    · by_cases h2 : x ∈ r
      · simp [h2]
      · simp [h, h2, Ne.symm h]
theorem isNow_neg {t : KTok} {m : Str} {tx : V} (h : ¬ manS t = m) : isNow t m tx = false := by
  unfold isNow
  rw [decide_eq_false h] <;> rfl
theorem isNow_pos {t : KTok} {m w : Str} (h : manS t = m) : isNow t m (.str w) = decide (toldS t = w) := by
  unfold isNow
  rw [decide_eq_true h]
  show decide (V.str (toldS t) = .str w) = _
  by_cases e : toldS t = w
  · rw [e]; simp
  · rw [decide_eq_false e, decide_eq_false (fun q => e (by injection q))]
theorem isNow_non (t : KTok) (m : Str) : isNow t m .non = decide (manS t = m) := by
  unfold isNow
  simp
theorem ns_sk : ¬ (("small" : Str) = "kept") := by decide +kernel
theorem sign_not {t : KTok} {m : Str} (h : manS t = m) (hm : m = "sign" ∨ m = "kept") : (∀ x, t ≠ .small x) ∧ (∀ x, t ≠ .great x) ∧ (∀ n, t ≠ .num n) ∧ t ≠ .fin := by
  refine ⟨fun x e => ?_, fun x e => ?_, fun x e => ?_, fun e => ?_⟩ <;> subst e <;> subst h <;> rcases hm with q | q <;> exact absurd q (by simp only [manS]; decide +kernel)
/-- the words that are known by their text -/
def closed : KTok → Bool | .small _ | .great _ | .num _ | .fin => false | _ => true
def allClosed : List KTok := [.lp, .rp, .lb, .rb, .semi, .bs, .arr, .eq, .bar, .op .plus, .op .minus, .op .times, .op .less, .op .same, .kw .data, .kw .klet, .kw .kin, .kw .kcase, .kw .kof, .kw .knum]
theorem closed_mem {t : KTok} (h : closed t = true) : t ∈ allClosed := by
  cases t with
  | op o => cases o <;> decide
  | kw k => cases k <;> decide
  | small _ => cases h
  | great _ => cases h
  | num _ => cases h
  | fin => cases h
  | _ => decide
theorem closed_inj : (allClosed.all fun a => allClosed.all fun b => decide (a = b) || !(decide (manS a = manS b) && decide (toldS a = toldS b))) = true := by decide +kernel
theorem man_closed {t : KTok} (h : closed t = true) : manS t = "sign" ∨ manS t = "kept" := by
  cases t <;> first | exact .inl rfl | exact .inr rfl | cases h
theorem isNow_tok {tok : KTok} (h : closed tok = true) (t : KTok) : isNow t (manS tok) (.str (toldS tok)) = decide (t = tok) := by
  by_cases e : t = tok
  · subst e
    rw [isNow_pos rfl]
    simp
  · rw [decide_eq_false e]
    by_cases hm : manS t = manS tok
    · rw [isNow_pos hm]
      refine decide_eq_false fun ht => e ?_
      obtain ⟨n1, n2, n3, n4⟩ := sign_not hm (man_closed h)
      have hc : closed t = true := by
        cases t <;> first | rfl | exact absurd rfl (n1 _) | exact absurd rfl (n2 _) | exact absurd rfl (n3 _) | exact absurd rfl n4
      have q := List.all_eq_true.mp (List.all_eq_true.mp closed_inj t (closed_mem hc)) tok (closed_mem h)
      rw [decide_eq_true hm, decide_eq_true ht] at q
      simpa using q
    · exact isNow_neg hm
theorem is_lp (t : KTok) : isNow t "sign" (.str "(") = decide (t = .lp) := isNow_tok (tok := .lp) rfl t
theorem is_rp (t : KTok) : isNow t "sign" (.str ")") = decide (t = .rp) := isNow_tok (tok := .rp) rfl t
theorem is_lb (t : KTok) : isNow t "sign" (.str "{") = decide (t = .lb) := isNow_tok (tok := .lb) rfl t
theorem is_rb (t : KTok) : isNow t "sign" (.str "}") = decide (t = .rb) := isNow_tok (tok := .rb) rfl t
theorem is_semi (t : KTok) : isNow t "sign" (.str ";") = decide (t = .semi) := isNow_tok (tok := .semi) rfl t
theorem is_bs (t : KTok) : isNow t "sign" (.str "\\") = decide (t = .bs) := isNow_tok (tok := .bs) rfl t
theorem is_arr (t : KTok) : isNow t "sign" (.str "->") = decide (t = .arr) := isNow_tok (tok := .arr) rfl t
theorem is_eq (t : KTok) : isNow t "sign" (.str "=") = decide (t = .eq) := isNow_tok (tok := .eq) rfl t
theorem is_bar (t : KTok) : isNow t "sign" (.str "|") = decide (t = .bar) := isNow_tok (tok := .bar) rfl t
theorem is_plus (t : KTok) : isNow t "sign" (.str "+") = decide (t = .op .plus) := isNow_tok (tok := .op .plus) rfl t
theorem is_minus (t : KTok) : isNow t "sign" (.str "-") = decide (t = .op .minus) := isNow_tok (tok := .op .minus) rfl t
theorem is_times (t : KTok) : isNow t "sign" (.str "*") = decide (t = .op .times) := isNow_tok (tok := .op .times) rfl t
theorem is_less (t : KTok) : isNow t "sign" (.str "<") = decide (t = .op .less) := isNow_tok (tok := .op .less) rfl t
theorem is_same (t : KTok) : isNow t "sign" (.str "==") = decide (t = .op .same) := isNow_tok (tok := .op .same) rfl t
theorem is_data (t : KTok) : isNow t "kept" (.str "data") = decide (t = .kw .data) := isNow_tok (tok := .kw .data) rfl t
theorem is_klet (t : KTok) : isNow t "kept" (.str "let") = decide (t = .kw .klet) := isNow_tok (tok := .kw .klet) rfl t
theorem is_kin (t : KTok) : isNow t "kept" (.str "in") = decide (t = .kw .kin) := isNow_tok (tok := .kw .kin) rfl t
theorem is_kcase (t : KTok) : isNow t "kept" (.str "case") = decide (t = .kw .kcase) := isNow_tok (tok := .kw .kcase) rfl t
theorem is_kof (t : KTok) : isNow t "kept" (.str "of") = decide (t = .kw .kof) := isNow_tok (tok := .kw .kof) rfl t
theorem is_knum (t : KTok) : isNow t "kept" (.str "num") = decide (t = .kw .knum) := isNow_tok (tok := .kw .knum) rfl t
theorem isNow_small (t : KTok) : isNow t "small" .non = true ↔ ∃ x, t = .small x := by
  rw [isNow_non]
  refine ⟨fun h => ?_, fun ⟨x, e⟩ => by subst e; exact decide_eq_true rfl⟩
  have h1 := of_decide_eq_true h
  cases t <;> first | exact ⟨_, rfl⟩ | exact absurd h1 (by simp only [manS]; decide +kernel)
theorem isNow_great (t : KTok) : isNow t "great" .non = true ↔ ∃ x, t = .great x := by
  rw [isNow_non]
  refine ⟨fun h => ?_, fun ⟨x, e⟩ => by subst e; exact decide_eq_true rfl⟩
  have h1 := of_decide_eq_true h
  cases t <;> first | exact ⟨_, rfl⟩ | exact absurd h1 (by simp only [manS]; decide +kernel)
theorem isNow_num (t : KTok) : isNow t "number" .non = true ↔ ∃ x, t = .num x := by
  rw [isNow_non]
  refine ⟨fun h => ?_, fun ⟨x, e⟩ => by subst e; exact decide_eq_true rfl⟩
  have h1 := of_decide_eq_true h
  cases t <;> first | exact ⟨_, rfl⟩ | exact absurd h1 (by simp only [manS]; decide +kernel)
def spUn (K : PySem.W.Frag) (CN CW CR : Addr) : Sp := fun vs H Q E => ∃ (ρ : Rdr) (t : KTok) (s : List KTok) (a : Addr) (xs : List K72.L), vs = [.ref ρ.r, .ref a] ∧ RdAt CW CR H ρ (t :: s) ∧ SqL K H a (stxs xs) ∧
  (∀ x, t = .small x → x ∉ xs → ∀ H', Kp ρ.r H H' → RdAt CW CR H' ρ s → Q (.str (S x)) H') ∧ ((∀ x, t = .small x → x ∈ xs) → ∀ d H', Same H H' → E (.ref CN) (some d) H')
section
variable {P : Program} {w : World} {K : PySem.W.Frag} {mg : Str → Option Value} {base : Heap} {CE CN CW CR fN f : Addr} {mcE : Value} {fd : FuncData}
theorem ok_ends (F : Fun K "ends" "Reader.ends" (sR 7) f fd) (T : Txt K mg CE CN CW CR fN mcE) (cF : Mt P w K mg base 3 CR "fail" (spFail CN CW CR)) (cI : Mtk P w K mg base 2 CR "is_now" ["sort"] gS (spIs CW CR)) :
    FnOk P w K mg base (L2.CX P w) 4 f fd ["self"] (spEnds CN CW CR) := by
  refine F.okX scEnds (fun vs H Q E h => ?_) (fun cdv A outer s H vs Q E hr h => ?_)
  · obtain ⟨ρ, t, s, rfl, _⟩ := h
    rfl
  obtain ⟨ρ, t, s, rfl, R0, k1, k2⟩ := h
  refine ⟨_, pss_one (ps_if (pt_not (pt_val (pe_mtk cI (hr.mono (by decide)) pxN (pv 0) (pk_cons pe_str pk_nil)))) (pss_one (ps_expr (pe_mt0 cF hr pxE (pv 0)))) pss_nil), ?_⟩
  obtain ⟨i, R⟩ := id R0
  have no : ∀ {m : Str}, (m == ("all_words" : Str)) = false → (m == ("at" : Str)) = false → (m == ("number" : Str)) = false → (rdFs ρ.l i ρ.n).lookup m = none := fun a b c => r_no ρ.l i ρ.n a b c
  refine ⟨_, rfl, ρ.r, ρ.dx, _, rfl, R.h, no (by decide +kernel) (by decide +kernel) (by decide +kernel), rfl, ρ, t, s, _, _, rfl, R0, .inl rfl, _, rfl, ?_⟩
  rw [isNow_fin]
  refine ite2 (fun c => ?_) (fun c => ?_)
  · have c' : t ≠ .fin := by simpa using c
    exact ⟨_, rfl, ρ.r, ρ.dx, _, rfl, R.h, no (by decide +kernel) (by decide +kernel) (by decide +kernel), ρ, t, s, rfl, R0, fun d H' sm => k2 c' d H' sm⟩
  · have c' : t = .fin := by simpa using c
    exact k1 c'
theorem ok_un (F : Fun K "take_unlike" "Reader.take_unlike" (sR 5) f fd) (T : Txt K mg CE CN CW CR fN mcE) (cN : Mt P w K mg base 1 CR "now" (spNow CW CR)) (cF : Mt P w K mg base 3 CR "fail" (spFail CN CW CR)) (cT : Mtk P w K mg base 4 CR "take" ["sort"] gS (spTake CN CW CR)) :
    FnOk P w K mg base (L2.CX P w) 5 f fd ["self", "names"] (spUn K CN CW CR) := by
  refine F.okX scUn (fun vs H Q E h => ?_) (fun cdv A outer s H vs Q E hr h => ?_)
  · obtain ⟨ρ, t, s, a, xs, rfl, _⟩ := h
    rfl
  obtain ⟨ρ, t, s, a, xs, rfl, R0, hS, k1, k2⟩ := h
  refine ⟨_, pss_cons (ps_if (pt_cmpR op_in_seq (pe_fld (pe_mt0 cN (hr.mono (by decide)) pxN (pv 0)) rfl) (pv 1) (by rfl)) (pss_one (ps_expr (pe_mt0 cF (hr.mono (by decide)) pxE (pv 0)))) pss_nil)
    (pss_one (ps_ret (pe_mtk cT hr pxE (pv 0) (pk_cons pe_str pk_nil)))), ?_⟩
  obtain ⟨i, R⟩ := id R0
  have no : ∀ {m : Str}, (m == ("all_words" : Str)) = false → (m == ("at" : Str)) = false → (m == ("number" : Str)) = false → (rdFs ρ.l i ρ.n).lookup m = none := fun a b c => r_no ρ.l i ρ.n a b c
  refine ⟨_, rfl, ρ.r, ρ.dx, _, rfl, R.h, no (by decide +kernel) (by decide +kernel) (by decide +kernel), ρ, t, s, rfl, R0, fun p ⟨dw, col, hw⟩ => ?_⟩
  refine ⟨p, CW, dw, _, _, rfl, hw, T.clW, T.wT, w_t _ _, _, rfl, a, _, rfl, .inl hS, rfl, flat_stxs xs, _, rfl, ?_⟩
  refine ite2 (fun c => ?_) (fun c => ?_)
  · refine ⟨_, rfl, ρ.r, ρ.dx, _, rfl, R.h, no (by decide +kernel) (by decide +kernel) (by decide +kernel), ρ, t, s, rfl, R0, fun d H' sm => k2 (fun x e => ?_) d H' sm⟩
    subst e
    have c1 : inV (.str (S x)) (stxs xs) = true := c
    rw [inV_stxs] at c1
    exact of_decide_eq_true c1
  · have nx : ∀ x, t = .small x → x ∉ xs := fun x e m => c (by
      subst e
      show inV (.str (S x)) (stxs xs) = true
      rw [inV_stxs]
      exact decide_eq_true m)
    refine ⟨_, rfl, ρ.r, ρ.dx, _, rfl, R.h, no (by decide +kernel) (by decide +kernel) (by decide +kernel), rfl, ρ, t, s, _, _, rfl, R0, .inl rfl, fun c H' kp hR => ?_, fun c d H' sm => k2 (fun x e => ?_) d H' sm⟩
    · obtain ⟨x, rfl⟩ := (isNow_small t).mp c
      exact k1 x rfl (nx x rfl) H' kp hR
    · have := (isNow_small t).mpr ⟨x, e⟩
      rw [c] at this
      cases this
end
end W72
/-! W5: Reader.small_names. -/
namespace W72
open PySem L2
def spSm (CN CW CR : Addr) : Sp := fun vs H Q E => ∃ (ρ : Rdr) (s : List KTok) (u : Bool), vs = [.ref ρ.r, .bl u] ∧ RdAt CW CR H ρ s ∧ EndF s ∧
  (u = false → ∀ p H', Kp ρ.r H H' → H p = none → RdAt CW CR H' ρ (K72.smalls s).2 → H' p = some (.lst (stxs (K72.smalls s).1)) → Q (.ref p) H') ∧
  (u = true → (∀ xs q, K72.smallsU [] s = .ok xs q → ∀ p H', Kp ρ.r H H' → H p = none → RdAt CW CR H' ρ q → H' p = some (.lst (stxs xs)) → Q (.ref p) H') ∧
    (K72.smallsU [] s = .fail → ∀ d H', Kp ρ.r H H' → E (.ref CN) (some d) H'))
theorem smalls_stop {t : KTok} {q : List KTok} (h : ¬ ∃ x, t = .small x) : K72.smalls (t :: q) = ([], t :: q) := by
  cases t <;> first | rfl | exact absurd ⟨_, rfl⟩ h
theorem smallsU_stop {t : KTok} {q : List KTok} {xs : List K72.L} (h : ¬ ∃ x, t = .small x) : K72.smallsU xs (t :: q) = .ok xs (t :: q) := by
  cases t <;> first | rfl | exact absurd ⟨_, rfl⟩ h
theorem kp_fresh {r : Addr} {H H' : Hp} (k : Kp r H H') {p : Addr} (hp : H' p = none) (hr : p ≠ r) : H p = none := by
  cases e : H p with
  | none => rfl
  | some o =>
    rw [k p o hr e] at hp
    cases hp
theorem kp_upd2 {r : Addr} {H H' : Hp} (k : Kp r H H') {p : Addr} {o : HO} (hp : H p = none) : Kp r H (upd H' p o) := fun b u n e => by
  rw [upd_ne (ne_of_none e hp)]
  exact k b u n e
section
variable {P : Program} {w : World} {K : PySem.W.Frag} {mg : Str → Option Value} {base : Heap} {CE CN CW CR fN f : Addr} {mcE : Value} {fd : FuncData}
theorem ok_sm (F : Fun K "small_names" "Reader.small_names" (sR 6) f fd) (T : Txt K mg CE CN CW CR fN mcE) (cI : Mtk P w K mg base 2 CR "is_now" ["sort"] gS (spIs CW CR)) (cT : Mtk P w K mg base 4 CR "take" ["sort"] gS (spTake CN CW CR)) (cU : Mt P w K mg base 5 CR "take_unlike" (spUn K CN CW CR)) :
    FnOk P w K mg base (L2.CX P w) 6 f fd ["self", "unlike"] (spSm CN CW CR) := by
  refine F.okX scSm (fun vs H Q E h => ?_) (fun cdv A outer s₀ H vs Q E hr h => ?_)
  · obtain ⟨ρ, s, u, rfl, _⟩ := h
    rfl
  obtain ⟨ρ, s, u, rfl, R0, hE, kF, kT⟩ := h
  refine ⟨_, pss_cons (ps_set (i := 2) scSm.nd rfl (Or.inl rfl) (pe_lst pa_nil))
    (pss_cons (ps_while (passes_of rfl) (pt_val (pe_mtk cI (hr.mono (by decide)) pxN (pv 0) (pk_cons pe_str pk_nil)))
      (pss_one (ps_if (pt_val (pv 1))
        (pss_one (ps_expr (pe_bm PySem.F.plainAttrs_list PySem.F.slot_list_append PySem.F.type_list_append mt_append (pv 2) (pa_cons (pe_mt1 cU hr pxE (pv 0) (pa_cons (pv 2) pa_nil)) pa_nil))))
        (pss_one (ps_expr (pe_bm PySem.F.plainAttrs_list PySem.F.slot_list_append PySem.F.type_list_append mt_append (pv 2) (pa_cons (pe_mtk cT (hr.mono (by decide)) pxE (pv 0) (pk_cons pe_str pk_nil)) pa_nil)))))))
    (pss_one (ps_ret (pv 2)))), ?_⟩
  refine ⟨Nat.zero_le _, fun p np => ?_⟩
  have pr : p ≠ ρ.r := by
    obtain ⟨fs, e⟩ := R0.hr
    exact (ne_of_none e np).symm
  have pl : p ≠ ρ.l := (ne_of_none R0.hl np).symm
  refine ⟨fun m σ H' => ∃ xs q, σ = [some (.ref ρ.r), some (.bl u), some (.ref p)] ∧ Kp ρ.r H H' ∧ H' p = some (.lst (stxs xs)) ∧ RdAt CW CR H' ρ q ∧ EndF q ∧ m = q.length ∧ xs.length + q.length ≤ 100000 ∧
    (u = false → K72.smalls s = (xs ++ (K72.smalls q).1, (K72.smalls q).2)) ∧ (u = true → K72.smallsU [] s = K72.smallsU xs q),
    ⟨_, [], s, rfl, kp_upd2 (Kp.refl _ _) np, upd_same, R0.upd pr pl (fun C dx fs e => by rw [np] at e; cases e), hE, rfl, by have := R0.len; show 0 + s.length ≤ _; omega, fun _ => rfl, fun _ => rfl⟩, ?_⟩
  rintro m σ H1 ⟨xs, q, rfl, k1, hp, R1, hE1, rfl, hz, hF, hT⟩
  obtain ⟨t, q', rfl⟩ := hE1.cons
  obtain ⟨i, R⟩ := id R1
  have no : ∀ {m : Str}, (m == ("all_words" : Str)) = false → (m == ("at" : Str)) = false → (m == ("number" : Str)) = false → (rdFs ρ.l i ρ.n).lookup m = none := fun a b c => r_no ρ.l i ρ.n a b c
  refine ⟨_, rfl, ρ.r, ρ.dx, _, rfl, R.h, no (by decide +kernel) (by decide +kernel) (by decide +kernel), rfl, ρ, t, q', _, _, rfl, R1, .inl rfl, _, rfl, ?_⟩
  refine ite2 (fun c => ?_) (fun c => ?_)
  · obtain ⟨x, rfl⟩ := (isNow_small t).mp c
    have hE2 : EndF q' := hE1.tail (fun z => by cases z)
    have hlen : (stxs xs).length < sizeLine := by
      rw [List.length_map]
      exact Nat.lt_of_le_of_lt (show xs.length ≤ 100000 by rw [List.length_cons] at hz; omega) (by decide)
    have more : ∀ H2, Kp ρ.r H1 H2 → RdAt CW CR H2 ρ q' → (u = true → x ∉ xs) →
        H2 p = some (.lst (stxs xs)) ∧ ∃ m', m' < (K72.Tok.small x :: q').length ∧ ∃ xs' q, [some (V.ref ρ.r), some (V.bl u), some (V.ref p)] = [some (V.ref ρ.r), some (V.bl u), some (V.ref p)] ∧ Kp ρ.r H (upd H2 p (.lst (stxs xs ++ [.str (S x)]))) ∧
          (upd H2 p (.lst (stxs xs ++ [.str (S x)]))) p = some (.lst (stxs xs')) ∧ RdAt CW CR (upd H2 p (.lst (stxs xs ++ [.str (S x)]))) ρ q ∧ EndF q ∧ m' = q.length ∧ xs'.length + q.length ≤ 100000 ∧
          (u = false → K72.smalls s = (xs' ++ (K72.smalls q).1, (K72.smalls q).2)) ∧ (u = true → K72.smallsU [] s = K72.smallsU xs' q) := fun H2 k2 R2 hx => by
      have hp2 : H2 p = some (.lst (stxs xs)) := k2 p _ pr hp
      refine ⟨hp2, q'.length, Nat.lt_succ_self _, xs ++ [x], q', rfl, kp_upd2 (k1.trans k2) np, by rw [upd_same]; simp [stxs], R2.upd pr pl (fun C dx fs e => by rw [hp2] at e; cases e), hE2, rfl, ?_, fun e => ?_, fun e => ?_⟩
      · rw [List.length_append]
        rw [List.length_cons] at hz
        show xs.length + 1 + q'.length ≤ _
        omega
      · rw [hF e]
        show (xs ++ (x :: (K72.smalls q').1), (K72.smalls q').2) = _
        simp
      · rw [hT e, K72.smallsU, if_neg (hx e)]
    cases u with
    | true =>
      refine ⟨fun σ' H' => ∃ m', m' < (K72.Tok.small x :: q').length ∧ ∃ xs' q, σ' = [some (V.ref ρ.r), some (V.bl true), some (V.ref p)] ∧ Kp ρ.r H H' ∧ H' p = some (.lst (stxs xs')) ∧ RdAt CW CR H' ρ q ∧ EndF q ∧ m' = q.length ∧ xs'.length + q.length ≤ 100000 ∧
        (true = false → K72.smalls s = (xs' ++ (K72.smalls q).1, (K72.smalls q).2)) ∧ (true = true → K72.smallsU [] s = K72.smallsU xs' q), fun σ' H' h => h, ?_⟩
      refine ⟨_, rfl, _, rfl, ?_⟩
      refine iteT ?_
      refine ⟨_, rfl, .inl ⟨rfl, _, SqL.of hp⟩, ?_⟩
      refine ⟨_, rfl, ρ.r, ρ.dx, _, rfl, R.h, no (by decide +kernel) (by decide +kernel) (by decide +kernel), _, rfl, ρ, _, q', p, xs, rfl, R1, SqL.of hp, fun y e hy H2 k2 R2 => ?_, fun hall d H2 sm => ?_⟩
      · injection e with e
        subst e
        obtain ⟨hp2, hm⟩ := more H2 k2 R2 (fun _ => hy)
        refine ⟨p, _, _, rfl, rfl, hp2, hlen, ?_⟩
        exact hm
      · refine (kT rfl).2 ?_ d H2 (k1.trans (Kp.of sm))
        rw [hT rfl, K72.smallsU, if_pos (hall x rfl)]
    | false =>
      refine ⟨fun σ' H' => ∃ m', m' < (K72.Tok.small x :: q').length ∧ ∃ xs' q, σ' = [some (V.ref ρ.r), some (V.bl false), some (V.ref p)] ∧ Kp ρ.r H H' ∧ H' p = some (.lst (stxs xs')) ∧ RdAt CW CR H' ρ q ∧ EndF q ∧ m' = q.length ∧ xs'.length + q.length ≤ 100000 ∧
        (false = false → K72.smalls s = (xs' ++ (K72.smalls q).1, (K72.smalls q).2)) ∧ (false = true → K72.smallsU [] s = K72.smallsU xs' q), fun σ' H' h => h, ?_⟩
      refine ⟨_, rfl, _, rfl, ?_⟩
      refine iteF ?_
      refine ⟨_, rfl, .inl ⟨rfl, _, SqL.of hp⟩, ?_⟩
      refine ⟨_, rfl, ρ.r, ρ.dx, _, rfl, R.h, no (by decide +kernel) (by decide +kernel) (by decide +kernel), rfl, ρ, _, q', _, _, rfl, R1, .inl rfl, fun _ H2 k2 R2 => ?_, fun hno => absurd c (by rw [hno]; exact Bool.false_ne_true)⟩
      obtain ⟨hp2, hm⟩ := more H2 k2 R2 (fun e => by cases e)
      exact ⟨p, _, _, rfl, rfl, hp2, hlen, hm⟩
  · have c' : ¬ ∃ x, t = .small x := fun e => c ((isNow_small t).mpr e)
    refine ⟨_, rfl, ?_⟩
    cases u with
    | true =>
      refine (kT rfl).1 xs (t :: q') ?_ p H1 k1 np R1 hp
      rw [hT rfl, smallsU_stop c']
    | false =>
      have e := hF rfl
      rw [smalls_stop c', List.append_nil] at e
      refine kF rfl p H1 k1 np ?_ ?_
      · rw [e]; exact R1
      · rw [e]; exact hp
end
end W72
/-! W6: terms in the heap; promises of the reading defs; term_of, fun_of, way_of. -/
namespace W72
open PySem L2
abbrev KTm := K72.Tm
mutual
def encT : KTm → PyData
  | .num n => .tuple [.str "num", .int (n : Int)]
  | .name x => .tuple [.str "name", .str (S x)]
  | .make x => .tuple [.str "make", .str (S x)]
  | .app a b => .tuple [.str "app", encT a, encT b]
  | .fn x b => .tuple [.str "fun", .str (S x), encT b]
  | .lt ps b => .tuple [.str "let", .tuple (encPs ps), encT b]
  | .cs e ws => .tuple [.str "case", encT e, .tuple (encWs ws)]
  | .op o a b => .tuple [.str "op", .str (opS o), encT a, encT b]
  | .par t => encT t
def encPs : List (K72.L × KTm) → List PyData
  | [] => []
  | (x, t) :: r => .tuple [.str (S x), encT t] :: encPs r
def encWs : List (K72.L × List K72.L × KTm) → List PyData
  | [] => []
  | (c, xs, t) :: r => .tuple [.str (S c), .tuple (xs.map fun x => .str (S x)), encT t] :: encWs r
end
def encW (w : K72.L × List K72.L × KTm) : PyData := .tuple [.str (S w.1), .tuple (w.2.1.map fun x => .str (S x)), encT w.2.2]
theorem encPs_append : ∀ a b, encPs (a ++ b) = encPs a ++ encPs b
  | [], b => by simp [encPs]
  | (x, t) :: r, b => by rw [List.cons_append, encPs, encPs, encPs_append r b] <;> rfl
theorem encWs_map : ∀ a, encWs a = a.map encW
  | [] => by simp [encWs]
  | (x, y, t) :: r => by rw [encWs, encWs_map r] <;> rfl
/-! ### data stays -/
def NoIns (o : HO) : Prop := ∀ C dx fs, o ≠ .ins C dx fs
theorem seqT_stay {K : PySem.W.Frag} {H H' : Hp} (k : ∀ b o, H b = some o → NoIns o → H' b = some o) {a : Addr} {xs : List V} (h : SqT K H a xs) : SqT K H' a xs := by
  rcases h with (h | ⟨o, h⟩) | h
  · exact .inl (.inl (k _ _ h (fun _ _ _ z => by cases z)))
  · exact .inl (.inr ⟨o, k _ _ h (fun _ _ _ z => by cases z)⟩)
  · exact .inr h
theorem seqL_stay {K : PySem.W.Frag} {H H' : Hp} (k : ∀ b o, H b = some o → NoIns o → H' b = some o) {a : Addr} {xs : List V} (h : SqL K H a xs) : SqL K H' a xs := by
  rcases h with (h | ⟨o, h⟩) | h
  · exact .inl (.inl (k _ _ h (fun _ _ _ z => by cases z)))
  · exact .inl (.inr ⟨o, k _ _ h (fun _ _ _ z => by cases z)⟩)
  · exact .inr h
mutual
theorem dp_stay {K : PySem.W.Frag} {H H' : Hp} (k : ∀ b o, H b = some o → NoIns o → H' b = some o) : ∀ {v : V} {d : PyData}, Dp K H v d → Dp K H' v d
  | _, _, .non => .non
  | _, _, .bl b => .bl b
  | _, _, .int i => .int i
  | _, _, .str x => .str x
  | _, _, .lst h g => .lst (seqL_stay k h) (dpa_stay k g)
  | _, _, .tup h g => .tup (seqT_stay k h) (dpa_stay k g)
theorem dpa_stay {K : PySem.W.Frag} {H H' : Hp} (k : ∀ b o, H b = some o → NoIns o → H' b = some o) : ∀ {vs : List V} {ds : List PyData}, DpAll K H vs ds → DpAll K H' vs ds
  | _, _, .nil => .nil
  | _, _, .cons h g => .cons (dp_stay k h) (dpa_stay k g)
end
theorem Kp.stay {r : Addr} {H H' : Hp} (k : Kp r H H') {C dx : Addr} {fs : List (Str × V)} (hr : H r = some (.ins C dx fs)) : ∀ b o, H b = some o → NoIns o → H' b = some o := fun b o e n => k b o (fun z => by
  rw [z, hr] at e
  exact n _ _ _ (Option.some.inj e).symm) e
theorem Kp.dp {K : PySem.W.Frag} {CW CR : Addr} {H H' : Hp} {ρ : Rdr} {s : List KTok} {v : V} {d : PyData} (k : Kp ρ.r H H') (R : RdAt CW CR H ρ s) (h : Dp K H v d) : Dp K H' v d := by
  obtain ⟨fs, e⟩ := R.hr
  exact dp_stay (k.stay e) h
theorem dp_same {K : PySem.W.Frag} {H H' : Hp} {v : V} {d : PyData} (k : Same H H') (h : Dp K H v d) : Dp K H' v d := dp_stay (fun b o e _ => k b o e) h
theorem dp_new {K : PySem.W.Frag} {H : Hp} {p : Addr} {o : HO} {v : V} {d : PyData} (np : H p = none) (h : Dp K H v d) : Dp K (upd H p o) v d := dp_same (same_new np) h
theorem dp_str {K : PySem.W.Frag} {H : Hp} {x : Str} : Dp K H (.str x) (.str x) := .str x
/-- a new tuple of two, three, four -/
theorem dp_t2 {K : PySem.W.Frag} {H : Hp} {p : Addr} {a b : V} {d e : PyData} (np : H p = none) (h1 : Dp K H a d) (h2 : Dp K H b e) : Dp K (upd H p (.tup [a, b])) (.ref p) (.tuple [d, e]) :=
  .tup (SqT.of upd_same) (.cons (dp_new np h1) (.cons (dp_new np h2) .nil))
theorem dp_t3 {K : PySem.W.Frag} {H : Hp} {p : Addr} {a b c : V} {d e f : PyData} (np : H p = none) (h1 : Dp K H a d) (h2 : Dp K H b e) (h3 : Dp K H c f) : Dp K (upd H p (.tup [a, b, c])) (.ref p) (.tuple [d, e, f]) :=
  .tup (SqT.of upd_same) (.cons (dp_new np h1) (.cons (dp_new np h2) (.cons (dp_new np h3) .nil)))
theorem dp_t4 {K : PySem.W.Frag} {H : Hp} {p : Addr} {a b c x : V} {d e f g : PyData} (np : H p = none) (h1 : Dp K H a d) (h2 : Dp K H b e) (h3 : Dp K H c f) (h4 : Dp K H x g) : Dp K (upd H p (.tup [a, b, c, x])) (.ref p) (.tuple [d, e, f, g]) :=
  .tup (SqT.of upd_same) (.cons (dp_new np h1) (.cons (dp_new np h2) (.cons (dp_new np h3) (.cons (dp_new np h4) .nil))))
/-! ### promises of reading -/
def spP {α : Type} (K : PySem.W.Frag) (CN CW CR : Addr) (f : List KTok → K72.Res α) (enc : α → PyData) : Sp := fun vs H Q E => ∃ (ρ : Rdr) (s : List KTok), vs = [.ref ρ.r] ∧ RdAt CW CR H ρ s ∧ EndF s ∧ f s ≠ .out ∧
  (∀ a q, f s = .ok a q → ∀ v H', Kp ρ.r H H' → RdAt CW CR H' ρ q → EndF q → Dp K H' v (enc a) → Q v H') ∧ (f s = .fail → ∀ d H', Kp ρ.r H H' → E (.ref CN) (some d) H')
theorem endf_of {s u q : List KTok} (h : EndF s) (e : s = u ++ q) (hn : K72.Tok.fin ∉ u) : EndF q := by
  subst e
  refine h.app fun z => ?_
  subst z
  obtain ⟨v, e⟩ := h.e
  rw [List.append_nil] at e
  exact hn (by rw [e]; simp)
/-- a def of the module as it stands -/
structure Df (K : PySem.W.Frag) (mg : Str → Option Value) (x : Str) (st : Stmt) (ps : List Str) : Prop where
  ex : ∃ (f : Addr) (fd : FuncData), Fun K x x st f fd ∧ mg x = some (.ref f) ∧ Binds K fd ps []
theorem Df.cl {P : Program} {w : World} {K : PySem.W.Frag} {mg : Str → Option Value} {base : Heap} {x : Str} {st : Stmt} {ps : List Str} {k : Nat} {sp : Sp} (d : Df K mg x st ps) (h : ∀ f fd, Fun K x x st f fd → FnOk P w K mg base (L2.CX P w) k f fd ps sp) : Cl P w K mg base k x sp := by
  obtain ⟨f, fd, F, hm, hb⟩ := d.ex
  exact ⟨f, fd, ps, h f fd F, hm, F.kp, hb⟩
theorem Df.cl0 {P : Program} {w : World} {K : PySem.W.Frag} {mg : Str → Option Value} {base : Heap} {x : Str} {st : Stmt} {ps : List Str} {k : Nat} {sp : Sp} (d : Df K mg x st ps) (no : ∀ vs H Q E, ¬ sp vs H Q E) : Cl P w K mg base k x sp :=
  d.cl fun f fd F => ⟨fun vs H Q E h => absurd h (no vs H Q E), fun A outer s H args us vs Q E _ _ _ _ h => absurd h (no vs H Q E)⟩
theorem spP_out {α : Type} {K : PySem.W.Frag} {CN CW CR : Addr} {enc : α → PyData} : ∀ vs H Q E, ¬ spP K CN CW CR (fun _ => (K72.Res.out : K72.Res α)) enc vs H Q E := fun vs H Q E h => by
  obtain ⟨_, _, _, _, _, h, _⟩ := h
  exact h rfl
theorem Cl.mono {P : Program} {w : World} {K : PySem.W.Frag} {mg : Str → Option Value} {base : Heap} {x : Str} {j k : Nat} {sp : Sp} (c : Cl P w K mg base j x sp) (h : j ≤ k) : Cl P w K mg base k x sp := by
  obtain ⟨f, fd, ps, F, a, b, d⟩ := c.ex
  exact ⟨f, fd, ps, F.mono h, a, b, d⟩
/-! ### readings of the small methods -/
section
variable {CE CN CW CR : Addr} {H : Hp} {ρ : Rdr} {t : KTok} {s : List KTok} {m : Str} {tx : V} {σ : St} {i n : Nat} {gV : List V → List V → List V} {tk : TA} {zs : List V} {E : XK}
theorem no_at (ρ : Rdr) (i : Nat) {m : Str} (h : (m == ("all_words" : Str)) = false) (h1 : (m == ("at" : Str)) = false) (h2 : (m == ("number" : Str)) = false) : (rdFs ρ.l i ρ.n).lookup m = none := r_no _ _ _ h h1 h2
theorem e_is {Q : VK} (hσ : σ[i]? = some (some (.ref ρ.r))) (R0 : RdAt CW CR H ρ (t :: s)) (htx : tx = .non ∨ ∃ w, tx = .str w) (hk : ∀ Q' : List V → Hp → Prop, Q' zs H → tk σ H Q') (hlen : zs.length = n) (hg : gV [.ref ρ.r] zs = [.ref ρ.r, .str m, tx])
    (h : Q (.bl (isNow t m tx)) H) : tMethK CR "is_now" (spIs CW CR) gV n E0 (tVar i) tk σ H Q := by
  obtain ⟨j, R⟩ := id R0
  refine ⟨_, hσ, ρ.r, ρ.dx, _, rfl, R.h, no_at ρ j (by decide +kernel) (by decide +kernel) (by decide +kernel), ?_⟩
  refine hk _ ⟨hlen, ?_⟩
  rw [hg]
  exact ⟨ρ, t, s, m, tx, rfl, R0, htx, h⟩
theorem t_is {Q : Bool → Hp → Prop} (hσ : σ[i]? = some (some (.ref ρ.r))) (R0 : RdAt CW CR H ρ (t :: s)) (htx : tx = .non ∨ ∃ w, tx = .str w) (hk : ∀ Q' : List V → Hp → Prop, Q' zs H → tk σ H Q') (hlen : zs.length = n) (hg : gV [.ref ρ.r] zs = [.ref ρ.r, .str m, tx])
    (h : Q (isNow t m tx) H) : tB (tMethK CR "is_now" (spIs CW CR) gV n E0 (tVar i) tk) σ H Q := e_is hσ R0 htx hk hlen hg ⟨_, rfl, h⟩
theorem e_take {Q : VK} (hσ : σ[i]? = some (some (.ref ρ.r))) (R0 : RdAt CW CR H ρ (t :: s)) (htx : tx = .non ∨ ∃ w, tx = .str w) (hk : ∀ Q' : List V → Hp → Prop, Q' zs H → tk σ H Q') (hlen : zs.length = n) (hg : gV [.ref ρ.r] zs = [.ref ρ.r, .str m, tx])
    (h1 : isNow t m tx = true → ∀ H', Kp ρ.r H H' → RdAt CW CR H' ρ s → Q (.str (toldS t)) H') (h2 : isNow t m tx = false → ∀ d H', Same H H' → E (.ref CN) (some d) H') :
    tMethK CR "take" (spTake CN CW CR) gV n E (tVar i) tk σ H Q := by
  obtain ⟨j, R⟩ := id R0
  refine ⟨_, hσ, ρ.r, ρ.dx, _, rfl, R.h, no_at ρ j (by decide +kernel) (by decide +kernel) (by decide +kernel), ?_⟩
  refine hk _ ⟨hlen, ?_⟩
  rw [hg]
  exact ⟨ρ, t, s, m, tx, rfl, R0, htx, h1, h2⟩
/-- .. of a closed word, where the words end as they should -/
theorem e_eat {Q : VK} {tok : KTok} (hσ : σ[i]? = some (some (.ref ρ.r))) (R0 : RdAt CW CR H ρ s) (hE : EndF s) (hc : closed tok = true) (hk : ∀ Q' : List V → Hp → Prop, Q' zs H → tk σ H Q') (hlen : zs.length = n) (hg : gV [.ref ρ.r] zs = [.ref ρ.r, .str (manS tok), .str (toldS tok)])
    (h1 : ∀ q, K72.eat tok s = .ok () q → ∀ H', Kp ρ.r H H' → RdAt CW CR H' ρ q → EndF q → Q (.str (toldS tok)) H') (h2 : K72.eat tok s = .fail → ∀ d H', Kp ρ.r H H' → E (.ref CN) (some d) H') :
    tMethK CR "take" (spTake CN CW CR) gV n E (tVar i) tk σ H Q := by
  obtain ⟨t, r, rfl⟩ := hE.cons
  refine e_take hσ R0 (.inr ⟨_, rfl⟩) hk hlen hg (fun c H' k R' => ?_) (fun c d H' k => ?_)
  · rw [isNow_tok hc] at c
    have e : t = tok := of_decide_eq_true c
    subst e
    exact h1 r (K72.eat_cons _ _) H' k R' (hE.tail (fun z => by subst z; cases hc))
  · rw [isNow_tok hc] at c
    have e : t ≠ tok := of_decide_eq_false c
    refine h2 ?_ d H' (Kp.of k)
    unfold K72.eat
    rw [if_neg (show ¬ K72.now (t :: r) = tok from e)]
theorem e_eatS {Q : VK} (hσ : σ[i]? = some (some (.ref ρ.r))) (R0 : RdAt CW CR H ρ s) (hE : EndF s) (hk : ∀ Q' : List V → Hp → Prop, Q' zs H → tk σ H Q') (hlen : zs.length = n) (hg : gV [.ref ρ.r] zs = [.ref ρ.r, .str "small", .non])
    (h1 : ∀ x q, K72.eatS s = .ok x q → ∀ H', Kp ρ.r H H' → RdAt CW CR H' ρ q → EndF q → Q (.str (S x)) H') (h2 : K72.eatS s = .fail → ∀ d H', Kp ρ.r H H' → E (.ref CN) (some d) H') :
    tMethK CR "take" (spTake CN CW CR) gV n E (tVar i) tk σ H Q := by
  obtain ⟨t, r, rfl⟩ := hE.cons
  refine e_take hσ R0 (.inl rfl) hk hlen hg (fun c H' k R' => ?_) (fun c d H' k => ?_)
  · obtain ⟨x, rfl⟩ := (isNow_small t).mp c
    exact h1 x r rfl H' k R' (hE.tail (fun z => by cases z))
  · refine h2 ?_ d H' (Kp.of k)
    unfold K72.eatS
    split
    · rename_i x e
      have e' : t = .small x := e
      have := (isNow_small t).mpr ⟨x, e'⟩
      rw [c] at this; cases this
    · rfl
theorem e_eatG {Q : VK} (hσ : σ[i]? = some (some (.ref ρ.r))) (R0 : RdAt CW CR H ρ s) (hE : EndF s) (hk : ∀ Q' : List V → Hp → Prop, Q' zs H → tk σ H Q') (hlen : zs.length = n) (hg : gV [.ref ρ.r] zs = [.ref ρ.r, .str "great", .non])
    (h1 : ∀ x q, K72.eatG s = .ok x q → ∀ H', Kp ρ.r H H' → RdAt CW CR H' ρ q → EndF q → Q (.str (S x)) H') (h2 : K72.eatG s = .fail → ∀ d H', Kp ρ.r H H' → E (.ref CN) (some d) H') :
    tMethK CR "take" (spTake CN CW CR) gV n E (tVar i) tk σ H Q := by
  obtain ⟨t, r, rfl⟩ := hE.cons
  refine e_take hσ R0 (.inl rfl) hk hlen hg (fun c H' k R' => ?_) (fun c d H' k => ?_)
  · obtain ⟨x, rfl⟩ := (isNow_great t).mp c
    exact h1 x r rfl H' k R' (hE.tail (fun z => by cases z))
  · refine h2 ?_ d H' (Kp.of k)
    unfold K72.eatG
    split
    · rename_i x e
      have e' : t = .great x := e
      have := (isNow_great t).mpr ⟨x, e'⟩
      rw [c] at this; cases this
    · rfl
end
end W72
/-! W7: term_of, fun_of, way_of, comparing_of. -/
namespace W72
open PySem L2
abbrev gU : List V → List V → List V := fun vs zs => vs ++ zs
structure Rd (P : Program) (w : World) (K : PySem.W.Frag) (mg : Str → Option Value) (base : Heap) (CN CW CR : Addr) : Prop where
  isT : Mtk P w K mg base 2 CR "is_now" ["text"] gT (spIs CW CR)
  isS : Mtk P w K mg base 2 CR "is_now" ["sort"] gS (spIs CW CR)
  isST : Mtk P w K mg base 2 CR "is_now" ["sort", "text"] gST (spIs CW CR)
  tkT : Mtk P w K mg base 4 CR "take" ["text"] gT (spTake CN CW CR)
  tkS : Mtk P w K mg base 4 CR "take" ["sort"] gS (spTake CN CW CR)
  tkST : Mtk P w K mg base 4 CR "take" ["sort", "text"] gST (spTake CN CW CR)
  tk0 : Mtd P w K mg base 4 CR "take" [.str "sign", .non] (spTake CN CW CR)
  un : Mt P w K mg base 5 CR "take_unlike" (spUn K CN CW CR)
  sm : Mtk P w K mg base 6 CR "small_names" ["unlike"] gU (spSm CN CW CR)
  ends : Mt P w K mg base 4 CR "ends" (spEnds CN CW CR)
  now : Mt P w K mg base 1 CR "now" (spNow CW CR)
structure PAll (P : Program) (w : World) (K : PySem.W.Frag) (mg : Str → Option Value) (base : Heap) (CN CW CR : Addr) (n : Nat) : Prop where
  T : Cl P w K mg base (n + 6) "term_of" (spP K CN CW CR (K72.pT n) encT)
  Fn : Cl P w K mg base (n + 6) "fun_of" (spP K CN CW CR (K72.pFn n) encT)
  Lt : Cl P w K mg base (n + 6) "let_of" (spP K CN CW CR (K72.pLt n) encT)
  Cs : Cl P w K mg base (n + 6) "case_of" (spP K CN CW CR (K72.pCs n) encT)
  Way : Cl P w K mg base (n + 6) "way_of" (spP K CN CW CR (K72.pWay n) encW)
  Cmp : Cl P w K mg base (n + 6) "comparing_of" (spP K CN CW CR (K72.pCmp n) encT)
  Sum : Cl P w K mg base (n + 6) "sum_of" (spP K CN CW CR (K72.pSum n) encT)
  Prod : Cl P w K mg base (n + 6) "product_of" (spP K CN CW CR (K72.pProd n) encT)
  Call : Cl P w K mg base (n + 6) "calling_of" (spP K CN CW CR (K72.pCall n) encT)
  Thing : Cl P w K mg base (n + 6) "thing_of" (spP K CN CW CR (K72.pThing n) encT)
theorem scTerm : FnScope ["reader"] ["reader"] (defScope (top 21)) := ⟨rfl, rfl, rfl, by decide +kernel, rfl, by decide +kernel, by decide +kernel⟩
theorem scFun : FnScope ["reader", "first", "rest", "body", "name"] ["reader"] (defScope (top 22)) := ⟨rfl, rfl, rfl, by decide +kernel, rfl, by decide +kernel, by decide +kernel⟩
theorem scWay : FnScope ["reader", "maker", "names"] ["reader"] (defScope (top 25)) := ⟨rfl, rfl, rfl, by decide +kernel, rfl, by decide +kernel, by decide +kernel⟩
theorem scCmp : FnScope ["reader", "one", "op"] ["reader"] (defScope (top 26)) := ⟨rfl, rfl, rfl, by decide +kernel, rfl, by decide +kernel, by decide +kernel⟩
theorem pT_bs {n : Nat} {t : KTok} {s : List KTok} (h : t = .bs) : K72.pT (n + 1) (t :: s) = K72.pFn n (t :: s) := by subst h; rfl
theorem pT_let {n : Nat} {t : KTok} {s : List KTok} (h : t = .kw .klet) : K72.pT (n + 1) (t :: s) = K72.pLt n (t :: s) := by subst h; rfl
theorem pT_case {n : Nat} {t : KTok} {s : List KTok} (h : t = .kw .kcase) : K72.pT (n + 1) (t :: s) = K72.pCs n (t :: s) := by subst h; rfl
section
variable {P : Program} {w : World} {K : PySem.W.Frag} {mg : Str → Option Value} {base : Heap} {CE CN CW CR fN f : Addr} {mcE : Value} {fd : FuncData} {n : Nat}
theorem ok_term (F : Fun K "term_of" "term_of" (top 21) f fd) (B : Rd P w K mg base CN CW CR) (A : PAll P w K mg base CN CW CR n) : FnOk P w K mg base (L2.CX P w) (n + 6 + 1) f fd ["reader"] (spP K CN CW CR (K72.pT (n + 1)) encT) := by
  refine F.okX scTerm (fun vs H Q E h => ?_) (fun cdv A' outer s₀ H vs Q E hr h => ?_)
  · obtain ⟨ρ, s, rfl, _⟩ := h
    rfl
  obtain ⟨ρ, s, rfl, R0, hE, hno, q1, q2⟩ := h
  refine ⟨_, pss_cons (ps_if (pt_val (pe_mtk B.isT (hr.mono (by omega)) pxN (pv 0) (pk_cons pe_str pk_nil))) (pss_one (ps_ret (pe_cl A.Fn hr pxE rfl (pa_cons (pv 0) pa_nil)))) pss_nil)
    (pss_cons (ps_if (pt_val (pe_mtk B.isST (hr.mono (by omega)) pxN (pv 0) (pk_cons pe_str (pk_cons pe_str pk_nil)))) (pss_one (ps_ret (pe_cl A.Lt hr pxE rfl (pa_cons (pv 0) pa_nil)))) pss_nil)
    (pss_cons (ps_if (pt_val (pe_mtk B.isST (hr.mono (by omega)) pxN (pv 0) (pk_cons pe_str (pk_cons pe_str pk_nil)))) (pss_one (ps_ret (pe_cl A.Cs hr pxE rfl (pa_cons (pv 0) pa_nil)))) pss_nil)
    (pss_one (ps_ret (pe_cl A.Cmp hr pxE rfl (pa_cons (pv 0) pa_nil)))))), ?_⟩
  obtain ⟨t, r, rfl⟩ := hE.cons
  refine t_is rfl R0 (.inr ⟨_, rfl⟩) (fun _ h => h) rfl rfl ?_
  rw [is_bs]
  refine ite2 (fun c => ?_) (fun c => ?_)
  · rw [pT_bs (of_decide_eq_true c)] at hno q1 q2
    exact ⟨_, rfl, ρ, _, rfl, R0, hE, hno, q1, q2⟩
  refine t_is rfl R0 (.inr ⟨_, rfl⟩) (fun _ h => h) rfl rfl ?_
  rw [is_klet]
  refine ite2 (fun c2 => ?_) (fun c2 => ?_)
  · rw [pT_let (of_decide_eq_true c2)] at hno q1 q2
    exact ⟨_, rfl, ρ, _, rfl, R0, hE, hno, q1, q2⟩
  refine t_is rfl R0 (.inr ⟨_, rfl⟩) (fun _ h => h) rfl rfl ?_
  rw [is_kcase]
  refine ite2 (fun c3 => ?_) (fun c3 => ?_)
  · rw [pT_case (of_decide_eq_true c3)] at hno q1 q2
    exact ⟨_, rfl, ρ, _, rfl, R0, hE, hno, q1, q2⟩
  have e : K72.pT (n + 1) (t :: r) = K72.pCmp n (t :: r) := K72.pT_cmp ⟨fun e => c (decide_eq_true e), fun e => c2 (decide_eq_true e), fun e => c3 (decide_eq_true e)⟩
  rw [e] at hno q1 q2
  exact ⟨_, rfl, ρ, _, rfl, R0, hE, hno, q1, q2⟩

/-- built-ins that the text leaves alone -/
structure Bl (mg : Str → Option Value) : Prop where
  len : mg "len" = none
  all : mg "all" = none
  isinstance : mg "isinstance" = none
  reversed : mg "reversed" = none
  list : mg "list" = none
  tuple : mg "tuple" = none
  int : mg "int" = none
  str : mg "str" = none
  enumerate : mg "enumerate" = none
  max : mg "max" = none
  min : mg "min" = none
  range : mg "range" = none
theorem kp_same {r : Addr} {H H1 H2 : Hp} (a : Kp r H H1) (b : Same H1 H2) : Kp r H H2 := a.trans (Kp.of b)
theorem len_stxs (xs : List K72.L) : (stxs xs).length = xs.length := List.length_map _
theorem ok_fun (F : Fun K "fun_of" "fun_of" (top 22) f fd) (B : Rd P w K mg base CN CW CR) (Z : Bl mg) (A : PAll P w K mg base CN CW CR n) : FnOk P w K mg base (L2.CX P w) (n + 6 + 1) f fd ["reader"] (spP K CN CW CR (K72.pFn (n + 1)) encT) := by
  refine F.okX scFun (fun vs H Q E h => ?_) (fun cdv A' outer s₀ H vs Q E hr h => ?_)
  · obtain ⟨ρ, s, rfl, _⟩ := h
    rfl
  obtain ⟨ρ, s, rfl, R0, hE, hno, q1, q2⟩ := h
  refine ⟨_, pss_cons (ps_expr (pe_mtk B.tkT (hr.mono (by omega)) pxE (pv 0) (pk_cons pe_str pk_nil)))
    (pss_cons (ps_set (i := 1) scFun.nd rfl (Or.inl rfl) (pe_mtk B.tkS (hr.mono (by omega)) pxE (pv 0) (pk_cons pe_str pk_nil)))
    (pss_cons (ps_set (i := 2) scFun.nd rfl (Or.inl rfl) (pe_mtk B.sm (hr.mono (by omega)) pxE (pv 0) (pk_cons pe_bl pk_nil)))
    (pss_cons (ps_expr (pe_mtk B.tkT (hr.mono (by omega)) pxE (pv 0) (pk_cons pe_str pk_nil)))
    (pss_cons (ps_set (i := 3) scFun.nd rfl (Or.inl rfl) (pe_cl A.T hr pxE rfl (pa_cons (pv 0) pa_nil)))
    (pss_cons (ps_for (passes_of rfl) rfl (pi_reversed rfl Z.reversed (pa_cons (pe_op op_cat (pe_lst (pa_cons (pv 1) pa_nil)) (pv 2)) pa_nil)) (pg_name (i := 4) scFun.nd rfl (Or.inl rfl))
      (pss_one (ps_set (i := 3) scFun.nd rfl (Or.inl rfl) (pe_tup (pa_cons pe_str (pa_cons (pv 4) (pa_cons (pv 3) pa_nil)))))))
    (pss_one (ps_ret (pv 3)))))))), ?_⟩
  rw [K72.pFn_succ] at hno q1 q2
  refine e_eat (tok := .bs) rfl R0 hE rfl (fun _ h => h) rfl rfl (fun s1 e1 H1 k1 R1 E1 => ?_) (fun e1 d H1 k1 => q2 (by rw [e1]; rfl) d H1 k1)
  rw [e1, K72.ok_bind] at hno q1 q2
  refine e_eatS rfl R1 E1 (fun _ h => h) rfl rfl (fun x s2 e2 H2 k2 R2 E2 => ?_) (fun e2 d H2 k2 => q2 (by rw [e2]; rfl) d H2 (k1.trans k2))
  rw [e2, K72.ok_bind] at hno q1 q2
  obtain ⟨j2, X2⟩ := id R2
  refine ⟨_, rfl, ρ.r, ρ.dx, _, rfl, X2.h, no_at ρ j2 (by decide +kernel) (by decide +kernel) (by decide +kernel), rfl, ρ, s2, false, rfl, R2, E2, fun _ p H3 k3 np R3 hp => ?_, fun z => by cases z⟩
  have E3 : EndF (K72.smalls s2).2 := endf_of E2 (K72.smalls_eq s2) (K72.nf_smTk _)
  refine e_eat (tok := .arr) rfl R3 E3 rfl (fun _ h => h) rfl rfl (fun s4 e4 H4 k4 R4 E4 => ?_) (fun e4 d H4 k4 => q2 (by rw [e4]; rfl) d H4 (k1.trans (k2.trans (k3.trans k4))))
  rw [e4, K72.ok_bind] at hno q1 q2
  have pr : p ≠ ρ.r := by
    obtain ⟨fs, e⟩ := R2.hr
    exact (ne_of_none e np).symm
  have hp4 : H4 p = some (.lst (stxs (K72.smalls s2).1)) := k4 p _ pr hp
  refine ⟨_, rfl, ρ, s4, rfl, R4, E4, fun e => hno (by rw [e]; rfl), fun b q e5 v H5 k5 R5 E5 D5 => ?_, fun e5 d H5 k5 => q2 (by rw [e5]; rfl) d H5 (k1.trans (k2.trans (k3.trans (k4.trans k5))))⟩
  have hp5 : H5 p = some (.lst (stxs (K72.smalls s2).1)) := k5 p _ pr hp4
  have kk : Kp ρ.r H H5 := k1.trans (k2.trans (k3.trans (k4.trans k5)))
  -- the names in a new list, from its end
  refine ⟨_, rfl, (by show 1 ≤ sizeLine; decide), fun a na => ?_⟩
  have hpa : upd H5 a (.lst [.str (S x)]) p = some (.lst (stxs (K72.smalls s2).1)) := same_new na p _ hp5
  have hl2 : ([V.str (S x)] : List V).length + (stxs (K72.smalls s2).1).length ≤ sizeLine := by
    rw [len_stxs]
    have h1 := R2.len
    have h2 := congrArg List.length (K72.smalls_eq s2)
    rw [List.length_append, show (K72.smTk (K72.smalls s2).1).length = (K72.smalls s2).1.length from List.length_map _] at h2
    exact Nat.le_trans (show 1 + (K72.smalls s2).1.length ≤ 100001 by omega) (by decide)
  refine ⟨_, rfl, a, p, _, _, rfl, rfl, upd_same, hpa, hl2, fun c nc => ?_⟩
  generalize hN : (x :: (K72.smalls s2).1 : List K72.L) = N
  have hc : ([V.str (S x)] ++ stxs (K72.smalls s2).1 : List V) = stxs N := by rw [← hN] <;> rfl
  rw [hc]
  generalize hH6 : upd (upd H5 a (.lst [.str (S x)])) c (.lst (stxs N)) = H6
  have s6 : Same H5 H6 := by rw [← hH6]; exact (same_new na).trans (same_new nc)
  have hc6 : H6 c = some (.lst (stxs N)) := by rw [← hH6]; exact upd_same
  refine ⟨c, stxs N, rfl, SqL.of hc6, for_it walk_rev (fun i σ H' => ∃ v y, σ = [some (.ref ρ.r), some (.str (S x)), some (.ref p), some v, y] ∧ Same H6 H' ∧ Dp K H' v (encT (K72.fns (N.drop (N.length - i)) b)))
    ⟨v, _, rfl, Same.refl _, by rw [Nat.sub_zero, List.drop_length]; exact dp_same s6 D5⟩ (fun i σ H' _ ⟨_, _, _, h, _⟩ => SqL.of (h _ _ hc6)) ?_ ?_⟩
  · rintro i z σ H' H'' hi ⟨v', y, rfl, s7, D7⟩ ⟨rfl, hz⟩
    rw [len_stxs] at hi hz
    have hlt : N.length - 1 - i < N.length := by omega
    have ez : z = .str (S N[N.length - 1 - i]) := by
      rw [List.getElem?_map, List.getElem?_eq_getElem hlt] at hz
      exact (Option.some.inj hz).symm
    subst ez
    refine ⟨_, rfl, _, rfl, (by show 3 ≤ sizeLine; decide), fun t nt => ⟨_, _, rfl, s7.trans (same_new nt), ?_⟩⟩
    have ed : N.drop (N.length - (i + 1)) = N[N.length - 1 - i] :: N.drop (N.length - i) := by
      have e1 : N.length - (i + 1) = N.length - 1 - i := by omega
      have e2 : N.length - i = N.length - 1 - i + 1 := by omega
      rw [e1, e2]
      exact List.drop_eq_getElem_cons hlt
    rw [ed]
    exact dp_t3 nt dp_str dp_str D7
  · rintro σ H' ⟨v', y, rfl, s7, D7⟩
    rw [len_stxs, Nat.sub_self, List.drop_zero] at D7
    refine ⟨_, rfl, q1 (K72.fns N b) q (by rw [e5, ← hN]; rfl) v' H' (kp_same (kp_same kk s6) s7) ((R5.same s6).same s7) E5 D7⟩
/-! ### way_of, comparing_of -/
theorem dpa_strs {K : PySem.W.Frag} {H : Hp} : ∀ xs : List K72.L, DpAll K H (stxs xs) (xs.map fun x => PyData.str (S x))
  | [] => .nil
  | x :: r => .cons dp_str (dpa_strs r)
theorem ok_way (F : Fun K "way_of" "way_of" (top 25) f fd) (B : Rd P w K mg base CN CW CR) (Z : Bl mg) (A : PAll P w K mg base CN CW CR n) : FnOk P w K mg base (L2.CX P w) (n + 6 + 1) f fd ["reader"] (spP K CN CW CR (K72.pWay (n + 1)) encW) := by
  refine F.okX scWay (fun vs H Q E h => ?_) (fun cdv A' outer s₀ H vs Q E hr h => ?_)
  · obtain ⟨ρ, s, rfl, _⟩ := h
    rfl
  obtain ⟨ρ, s, rfl, R0, hE, hno, q1, q2⟩ := h
  refine ⟨_, pss_cons (ps_set (i := 1) scWay.nd rfl (Or.inl rfl) (pe_mtk B.tkS (hr.mono (by omega)) pxE (pv 0) (pk_cons pe_str pk_nil)))
    (pss_cons (ps_set (i := 2) scWay.nd rfl (Or.inl rfl) (pe_mtk B.sm (hr.mono (by omega)) pxE (pv 0) (pk_cons pe_bl pk_nil)))
    (pss_cons (ps_expr (pe_mtk B.tkT (hr.mono (by omega)) pxE (pv 0) (pk_cons pe_str pk_nil)))
    (pss_one (ps_ret (pe_tup (pa_cons (pv 1) (pa_cons (pe_callTy call_tuple_of rfl Z.tuple (by decide +kernel) (pa_cons (pv 2) pa_nil)) (pa_cons (pe_cl A.T hr pxE rfl (pa_cons (pv 0) pa_nil)) pa_nil)))))))), ?_⟩
  rw [K72.pWay_succ] at hno q1 q2
  refine e_eatG rfl R0 hE (fun _ h => h) rfl rfl (fun c s1 e1 H1 k1 R1 E1 => ?_) (fun e1 d H1 k1 => q2 (by rw [e1]; rfl) d H1 k1)
  rw [e1, K72.ok_bind] at hno q1 q2
  obtain ⟨j2, X2⟩ := id R1
  refine ⟨_, rfl, ρ.r, ρ.dx, _, rfl, X2.h, no_at ρ j2 (by decide +kernel) (by decide +kernel) (by decide +kernel), rfl, ρ, s1, true, rfl, R1, E1, (fun z => by cases z), fun _ => ⟨fun xs s2 e2 p H2 k2 np R2 hp => ?_, fun e2 d H2 k2 => q2 (by rw [e2]; rfl) d H2 (k1.trans k2)⟩⟩
  rw [e2, K72.ok_bind] at hno q1 q2
  obtain ⟨new, hx, hs⟩ := K72.smallsU_ok _ _ _ _ e2
  rw [List.nil_append] at hx
  subst hx
  have E2 : EndF s2 := endf_of E1 hs (K72.nf_smTk _)
  refine e_eat (tok := .arr) rfl R2 E2 rfl (fun _ h => h) rfl rfl (fun s3 e3 H3 k3 R3 E3 => ?_) (fun e3 d H3 k3 => q2 (by rw [e3]; rfl) d H3 (k1.trans (k2.trans k3)))
  rw [e3, K72.ok_bind] at hno q1 q2
  have pr : p ≠ ρ.r := by
    obtain ⟨fs, e⟩ := R1.hr
    exact (ne_of_none e np).symm
  have hp3 : H3 p = some (.lst (stxs xs)) := k3 p _ pr hp
  refine ⟨_, rfl, _, rfl, p, _, rfl, .inl ⟨SqL.of hp3, fun a na => ?_⟩⟩
  have R4 := R3.same (same_new (o := .tup (stxs xs)) na)
  refine ⟨_, rfl, ρ, s3, rfl, R4, E3, fun e => hno (by rw [e]; rfl), fun b q e5 v H5 k5 R5 E5 D5 => ?_, fun e5 d H5 k5 => q2 (by rw [e5]; rfl) d H5 (k1.trans (k2.trans (k3.trans ((Kp.of (same_new na)).trans k5))))⟩
  have kk : Kp ρ.r H H5 := k1.trans (k2.trans (k3.trans ((Kp.of (same_new na)).trans k5)))
  refine ⟨(by show 3 ≤ sizeLine; decide), fun t nt => ?_⟩
  have ha5 : H5 a = some (.tup (stxs xs)) := k5.same (R4.hr.choose_spec) upd_same (fun z => by cases z)
  refine q1 (c, xs, b) q (by rw [e5]; rfl) _ _ (kp_same kk (same_new nt)) (R5.same (same_new nt)) E5 ?_
  exact dp_t3 nt dp_str (.tup (SqT.of ha5) (dpa_strs xs)) D5
end
end W72
/-! W8: comparing_of, sum_of, product_of, begins_thing, calling_of, thing_of. -/
namespace W72
open PySem L2
theorem scSum : FnScope ["reader", "one", "op"] ["reader"] (defScope (top 27)) := ⟨rfl, rfl, rfl, by decide +kernel, rfl, by decide +kernel, by decide +kernel⟩
theorem scProd : FnScope ["reader", "one"] ["reader"] (defScope (top 28)) := ⟨rfl, rfl, rfl, by decide +kernel, rfl, by decide +kernel, by decide +kernel⟩
theorem scBg : FnScope ["reader"] ["reader"] (defScope (top 29)) := ⟨rfl, rfl, rfl, by decide +kernel, rfl, by decide +kernel, by decide +kernel⟩
theorem scCall : FnScope ["reader", "one"] ["reader"] (defScope (top 30)) := ⟨rfl, rfl, rfl, by decide +kernel, rfl, by decide +kernel, by decide +kernel⟩
theorem scThing : FnScope ["reader", "one"] ["reader"] (defScope (top 31)) := ⟨rfl, rfl, rfl, by decide +kernel, rfl, by decide +kernel, by decide +kernel⟩
section
variable {P : Program} {w : World} {K : PySem.W.Frag} {mg : Str → Option Value} {base : Heap} {CE CN CW CR fN f : Addr} {mcE : Value} {fd : FuncData} {n : Nat}
/-- pCmp behind its first sum -/
def cmpR (n : Nat) (a : KTm) (q : List KTok) : K72.Res KTm := match K72.now q with
    | .op .less => (K72.pSum n q.tail).bind fun b q1 => .ok (.op .less a b) q1
    | .op .same => (K72.pSum n q.tail).bind fun b q1 => .ok (.op .same a b) q1
    | _ => .ok a q
theorem pCmp_succ (n : Nat) (s : List KTok) : K72.pCmp (n + 1) s = (K72.pSum n s).bind fun a q => cmpR n a q := rfl
theorem cmp_op {n : Nat} {a : KTm} {r : List KTok} {o : K72.Op} (h : o = .less ∨ o = .same) : cmpR n a (.op o :: r) = (K72.pSum n r).bind fun b q1 => .ok (.op o a b) q1 := by
  rcases h with rfl | rfl <;> rfl
theorem cmp_else {n : Nat} {a : KTm} {t : KTok} {r : List KTok} (h1 : t ≠ .op .less) (h2 : t ≠ .op .same) : cmpR n a (t :: r) = .ok a (t :: r) := by
  unfold cmpR
  split
  · rename_i e; exact absurd e h1
  · rename_i e; exact absurd e h2
  · rfl
theorem ok_cmp (F : Fun K "comparing_of" "comparing_of" (top 26) f fd) (B : Rd P w K mg base CN CW CR) (A : PAll P w K mg base CN CW CR n) : FnOk P w K mg base (L2.CX P w) (n + 6 + 1) f fd ["reader"] (spP K CN CW CR (K72.pCmp (n + 1)) encT) := by
  refine F.okX scCmp (fun vs H Q E h => ?_) (fun cdv A' outer s₀ H vs Q E hr h => ?_)
  · obtain ⟨ρ, s, rfl, _⟩ := h
    rfl
  obtain ⟨ρ, s, rfl, R0, hE, hno, q1, q2⟩ := h
  refine ⟨_, pss_cons (ps_set (i := 1) scCmp.nd rfl (Or.inl rfl) (pe_cl A.Sum hr pxE rfl (pa_cons (pv 0) pa_nil)))
    (pss_cons (ps_for (passes_of rfl) rfl (pi_list (pe_lst (pa_cons pe_str (pa_cons pe_str pa_nil)))) (pg_name (i := 2) scCmp.nd rfl (Or.inl rfl))
      (pss_one (ps_if (pt_val (pe_mtk B.isT (hr.mono (by omega)) pxN (pv 0) (pk_cons (pv 2) pk_nil)))
        (pss_cons (ps_expr (pe_mtk B.tkT (hr.mono (by omega)) pxE (pv 0) (pk_cons (pv 2) pk_nil)))
          (pss_one (ps_ret (pe_tup (pa_cons pe_str (pa_cons (pv 2) (pa_cons (pv 1) (pa_cons (pe_cl A.Sum hr pxE rfl (pa_cons (pv 0) pa_nil)) pa_nil)))))))) pss_nil)))
    (pss_one (ps_ret (pv 1)))), ?_⟩
  rw [pCmp_succ] at hno q1 q2
  refine ⟨_, rfl, ρ, s, rfl, R0, hE, fun e => hno (by rw [e]; rfl), fun a q e1 v H1 k1 R1 E1 D1 => ?_, fun e1 d H1 k1 => q2 (by rw [e1]; rfl) d H1 k1⟩
  rw [e1, K72.ok_bind] at hno q1 q2
  obtain ⟨t, r, rfl⟩ := E1.cons
  refine ⟨(by show 2 ≤ sizeLine; decide), fun l nl => ?_⟩
  have sl : Same H1 (upd H1 l (.lst [.str "<", .str "=="])) := same_new nl
  refine ⟨l, rfl, ⟨_, SqL.of upd_same⟩, for_list (K := K) (a := l) (xs := [.str "<", .str "=="]) (fun i σ H' => ∃ y, σ = [some (.ref ρ.r), some v, y] ∧ H' = upd H1 l (.lst [.str "<", .str "=="]) ∧ (1 ≤ i → t ≠ .op .less) ∧ (2 ≤ i → t ≠ .op .same))
    ⟨_, rfl, rfl, fun h => absurd h (by omega), fun h => absurd h (by omega)⟩ (fun i σ H' _ ⟨_, _, e, _⟩ => by rw [e]; exact SqL.of upd_same) ?_ ?_⟩
  · rintro i x σ H' hi ⟨y, rfl, rfl, h1, h2⟩
    have R2 := R1.same sl
    -- both operations alike
    have act : ∀ (o : K72.Op) (D : Ends), (o = .less ∨ o = .same) → t = .op o → D.rt = Q →
        tSeq (tDrop (tMethK CR "take" (spTake CN CW CR) gT 1 E (tVar 0) (tCons (tVar 2) tNil))) (tRet (tTup (tCons (tC (.str "op")) (tCons (tVar 2) (tCons (tVar 1) (tCons (tCall (spP K CN CW CR (K72.pSum n) encT) [] E (tCons (tVar 0) tNil)) tNil))))))
          D [some (.ref ρ.r), some v, some (.str (opS o))] (upd H1 l (.lst [.str "<", .str "=="])) := fun o D ho ht hD => by
      subst ht
      rw [cmp_op ho] at hno q1 q2
      refine e_take (i := 0) rfl R2 (.inr ⟨_, rfl⟩) (fun _ h => ⟨_, rfl, h⟩) rfl rfl (fun c H3 k3 R3 => ?_) (fun c => ?_)
      · have E3 : EndF r := E1.tail (fun z => by cases z)
        refine ⟨_, rfl, _, rfl, _, rfl, ρ, r, rfl, R3, E3, fun e => hno (by rw [e]; rfl), fun b q' e4 v' H4 k4 R4 E4 D4 => ?_, fun e4 d H4 k4 => q2 (by rw [e4]; rfl) d H4 ((kp_same k1 sl).trans (k3.trans k4))⟩
        refine ⟨(by show 4 ≤ sizeLine; decide), fun p np => ?_⟩
        rw [hD]
        refine q1 (.op o a b) q' (by rw [e4]; rfl) _ _ (kp_same ((kp_same k1 sl).trans (k3.trans k4)) (same_new np)) (R4.same (same_new np)) E4 ?_
        exact dp_t4 np dp_str dp_str (k4.dp R3 (k3.dp R2 (dp_same sl D1))) D4
      · exfalso
        have := isNow_tok (tok := .op o) rfl (.op o)
        rw [decide_eq_true rfl] at this
        have c' : isNow (.op o) "sign" (.str (opS o)) = false := c
        rw [show isNow (.op o) "sign" (.str (opS o)) = true from this] at c'
        cases c'
    match i, hi with
    | 0, hi =>
      have ex : x = .str "<" := (Option.some.inj hi).symm
      subst ex
      refine t_is rfl R2 (.inr ⟨_, rfl⟩) (fun _ h => ⟨_, rfl, h⟩) rfl rfl ?_
      rw [is_less]
      refine ite2 (fun c => ?_) (fun c => ?_)
      · exact act .less _ (.inl rfl) (of_decide_eq_true c) rfl
      · exact ⟨_, rfl, rfl, fun _ e => c (decide_eq_true e), fun h => absurd h (by omega)⟩
    | 1, hi =>
      have ex : x = .str "==" := (Option.some.inj hi).symm
      subst ex
      refine t_is rfl R2 (.inr ⟨_, rfl⟩) (fun _ h => ⟨_, rfl, h⟩) rfl rfl ?_
      rw [is_same]
      refine ite2 (fun c => ?_) (fun c => ?_)
      · exact act .same _ (.inr rfl) (of_decide_eq_true c) rfl
      · exact ⟨_, rfl, rfl, fun _ => h1 (Nat.le_refl _), fun _ e => c (decide_eq_true e)⟩
    | i + 2, hi => simp at hi
  · rintro σ H' ⟨y, rfl, rfl, h1, h2⟩
    refine ⟨_, rfl, q1 a (t :: r) ?_ v _ (kp_same k1 sl) (R1.same sl) E1 (dp_same sl D1)⟩
    exact cmp_else (h1 (by show 1 ≤ 2; omega)) (h2 (Nat.le_refl _))
end
end W72
/-! W9: sum_of, product_of, begins_thing, calling_of, thing_of. -/
namespace W72
open PySem L2
section
variable {f : K72.Op → Bool} {p : List KTok → K72.Res KTm} {one : KTm}
theorem chain_op {o : K72.Op} {r : List KTok} (ho : f o = true) : K72.chain f p one (.op o :: r) = (p r).bind fun b q => if h : q.length < (K72.Tok.op o :: r).length then K72.chain f p (.op o one b) q else .out := by
  rw [K72.chain]
  show (if f o = true then _ else _) = _
  rw [if_pos ho] <;> rfl
theorem chain_stop {t : KTok} {r : List KTok} (h : ∀ o, f o = true → t ≠ .op o) : K72.chain f p one (t :: r) = .ok one (t :: r) := by
  rw [K72.chain]
  cases t with
  | op o =>
    show (if f o = true then _ else _) = _
    rw [if_neg (fun e => h o e rfl)]
  | _ => rfl
theorem chain_turn {o : K72.Op} {r : List KTok} (ho : f o = true) (hno : K72.chain f p one (.op o :: r) ≠ .out) : p r ≠ .out ∧ (p r = .fail → K72.chain f p one (.op o :: r) = .fail) ∧
    ∀ b q, p r = .ok b q → q.length < (K72.Tok.op o :: r).length ∧ K72.chain f p one (.op o :: r) = K72.chain f p (.op o one b) q := by
  rw [chain_op ho] at hno ⊢
  refine ⟨fun e => hno (by rw [e]; rfl), fun e => by rw [e]; rfl, fun b q e => ?_⟩
  rw [e, K72.ok_bind] at hno ⊢
  by_cases h : q.length < (K72.Tok.op o :: r).length
  · exact ⟨h, dif_pos h⟩
  · exact absurd (dif_neg h) hno
theorem callL_turn {s : List KTok} (hb : K72.begins s = true) (hno : K72.callL p one s ≠ .out) : p s ≠ .out ∧ (p s = .fail → K72.callL p one s = .fail) ∧
    ∀ b q, p s = .ok b q → q.length < s.length ∧ K72.callL p one s = K72.callL p (.app one b) q := by
  rw [K72.callL, if_pos hb] at hno ⊢
  refine ⟨fun e => hno (by rw [e]; rfl), fun e => by rw [e]; rfl, fun b q e => ?_⟩
  rw [e, K72.ok_bind] at hno ⊢
  by_cases h : q.length < s.length
  · exact ⟨h, dif_pos h⟩
  · exact absurd (dif_neg h) hno
theorem callL_stop {s : List KTok} (hb : ¬ K72.begins s = true) : K72.callL p one s = .ok one s := by
  rw [K72.callL, if_neg hb]
end
section
variable {P : Program} {w : World} {K : PySem.W.Frag} {mg : Str → Option Value} {base : Heap} {CE CN CW CR fN f : Addr} {mcE : Value} {fd : FuncData} {n : Nat}
theorem ok_sum (F : Fun K "sum_of" "sum_of" (top 27) f fd) (B : Rd P w K mg base CN CW CR) (A : PAll P w K mg base CN CW CR n) : FnOk P w K mg base (L2.CX P w) (n + 6 + 1) f fd ["reader"] (spP K CN CW CR (K72.pSum (n + 1)) encT) := by
  refine F.okX scSum (fun vs H Q E h => ?_) (fun cdv A' outer s₀ H vs Q E hr h => ?_)
  · obtain ⟨ρ, s, rfl, _⟩ := h
    rfl
  obtain ⟨ρ, s, rfl, R0, hE, hno, q1, q2⟩ := h
  refine ⟨_, pss_cons (ps_set (i := 1) scSum.nd rfl (Or.inl rfl) (pe_cl A.Prod hr pxE rfl (pa_cons (pv 0) pa_nil)))
    (pss_cons (ps_while (passes_of rfl) (pw_or (pt_val (pe_mtk B.isT (hr.mono (by omega)) pxN (pv 0) (pk_cons pe_str pk_nil))) (pw_or1 (pt_val (pe_mtk B.isT (hr.mono (by omega)) pxN (pv 0) (pk_cons pe_str pk_nil))))).pt
      (pss_cons (ps_set (i := 2) scSum.nd rfl (Or.inl rfl) (pe_mtd0 B.tk0 (hr.mono (by omega)) pxE (pv 0)))
        (pss_one (ps_set (i := 1) scSum.nd rfl (Or.inl rfl) (pe_tup (pa_cons pe_str (pa_cons (pv 2) (pa_cons (pv 1) (pa_cons (pe_cl A.Prod hr pxE rfl (pa_cons (pv 0) pa_nil)) pa_nil)))))))))
    (pss_one (ps_ret (pv 1)))), ?_⟩
  have e0 : K72.pSum (n + 1) s = (K72.pProd n s).bind fun a q => K72.chain K72.isSum (K72.pProd n) a q := rfl
  rw [e0] at hno q1 q2
  refine ⟨_, rfl, ρ, s, rfl, R0, hE, fun e => hno (by rw [e]; rfl), fun a q e1 v H1 k1 R1 E1 D1 => ?_, fun e1 d H1 k1 => q2 (by rw [e1]; rfl) d H1 k1⟩
  rw [e1, K72.ok_bind] at hno q1 q2
  refine ⟨fun m σ H' => ∃ one v q' y, σ = [some (.ref ρ.r), some v, y] ∧ Kp ρ.r H H' ∧ RdAt CW CR H' ρ q' ∧ EndF q' ∧ m = q'.length ∧ Dp K H' v (encT one) ∧ K72.chain K72.isSum (K72.pProd n) a q = K72.chain K72.isSum (K72.pProd n) one q',
    ⟨_, a, v, q, _, rfl, k1, R1, E1, rfl, D1, rfl⟩, ?_⟩
  rintro m σ H2 ⟨one, v2, q', y, rfl, k2, R2, E2, rfl, D2, he⟩
  rw [he] at hno q1 q2
  obtain ⟨t, r, rfl⟩ := E2.cons
  refine t_is rfl R2 (.inr ⟨_, rfl⟩) (fun _ h => h) rfl rfl ?_
  have act : ∀ o, K72.isSum o = true → t = .op o → ∃ N : St → Hp → Prop, (∀ σ' H', N σ' H' → ∃ m', m' < (t :: r).length ∧ ∃ one v q' y, σ' = [some (.ref ρ.r), some v, y] ∧ Kp ρ.r H H' ∧ RdAt CW CR H' ρ q' ∧ EndF q' ∧ m' = q'.length ∧ Dp K H' v (encT one) ∧ K72.chain K72.isSum (K72.pProd n) a q = K72.chain K72.isSum (K72.pProd n) one q') ∧
      tSeq (tAsg (tMeth CR "take" (spTake CN CW CR) [.str "sign", .non] E (tVar 0) tNil) (gName 2)) (tAsg (tTup (tCons (tC (.str "op")) (tCons (tVar 2) (tCons (tVar 1) (tCons (tCall (spP K CN CW CR (K72.pProd n) encT) [] E (tCons (tVar 0) tNil)) tNil))))) (gName 1))
        { nx := N, ct := N, bk := fun σ H' => tRet (tVar 1) { nx := fun _ H' => Q .non H', rt := Q } σ H', rt := Q } [some (.ref ρ.r), some v2, y] H2 := fun o ho ht => by
    subst ht
    obtain ⟨p1, p2, p3⟩ := chain_turn ho hno
    refine ⟨fun σ' H' => ∃ m', m' < (K72.Tok.op o :: r).length ∧ ∃ one v q' y, σ' = [some (.ref ρ.r), some v, y] ∧ Kp ρ.r H H' ∧ RdAt CW CR H' ρ q' ∧ EndF q' ∧ m' = q'.length ∧ Dp K H' v (encT one) ∧ K72.chain K72.isSum (K72.pProd n) a q = K72.chain K72.isSum (K72.pProd n) one q', fun _ _ h => h, ?_⟩
    obtain ⟨j, X⟩ := id R2
    refine ⟨_, rfl, ρ.r, ρ.dx, _, rfl, X.h, no_at ρ j (by decide +kernel) (by decide +kernel) (by decide +kernel), ρ, _, r, _, _, rfl, R2, .inl rfl, fun _ H3 k3 R3 => ?_, fun c => ?_⟩
    · have E3 : EndF r := E2.tail (fun z => by cases z)
      refine ⟨_, rfl, _, rfl, _, rfl, ρ, r, rfl, R3, E3, p1, fun b q4 e4 v4 H4 k4 R4 E4 D4 => ?_, fun e4 d H4 k4 => q2 (p2 e4) d H4 (k2.trans (k3.trans k4))⟩
      obtain ⟨hl, hc⟩ := p3 b q4 e4
      refine ⟨(by show 4 ≤ sizeLine; decide), fun p np => ?_⟩
      exact ⟨_, hl, .op o one b, _, q4, _, rfl, kp_same (k2.trans (k3.trans k4)) (same_new np), R4.same (same_new np), E4, rfl, dp_t4 np dp_str dp_str (k4.dp R3 (k3.dp R2 D2)) D4, he.trans hc⟩
    · exfalso
      rw [isNow_non] at c
      exact of_decide_eq_false c rfl
  rw [is_plus]
  refine ite2 (fun c => ?_) (fun c => ?_)
  · refine iteT ?_
    exact act .plus rfl (of_decide_eq_true c)
  refine t_is rfl R2 (.inr ⟨_, rfl⟩) (fun _ h => h) rfl rfl ?_
  rw [is_minus]
  refine ite2 (fun c2 => ?_) (fun c2 => ?_)
  · exact act .minus rfl (of_decide_eq_true c2)
  · refine ⟨_, rfl, q1 one (t :: r) (chain_stop fun o ho e => ?_) v2 H2 k2 R2 E2 D2⟩
    cases o with
    | plus => exact c (decide_eq_true e)
    | minus => exact c2 (decide_eq_true e)
    | _ => cases ho
theorem ok_prod (F : Fun K "product_of" "product_of" (top 28) f fd) (B : Rd P w K mg base CN CW CR) (A : PAll P w K mg base CN CW CR n) : FnOk P w K mg base (L2.CX P w) (n + 6 + 1) f fd ["reader"] (spP K CN CW CR (K72.pProd (n + 1)) encT) := by
  refine F.okX scProd (fun vs H Q E h => ?_) (fun cdv A' outer s₀ H vs Q E hr h => ?_)
  · obtain ⟨ρ, s, rfl, _⟩ := h
    rfl
  obtain ⟨ρ, s, rfl, R0, hE, hno, q1, q2⟩ := h
  refine ⟨_, pss_cons (ps_set (i := 1) scProd.nd rfl (Or.inl rfl) (pe_cl A.Call hr pxE rfl (pa_cons (pv 0) pa_nil)))
    (pss_cons (ps_while (passes_of rfl) (pt_val (pe_mtk B.isT (hr.mono (by omega)) pxN (pv 0) (pk_cons pe_str pk_nil)))
      (pss_cons (ps_expr (pe_mtk B.tkT (hr.mono (by omega)) pxE (pv 0) (pk_cons pe_str pk_nil)))
        (pss_one (ps_set (i := 1) scProd.nd rfl (Or.inl rfl) (pe_tup (pa_cons pe_str (pa_cons pe_str (pa_cons (pv 1) (pa_cons (pe_cl A.Call hr pxE rfl (pa_cons (pv 0) pa_nil)) pa_nil)))))))))
    (pss_one (ps_ret (pv 1)))), ?_⟩
  have e0 : K72.pProd (n + 1) s = (K72.pCall n s).bind fun a q => K72.chain K72.isProd (K72.pCall n) a q := rfl
  rw [e0] at hno q1 q2
  refine ⟨_, rfl, ρ, s, rfl, R0, hE, fun e => hno (by rw [e]; rfl), fun a q e1 v H1 k1 R1 E1 D1 => ?_, fun e1 d H1 k1 => q2 (by rw [e1]; rfl) d H1 k1⟩
  rw [e1, K72.ok_bind] at hno q1 q2
  refine ⟨fun m σ H' => ∃ one v q', σ = [some (.ref ρ.r), some v] ∧ Kp ρ.r H H' ∧ RdAt CW CR H' ρ q' ∧ EndF q' ∧ m = q'.length ∧ Dp K H' v (encT one) ∧ K72.chain K72.isProd (K72.pCall n) a q = K72.chain K72.isProd (K72.pCall n) one q',
    ⟨_, a, v, q, rfl, k1, R1, E1, rfl, D1, rfl⟩, ?_⟩
  rintro m σ H2 ⟨one, v2, q', rfl, k2, R2, E2, rfl, D2, he⟩
  rw [he] at hno q1 q2
  obtain ⟨t, r, rfl⟩ := E2.cons
  refine t_is rfl R2 (.inr ⟨_, rfl⟩) (fun _ h => h) rfl rfl ?_
  rw [is_times]
  refine ite2 (fun c => ?_) (fun c => ?_)
  · have ht : t = .op .times := of_decide_eq_true c
    subst ht
    obtain ⟨p1, p2, p3⟩ := chain_turn (o := .times) rfl hno
    refine ⟨fun σ' H' => ∃ m', m' < (K72.Tok.op .times :: r).length ∧ ∃ one v q', σ' = [some (.ref ρ.r), some v] ∧ Kp ρ.r H H' ∧ RdAt CW CR H' ρ q' ∧ EndF q' ∧ m' = q'.length ∧ Dp K H' v (encT one) ∧ K72.chain K72.isProd (K72.pCall n) a q = K72.chain K72.isProd (K72.pCall n) one q', fun _ _ h => h, ?_⟩
    refine e_eat (tok := .op .times) rfl R2 E2 rfl (fun _ h => h) rfl rfl (fun r' e3 H3 k3 R3 E3 => ?_) (fun e3 => ?_)
    · rw [K72.eat_cons] at e3
      injection e3 with _ e3
      subst e3
      refine ⟨_, rfl, _, rfl, ρ, r, rfl, R3, E3, p1, fun b q4 e4 v4 H4 k4 R4 E4 D4 => ?_, fun e4 d H4 k4 => q2 (p2 e4) d H4 (k2.trans (k3.trans k4))⟩
      obtain ⟨hl, hc⟩ := p3 b q4 e4
      refine ⟨(by show 4 ≤ sizeLine; decide), fun p np => ?_⟩
      exact ⟨_, hl, .op .times one b, _, q4, rfl, kp_same (k2.trans (k3.trans k4)) (same_new np), R4.same (same_new np), E4, rfl, dp_t4 np dp_str dp_str (k4.dp R3 (k3.dp R2 D2)) D4, he.trans hc⟩
    · rw [K72.eat_cons] at e3
      cases e3
  · refine ⟨_, rfl, q1 one (t :: r) (chain_stop fun o ho e => ?_) v2 H2 k2 R2 E2 D2⟩
    cases o with
    | times => exact c (decide_eq_true e)
    | _ => cases ho
def spBg (CW CR : Addr) : Sp := fun vs H Q _ => ∃ (ρ : Rdr) (s : List KTok), vs = [.ref ρ.r] ∧ RdAt CW CR H ρ s ∧ EndF s ∧ ∀ H', Same H H' → Q (.bl (K72.begins s)) H'
theorem in_bg (t : KTok) (r : List KTok) : K72.begins (t :: r) = if inV (.str (manS t)) [.str "number", .str "small", .str "great"] = true then true else decide (t = .lp) := by
  cases t with
  | op o => cases o <;> rfl
  | kw k => cases k <;> rfl
  | _ => rfl
theorem ok_bg (F : Fun K "begins_thing" "begins_thing" (top 29) f fd) (T : Txt K mg CE CN CW CR fN mcE) (B : Rd P w K mg base CN CW CR) : FnOk P w K mg base (L2.CX P w) 3 f fd ["reader"] (spBg CW CR) := by
  refine F.okX scBg (fun vs H Q E h => ?_) (fun cdv A' outer s₀ H vs Q E hr h => ?_)
  · obtain ⟨ρ, s, rfl, _⟩ := h
    rfl
  obtain ⟨ρ, s, rfl, R0, hE, q1⟩ := h
  refine ⟨_, pss_one (ps_ret (pe_or (pe_cmpR op_in_seq (pe_fld (pe_mt0 B.now (hr.mono (by decide)) pxN (pv 0)) rfl) (pe_tup (pa_cons pe_str (pa_cons pe_str (pa_cons pe_str pa_nil)))) (by rfl)) (pe_one (pe_mtk B.isT (hr.mono (by decide)) pxN (pv 0) (pk_cons pe_str pk_nil))))), ?_⟩
  obtain ⟨t, r, rfl⟩ := hE.cons
  obtain ⟨j, X⟩ := id R0
  refine ⟨_, rfl, ρ.r, ρ.dx, _, rfl, X.h, no_at ρ j (by decide +kernel) (by decide +kernel) (by decide +kernel), ρ, t, r, rfl, R0, fun p ⟨dw, col, hw⟩ => ?_⟩
  refine ⟨p, CW, dw, _, _, rfl, hw, T.clW, T.wM, w_m _ _, (by show 3 ≤ sizeLine; decide), fun a na => ?_⟩
  rw [in_bg] at q1
  refine ⟨a, _, rfl, .inr (SqT.of upd_same), rfl, rfl, _, rfl, ?_⟩
  refine ite2 (fun c => ?_) (fun c => ?_)
  · have c' : inV (.str (manS t)) [.str "number", .str "small", .str "great"] = true := c
    rw [if_pos c'] at q1
    exact q1 _ (same_new na)
  · have c' : ¬ inV (.str (manS t)) [.str "number", .str "small", .str "great"] = true := c
    rw [if_neg c'] at q1
    refine e_is rfl (R0.same (same_new na)) (.inr ⟨_, rfl⟩) (fun _ h => h) rfl rfl ?_
    rw [is_lp]
    exact q1 _ (same_new na)
theorem ok_call (F : Fun K "calling_of" "calling_of" (top 30) f fd) (B : Rd P w K mg base CN CW CR) (Bg : Cl P w K mg base 3 "begins_thing" (spBg CW CR)) (A : PAll P w K mg base CN CW CR n) : FnOk P w K mg base (L2.CX P w) (n + 6 + 1) f fd ["reader"] (spP K CN CW CR (K72.pCall (n + 1)) encT) := by
  refine F.okX scCall (fun vs H Q E h => ?_) (fun cdv A' outer s₀ H vs Q E hr h => ?_)
  · obtain ⟨ρ, s, rfl, _⟩ := h
    rfl
  obtain ⟨ρ, s, rfl, R0, hE, hno, q1, q2⟩ := h
  refine ⟨_, pss_cons (ps_set (i := 1) scCall.nd rfl (Or.inl rfl) (pe_cl A.Thing hr pxE rfl (pa_cons (pv 0) pa_nil)))
    (pss_cons (ps_while (passes_of rfl) (pt_val (pe_cl Bg (hr.mono (by omega)) pxN rfl (pa_cons (pv 0) pa_nil)))
      (pss_one (ps_set (i := 1) scCall.nd rfl (Or.inl rfl) (pe_tup (pa_cons pe_str (pa_cons (pv 1) (pa_cons (pe_cl A.Thing hr pxE rfl (pa_cons (pv 0) pa_nil)) pa_nil)))))))
    (pss_one (ps_ret (pv 1)))), ?_⟩
  have e0 : K72.pCall (n + 1) s = (K72.pThing n s).bind fun a q => K72.callL (K72.pThing n) a q := rfl
  rw [e0] at hno q1 q2
  refine ⟨_, rfl, ρ, s, rfl, R0, hE, fun e => hno (by rw [e]; rfl), fun a q e1 v H1 k1 R1 E1 D1 => ?_, fun e1 d H1 k1 => q2 (by rw [e1]; rfl) d H1 k1⟩
  rw [e1, K72.ok_bind] at hno q1 q2
  refine ⟨fun m σ H' => ∃ one v q', σ = [some (.ref ρ.r), some v] ∧ Kp ρ.r H H' ∧ RdAt CW CR H' ρ q' ∧ EndF q' ∧ m = q'.length ∧ Dp K H' v (encT one) ∧ K72.callL (K72.pThing n) a q = K72.callL (K72.pThing n) one q',
    ⟨_, a, v, q, rfl, k1, R1, E1, rfl, D1, rfl⟩, ?_⟩
  rintro m σ H2 ⟨one, v2, q', rfl, k2, R2, E2, rfl, D2, he⟩
  rw [he] at hno q1 q2
  refine ⟨_, rfl, ρ, q', rfl, R2, E2, fun H3 s3 => ⟨_, rfl, ?_⟩⟩
  refine ite2 (fun c => ?_) (fun c => ?_)
  · obtain ⟨p1, p2, p3⟩ := callL_turn c hno
    refine ⟨fun σ' H' => ∃ m', m' < q'.length ∧ ∃ one v q', σ' = [some (.ref ρ.r), some v] ∧ Kp ρ.r H H' ∧ RdAt CW CR H' ρ q' ∧ EndF q' ∧ m' = q'.length ∧ Dp K H' v (encT one) ∧ K72.callL (K72.pThing n) a q = K72.callL (K72.pThing n) one q', fun _ _ h => h, ?_⟩
    refine ⟨_, rfl, _, rfl, ρ, q', rfl, R2.same s3, E2, p1, fun b q4 e4 v4 H4 k4 R4 E4 D4 => ?_, fun e4 d H4 k4 => q2 (p2 e4) d H4 ((kp_same k2 s3).trans k4)⟩
    obtain ⟨hl, hc⟩ := p3 b q4 e4
    refine ⟨(by show 3 ≤ sizeLine; decide), fun p np => ?_⟩
    exact ⟨_, hl, .app one b, _, q4, rfl, kp_same ((kp_same k2 s3).trans k4) (same_new np), R4.same (same_new np), E4, rfl, dp_t3 np dp_str (k4.dp (R2.same s3) (dp_same s3 D2)) D4, he.trans hc⟩
  · exact ⟨_, rfl, q1 one q' (callL_stop c) v2 H3 (kp_same k2 s3) (R2.same s3) E2 (dp_same s3 D2)⟩
theorem num_back {k : Nat} (h : k < 10 ^ 100) : PySem.intText? (S (TL.numL k)) = some (k : Int) ∧ (S (TL.numL k)).length ≤ 640 := by
  have hl : (TL.numL k).length ≤ 100 := TL.numL_len (by decide) h
  refine ⟨?_, ?_⟩
  · rw [SX.int_S (List.all_eq_true.mpr fun c hc => by have := TL.numL_digits k c hc; simp; omega) (TL.numL_ne k) (by omega), TL.numL_val]
  · rw [SX.S_len]; omega
theorem ok_thing (F : Fun K "thing_of" "thing_of" (top 31) f fd) (B : Rd P w K mg base CN CW CR) (Z : Bl mg) (A : PAll P w K mg base CN CW CR n) : FnOk P w K mg base (L2.CX P w) (n + 6 + 1) f fd ["reader"] (spP K CN CW CR (K72.pThing (n + 1)) encT) := by
  refine F.okX scThing (fun vs H Q E h => ?_) (fun cdv A' outer s₀ H vs Q E hr h => ?_)
  · obtain ⟨ρ, s, rfl, _⟩ := h
    rfl
  obtain ⟨ρ, s, rfl, R0, hE, hno, q1, q2⟩ := h
  refine ⟨_, pss_cons (ps_if (pt_val (pe_mtk B.isS (hr.mono (by omega)) pxN (pv 0) (pk_cons pe_str pk_nil))) (pss_one (ps_ret (pe_tup (pa_cons pe_str (pa_cons (pe_callTy call_int_str rfl Z.int (by decide +kernel) (pa_cons (pe_mtk B.tkS (hr.mono (by omega)) pxE (pv 0) (pk_cons pe_str pk_nil)) pa_nil)) pa_nil))))) pss_nil)
    (pss_cons (ps_if (pt_val (pe_mtk B.isS (hr.mono (by omega)) pxN (pv 0) (pk_cons pe_str pk_nil))) (pss_one (ps_ret (pe_tup (pa_cons pe_str (pa_cons (pe_mtk B.tkS (hr.mono (by omega)) pxE (pv 0) (pk_cons pe_str pk_nil)) pa_nil))))) pss_nil)
    (pss_cons (ps_if (pt_val (pe_mtk B.isS (hr.mono (by omega)) pxN (pv 0) (pk_cons pe_str pk_nil))) (pss_one (ps_ret (pe_tup (pa_cons pe_str (pa_cons (pe_mtk B.tkS (hr.mono (by omega)) pxE (pv 0) (pk_cons pe_str pk_nil)) pa_nil))))) pss_nil)
    (pss_cons (ps_expr (pe_mtk B.tkT (hr.mono (by omega)) pxE (pv 0) (pk_cons pe_str pk_nil)))
    (pss_cons (ps_set (i := 1) scThing.nd rfl (Or.inl rfl) (pe_cl A.T hr pxE rfl (pa_cons (pv 0) pa_nil)))
    (pss_cons (ps_expr (pe_mtk B.tkT (hr.mono (by omega)) pxE (pv 0) (pk_cons pe_str pk_nil)))
    (pss_one (ps_ret (pv 1)))))))), ?_⟩
  obtain ⟨t, r, rfl⟩ := hE.cons
  refine t_is rfl R0 (.inl rfl) (fun _ h => h) rfl rfl ?_
  refine ite2 (fun c => ?_) (fun c => ?_)
  · obtain ⟨k, rfl⟩ := (isNow_num t).mp c
    refine e_take rfl R0 (.inl rfl) (fun _ h => h) rfl rfl (fun c H1 k1 R1 => ?_) (fun c' => ?_)
    · obtain ⟨b1, b2⟩ := num_back (hE.n k (List.mem_cons_self ..))
      refine ⟨_, _, rfl, b1, b2, (by show 2 ≤ sizeLine; decide), fun p np => ?_⟩
      exact q1 (.num k) r rfl _ _ (kp_same k1 (same_new np)) (R1.same (same_new np)) (hE.tail (fun z => by cases z)) (dp_t2 np dp_str (.int _))
    · rw [c] at c'; cases c'
  refine t_is rfl R0 (.inl rfl) (fun _ h => h) rfl rfl ?_
  refine ite2 (fun c2 => ?_) (fun c2 => ?_)
  · obtain ⟨k, rfl⟩ := (isNow_small t).mp c2
    refine e_take rfl R0 (.inl rfl) (fun _ h => h) rfl rfl (fun c H1 k1 R1 => ?_) (fun c' => ?_)
    · refine ⟨(by show 2 ≤ sizeLine; decide), fun p np => ?_⟩
      exact q1 (.name k) r rfl _ _ (kp_same k1 (same_new np)) (R1.same (same_new np)) (hE.tail (fun z => by cases z)) (dp_t2 np dp_str dp_str)
    · rw [c2] at c'; cases c'
  refine t_is rfl R0 (.inl rfl) (fun _ h => h) rfl rfl ?_
  refine ite2 (fun c3 => ?_) (fun c3 => ?_)
  · obtain ⟨k, rfl⟩ := (isNow_great t).mp c3
    refine e_take rfl R0 (.inl rfl) (fun _ h => h) rfl rfl (fun c H1 k1 R1 => ?_) (fun c' => ?_)
    · refine ⟨(by show 2 ≤ sizeLine; decide), fun p np => ?_⟩
      exact q1 (.make k) r rfl _ _ (kp_same k1 (same_new np)) (R1.same (same_new np)) (hE.tail (fun z => by cases z)) (dp_t2 np dp_str dp_str)
    · rw [c3] at c'; cases c'
  have e0 : K72.pThing (n + 1) (t :: r) = (K72.eat .lp (t :: r)).bind fun _ r1 => (K72.pT n r1).bind fun t q => (K72.eat .rp q).bind fun _ q1 => .ok t q1 := by
    cases t with
    | num k => exact absurd ((isNow_num _).mpr ⟨k, rfl⟩) c
    | small k => exact absurd ((isNow_small _).mpr ⟨k, rfl⟩) c2
    | great k => exact absurd ((isNow_great _).mpr ⟨k, rfl⟩) c3
    | _ => rfl
  rw [e0] at hno q1 q2
  refine e_eat (tok := .lp) rfl R0 hE rfl (fun _ h => h) rfl rfl (fun s1 e1 H1 k1 R1 E1 => ?_) (fun e1 d H1 k1 => q2 (by rw [e1]; rfl) d H1 k1)
  rw [e1, K72.ok_bind] at hno q1 q2
  refine ⟨_, rfl, ρ, s1, rfl, R1, E1, fun e => hno (by rw [e]; rfl), fun b q e2 v H2 k2 R2 E2 D2 => ?_, fun e2 d H2 k2 => q2 (by rw [e2]; rfl) d H2 (k1.trans k2)⟩
  rw [e2, K72.ok_bind] at hno q1 q2
  refine e_eat (tok := .rp) rfl R2 E2 rfl (fun _ h => h) rfl rfl (fun s3 e3 H3 k3 R3 E3 => ?_) (fun e3 d H3 k3 => q2 (by rw [e3]; rfl) d H3 (k1.trans (k2.trans k3)))
  exact ⟨_, rfl, q1 b s3 (by rw [e3]; rfl) v H3 (k1.trans (k2.trans k3)) R3 E3 (k3.dp R2 D2)⟩
end
end W72
/-! W10: data that stays while lists and dicts change; case_of. -/
namespace W72
open PySem L2
mutual
/-- no list within -/
def nl : PyData → Bool
  | .list _ => false
  | .tuple xs => nls xs
  | _ => true
def nls : List PyData → Bool
  | [] => true
  | d :: r => nl d && nls r
end
def IsTp (o : HO) : Prop := (∃ xs, o = .tup xs) ∨ ∃ o' xs, o = .frz o' (.tup xs)
theorem seqT_stayT {K : PySem.W.Frag} {H H' : Hp} (k : ∀ b o, H b = some o → IsTp o → H' b = some o) {a : Addr} {xs : List V} (h : SqT K H a xs) : SqT K H' a xs := by
  rcases h with (h | ⟨o, h⟩) | h
  · exact .inl (.inl (k _ _ h (.inl ⟨_, rfl⟩)))
  · exact .inl (.inr ⟨o, k _ _ h (.inr ⟨_, _, rfl⟩)⟩)
  · exact .inr h
mutual
theorem dp_stayT {K : PySem.W.Frag} {H H' : Hp} (k : ∀ b o, H b = some o → IsTp o → H' b = some o) : ∀ {v : V} {d : PyData}, nl d = true → Dp K H v d → Dp K H' v d
  | _, _, _, .non => .non
  | _, _, _, .bl b => .bl b
  | _, _, _, .int i => .int i
  | _, _, _, .str x => .str x
  | _, _, n, .lst h g => by cases n
  | _, _, n, .tup h g => .tup (seqT_stayT k h) (dpa_stayT k n g)
theorem dpa_stayT {K : PySem.W.Frag} {H H' : Hp} (k : ∀ b o, H b = some o → IsTp o → H' b = some o) : ∀ {vs : List V} {ds : List PyData}, nls ds = true → DpAll K H vs ds → DpAll K H' vs ds
  | _, _, _, .nil => .nil
  | _, _, n, .cons h g => by
    have n' : (nl _ && nls _) = true := n
    rw [Bool.and_eq_true] at n'
    exact .cons (dp_stayT k n'.1 h) (dpa_stayT k n'.2 g)
end
theorem nls_strs : ∀ xs : List K72.L, nls (xs.map fun x => PyData.str (S x)) = true
  | [] => rfl
  | x :: r => nls_strs r
mutual
theorem nl_enc : ∀ t : KTm, nl (encT t) = true
  | .num _ => rfl
  | .name _ => rfl
  | .make _ => rfl
  | .app a b => by show (true && (nl (encT a) && (nl (encT b) && true))) = true; rw [nl_enc a, nl_enc b]; rfl
  | .fn _ b => by show (true && (true && (nl (encT b) && true))) = true; rw [nl_enc b]; rfl
  | .lt ps b => by show (true && (nls (encPs ps) && (nl (encT b) && true))) = true; rw [nl_encPs ps, nl_enc b]; rfl
  | .cs e ws => by show (true && (nl (encT e) && (nls (encWs ws) && true))) = true; rw [nl_encWs ws, nl_enc e]; rfl
  | .op _ a b => by show (true && (true && (nl (encT a) && (nl (encT b) && true)))) = true; rw [nl_enc a, nl_enc b]; rfl
  | .par t => by show nl (encT t) = true; exact nl_enc t
theorem nl_encPs : ∀ ps : List (K72.L × KTm), nls (encPs ps) = true
  | [] => rfl
  | (x, t) :: r => by show ((true && (nl (encT t) && true)) && nls (encPs r)) = true; rw [nl_enc t, nl_encPs r]; rfl
theorem nl_encWs : ∀ ws : List (K72.L × List K72.L × KTm), nls (encWs ws) = true
  | [] => rfl
  | (c, xs, t) :: r => by show ((true && (nls (xs.map fun x => PyData.str (S x)) && (nl (encT t) && true))) && nls (encWs r)) = true; rw [nls_strs, nl_enc t, nl_encWs r]; rfl
end
theorem nl_encW (w : K72.L × List K72.L × KTm) : nl (encW w) = true := by
  show (true && (nls (w.2.1.map fun x => PyData.str (S x)) && (nl (encT w.2.2) && true))) = true
  rw [nls_strs, nl_enc]; rfl
theorem dpa_snoc {K : PySem.W.Frag} {H : Hp} {v : V} {d : PyData} (h : Dp K H v d) : ∀ {vs : List V} {ds : List PyData}, DpAll K H vs ds → DpAll K H (vs ++ [v]) (ds ++ [d])
  | _, _, .nil => .cons h .nil
  | _, _, .cons a b => .cons a (dpa_snoc h b)
theorem dpa_len {K : PySem.W.Frag} {H : Hp} : ∀ {vs : List V} {ds : List PyData}, DpAll K H vs ds → vs.length = ds.length
  | _, _, .nil => rfl
  | _, _, .cons a b => by rw [List.length_cons, List.length_cons, dpa_len b]
theorem dpa_dp {K : PySem.W.Frag} {H H' : Hp} (k : ∀ b o, H b = some o → NoIns o → H' b = some o) {vs : List V} {ds : List PyData} (h : DpAll K H vs ds) : DpAll K H' vs ds := dpa_stay k h
theorem Kp.dpa {K : PySem.W.Frag} {CW CR : Addr} {H H' : Hp} {ρ : Rdr} {s : List KTok} {v : List V} {d : List PyData} (k : Kp ρ.r H H') (R : RdAt CW CR H ρ s) (h : DpAll K H v d) : DpAll K H' v d := by
  obtain ⟨fs, e⟩ := R.hr
  exact dpa_stay (k.stay e) h
/-- a list or dict changes: tuples stay -/
theorem upd_tp {H : Hp} {p : Addr} {o o' : HO} (hp : H p = some o) (no : ¬ IsTp o) : ∀ b u, H b = some u → IsTp u → upd H p o' b = some u := fun b u e t => by
  rw [upd_ne (fun z => no (by rw [z, hp] at e; rw [Option.some.inj e]; exact t))]
  exact e
theorem lst_notTp {xs : List V} : ¬ IsTp (.lst xs) := fun h => by
  rcases h with ⟨_, h⟩ | ⟨_, _, h⟩ <;> cases h
theorem dK_notTp {xs : List (Key × V)} : ¬ IsTp (.dK xs) := fun h => by
  rcases h with ⟨_, h⟩ | ⟨_, _, h⟩ <;> cases h
theorem lst_notIns {xs : List V} {o : HO} (e : o = .lst xs) : ∀ C dx fs, o ≠ .ins C dx fs := fun C dx fs z => by rw [e] at z; cases z
theorem nls_ws (ws : List (K72.L × List K72.L × KTm)) : nls (ws.map encW) = true := by rw [← encWs_map]; exact nl_encWs ws
section
variable {α : Type} {sep : KTok} {p : List KTok → K72.Res α} {ws : List α}
theorem csLoop_turn {r : List KTok} (hno : K72.csLoop sep p ws (sep :: r) ≠ .out) : p r ≠ .out ∧ (p r = .fail → K72.csLoop sep p ws (sep :: r) = .fail) ∧
    ∀ b q, p r = .ok b q → q.length < (sep :: r).length ∧ K72.csLoop sep p ws (sep :: r) = K72.csLoop sep p (ws ++ [b]) q := by
  have e0 : K72.csLoop sep p ws (sep :: r) = (p r).bind fun w q => if h : q.length < (sep :: r).length then K72.csLoop sep p (ws ++ [w]) q else .out := by
    rw [K72.csLoop, if_pos (show K72.now (sep :: r) = sep from rfl)] <;> rfl
  rw [e0] at hno ⊢
  refine ⟨fun e => hno (by rw [e]; rfl), fun e => by rw [e]; rfl, fun b q e => ?_⟩
  rw [e, K72.ok_bind] at hno ⊢
  by_cases h : q.length < (sep :: r).length
  · exact ⟨h, dif_pos h⟩
  · exact absurd (dif_neg h) hno
theorem csLoop_stop {t : KTok} {r : List KTok} (h : t ≠ sep) : K72.csLoop sep p ws (t :: r) = .ok ws (t :: r) := by
  rw [K72.csLoop, if_neg (show ¬ K72.now (t :: r) = sep from h)]
end
theorem scCase : FnScope ["reader", "looked", "ways"] ["reader"] (defScope (top 24)) := ⟨rfl, rfl, rfl, by decide +kernel, rfl, by decide +kernel, by decide +kernel⟩
theorem scLet : FnScope ["reader", "parts", "going", "name"] ["reader"] (defScope (top 23)) := ⟨rfl, rfl, rfl, by decide +kernel, rfl, by decide +kernel, by decide +kernel⟩
section
variable {P : Program} {w : World} {K : PySem.W.Frag} {mg : Str → Option Value} {base : Heap} {CE CN CW CR fN f : Addr} {mcE : Value} {fd : FuncData} {n : Nat}
theorem ok_case (F : Fun K "case_of" "case_of" (top 24) f fd) (B : Rd P w K mg base CN CW CR) (Z : Bl mg) (A : PAll P w K mg base CN CW CR n) : FnOk P w K mg base (L2.CX P w) (n + 6 + 1) f fd ["reader"] (spP K CN CW CR (K72.pCs (n + 1)) encT) := by
  refine F.okX scCase (fun vs H Q E h => ?_) (fun cdv A' outer s₀ H vs Q E hr h => ?_)
  · obtain ⟨ρ, s, rfl, _⟩ := h
    rfl
  obtain ⟨ρ, s, rfl, R0, hE, hno, q1, q2⟩ := h
  refine ⟨_, pss_cons (ps_expr (pe_mtk B.tkST (hr.mono (by omega)) pxE (pv 0) (pk_cons pe_str (pk_cons pe_str pk_nil))))
    (pss_cons (ps_set (i := 1) scCase.nd rfl (Or.inl rfl) (pe_cl A.T hr pxE rfl (pa_cons (pv 0) pa_nil)))
    (pss_cons (ps_expr (pe_mtk B.tkST (hr.mono (by omega)) pxE (pv 0) (pk_cons pe_str (pk_cons pe_str pk_nil))))
    (pss_cons (ps_expr (pe_mtk B.tkT (hr.mono (by omega)) pxE (pv 0) (pk_cons pe_str pk_nil)))
    (pss_cons (ps_set (i := 2) scCase.nd rfl (Or.inl rfl) (pe_lst (pa_cons (pe_cl A.Way hr pxE rfl (pa_cons (pv 0) pa_nil)) pa_nil)))
    (pss_cons (ps_while (passes_of rfl) (pt_val (pe_mtk B.isT (hr.mono (by omega)) pxN (pv 0) (pk_cons pe_str pk_nil)))
      (pss_cons (ps_expr (pe_mtk B.tkT (hr.mono (by omega)) pxE (pv 0) (pk_cons pe_str pk_nil)))
        (pss_one (ps_expr (pe_bm PySem.F.plainAttrs_list PySem.F.slot_list_append PySem.F.type_list_append mt_append (pv 2) (pa_cons (pe_cl A.Way hr pxE rfl (pa_cons (pv 0) pa_nil)) pa_nil))))))
    (pss_cons (ps_expr (pe_mtk B.tkT (hr.mono (by omega)) pxE (pv 0) (pk_cons pe_str pk_nil)))
    (pss_one (ps_ret (pe_tup (pa_cons pe_str (pa_cons (pv 1) (pa_cons (pe_callTy call_tuple_of rfl Z.tuple (by decide +kernel) (pa_cons (pv 2) pa_nil)) pa_nil)))))))))))), ?_⟩
  rw [K72.pCs_succ] at hno q1 q2
  refine e_eat (tok := .kw .kcase) rfl R0 hE rfl (fun _ h => h) rfl rfl (fun s1 e1 H1 k1 R1 E1 => ?_) (fun e1 d H1 k1 => q2 (by rw [e1]; rfl) d H1 k1)
  rw [e1, K72.ok_bind] at hno q1 q2
  refine ⟨_, rfl, ρ, s1, rfl, R1, E1, fun e => hno (by rw [e]; rfl), fun lk s2 e2 v H2 k2 R2 E2 D2 => ?_, fun e2 d H2 k2 => q2 (by rw [e2]; rfl) d H2 (k1.trans k2)⟩
  rw [e2, K72.ok_bind] at hno q1 q2
  refine e_eat (tok := .kw .kof) rfl R2 E2 rfl (fun _ h => h) rfl rfl (fun s3 e3 H3 k3 R3 E3 => ?_) (fun e3 d H3 k3 => q2 (by rw [e3]; rfl) d H3 (k1.trans (k2.trans k3)))
  rw [e3, K72.ok_bind] at hno q1 q2
  refine e_eat (tok := .lb) rfl R3 E3 rfl (fun _ h => h) rfl rfl (fun s4 e4 H4 k4 R4 E4 => ?_) (fun e4 d H4 k4 => q2 (by rw [e4]; rfl) d H4 (k1.trans (k2.trans (k3.trans k4))))
  rw [e4, K72.ok_bind] at hno q1 q2
  have K4 : Kp ρ.r H H4 := k1.trans (k2.trans (k3.trans k4))
  refine ⟨_, rfl, ρ, s4, rfl, R4, E4, fun e => hno (by rw [e]; rfl), fun w0 s5 e5 v0 H5 k5 R5 E5 D5 => ?_, fun e5 d H5 k5 => q2 (by rw [e5]; rfl) d H5 (K4.trans k5)⟩
  rw [e5, K72.ok_bind] at hno q1 q2
  have K5 : Kp ρ.r H H5 := K4.trans k5
  have DL5 : Dp K H5 v (encT lk) := k5.dp R4 (k4.dp R3 (k3.dp R2 D2))
  refine ⟨(by show 1 ≤ sizeLine; decide), fun p np => ?_⟩
  have pr : p ≠ ρ.r := by
    obtain ⟨fs, e⟩ := R5.hr
    exact (ne_of_none e np).symm
  have pl : p ≠ ρ.l := (ne_of_none R5.hl np).symm
  have npH : H p = none := kp_fresh K5 np pr
  -- the list of ways grows
  refine ⟨fun m σ H' => ∃ ws vs q, σ = [some (.ref ρ.r), some v, some (.ref p)] ∧ Kp ρ.r H H' ∧ H' p = some (.lst vs) ∧ DpAll K H' vs (ws.map encW) ∧ Dp K H' v (encT lk) ∧ RdAt CW CR H' ρ q ∧ EndF q ∧ m = q.length ∧ vs.length + q.length ≤ 100002 ∧
    K72.csLoop .semi (K72.pWay n) [w0] s5 = K72.csLoop .semi (K72.pWay n) ws q,
    ⟨_, [w0], [v0], s5, rfl, kp_same K5 (same_new np), upd_same, .cons (dp_new np D5) .nil, dp_new np DL5, R5.same (same_new np), E5, rfl, by have := R5.len; show 1 + s5.length ≤ _; omega, rfl⟩, ?_⟩
  rintro m σ H6 ⟨ws, vs, q, rfl, K6, hp6, DW6, DL6, R6, E6, rfl, hz, he⟩
  rw [he] at hno q1 q2
  obtain ⟨t, r, rfl⟩ := E6.cons
  refine t_is rfl R6 (.inr ⟨_, rfl⟩) (fun _ h => h) rfl rfl ?_
  rw [is_semi]
  refine ite2 (fun c => ?_) (fun c => ?_)
  · have ht : t = .semi := of_decide_eq_true c
    subst ht
    obtain ⟨p1, p2, p3⟩ := csLoop_turn (fun e => hno (by rw [e]; rfl))
    refine ⟨fun σ' H' => ∃ m', m' < (K72.Tok.semi :: r).length ∧ ∃ ws vs q, σ' = [some (.ref ρ.r), some v, some (.ref p)] ∧ Kp ρ.r H H' ∧ H' p = some (.lst vs) ∧ DpAll K H' vs (ws.map encW) ∧ Dp K H' v (encT lk) ∧ RdAt CW CR H' ρ q ∧ EndF q ∧ m' = q.length ∧ vs.length + q.length ≤ 100002 ∧
      K72.csLoop .semi (K72.pWay n) [w0] s5 = K72.csLoop .semi (K72.pWay n) ws q, fun _ _ h => h, ?_⟩
    refine e_eat (tok := .semi) rfl R6 E6 rfl (fun _ h => h) rfl rfl (fun r' e7 H7 k7 R7 E7 => ?_) (fun e7 => ?_)
    · rw [K72.eat_cons] at e7
      injection e7 with _ e7
      subst e7
      have hp7 : H7 p = some (.lst vs) := k7 p _ pr hp6
      refine ⟨_, rfl, .inl ⟨rfl, _, SqL.of hp7⟩, ?_⟩
      refine ⟨_, rfl, ρ, r, rfl, R7, E7, p1, fun b q8 e8 v8 H8 k8 R8 E8 D8 => ?_, fun e8 d H8 k8 => q2 (by rw [p2 e8]; rfl) d H8 (K6.trans (k7.trans k8))⟩
      obtain ⟨hl, hc⟩ := p3 b q8 e8
      have hp8 : H8 p = some (.lst vs) := k8 p _ pr hp7
      have tp := upd_tp (o' := .lst (vs ++ [v8])) hp8 lst_notTp
      refine ⟨p, _, _, rfl, rfl, hp8, Nat.lt_of_le_of_lt (show vs.length ≤ 100002 by omega) (by decide), ?_⟩
      refine ⟨_, hl, ws ++ [b], vs ++ [v8], q8, rfl, kp_upd2 (K6.trans (k7.trans k8)) npH, upd_same, ?_, dp_stayT tp (nl_enc lk) (k8.dp R7 (k7.dp R6 DL6)), R8.upd pr pl (fun C dx fs e => by rw [hp8] at e; cases e), E8, rfl, ?_, he.trans hc⟩
      · rw [List.map_append]
        exact dpa_stayT tp (by rw [← List.map_append]; exact nls_ws _) (dpa_snoc D8 (k8.dpa R7 (k7.dpa R6 DW6)))
      · rw [List.length_append]
        simp only [List.length_cons, List.length_nil] at hl hz ⊢
        omega
    · rw [K72.eat_cons] at e7
      cases e7
  · have ec := csLoop_stop (p := K72.pWay n) (ws := ws) (r := r) (fun z => c (decide_eq_true z) : t ≠ .semi)
    rw [ec, K72.ok_bind] at hno q1 q2
    refine e_eat (tok := .rb) rfl R6 E6 rfl (fun _ h => h) rfl rfl (fun s7 e7 H7 k7 R7 E7 => ?_) (fun e7 d H7 k7 => q2 (by rw [e7]; rfl) d H7 (K6.trans k7))
    have hp7 : H7 p = some (.lst vs) := k7 p _ pr hp6
    refine ⟨_, rfl, _, rfl, p, _, rfl, .inl ⟨SqL.of hp7, fun a na => ⟨(by show 3 ≤ sizeLine; decide), fun t2 nt => ?_⟩⟩⟩
    refine q1 (.cs lk ws) s7 (by rw [e7]; rfl) _ _ (kp_same (kp_same (K6.trans k7) (same_new na)) (same_new nt)) ((R7.same (same_new na)).same (same_new nt)) E7 ?_
    refine dp_t3 nt dp_str (dp_new na (k7.dp R6 DL6)) (.tup (SqT.of upd_same) ?_)
    rw [encWs_map]
    exact dpa_stay (fun b o e _ => same_new na b o e) (k7.dpa R6 DW6)
end
end W72
/-! W11: let_of. -/
namespace W72
open PySem L2
/-- the names and terms of a let in a dict -/
def PsAt (K : PySem.W.Frag) (H : Hp) : List (Key × V) → List (K72.L × KTm) → Prop
  | [], [] => True
  | (k, v) :: r, (x, t) :: q => k = .inr (S x) ∧ Dp K H v (encT t) ∧ PsAt K H r q
  | _, _ => False
theorem PsAt.names {K : PySem.W.Frag} {H : Hp} : ∀ {kvs : List (Key × V)} {ps : List (K72.L × KTm)}, PsAt K H kvs ps → (kvs.map fun kv => kV kv.1) = stxs (ps.map Prod.fst)
  | [], [], _ => rfl
  | (k, v) :: r, (x, t) :: q, h => by
    obtain ⟨rfl, _, h⟩ := h
    show V.str (S x) :: _ = V.str (S x) :: _
    rw [PsAt.names h]
  | [], _ :: _, h => h.elim
  | (_, _) :: _, [], h => h.elim
theorem PsAt.keys {K : PySem.W.Frag} {H : Hp} : ∀ {kvs : List (Key × V)} {ps : List (K72.L × KTm)}, PsAt K H kvs ps → kvs.map Prod.fst = ps.map fun q => Sum.inr (S q.1)
  | [], [], _ => rfl
  | (k, v) :: r, (x, t) :: q, h => by
    obtain ⟨rfl, _, h⟩ := h
    show _ :: _ = _ :: _
    rw [PsAt.keys h]
  | [], _ :: _, h => h.elim
  | (_, _) :: _, [], h => h.elim
theorem PsAt.snoc {K : PySem.W.Frag} {H : Hp} {x : K72.L} {t : KTm} {v : V} (d : Dp K H v (encT t)) : ∀ {kvs : List (Key × V)} {ps : List (K72.L × KTm)}, PsAt K H kvs ps → PsAt K H (kvs ++ [(.inr (S x), v)]) (ps ++ [(x, t)])
  | [], [], _ => ⟨rfl, d, trivial⟩
  | (k, v) :: r, (x, t) :: q, h => ⟨h.1, h.2.1, PsAt.snoc d h.2.2⟩
  | [], _ :: _, h => h.elim
  | (_, _) :: _, [], h => h.elim
theorem PsAt.stay {K : PySem.W.Frag} {H H' : Hp} (k : ∀ b o, H b = some o → IsTp o → H' b = some o) : ∀ {kvs : List (Key × V)} {ps : List (K72.L × KTm)}, PsAt K H kvs ps → PsAt K H' kvs ps
  | [], [], _ => trivial
  | (_, _) :: r, (_, t) :: q, h => ⟨h.1, dp_stayT k (nl_enc t) h.2.1, PsAt.stay k h.2.2⟩
  | [], _ :: _, h => h.elim
  | (_, _) :: _, [], h => h.elim
theorem PsAt.len {K : PySem.W.Frag} {H : Hp} {kvs : List (Key × V)} {ps : List (K72.L × KTm)} (h : PsAt K H kvs ps) : kvs.length = ps.length := by
  have := congrArg List.length h.keys
  simpa using this
theorem val_none : ∀ {kvs : List (Key × V)} {k : Key}, k ∉ kvs.map Prod.fst → valV kvs k = none
  | [], _, _ => rfl
  | (j, v) :: r, k, h => by
    have h1 : ¬ j = k := fun e => h (by rw [e]; exact List.mem_cons_self ..)
    rw [valV_neg h1]
    exact val_none fun m => h (List.mem_cons_of_mem _ m)
theorem val_some : ∀ {kvs : List (Key × V)} {k : Key} {v : V} {i : Nat}, (kvs.map Prod.fst).Nodup → kvs[i]? = some (k, v) → valV kvs k = some v
  | [], _, _, _, _, h => by simp at h
  | (j, u) :: r, k, v, 0, _, h => by
    injection (Option.some.inj h) with e1 e2
    subst e1 e2
    exact valV_pos rfl
  | (j, u) :: r, k, v, i + 1, nd, h => by
    have h' : r[i]? = some (k, v) := h
    have nd' : (j :: r.map Prod.fst).Nodup := nd
    rw [List.nodup_cons] at nd'
    have hm : k ∈ r.map Prod.fst := List.mem_map.mpr ⟨_, List.mem_of_getElem? h', rfl⟩
    rw [valV_neg (show ¬ j = k from fun e => nd'.1 (by rw [e]; exact hm))]
    exact val_some nd'.2 h'
theorem mem_keys {ps : List (K72.L × KTm)} {x : K72.L} : (Sum.inr (S x) : Key) ∈ (ps.map fun q => (Sum.inr (S q.1) : Key)) ↔ x ∈ ps.map Prod.fst := by
  simp only [List.mem_map]
  constructor
  · rintro ⟨q, m, e⟩
    injection e with e
    exact ⟨q, m, SX.S_inj e⟩
  · rintro ⟨q, m, e⟩
    exact ⟨q, m, by rw [e]⟩
/-- new pairs -/
def TA (H : Hp) : List Addr → List (Key × V) → Prop
  | [], [] => True
  | a :: ts, (k, v) :: r => H a = some (.tup [kV k, v]) ∧ TA H ts r
  | _, _ => False
theorem TA.snoc {H : Hp} {a : Addr} {k : Key} {v : V} (d : H a = some (.tup [kV k, v])) : ∀ {ts : List Addr} {r : List (Key × V)}, TA H ts r → TA H (ts ++ [a]) (r ++ [(k, v)])
  | [], [], _ => ⟨d, trivial⟩
  | _ :: _, (_, _) :: _, h => ⟨h.1, TA.snoc d h.2⟩
  | [], _ :: _, h => h.elim
  | _ :: _, [], h => h.elim
theorem TA.stay {H H' : Hp} (k : ∀ b o, H b = some o → IsTp o → H' b = some o) : ∀ {ts : List Addr} {r : List (Key × V)}, TA H ts r → TA H' ts r
  | [], [], _ => trivial
  | _ :: _, (_, _) :: _, h => ⟨k _ _ h.1 (.inl ⟨_, rfl⟩), TA.stay k h.2⟩
  | [], _ :: _, h => h.elim
  | _ :: _, [], h => h.elim
theorem TA.dp {K : PySem.W.Frag} {H : Hp} : ∀ {ts : List Addr} {r : List (Key × V)} {ps : List (K72.L × KTm)}, TA H ts r → PsAt K H r ps → DpAll K H (ts.map V.ref) (encPs ps)
  | [], [], [], _, _ => .nil
  | _ :: _, (_, _) :: _, (_, _) :: _, h, g => by
    obtain ⟨rfl, d, g⟩ := g
    exact .cons (.tup (SqT.of h.1) (.cons (.str _) (.cons d .nil))) (TA.dp h.2 g)
  | [], [], _ :: _, _, g => g.elim
  | [], _ :: _, _, h, _ => h.elim
  | _ :: _, [], _, h, _ => h.elim
  | _ :: _, (_, _) :: _, [], _, g => g.elim
section
variable {p : List KTok → K72.Res KTm} {ps : List (K72.L × KTm)}
theorem ltLoop_eq (s : List KTok) : K72.ltLoop p ps s = (K72.eatS s).bind fun x r1 => if x ∈ ps.map Prod.fst then .fail else (K72.eat .eq r1).bind fun _ r2 => (p r2).bind fun t q =>
    if K72.now q = .semi then (if q.tail.length < s.length then K72.ltLoop p (ps ++ [(x, t)]) q.tail else .out) else .ok (ps ++ [(x, t)]) q := by
  rw [K72.ltLoop]
  simp only [dite_eq_ite]
theorem lt_ok {x : K72.L} {r : List KTok} (hx : x ∉ ps.map Prod.fst) : K72.ltLoop p ps (.small x :: r) = (K72.eat .eq r).bind fun _ r2 => (p r2).bind fun t q =>
    if K72.now q = .semi then (if q.tail.length < (K72.Tok.small x :: r).length then K72.ltLoop p (ps ++ [(x, t)]) q.tail else .out) else .ok (ps ++ [(x, t)]) q := by
  rw [ltLoop_eq, show K72.eatS (.small x :: r) = .ok x r from rfl, K72.ok_bind, if_neg hx]
theorem lt_fail {t : KTok} {r : List KTok} (h : ∀ x, t = .small x → x ∈ ps.map Prod.fst) : K72.ltLoop p ps (t :: r) = .fail := by
  rw [ltLoop_eq]
  cases t with
  | small x => rw [show K72.eatS (.small x :: r) = .ok x r from rfl, K72.ok_bind, if_pos (h x rfl)]
  | _ => rfl
end
section
variable {P : Program} {w : World} {K : PySem.W.Frag} {mg : Str → Option Value} {base : Heap} {CE CN CW CR fN f : Addr} {mcE : Value} {fd : FuncData} {n : Nat}
theorem ok_let (F : Fun K "let_of" "let_of" (top 23) f fd) (B : Rd P w K mg base CN CW CR) (Z : Bl mg) (A : PAll P w K mg base CN CW CR n) : FnOk P w K mg base (L2.CX P w) (n + 6 + 1) f fd ["reader"] (spP K CN CW CR (K72.pLt (n + 1)) encT) := by
  refine F.okX scLet (fun vs H Q E h => ?_) (fun cdv A' outer s₀ H vs Q E hr h => ?_)
  · obtain ⟨ρ, s, rfl, _⟩ := h
    rfl
  obtain ⟨ρ, s, rfl, R0, hE, hno, q1, q2⟩ := h
  have hu := Nat.lt_of_le_of_lt (Nat.add_le_add_left (by decide : 1 ≤ 64) _) hr.units
  refine ⟨_, pss_cons (ps_expr (pe_mtk B.tkST (hr.mono (by omega)) pxE (pv 0) (pk_cons pe_str (pk_cons pe_str pk_nil))))
    (pss_cons (ps_expr (pe_mtk B.tkT (hr.mono (by omega)) pxE (pv 0) (pk_cons pe_str pk_nil)))
    (pss_cons (ps_set (i := 1) scLet.nd rfl (Or.inr rfl) pe_dnewK)
    (pss_cons (ps_set (i := 2) scLet.nd rfl (Or.inl rfl) pe_bl)
    (pss_cons (ps_while (passes_of rfl) (pt_val (pv 2))
      (pss_cons (ps_set (i := 3) scLet.nd rfl (Or.inl rfl) (pe_mt1 B.un (hr.mono (by omega)) pxE (pv 0) (pa_cons (pe_callTy (call_list_dK rfl) rfl Z.list (by decide +kernel) (pa_cons (pv 1) pa_nil)) pa_nil)))
      (pss_cons (ps_expr (pe_mtk B.tkT (hr.mono (by omega)) pxE (pv 0) (pk_cons pe_str pk_nil)))
      (pss_cons (ps_dput hu (pv 1) (pv 3) (pe_cl A.T hr pxE rfl (pa_cons (pv 0) pa_nil)) (by rfl))
      (pss_cons (ps_set (i := 2) scLet.nd rfl (Or.inl rfl) (pe_mtk B.isT (hr.mono (by omega)) pxN (pv 0) (pk_cons pe_str pk_nil)))
      (pss_one (ps_if (pt_val (pv 2)) (pss_one (ps_expr (pe_mtk B.tkT (hr.mono (by omega)) pxE (pv 0) (pk_cons pe_str pk_nil)))) pss_nil)))))))
    (pss_cons (ps_expr (pe_mtk B.tkT (hr.mono (by omega)) pxE (pv 0) (pk_cons pe_str pk_nil)))
    (pss_cons (ps_expr (pe_mtk B.tkST (hr.mono (by omega)) pxE (pv 0) (pk_cons pe_str (pk_cons pe_str pk_nil))))
    (pss_one (ps_ret (pe_tup (pa_cons pe_str (pa_cons (pe_callTy call_tuple_of rfl Z.tuple (by decide +kernel) (pa_cons
      (pe_lock (pe_lc (own := [("name", 3)]) (g := gName 3) (tt := tYes) rfl scLet.nd (pi_keys (pv 1)) (blkOk_by (N := ["reader", "parts", "going", "name"]) (sc := defScope (top 23)) (by decide +kernel)) (fun _ _ _ _ _ => pg_name (i := 3) scLet.nd rfl (Or.inl rfl)) (fun _ _ _ _ _ => pts_nil)
        (fun _ _ _ _ _ => pe_tup (pa_cons (pv 3) (pa_cons (pe_dget hu (pv 1) (pv 3) (fun _ _ => rfl)) pa_nil))))) pa_nil))
      (pa_cons (pe_cl A.T hr pxE rfl (pa_cons (pv 0) pa_nil)) pa_nil)))))))))))), ?_⟩
  rw [K72.pLt_succ] at hno q1 q2
  refine e_eat (tok := .kw .klet) rfl R0 hE rfl (fun _ h => h) rfl rfl (fun s1 e1 H1 k1 R1 E1 => ?_) (fun e1 d H1 k1 => q2 (by rw [e1]; rfl) d H1 k1)
  rw [e1, K72.ok_bind] at hno q1 q2
  refine e_eat (tok := .lb) rfl R1 E1 rfl (fun _ h => h) rfl rfl (fun s2 e2 H2 k2 R2 E2 => ?_) (fun e2 d H2 k2 => q2 (by rw [e2]; rfl) d H2 (k1.trans k2))
  rw [e2, K72.ok_bind] at hno q1 q2
  intro p np
  have pr : p ≠ ρ.r := by
    obtain ⟨fs, e⟩ := R2.hr
    exact (ne_of_none e np).symm
  have pl : p ≠ ρ.l := (ne_of_none R2.hl np).symm
  have npH : H p = none := kp_fresh (k1.trans k2) np pr
  refine ⟨fun m σ H' => ∃ (g : Bool) (kvs : List (Key × V)) (ps : List (K72.L × KTm)) (q : List KTok) (y : Option V), σ = [some (.ref ρ.r), some (.ref p), some (.bl g), y] ∧ Kp ρ.r H H' ∧ H' p = some (.dK kvs) ∧ PsAt K H' kvs ps ∧ (ps.map Prod.fst).Nodup ∧ RdAt CW CR H' ρ q ∧ EndF q ∧
      ps.length + (if g = true then q.length else 0) ≤ 100002 ∧ m = (if g = true then q.length + 1 else 0) ∧ K72.ltLoop (K72.pT n) [] s2 = (if g = true then K72.ltLoop (K72.pT n) ps q else .ok ps q),
    ⟨_, true, [], [], s2, _, rfl, kp_same (k1.trans k2) (same_new np), upd_same, trivial, List.nodup_nil, R2.same (same_new np), E2, by have := R2.len; show 0 + s2.length ≤ _; omega, rfl, rfl⟩, ?_⟩
  rintro m σ H3 ⟨g, kvs, ps, q, y, rfl, k3, hp3, P3, nd3, R3, E3, hz, rfl, he⟩
  refine ⟨_, rfl, g, rfl, ?_⟩
  rw [he] at hno q1 q2
  cases g with
  | true =>
    refine iteT ?_
    rw [if_pos rfl] at hno q1 q2 hz
    refine ⟨fun σ' H' => ∃ m', m' < q.length + 1 ∧ ∃ (g : Bool) (kvs : List (Key × V)) (ps : List (K72.L × KTm)) (q : List KTok) (y : Option V), σ' = [some (.ref ρ.r), some (.ref p), some (.bl g), y] ∧ Kp ρ.r H H' ∧ H' p = some (.dK kvs) ∧ PsAt K H' kvs ps ∧ (ps.map Prod.fst).Nodup ∧ RdAt CW CR H' ρ q ∧ EndF q ∧
      ps.length + (if g = true then q.length else 0) ≤ 100002 ∧ m' = (if g = true then q.length + 1 else 0) ∧ K72.ltLoop (K72.pT n) [] s2 = (if g = true then K72.ltLoop (K72.pT n) ps q else .ok ps q), fun _ _ h => h, ?_⟩
    obtain ⟨t, r, rfl⟩ := E3.cons
    obtain ⟨j, X⟩ := id R3
    refine ⟨_, rfl, ρ.r, ρ.dx, _, rfl, X.h, no_at ρ j (by decide +kernel) (by decide +kernel) (by decide +kernel), _, rfl, p, kvs, rfl, hp3, fun a na => ?_⟩
    refine ⟨ρ, t, r, a, ps.map Prod.fst, rfl, R3.same (same_new na), SqL.of (by rw [upd_same, P3.names]), fun x hx hm H4 k4 R4 => ?_, fun hall d H4 s4 => q2 (by rw [lt_fail hall]; rfl) d H4 ((kp_same k3 (same_new na)).trans (Kp.of s4))⟩
    subst hx
    rw [lt_ok hm] at hno q1 q2 he
    have E4 : EndF r := E3.tail (fun z => by cases z)
    have K4 : Kp ρ.r H3 H4 := (Kp.of (same_new na)).trans k4
    refine e_eat (tok := .eq) rfl R4 E4 rfl (fun _ h => h) rfl rfl (fun s5 e5 H5 k5 R5 E5 => ?_) (fun e5 d H5 k5 => q2 (by rw [e5]; rfl) d H5 (k3.trans (K4.trans k5)))
    rw [e5, K72.ok_bind] at hno q1 q2 he
    refine ⟨_, rfl, ρ, s5, rfl, R5, E5, fun e => hno (by rw [e]; rfl), fun b s6 e6 v H6 k6 R6 E6 D6 => ?_, fun e6 d H6 k6 => q2 (by rw [e6]; rfl) d H6 (k3.trans (K4.trans (k5.trans k6)))⟩
    rw [e6, K72.ok_bind] at hno q1 q2 he
    have K36 : Kp ρ.r H3 H6 := K4.trans (k5.trans k6)
    have hp6 : H6 p = some (.dK kvs) := K36 p _ pr hp3
    have P6 : PsAt K H6 kvs ps := P3.stay (fun b o e ht => by
      obtain ⟨fs, er⟩ := R3.hr
      refine K36 b o (fun z => ?_) e
      rw [z, er] at e
      rcases ht with ⟨_, h⟩ | ⟨_, _, h⟩ <;> (rw [h] at e; cases e))
    have hvn : valV kvs (.inr (S x)) = none := val_none (by rw [P3.keys, mem_keys]; exact hm)
    have hl3 : kvs.length < sizeLine := by rw [P3.len]; exact Nat.lt_of_le_of_lt (show ps.length ≤ 100002 by omega) (by decide)
    have dp := DPut.k (H := H6) (a := p) (k := .inr (S x)) (v := v) hp6 hl3
    rw [putK_new v hvn] at dp
    refine ⟨_, rfl, _, rfl, p, _, rfl, dp, ?_⟩
    generalize hH7 : upd H6 p (.dK (kvs ++ [(.inr (S x), v)])) = H7
    have tp := upd_tp (o' := .dK (kvs ++ [(.inr (S x), v)])) hp6 dK_notTp
    rw [hH7] at tp
    have hp7 : H7 p = some (.dK (kvs ++ [(.inr (S x), v)])) := by rw [← hH7]; exact upd_same
    have P7 : PsAt K H7 (kvs ++ [(.inr (S x), v)]) (ps ++ [(x, b)]) := (P6.snoc D6).stay tp
    have R7 : RdAt CW CR H7 ρ s6 := by rw [← hH7]; exact R6.upd pr pl (fun C dx fs e => by rw [hp6] at e; cases e)
    have K7 : Kp ρ.r H H7 := by rw [← hH7]; exact kp_upd2 (k3.trans K36) npH
    have nd7 : ((ps ++ [(x, b)]).map Prod.fst).Nodup := by
      rw [List.map_append, List.nodup_append]
      refine ⟨nd3, List.nodup_cons.mpr ⟨by simp, List.nodup_nil⟩, fun z hz w hw e => ?_⟩
      simp only [List.map_cons, List.map_nil, List.mem_singleton] at hw
      rw [e, hw] at hz
      exact hm hz
    obtain ⟨t8, r8, rfl⟩ := E6.cons
    refine e_is rfl R7 (.inr ⟨_, rfl⟩) (fun _ h => h) rfl rfl ?_
    rw [is_semi]
    refine ⟨_, rfl, _, rfl, ?_⟩
    refine ite2 (fun c => ?_) (fun c => ?_)
    · have ht : t8 = .semi := of_decide_eq_true c
      subst ht
      rw [if_pos (show K72.now (K72.Tok.semi :: r8) = .semi from rfl)] at hno q1 q2 he
      have hl : r8.length < (K72.Tok.small x :: r).length := by
        by_cases h : r8.length < (K72.Tok.small x :: r).length
        · exact h
        · exact absurd (by rw [if_neg (show ¬ (K72.Tok.semi :: r8).tail.length < (K72.Tok.small x :: r).length from h)]; rfl) hno
      rw [if_pos (show (K72.Tok.semi :: r8).tail.length < (K72.Tok.small x :: r).length from hl)] at hno q1 q2 he
      refine e_eat (tok := .semi) rfl R7 E6 rfl (fun _ h => h) rfl rfl (fun r' e8 H8 k8 R8 E8 => ?_) (fun e8 => ?_)
      · rw [K72.eat_cons] at e8
        injection e8 with _ e8
        subst e8
        have hp8 := k8 p _ pr hp7
        refine ⟨_, (by show r8.length + 1 < _; omega), true, _, _, r8, _, rfl, K7.trans k8, hp8, P7.stay (fun b o e ht => ?_), nd7, R8, E8, ?_, rfl, he⟩
        · obtain ⟨fs, er⟩ := R7.hr
          refine k8 b o (fun z => ?_) e
          rw [z, er] at e
          rcases ht with ⟨_, h⟩ | ⟨_, _, h⟩ <;> (rw [h] at e; cases e)
        · rw [List.length_append]
          rw [if_pos rfl]
          simp only [List.length_cons, List.length_nil] at hl hz ⊢
          omega
      · rw [K72.eat_cons] at e8
        cases e8
    · have ht : ¬ K72.now (t8 :: r8) = .semi := fun z => c (decide_eq_true z)
      rw [if_neg ht] at hno q1 q2 he
      have cf : decide (t8 = .semi) = false := by simpa using c
      rw [cf]
      refine ⟨0, Nat.succ_pos _, false, _, _, t8 :: r8, _, rfl, K7, hp7, P7, nd7, R7, E6, ?_, rfl, he⟩
      rw [List.length_append, if_neg Bool.false_ne_true]
      simp only [List.length_cons, List.length_nil] at hz ⊢
      omega
  | false =>
    refine iteF ?_
    rw [if_neg Bool.false_ne_true] at hz
    rw [if_neg Bool.false_ne_true, K72.ok_bind] at hno q1 q2
    refine e_eat (tok := .rb) rfl R3 E3 rfl (fun _ h => h) rfl rfl (fun s4 e4 H4 k4 R4 E4 => ?_) (fun e4 d H4 k4 => q2 (by rw [e4]; rfl) d H4 (k3.trans k4))
    rw [e4, K72.ok_bind] at hno q1 q2
    refine e_eat (tok := .kw .kin) rfl R4 E4 rfl (fun _ h => h) rfl rfl (fun s5 e5 H5 k5 R5 E5 => ?_) (fun e5 d H5 k5 => q2 (by rw [e5]; rfl) d H5 (k3.trans (k4.trans k5)))
    rw [e5, K72.ok_bind] at hno q1 q2
    have K35 : Kp ρ.r H3 H5 := k4.trans k5
    have hp5 : H5 p = some (.dK kvs) := K35 p _ pr hp3
    have P5 : PsAt K H5 kvs ps := P3.stay (fun b o e ht => by
      obtain ⟨fs, er⟩ := R3.hr
      refine K35 b o (fun z => ?_) e
      rw [z, er] at e
      rcases ht with ⟨_, h⟩ | ⟨_, _, h⟩ <;> (rw [h] at e; cases e))
    have ndk : (kvs.map Prod.fst).Nodup := by
      rw [P5.keys, show (ps.map fun q => (Sum.inr (S q.1) : Key)) = (ps.map Prod.fst).map (fun x => Sum.inr (S x)) by rw [List.map_map]; rfl]
      exact List.Pairwise.map _ (fun a b h e => h (by injection e with e; exact SX.S_inj e)) nd3
    refine ⟨p, _, hp5, trivial, fun od => ?_⟩
    refine ⟨_, rfl, p, od, rfl, .inl ⟨kvs, upd_same, fun D nD => ?_⟩⟩
    have nDp : D ≠ p := fun z => by rw [z, upd_same] at nD; cases nD
    have nD5 : H5 D = none := by rw [upd_ne nDp] at nD; exact nD
    refine lc_it walk_keys (fun i H' => H' p = some (.frz od (.dK kvs)) ∧ (∀ b o, b ≠ p → H5 b = some o → H' b = some o) ∧ ∃ ts, H' D = some (.lst (ts.map V.ref)) ∧ ts.length = i ∧ TA H' ts (kvs.take i))
      ⟨by rw [upd_ne (Ne.symm nDp)]; exact upd_same, fun b o hb e => by rw [upd_ne (ne_of_none e nD5), upd_ne hb]; exact e, [], upd_same, rfl, trivial⟩ (fun i H' _ h => h.1) ?_ ?_
    · rintro i x H6 H6' hi ⟨h1, h2, ts, h3, h4, h5⟩ ⟨rfl, k, v, hk, rfl⟩
      refine ⟨rfl, ?_⟩
      refine ⟨_, rfl, _, rfl, _, rfl, p, v, rfl, .inl ⟨kvs, k, .inr ⟨od, h1⟩, rfl, (val_some ndk hk).symm⟩, (by show 2 ≤ sizeLine; decide), fun T nT => ?_⟩
      have nTD : D ≠ T := ne_of_none h3 nT
      have nTp : p ≠ T := ne_of_none h1 nT
      refine ⟨_, by rw [upd_ne nTD]; exact h3, ?_, ?_⟩
      · rw [List.length_map, h4]
        refine Nat.lt_of_lt_of_le hi ?_
        rw [P5.len]
        exact Nat.le_of_lt (Nat.lt_of_le_of_lt (show ps.length ≤ 100002 by omega) (by decide))
      · have hD' : upd H6' T (.tup [kV k, v]) D = some (.lst (ts.map V.ref)) := by rw [upd_ne nTD]; exact h3
        refine ⟨by rw [upd_ne (Ne.symm nDp), upd_ne nTp]; exact h1, fun b o hb e => by rw [upd_ne (ne_of_none e nD5), upd_ne (ne_of_none (h2 b o hb e) nT)]; exact h2 b o hb e, ts ++ [T], by rw [upd_same, List.map_append] <;> rfl, by rw [List.length_append, h4] <;> rfl, ?_⟩
        have et : kvs.take (i + 1) = kvs.take i ++ [(k, v)] := by
          rw [List.take_succ, hk] <;> rfl
        rw [et]
        refine TA.stay (upd_tp hD' lst_notTp) (TA.snoc upd_same (TA.stay (fun b o e _ => ?_) h5))
        rw [upd_ne (ne_of_none e nT)]
        exact e
    · rintro H6 ⟨h1, h2, ts, h3, h4, h5⟩
      refine ⟨h1, ?_⟩
      generalize hH7 : upd H6 p (.dK kvs) = H7
      have s57 : Same H5 H7 := fun b o e => by
        rw [← hH7]
        by_cases hb : b = p
        · rw [hb, upd_same, ← hp5, ← hb]; exact e
        · rw [upd_ne hb]; exact h2 b o hb e
      have hD7 : H7 D = some (.lst (ts.map V.ref)) := by rw [← hH7, upd_ne nDp]; exact h3
      have T7 : TA H7 ts kvs := by
        rw [List.take_length] at h5
        refine TA.stay (fun b o e ht => ?_) h5
        rw [← hH7, upd_ne (fun z => ?_)]
        · exact e
        · rw [z, h1] at e
          have e' := Option.some.inj e
          rcases ht with ⟨_, h⟩ | ⟨_, _, h⟩ <;> (rw [h] at e'; cases e')
      refine ⟨D, _, rfl, .inl ⟨SqL.of hD7, fun a na => ?_⟩⟩
      have D7 : DpAll K H7 (ts.map V.ref) (encPs ps) := TA.dp T7 (P5.stay fun b o e _ => s57 b o e)
      have R7 := (R5.same s57).same (same_new (o := .tup (ts.map V.ref)) na)
      have K7 : Kp ρ.r H (upd H7 a (.tup (ts.map V.ref))) := kp_same (kp_same (k3.trans K35) s57) (same_new na)
      refine ⟨_, rfl, ρ, s5, rfl, R7, E5, fun e => hno (by rw [e]; rfl), fun b s8 e8 v8 H8 k8 R8 E8 D8 => ?_, fun e8 d H8 k8 => q2 (by rw [e8]; rfl) d H8 (K7.trans k8)⟩
      refine ⟨(by show 3 ≤ sizeLine; decide), fun t nt => ?_⟩
      refine q1 (.lt ps b) s8 (by rw [e8]; rfl) _ _ (kp_same (K7.trans k8) (same_new nt)) (R8.same (same_new nt)) E8 ?_
      refine dp_t3 nt dp_str (k8.dp R7 (.tup (SqT.of upd_same) (dpa_stay (fun b o e _ => same_new na b o e) D7))) D8
end
end W72
/-! W12: readers of kinds and datas. -/
namespace W72
open PySem L2
abbrev KKd := K72.Kd
mutual
def encK : KKd → PyData
  | .num => .tuple [.str "num"]
  | .var x => .tuple [.str "var", .str (S x)]
  | .data d ks => .tuple [.str "data", .str (S d), .tuple (encKs ks)]
  | .fn a b => .tuple [.str "fun", encK a, encK b]
  | .par k => encK k
def encKs : List KKd → List PyData
  | [] => []
  | k :: r => encK k :: encKs r
end
theorem encKs_map : ∀ ks, encKs ks = ks.map encK
  | [] => rfl
  | k :: r => by rw [encKs, encKs_map r] <;> rfl
def encKT (ks : List KKd) : PyData := .tuple (encKs ks)
def encM (m : K72.Mk) : PyData := .tuple [.str (S m.1), encKT m.2]
def encD (d : K72.Dt) : PyData := .tuple [.str (S d.1), .tuple (d.2.1.map fun x => .str (S x)), .tuple (d.2.2.map encM)]
mutual
theorem nl_encK : ∀ k : KKd, nl (encK k) = true
  | .num => rfl
  | .var _ => rfl
  | .data _ ks => by show (true && (true && (nls (encKs ks) && true))) = true; rw [nl_encKs ks]; rfl
  | .fn a b => by show (true && (nl (encK a) && (nl (encK b) && true))) = true; rw [nl_encK a, nl_encK b]; rfl
  | .par k => by show nl (encK k) = true; exact nl_encK k
theorem nl_encKs : ∀ ks : List KKd, nls (encKs ks) = true
  | [] => rfl
  | k :: r => by show (nl (encK k) && nls (encKs r)) = true; rw [nl_encK k, nl_encKs r]; rfl
end
theorem nls_ks : ∀ ms : List KKd, nls (ms.map encK) = true
  | [] => rfl
  | m :: r => by show (nl (encK m) && nls (r.map encK)) = true; rw [nl_encK, nls_ks r]; rfl
theorem nl_encM (m : K72.Mk) : nl (encM m) = true := by
  show (true && (nls (encKs m.2) && true)) = true
  rw [nl_encKs]; rfl
theorem nls_ms : ∀ ms : List K72.Mk, nls (ms.map encM) = true
  | [] => rfl
  | m :: r => by show (nl (encM m) && nls (r.map encM)) = true; rw [nl_encM, nls_ms r]; rfl
section
variable {p : List KTok → K72.Res KKd} {acc : List KKd}
theorem lonesL_turn {s : List KTok} (hb : K72.beginsK s = true) (hno : K72.lonesL p acc s ≠ .out) : p s ≠ .out ∧ (p s = .fail → K72.lonesL p acc s = .fail) ∧
    ∀ b q, p s = .ok b q → q.length < s.length ∧ K72.lonesL p acc s = K72.lonesL p (acc ++ [b]) q := by
  rw [K72.lonesL, if_pos hb] at hno ⊢
  refine ⟨fun e => hno (by rw [e]; rfl), fun e => by rw [e]; rfl, fun b q e => ?_⟩
  rw [e, K72.ok_bind] at hno ⊢
  by_cases h : q.length < s.length
  · exact ⟨h, dif_pos h⟩
  · exact absurd (dif_neg h) hno
theorem lonesL_stop {s : List KTok} (hb : ¬ K72.beginsK s = true) : K72.lonesL p acc s = .ok acc s := by
  rw [K72.lonesL, if_neg hb]
end
structure KAll (P : Program) (w : World) (K : PySem.W.Frag) (mg : Str → Option Value) (base : Heap) (CN CW CR : Addr) (n : Nat) : Prop where
  Lone : Cl P w K mg base (n + 6) "lone_kind_of" (spP K CN CW CR (K72.pLone n) encK)
  Lones : Cl P w K mg base (n + 6) "lone_kinds_of" (spP K CN CW CR (K72.pLones n) encKT)
  Kind : Cl P w K mg base (n + 6) "kind_of" (spP K CN CW CR (K72.pKind n) encK)
theorem scBk : FnScope ["reader"] ["reader"] (defScope (top 32)) := ⟨rfl, rfl, rfl, by decide +kernel, rfl, by decide +kernel, by decide +kernel⟩
theorem scLone : FnScope ["reader", "one"] ["reader"] (defScope (top 33)) := ⟨rfl, rfl, rfl, by decide +kernel, rfl, by decide +kernel, by decide +kernel⟩
theorem scLones : FnScope ["reader", "found"] ["reader"] (defScope (top 34)) := ⟨rfl, rfl, rfl, by decide +kernel, rfl, by decide +kernel, by decide +kernel⟩
theorem scKind : FnScope ["reader", "one"] ["reader"] (defScope (top 35)) := ⟨rfl, rfl, rfl, by decide +kernel, rfl, by decide +kernel, by decide +kernel⟩
theorem scMaker : FnScope ["reader", "name"] ["reader"] (defScope (top 36)) := ⟨rfl, rfl, rfl, by decide +kernel, rfl, by decide +kernel, by decide +kernel⟩
theorem scData : FnScope ["reader", "name", "params", "makers"] ["reader"] (defScope (top 37)) := ⟨rfl, rfl, rfl, by decide +kernel, rfl, by decide +kernel, by decide +kernel⟩
def spBk (CW CR : Addr) : Sp := fun vs H Q _ => ∃ (ρ : Rdr) (s : List KTok), vs = [.ref ρ.r] ∧ RdAt CW CR H ρ s ∧ EndF s ∧ ∀ H', Same H H' → Q (.bl (K72.beginsK s)) H'
theorem in_bk (t : KTok) (r : List KTok) : K72.beginsK (t :: r) = if inV (.str (manS t)) [.str "small", .str "great"] = true then true else if decide (t = .kw .knum) = true then true else decide (t = .lp) := by
  cases t with
  | op o => cases o <;> rfl
  | kw k => cases k <;> rfl
  | _ => rfl
section
variable {P : Program} {w : World} {K : PySem.W.Frag} {mg : Str → Option Value} {base : Heap} {CE CN CW CR fN f : Addr} {mcE : Value} {fd : FuncData} {n : Nat}
theorem ok_bk (F : Fun K "begins_kind" "begins_kind" (top 32) f fd) (T : Txt K mg CE CN CW CR fN mcE) (B : Rd P w K mg base CN CW CR) : FnOk P w K mg base (L2.CX P w) 3 f fd ["reader"] (spBk CW CR) := by
  refine F.okX scBk (fun vs H Q E h => ?_) (fun cdv A' outer s₀ H vs Q E hr h => ?_)
  · obtain ⟨ρ, s, rfl, _⟩ := h
    rfl
  obtain ⟨ρ, s, rfl, R0, hE, q1⟩ := h
  refine ⟨_, pss_cons (ps_if (pt_cmpR op_in_seq (pe_fld (pe_mt0 B.now (hr.mono (by decide)) pxN (pv 0)) rfl) (pe_tup (pa_cons pe_str (pa_cons pe_str pa_nil))) (by rfl)) (pss_one (ps_ret pe_bl)) pss_nil)
    (pss_one (ps_ret (pe_or (pe_mtk B.isST (hr.mono (by decide)) pxN (pv 0) (pk_cons pe_str (pk_cons pe_str pk_nil))) (pe_one (pe_mtk B.isT (hr.mono (by decide)) pxN (pv 0) (pk_cons pe_str pk_nil)))))), ?_⟩
  obtain ⟨t, r, rfl⟩ := hE.cons
  obtain ⟨j, X⟩ := id R0
  refine ⟨_, rfl, ρ.r, ρ.dx, _, rfl, X.h, no_at ρ j (by decide +kernel) (by decide +kernel) (by decide +kernel), ρ, t, r, rfl, R0, fun p ⟨dw, col, hw⟩ => ?_⟩
  refine ⟨p, CW, dw, _, _, rfl, hw, T.clW, T.wM, w_m _ _, (by show 2 ≤ sizeLine; decide), fun a na => ?_⟩
  rw [in_bk] at q1
  refine ⟨a, _, rfl, .inr (SqT.of upd_same), rfl, rfl, _, rfl, ?_⟩
  refine ite2 (fun c => ?_) (fun c => ?_)
  · have c' : inV (.str (manS t)) [.str "small", .str "great"] = true := c
    rw [if_pos c'] at q1
    exact q1 _ (same_new na)
  · have c' : ¬ inV (.str (manS t)) [.str "small", .str "great"] = true := c
    rw [if_neg c'] at q1
    have R1 := R0.same (same_new (o := .tup [.str "small", .str "great"]) na)
    refine e_is rfl R1 (.inr ⟨_, rfl⟩) (fun _ h => h) rfl rfl ?_
    rw [is_knum]
    refine ⟨_, rfl, ?_⟩
    refine ite2 (fun c2 => ?_) (fun c2 => ?_)
    · rw [if_pos c2] at q1
      exact q1 _ (same_new na)
    · rw [if_neg c2] at q1
      refine e_is rfl R1 (.inr ⟨_, rfl⟩) (fun _ h => h) rfl rfl ?_
      rw [is_lp]
      exact q1 _ (same_new na)
theorem ok_lone (F : Fun K "lone_kind_of" "lone_kind_of" (top 33) f fd) (B : Rd P w K mg base CN CW CR) (A : KAll P w K mg base CN CW CR n) : FnOk P w K mg base (L2.CX P w) (n + 6 + 1) f fd ["reader"] (spP K CN CW CR (K72.pLone (n + 1)) encK) := by
  refine F.okX scLone (fun vs H Q E h => ?_) (fun cdv A' outer s₀ H vs Q E hr h => ?_)
  · obtain ⟨ρ, s, rfl, _⟩ := h
    rfl
  obtain ⟨ρ, s, rfl, R0, hE, hno, q1, q2⟩ := h
  refine ⟨_, pss_cons (ps_if (pt_val (pe_mtk B.isST (hr.mono (by omega)) pxN (pv 0) (pk_cons pe_str (pk_cons pe_str pk_nil)))) (pss_cons (ps_expr (pe_mtk B.tkST (hr.mono (by omega)) pxE (pv 0) (pk_cons pe_str (pk_cons pe_str pk_nil)))) (pss_one (ps_ret (pe_tup (pa_cons pe_str pa_nil))))) pss_nil)
    (pss_cons (ps_if (pt_val (pe_mtk B.isS (hr.mono (by omega)) pxN (pv 0) (pk_cons pe_str pk_nil))) (pss_one (ps_ret (pe_tup (pa_cons pe_str (pa_cons (pe_mtk B.tkS (hr.mono (by omega)) pxE (pv 0) (pk_cons pe_str pk_nil)) pa_nil))))) pss_nil)
    (pss_cons (ps_if (pt_val (pe_mtk B.isS (hr.mono (by omega)) pxN (pv 0) (pk_cons pe_str pk_nil))) (pss_one (ps_ret (pe_tup (pa_cons pe_str (pa_cons (pe_mtk B.tkS (hr.mono (by omega)) pxE (pv 0) (pk_cons pe_str pk_nil)) (pa_cons (pe_tup pa_nil) pa_nil)))))) pss_nil)
    (pss_cons (ps_expr (pe_mtk B.tkT (hr.mono (by omega)) pxE (pv 0) (pk_cons pe_str pk_nil)))
    (pss_cons (ps_set (i := 1) scLone.nd rfl (Or.inl rfl) (pe_cl A.Kind hr pxE rfl (pa_cons (pv 0) pa_nil)))
    (pss_cons (ps_expr (pe_mtk B.tkT (hr.mono (by omega)) pxE (pv 0) (pk_cons pe_str pk_nil)))
    (pss_one (ps_ret (pv 1)))))))), ?_⟩
  obtain ⟨t, r, rfl⟩ := hE.cons
  refine t_is rfl R0 (.inr ⟨_, rfl⟩) (fun _ h => h) rfl rfl ?_
  rw [is_knum]
  refine ite2 (fun c => ?_) (fun c => ?_)
  · have ht : t = .kw .knum := of_decide_eq_true c
    subst ht
    refine e_eat (tok := .kw .knum) rfl R0 hE rfl (fun _ h => h) rfl rfl (fun s1 e1 H1 k1 R1 E1 => ?_) (fun e1 => ?_)
    · rw [K72.eat_cons] at e1
      injection e1 with _ e1
      subst e1
      refine ⟨(by show 1 ≤ sizeLine; decide), fun p np => ?_⟩
      exact q1 .num r rfl _ _ (kp_same k1 (same_new np)) (R1.same (same_new np)) E1 (.tup (SqT.of upd_same) (.cons dp_str .nil))
    · rw [K72.eat_cons] at e1; cases e1
  refine t_is rfl R0 (.inl rfl) (fun _ h => h) rfl rfl ?_
  refine ite2 (fun c2 => ?_) (fun c2 => ?_)
  · obtain ⟨k, rfl⟩ := (isNow_small t).mp c2
    refine e_take rfl R0 (.inl rfl) (fun _ h => h) rfl rfl (fun c H1 k1 R1 => ?_) (fun c' => ?_)
    · refine ⟨(by show 2 ≤ sizeLine; decide), fun p np => ?_⟩
      exact q1 (.var k) r rfl _ _ (kp_same k1 (same_new np)) (R1.same (same_new np)) (hE.tail (fun z => by cases z)) (dp_t2 np dp_str dp_str)
    · rw [c2] at c'; cases c'
  refine t_is rfl R0 (.inl rfl) (fun _ h => h) rfl rfl ?_
  refine ite2 (fun c3 => ?_) (fun c3 => ?_)
  · obtain ⟨k, rfl⟩ := (isNow_great t).mp c3
    refine e_take rfl R0 (.inl rfl) (fun _ h => h) rfl rfl (fun c H1 k1 R1 => ?_) (fun c' => ?_)
    · refine ⟨Nat.zero_le _, fun a na => ⟨(by show 3 ≤ sizeLine; decide), fun p np => ?_⟩⟩
      exact q1 (.data k []) r rfl _ _ (kp_same (kp_same k1 (same_new na)) (same_new np)) ((R1.same (same_new na)).same (same_new np)) (hE.tail (fun z => by cases z)) (dp_t3 np dp_str dp_str (.tup (SqT.of upd_same) .nil))
    · rw [c3] at c'; cases c'
  have e0 : K72.pLone (n + 1) (t :: r) = (K72.eat .lp (t :: r)).bind fun _ r1 => (K72.pKind n r1).bind fun t q => (K72.eat .rp q).bind fun _ q1 => .ok t q1 := by
    cases t with
    | kw k =>
      cases k with
      | knum => exact absurd (decide_eq_true rfl) c
      | _ => rfl
    | small k => exact absurd ((isNow_small _).mpr ⟨k, rfl⟩) c2
    | great k => exact absurd ((isNow_great _).mpr ⟨k, rfl⟩) c3
    | _ => rfl
  rw [e0] at hno q1 q2
  refine e_eat (tok := .lp) rfl R0 hE rfl (fun _ h => h) rfl rfl (fun s1 e1 H1 k1 R1 E1 => ?_) (fun e1 d H1 k1 => q2 (by rw [e1]; rfl) d H1 k1)
  rw [e1, K72.ok_bind] at hno q1 q2
  refine ⟨_, rfl, ρ, s1, rfl, R1, E1, fun e => hno (by rw [e]; rfl), fun b q e2 v H2 k2 R2 E2 D2 => ?_, fun e2 d H2 k2 => q2 (by rw [e2]; rfl) d H2 (k1.trans k2)⟩
  rw [e2, K72.ok_bind] at hno q1 q2
  refine e_eat (tok := .rp) rfl R2 E2 rfl (fun _ h => h) rfl rfl (fun s3 e3 H3 k3 R3 E3 => ?_) (fun e3 d H3 k3 => q2 (by rw [e3]; rfl) d H3 (k1.trans (k2.trans k3)))
  exact ⟨_, rfl, q1 b s3 (by rw [e3]; rfl) v H3 (k1.trans (k2.trans k3)) R3 E3 (k3.dp R2 D2)⟩
theorem ok_lones (F : Fun K "lone_kinds_of" "lone_kinds_of" (top 34) f fd) (B : Rd P w K mg base CN CW CR) (Z : Bl mg) (Bk : Cl P w K mg base 3 "begins_kind" (spBk CW CR)) (A : KAll P w K mg base CN CW CR n) : FnOk P w K mg base (L2.CX P w) (n + 6 + 1) f fd ["reader"] (spP K CN CW CR (K72.pLones (n + 1)) encKT) := by
  refine F.okX scLones (fun vs H Q E h => ?_) (fun cdv A' outer s₀ H vs Q E hr h => ?_)
  · obtain ⟨ρ, s, rfl, _⟩ := h
    rfl
  obtain ⟨ρ, s, rfl, R0, hE, hno, q1, q2⟩ := h
  refine ⟨_, pss_cons (ps_set (i := 1) scLones.nd rfl (Or.inl rfl) (pe_lst pa_nil))
    (pss_cons (ps_while (passes_of rfl) (pt_val (pe_cl Bk (hr.mono (by omega)) pxN rfl (pa_cons (pv 0) pa_nil)))
      (pss_one (ps_expr (pe_bm PySem.F.plainAttrs_list PySem.F.slot_list_append PySem.F.type_list_append mt_append (pv 1) (pa_cons (pe_cl A.Lone hr pxE rfl (pa_cons (pv 0) pa_nil)) pa_nil)))))
    (pss_one (ps_ret (pe_callTy call_tuple_of rfl Z.tuple (by decide +kernel) (pa_cons (pv 1) pa_nil))))), ?_⟩
  have e0 : K72.pLones (n + 1) s = K72.lonesL (K72.pLone n) [] s := rfl
  rw [e0] at hno q1 q2
  refine ⟨Nat.zero_le _, fun p np => ?_⟩
  have pr : p ≠ ρ.r := by
    obtain ⟨fs, e⟩ := R0.hr
    exact (ne_of_none e np).symm
  have pl : p ≠ ρ.l := (ne_of_none R0.hl np).symm
  refine ⟨fun m σ H' => ∃ ks vs q, σ = [some (.ref ρ.r), some (.ref p)] ∧ Kp ρ.r H H' ∧ H' p = some (.lst vs) ∧ DpAll K H' vs (ks.map encK) ∧ RdAt CW CR H' ρ q ∧ EndF q ∧ m = q.length ∧ vs.length + q.length ≤ 100002 ∧ K72.lonesL (K72.pLone n) [] s = K72.lonesL (K72.pLone n) ks q,
    ⟨_, [], [], s, rfl, kp_upd2 (Kp.refl _ _) np, upd_same, .nil, R0.same (same_new np), hE, rfl, by have := R0.len; show 0 + s.length ≤ _; omega, rfl⟩, ?_⟩
  rintro m σ H1 ⟨ks, vs, q, rfl, k1, hp1, D1, R1, E1, rfl, hz, he⟩
  rw [he] at hno q1 q2
  refine ⟨_, rfl, ρ, q, rfl, R1, E1, fun H2 s2 => ⟨_, rfl, ?_⟩⟩
  have hp2 := s2 _ _ hp1
  refine ite2 (fun c => ?_) (fun c => ?_)
  · obtain ⟨p1, p2, p3⟩ := lonesL_turn c hno
    refine ⟨fun σ' H' => ∃ m', m' < q.length ∧ ∃ ks vs q, σ' = [some (.ref ρ.r), some (.ref p)] ∧ Kp ρ.r H H' ∧ H' p = some (.lst vs) ∧ DpAll K H' vs (ks.map encK) ∧ RdAt CW CR H' ρ q ∧ EndF q ∧ m' = q.length ∧ vs.length + q.length ≤ 100002 ∧ K72.lonesL (K72.pLone n) [] s = K72.lonesL (K72.pLone n) ks q, fun _ _ h => h, ?_⟩
    refine ⟨_, rfl, .inl ⟨rfl, _, SqL.of hp2⟩, ?_⟩
    refine ⟨_, rfl, ρ, q, rfl, R1.same s2, E1, p1, fun b q8 e8 v8 H8 k8 R8 E8 D8 => ?_, fun e8 d H8 k8 => q2 (p2 e8) d H8 ((kp_same k1 s2).trans k8)⟩
    obtain ⟨hl, hc⟩ := p3 b q8 e8
    have hp8 : H8 p = some (.lst vs) := k8 p _ pr hp2
    have tp := upd_tp (o' := .lst (vs ++ [v8])) hp8 lst_notTp
    refine ⟨p, _, _, rfl, rfl, hp8, Nat.lt_of_le_of_lt (show vs.length ≤ 100002 by omega) (by decide), ?_⟩
    refine ⟨_, hl, ks ++ [b], vs ++ [v8], q8, rfl, kp_upd2 ((kp_same k1 s2).trans k8) np, upd_same, ?_, R8.upd pr pl (fun C dx fs e => by rw [hp8] at e; cases e), E8, rfl, ?_, he.trans hc⟩
    · rw [List.map_append]
      exact dpa_stayT tp (by rw [← List.map_append]; exact nls_ks _) (dpa_snoc D8 (k8.dpa (R1.same s2) (dpa_stay (fun b o e _ => s2 b o e) D1)))
    · rw [List.length_append]
      simp only [List.length_cons, List.length_nil] at hl hz ⊢
      omega
  · refine ⟨_, rfl, p, _, rfl, .inl ⟨SqL.of hp2, fun a na => ?_⟩⟩
    refine q1 ks q (lonesL_stop c) _ _ (kp_same (kp_same k1 s2) (same_new na)) ((R1.same s2).same (same_new na)) E1 (.tup (SqT.of upd_same) ?_)
    rw [encKs_map]
    exact dpa_stay (fun b o e _ => same_new na b o e) (dpa_stay (fun b o e _ => s2 b o e) D1)
theorem ok_kind (F : Fun K "kind_of" "kind_of" (top 35) f fd) (B : Rd P w K mg base CN CW CR) (A : KAll P w K mg base CN CW CR n) : FnOk P w K mg base (L2.CX P w) (n + 6 + 1) f fd ["reader"] (spP K CN CW CR (K72.pKind (n + 1)) encK) := by
  refine F.okX scKind (fun vs H Q E h => ?_) (fun cdv A' outer s₀ H vs Q E hr h => ?_)
  · obtain ⟨ρ, s, rfl, _⟩ := h
    rfl
  obtain ⟨ρ, s, rfl, R0, hE, hno, q1, q2⟩ := h
  refine ⟨_, pss_cons (ps_if (pt_val (pe_mtk B.isS (hr.mono (by omega)) pxN (pv 0) (pk_cons pe_str pk_nil)))
      (pss_one (ps_set (i := 1) scKind.nd rfl (Or.inl rfl) (pe_tup (pa_cons pe_str (pa_cons (pe_mtk B.tkS (hr.mono (by omega)) pxE (pv 0) (pk_cons pe_str pk_nil)) (pa_cons (pe_cl A.Lones hr pxE rfl (pa_cons (pv 0) pa_nil)) pa_nil))))))
      (pss_one (ps_set (i := 1) scKind.nd rfl (Or.inl rfl) (pe_cl A.Lone hr pxE rfl (pa_cons (pv 0) pa_nil)))))
    (pss_cons (ps_if (pt_val (pe_mtk B.isT (hr.mono (by omega)) pxN (pv 0) (pk_cons pe_str pk_nil)))
      (pss_cons (ps_expr (pe_mtk B.tkT (hr.mono (by omega)) pxE (pv 0) (pk_cons pe_str pk_nil))) (pss_one (ps_ret (pe_tup (pa_cons pe_str (pa_cons (pv 1) (pa_cons (pe_cl A.Kind hr pxE rfl (pa_cons (pv 0) pa_nil)) pa_nil))))))) pss_nil)
    (pss_one (ps_ret (pv 1)))), ?_⟩
  obtain ⟨t, r, rfl⟩ := hE.cons
  refine t_is rfl R0 (.inl rfl) (fun _ h => h) rfl rfl ?_
  refine ite2 (fun c => ?_) (fun c => ?_)
  · obtain ⟨x, rfl⟩ := (isNow_great t).mp c
    have e0 : K72.pKind (n + 1) (.great x :: r) = (K72.pLones n r).bind fun ks q => K72.kTail (K72.pKind n) (.data x ks) q := rfl
    rw [e0] at hno q1 q2
    refine e_take rfl R0 (.inl rfl) (fun _ h => h) rfl rfl (fun c H0 k0 R0 => ?_) (fun c' => ?_)
    rotate_left
    · rw [c] at c'; cases c'
    have E0 : EndF r := hE.tail (fun z => by cases z)
    refine ⟨_, rfl, ρ, r, rfl, R0, E0, fun e => hno (by rw [e]; rfl), fun ks q eK v H1 k1 R1 E1 D1 => ?_, fun e1 d H1 k1 => q2 (by rw [e1]; rfl) d H1 (k0.trans k1)⟩
    refine ⟨(by show 3 ≤ sizeLine; decide), fun p np => ?_⟩
    replace D1 : Dp K (upd H1 p (.tup [.str "data", .str (S x), v])) (.ref p) (encK (.data x ks)) := dp_t3 np dp_str dp_str D1
    replace R1 := R1.same (same_new (o := .tup [.str "data", .str (S x), v]) np)
    replace k1 := kp_same (k0.trans k1) (same_new (o := .tup [.str "data", .str (S x), v]) np)
    generalize hkk : K72.Kd.data x ks = kk at D1
    rw [eK, K72.ok_bind, hkk] at hno q1 q2
    obtain ⟨t2, r2, rfl⟩ := E1.cons
    refine t_is rfl R1 (.inr ⟨_, rfl⟩) (fun _ h => h) rfl rfl ?_
    rw [is_arr]
    refine ite2 (fun c4 => ?_) (fun c4 => ?_)
    · have ht : t2 = .arr := of_decide_eq_true c4
      subst ht
      have ek : ∀ k, K72.kTail (K72.pKind n) k (.arr :: r2) = (K72.pKind n r2).bind fun b q1 => .ok (.fn k b) q1 := fun k => if_pos rfl
      rw [ek] at hno q1 q2
      refine e_eat (tok := .arr) rfl R1 E1 rfl (fun _ h => h) rfl rfl (fun r' e3 H3 k3 R3 E3 => ?_) (fun e3 => ?_)
      · rw [K72.eat_cons] at e3
        injection e3 with _ e3
        subst e3
        refine ⟨_, rfl, _, rfl, ρ, r2, rfl, R3, E3, fun e => hno (by rw [e]; rfl), fun b q4 e4 v4 H4 k4 R4 E4 D4 => ?_, fun e4 d H4 k4 => q2 (by rw [e4]; rfl) d H4 (k1.trans (k3.trans k4))⟩
        refine ⟨(by show 3 ≤ sizeLine; decide), fun p np => ?_⟩
        exact q1 (.fn kk b) q4 (by rw [e4]; rfl) _ _ (kp_same (k1.trans (k3.trans k4)) (same_new np)) (R4.same (same_new np)) E4 (dp_t3 np dp_str (k4.dp R3 (k3.dp R1 D1)) D4)
      · rw [K72.eat_cons] at e3; cases e3
    · have ek : ∀ k, K72.kTail (K72.pKind n) k (t2 :: r2) = .ok k (t2 :: r2) := fun k => if_neg (fun z => c4 (decide_eq_true z))
      rw [ek] at hno q1 q2
      exact ⟨_, rfl, q1 kk (t2 :: r2) rfl _ _ k1 R1 E1 D1⟩
  · have e0 : K72.pKind (n + 1) (t :: r) = (K72.pLone n (t :: r)).bind fun k q => K72.kTail (K72.pKind n) k q := by
      cases t with
      | great k => exact absurd ((isNow_great _).mpr ⟨k, rfl⟩) c
      | _ => rfl
    rw [e0] at hno q1 q2
    refine ⟨_, rfl, ρ, _, rfl, R0, hE, fun e => hno (by rw [e]; rfl), fun kk q eK v H1 k1 R1 E1 D1 => ?_, fun e1 d H1 k1 => q2 (by rw [e1]; rfl) d H1 k1⟩
    rw [eK, K72.ok_bind] at hno q1 q2
    obtain ⟨t2, r2, rfl⟩ := E1.cons
    refine t_is rfl R1 (.inr ⟨_, rfl⟩) (fun _ h => h) rfl rfl ?_
    rw [is_arr]
    refine ite2 (fun c4 => ?_) (fun c4 => ?_)
    · have ht : t2 = .arr := of_decide_eq_true c4
      subst ht
      have ek : ∀ k, K72.kTail (K72.pKind n) k (.arr :: r2) = (K72.pKind n r2).bind fun b q1 => .ok (.fn k b) q1 := fun k => if_pos rfl
      rw [ek] at hno q1 q2
      refine e_eat (tok := .arr) rfl R1 E1 rfl (fun _ h => h) rfl rfl (fun r' e3 H3 k3 R3 E3 => ?_) (fun e3 => ?_)
      · rw [K72.eat_cons] at e3
        injection e3 with _ e3
        subst e3
        refine ⟨_, rfl, _, rfl, ρ, r2, rfl, R3, E3, fun e => hno (by rw [e]; rfl), fun b q4 e4 v4 H4 k4 R4 E4 D4 => ?_, fun e4 d H4 k4 => q2 (by rw [e4]; rfl) d H4 (k1.trans (k3.trans k4))⟩
        refine ⟨(by show 3 ≤ sizeLine; decide), fun p np => ?_⟩
        exact q1 (.fn kk b) q4 (by rw [e4]; rfl) _ _ (kp_same (k1.trans (k3.trans k4)) (same_new np)) (R4.same (same_new np)) E4 (dp_t3 np dp_str (k4.dp R3 (k3.dp R1 D1)) D4)
      · rw [K72.eat_cons] at e3; cases e3
    · have ek : ∀ k, K72.kTail (K72.pKind n) k (t2 :: r2) = .ok k (t2 :: r2) := fun k => if_neg (fun z => c4 (decide_eq_true z))
      rw [ek] at hno q1 q2
      exact ⟨_, rfl, q1 kk (t2 :: r2) rfl _ H1 k1 R1 E1 D1⟩
theorem ok_maker (F : Fun K "maker_of" "maker_of" (top 36) f fd) (B : Rd P w K mg base CN CW CR) (A : KAll P w K mg base CN CW CR n) : FnOk P w K mg base (L2.CX P w) (n + 6 + 1) f fd ["reader"] (spP K CN CW CR (K72.pMaker n) encM) := by
  refine F.okX scMaker (fun vs H Q E h => ?_) (fun cdv A' outer s₀ H vs Q E hr h => ?_)
  · obtain ⟨ρ, s, rfl, _⟩ := h
    rfl
  obtain ⟨ρ, s, rfl, R0, hE, hno, q1, q2⟩ := h
  refine ⟨_, pss_cons (ps_set (i := 1) scMaker.nd rfl (Or.inl rfl) (pe_mtk B.tkS (hr.mono (by omega)) pxE (pv 0) (pk_cons pe_str pk_nil)))
    (pss_one (ps_ret (pe_tup (pa_cons (pv 1) (pa_cons (pe_cl A.Lones hr pxE rfl (pa_cons (pv 0) pa_nil)) pa_nil))))), ?_⟩
  have e0 : K72.pMaker n s = (K72.eatG s).bind fun c r => (K72.pLones n r).bind fun ks q => .ok (c, ks) q := rfl
  rw [e0] at hno q1 q2
  refine e_eatG rfl R0 hE (fun _ h => h) rfl rfl (fun c s1 e1 H1 k1 R1 E1 => ?_) (fun e1 d H1 k1 => q2 (by rw [e1]; rfl) d H1 k1)
  rw [e1, K72.ok_bind] at hno q1 q2
  refine ⟨_, rfl, _, rfl, ρ, s1, rfl, R1, E1, fun e => hno (by rw [e]; rfl), fun ks q e2 v H2 k2 R2 E2 D2 => ?_, fun e2 d H2 k2 => q2 (by rw [e2]; rfl) d H2 (k1.trans k2)⟩
  refine ⟨(by show 2 ≤ sizeLine; decide), fun p np => ?_⟩
  exact q1 (c, ks) q (by rw [e2]; rfl) _ _ (kp_same (k1.trans k2) (same_new np)) (R2.same (same_new np)) E2 (dp_t2 np dp_str D2)
theorem ok_data (F : Fun K "data_of" "data_of" (top 37) f fd) (B : Rd P w K mg base CN CW CR) (Z : Bl mg) (A : Cl P w K mg base (n + 6 + 1) "maker_of" (spP K CN CW CR (K72.pMaker n) encM)) : FnOk P w K mg base (L2.CX P w) (n + 6 + 1 + 1) f fd ["reader"] (spP K CN CW CR (K72.pData n) encD) := by
  refine F.okX scData (fun vs H Q E h => ?_) (fun cdv A' outer s₀ H vs Q E hr h => ?_)
  · obtain ⟨ρ, s, rfl, _⟩ := h
    rfl
  obtain ⟨ρ, s, rfl, R0, hE, hno, q1, q2⟩ := h
  refine ⟨_, pss_cons (ps_expr (pe_mtk B.tkST (hr.mono (by omega)) pxE (pv 0) (pk_cons pe_str (pk_cons pe_str pk_nil))))
    (pss_cons (ps_set (i := 1) scData.nd rfl (Or.inl rfl) (pe_mtk B.tkS (hr.mono (by omega)) pxE (pv 0) (pk_cons pe_str pk_nil)))
    (pss_cons (ps_set (i := 2) scData.nd rfl (Or.inl rfl) (pe_mtk B.sm (hr.mono (by omega)) pxE (pv 0) (pk_cons pe_bl pk_nil)))
    (pss_cons (ps_expr (pe_mtk B.tkT (hr.mono (by omega)) pxE (pv 0) (pk_cons pe_str pk_nil)))
    (pss_cons (ps_set (i := 3) scData.nd rfl (Or.inl rfl) (pe_lst (pa_cons (pe_cl A hr pxE rfl (pa_cons (pv 0) pa_nil)) pa_nil)))
    (pss_cons (ps_while (passes_of rfl) (pt_val (pe_mtk B.isT (hr.mono (by omega)) pxN (pv 0) (pk_cons pe_str pk_nil)))
      (pss_cons (ps_expr (pe_mtk B.tkT (hr.mono (by omega)) pxE (pv 0) (pk_cons pe_str pk_nil)))
        (pss_one (ps_expr (pe_bm PySem.F.plainAttrs_list PySem.F.slot_list_append PySem.F.type_list_append mt_append (pv 3) (pa_cons (pe_cl A hr pxE rfl (pa_cons (pv 0) pa_nil)) pa_nil))))))
    (pss_cons (ps_expr (pe_mt0 B.ends (hr.mono (by omega)) pxE (pv 0)))
    (pss_one (ps_ret (pe_tup (pa_cons (pv 1) (pa_cons (pe_callTy call_tuple_of rfl Z.tuple (by decide +kernel) (pa_cons (pv 2) pa_nil)) (pa_cons (pe_callTy call_tuple_of rfl Z.tuple (by decide +kernel) (pa_cons (pv 3) pa_nil)) pa_nil)))))))))))), ?_⟩
  have e0 : K72.pData n s = (K72.eat (.kw .data) s).bind fun _ r => (K72.eatG r).bind fun d r1 => (K72.eat .eq (K72.smalls r1).2).bind fun _ r2 => (K72.pMaker n r2).bind fun m q =>
    (K72.csLoop .bar (K72.pMaker n) [m] q).bind fun ms q1 => if K72.now q1 = .fin then .ok (d, (K72.smalls r1).1, ms) q1 else .fail := rfl
  rw [e0] at hno q1 q2
  refine e_eat (tok := .kw .data) rfl R0 hE rfl (fun _ h => h) rfl rfl (fun s1 e1 H1 k1 R1 E1 => ?_) (fun e1 d H1 k1 => q2 (by rw [e1]; rfl) d H1 k1)
  rw [e1, K72.ok_bind] at hno q1 q2
  refine e_eatG rfl R1 E1 (fun _ h => h) rfl rfl (fun nm s2 e2 H2 k2 R2 E2 => ?_) (fun e2 d H2 k2 => q2 (by rw [e2]; rfl) d H2 (k1.trans k2))
  rw [e2, K72.ok_bind] at hno q1 q2
  obtain ⟨j2, X2⟩ := id R2
  refine ⟨_, rfl, ρ.r, ρ.dx, _, rfl, X2.h, no_at ρ j2 (by decide +kernel) (by decide +kernel) (by decide +kernel), rfl, ρ, s2, false, rfl, R2, E2, fun _ pp H3 k3 np3 R3 hpp => ?_, fun z => by cases z⟩
  have E3 : EndF (K72.smalls s2).2 := endf_of E2 (K72.smalls_eq s2) (K72.nf_smTk _)
  generalize (K72.smalls s2).1 = nms at hno q1 q2 hpp
  have ppr : pp ≠ ρ.r := by
    obtain ⟨fs, e⟩ := R2.hr
    exact (ne_of_none e np3).symm
  refine e_eat (tok := .eq) rfl R3 E3 rfl (fun _ h => h) rfl rfl (fun s4 e4 H4 k4 R4 E4 => ?_) (fun e4 d H4 k4 => q2 (by rw [e4]; rfl) d H4 (k1.trans (k2.trans (k3.trans k4))))
  rw [e4, K72.ok_bind] at hno q1 q2
  have K4 : Kp ρ.r H H4 := k1.trans (k2.trans (k3.trans k4))
  have hpp4 := k4 pp _ ppr hpp
  refine ⟨_, rfl, ρ, s4, rfl, R4, E4, fun e => hno (by rw [e]; rfl), fun w0 s5 e5 v0 H5 k5 R5 E5 D5 => ?_, fun e5 d H5 k5 => q2 (by rw [e5]; rfl) d H5 (K4.trans k5)⟩
  rw [e5, K72.ok_bind] at hno q1 q2
  have K5 : Kp ρ.r H H5 := K4.trans k5
  have hpp5 := k5 pp _ ppr hpp4
  refine ⟨(by show 1 ≤ sizeLine; decide), fun p np => ?_⟩
  have pr : p ≠ ρ.r := by
    obtain ⟨fs, e⟩ := R5.hr
    exact (ne_of_none e np).symm
  have pl : p ≠ ρ.l := (ne_of_none R5.hl np).symm
  have ppp : pp ≠ p := ne_of_none hpp5 np
  have npH : H p = none := kp_fresh K5 np pr
  refine ⟨fun m σ H' => ∃ ws vs q, σ = [some (.ref ρ.r), some (.str (S nm)), some (.ref pp), some (.ref p)] ∧ Kp ρ.r H H' ∧ H' p = some (.lst vs) ∧ H' pp = some (.lst (stxs nms)) ∧ DpAll K H' vs (ws.map encM) ∧ RdAt CW CR H' ρ q ∧ EndF q ∧ m = q.length ∧ vs.length + q.length ≤ 100002 ∧
    K72.csLoop .bar (K72.pMaker n) [w0] s5 = K72.csLoop .bar (K72.pMaker n) ws q,
    ⟨_, [w0], [v0], s5, rfl, kp_same K5 (same_new np), upd_same, by rw [upd_ne ppp]; exact hpp5, .cons (dp_new np D5) .nil, R5.same (same_new np), E5, rfl, by have := R5.len; show 1 + s5.length ≤ _; omega, rfl⟩, ?_⟩
  rintro m σ H6 ⟨ws, vs, q, rfl, K6, hp6, hpp6, DW6, R6, E6, rfl, hz, he⟩
  rw [he] at hno q1 q2
  obtain ⟨t, r, rfl⟩ := E6.cons
  refine t_is rfl R6 (.inr ⟨_, rfl⟩) (fun _ h => h) rfl rfl ?_
  rw [is_bar]
  refine ite2 (fun c => ?_) (fun c => ?_)
  · have ht : t = .bar := of_decide_eq_true c
    subst ht
    obtain ⟨p1, p2, p3⟩ := csLoop_turn (fun e => hno (by rw [e]; rfl))
    refine ⟨fun σ' H' => ∃ m', m' < (K72.Tok.bar :: r).length ∧ ∃ ws vs q, σ' = [some (.ref ρ.r), some (.str (S nm)), some (.ref pp), some (.ref p)] ∧ Kp ρ.r H H' ∧ H' p = some (.lst vs) ∧ H' pp = some (.lst (stxs nms)) ∧ DpAll K H' vs (ws.map encM) ∧ RdAt CW CR H' ρ q ∧ EndF q ∧ m' = q.length ∧ vs.length + q.length ≤ 100002 ∧
      K72.csLoop .bar (K72.pMaker n) [w0] s5 = K72.csLoop .bar (K72.pMaker n) ws q, fun _ _ h => h, ?_⟩
    refine e_eat (tok := .bar) rfl R6 E6 rfl (fun _ h => h) rfl rfl (fun r' e7 H7 k7 R7 E7 => ?_) (fun e7 => ?_)
    · rw [K72.eat_cons] at e7
      injection e7 with _ e7
      subst e7
      have hp7 : H7 p = some (.lst vs) := k7 p _ pr hp6
      refine ⟨_, rfl, .inl ⟨rfl, _, SqL.of hp7⟩, ?_⟩
      refine ⟨_, rfl, ρ, r, rfl, R7, E7, p1, fun b q8 e8 v8 H8 k8 R8 E8 D8 => ?_, fun e8 d H8 k8 => q2 (by rw [p2 e8]; rfl) d H8 (K6.trans (k7.trans k8))⟩
      obtain ⟨hl, hc⟩ := p3 b q8 e8
      have hp8 : H8 p = some (.lst vs) := k8 p _ pr hp7
      have tp := upd_tp (o' := .lst (vs ++ [v8])) hp8 lst_notTp
      refine ⟨p, _, _, rfl, rfl, hp8, Nat.lt_of_le_of_lt (show vs.length ≤ 100002 by omega) (by decide), ?_⟩
      refine ⟨_, hl, ws ++ [b], vs ++ [v8], q8, rfl, kp_upd2 (K6.trans (k7.trans k8)) npH, upd_same, by rw [upd_ne ppp]; exact k8 pp _ ppr (k7 pp _ ppr hpp6), ?_, R8.upd pr pl (fun C dx fs e => by rw [hp8] at e; cases e), E8, rfl, ?_, he.trans hc⟩
      · rw [List.map_append]
        exact dpa_stayT tp (by rw [← List.map_append]; exact nls_ms _) (dpa_snoc D8 (k8.dpa R7 (k7.dpa R6 DW6)))
      · rw [List.length_append]
        simp only [List.length_cons, List.length_nil] at hl hz ⊢
        omega
    · rw [K72.eat_cons] at e7
      cases e7
  · have ec := csLoop_stop (p := K72.pMaker n) (ws := ws) (r := r) (fun z => c (decide_eq_true z) : t ≠ .bar)
    rw [ec, K72.ok_bind] at hno q1 q2
    obtain ⟨j6, X6⟩ := id R6
    refine ⟨_, rfl, ρ.r, ρ.dx, _, rfl, X6.h, no_at ρ j6 (by decide +kernel) (by decide +kernel) (by decide +kernel), ρ, t, r, rfl, R6, fun ht => ?_, fun ht d H7 s7 => q2 (if_neg ht) d H7 (K6.trans (Kp.of s7))⟩
    refine ⟨_, rfl, _, rfl, pp, _, rfl, .inl ⟨SqL.of hpp6, fun a na => ?_⟩⟩
    have hp7 := same_new (o := .tup (stxs nms)) na _ _ hp6
    refine ⟨_, rfl, p, _, rfl, .inl ⟨SqL.of hp7, fun a2 na2 => ⟨(by show 3 ≤ sizeLine; decide), fun t2 nt => ?_⟩⟩⟩
    refine q1 (nm, nms, ws) (t :: r) (if_pos ht) _ _ (kp_same (kp_same (kp_same K6 (same_new na)) (same_new na2)) (same_new nt)) (((R6.same (same_new na)).same (same_new na2)).same (same_new nt)) E6 ?_
    refine dp_t3 nt dp_str (dp_new na2 (.tup (SqT.of upd_same) (dpa_strs nms))) (.tup (SqT.of upd_same) ?_)
    exact dpa_stay (fun b o e _ => same_new na2 b o e) (dpa_stay (fun b o e _ => same_new na b o e) DW6)
end
end W72
/-! W13: all readers, for any number of levels. -/
namespace W72
open PySem L2
structure RDefs (K : PySem.W.Frag) (mg : Str → Option Value) : Prop where
  T : Df K mg "term_of" (top 21) ["reader"]
  Fn : Df K mg "fun_of" (top 22) ["reader"]
  Lt : Df K mg "let_of" (top 23) ["reader"]
  Cs : Df K mg "case_of" (top 24) ["reader"]
  Way : Df K mg "way_of" (top 25) ["reader"]
  Cmp : Df K mg "comparing_of" (top 26) ["reader"]
  Sum : Df K mg "sum_of" (top 27) ["reader"]
  Prod : Df K mg "product_of" (top 28) ["reader"]
  Bg : Df K mg "begins_thing" (top 29) ["reader"]
  Call : Df K mg "calling_of" (top 30) ["reader"]
  Thing : Df K mg "thing_of" (top 31) ["reader"]
  Bk : Df K mg "begins_kind" (top 32) ["reader"]
  Lone : Df K mg "lone_kind_of" (top 33) ["reader"]
  Lones : Df K mg "lone_kinds_of" (top 34) ["reader"]
  Kind : Df K mg "kind_of" (top 35) ["reader"]
  Maker : Df K mg "maker_of" (top 36) ["reader"]
  Data : Df K mg "data_of" (top 37) ["reader"]
section
variable {P : Program} {w : World} {K : PySem.W.Frag} {mg : Str → Option Value} {base : Heap} {CE CN CW CR fN f : Addr} {mcE : Value}
theorem bg_cl (D : RDefs K mg) (T : Txt K mg CE CN CW CR fN mcE) (B : Rd P w K mg base CN CW CR) : Cl P w K mg base 3 "begins_thing" (spBg CW CR) := D.Bg.cl fun _ _ F => ok_bg F T B
theorem bk_cl (D : RDefs K mg) (T : Txt K mg CE CN CW CR fN mcE) (B : Rd P w K mg base CN CW CR) : Cl P w K mg base 3 "begins_kind" (spBk CW CR) := D.Bk.cl fun _ _ F => ok_bk F T B
theorem p_all (D : RDefs K mg) (T : Txt K mg CE CN CW CR fN mcE) (B : Rd P w K mg base CN CW CR) (Z : Bl mg) : ∀ n, PAll P w K mg base CN CW CR n
  | 0 => {
    T := D.T.cl0 fun _ _ _ _ h => by obtain ⟨_, _, _, _, _, h, _⟩ := h; exact h rfl
    Fn := D.Fn.cl0 fun _ _ _ _ h => by obtain ⟨_, _, _, _, _, h, _⟩ := h; exact h rfl
    Lt := D.Lt.cl0 fun _ _ _ _ h => by obtain ⟨_, _, _, _, _, h, _⟩ := h; exact h rfl
    Cs := D.Cs.cl0 fun _ _ _ _ h => by obtain ⟨_, _, _, _, _, h, _⟩ := h; exact h rfl
    Way := D.Way.cl0 fun _ _ _ _ h => by obtain ⟨_, _, _, _, _, h, _⟩ := h; exact h rfl
    Cmp := D.Cmp.cl0 fun _ _ _ _ h => by obtain ⟨_, _, _, _, _, h, _⟩ := h; exact h rfl
    Sum := D.Sum.cl0 fun _ _ _ _ h => by obtain ⟨_, _, _, _, _, h, _⟩ := h; exact h rfl
    Prod := D.Prod.cl0 fun _ _ _ _ h => by obtain ⟨_, _, _, _, _, h, _⟩ := h; exact h rfl
    Call := D.Call.cl0 fun _ _ _ _ h => by obtain ⟨_, _, _, _, _, h, _⟩ := h; exact h rfl
    Thing := D.Thing.cl0 fun _ _ _ _ h => by obtain ⟨_, _, _, _, _, h, _⟩ := h; exact h rfl }
  | n + 1 => by
    have A := p_all D T B Z n
    have e : n + 1 + 6 = n + 6 + 1 := by omega
    refine ⟨?_, ?_, ?_, ?_, ?_, ?_, ?_, ?_, ?_, ?_⟩ <;> rw [e]
    · exact D.T.cl fun _ _ F => ok_term F B A
    · exact D.Fn.cl fun _ _ F => ok_fun F B Z A
    · exact D.Lt.cl fun _ _ F => ok_let F B Z A
    · exact D.Cs.cl fun _ _ F => ok_case F B Z A
    · exact D.Way.cl fun _ _ F => ok_way F B Z A
    · exact D.Cmp.cl fun _ _ F => ok_cmp F B A
    · exact D.Sum.cl fun _ _ F => ok_sum F B A
    · exact D.Prod.cl fun _ _ F => ok_prod F B A
    · exact D.Call.cl fun _ _ F => ok_call F B (bg_cl D T B) A
    · exact D.Thing.cl fun _ _ F => ok_thing F B Z A
theorem k_all (D : RDefs K mg) (T : Txt K mg CE CN CW CR fN mcE) (B : Rd P w K mg base CN CW CR) (Z : Bl mg) : ∀ n, KAll P w K mg base CN CW CR n
  | 0 => {
    Lone := D.Lone.cl0 fun _ _ _ _ h => by obtain ⟨_, _, _, _, _, h, _⟩ := h; exact h rfl
    Lones := D.Lones.cl0 fun _ _ _ _ h => by obtain ⟨_, _, _, _, _, h, _⟩ := h; exact h rfl
    Kind := D.Kind.cl0 fun _ _ _ _ h => by obtain ⟨_, _, _, _, _, h, _⟩ := h; exact h rfl }
  | n + 1 => by
    have A := k_all D T B Z n
    have e : n + 1 + 6 = n + 6 + 1 := by omega
    refine ⟨?_, ?_, ?_⟩ <;> rw [e]
    · exact D.Lone.cl fun _ _ F => ok_lone F B A
    · exact D.Lones.cl fun _ _ F => ok_lones F B Z (bk_cl D T B) A
    · exact D.Kind.cl fun _ _ F => ok_kind F B A
theorem maker_cl (D : RDefs K mg) (T : Txt K mg CE CN CW CR fN mcE) (B : Rd P w K mg base CN CW CR) (Z : Bl mg) (n : Nat) : Cl P w K mg base (n + 6 + 1) "maker_of" (spP K CN CW CR (K72.pMaker n) encM) :=
  D.Maker.cl fun _ _ F => ok_maker F B (k_all D T B Z n)
theorem data_cl (D : RDefs K mg) (T : Txt K mg CE CN CW CR fN mcE) (B : Rd P w K mg base CN CW CR) (Z : Bl mg) (n : Nat) : Cl P w K mg base (n + 6 + 1 + 1) "data_of" (spP K CN CW CR (K72.pData n) encD) :=
  D.Data.cl fun _ _ F => ok_data F B Z (maker_cl D T B Z n)
end
end W72
/-! W14: the small defs of words: is_all_small, is_small, is_great, run_behind, sort_of. -/
namespace W72
open PySem L2
/-- constants of the module -/
structure Gc (K : PySem.W.Frag) (mg : Str → Option Value) : Prop where
  small : ∃ u, mg "SMALL" = some u ∧ RelV (.str "abcdefghijklmnopqrstuvwxyz") u
  great : ∃ u, mg "GREAT" = some u ∧ RelV (.str "ABCDEFGHIJKLMNOPQRSTUVWXYZ") u
  figs : ∃ u, mg "FIGURES" = some u ∧ RelV (.str "0123456789") u
  signs : ∃ u, mg "SIGNS" = some u ∧ RelV (.str "=|\\{};()+-*<") u
  longest : ∃ u, mg "LONGEST" = some u ∧ RelV (.int 8) u
  most : ∃ u, mg "MOST_FIGURES" = some u ∧ RelV (.int 20) u
  kept : ∃ p, mg "KEPT_WORDS" = some (.ref p) ∧ ∀ H, SqT K H p [.str "data", .str "let", .str "in", .str "case", .str "of", .str "num"]
def isSm (c : Nat) : Bool := decide (97 ≤ c) && decide (c ≤ 122)
def isGr (c : Nat) : Bool := decide (65 ≤ c) && decide (c ≤ 90)
def isFg (c : Nat) : Bool := decide (48 ≤ c) && decide (c ≤ 57)
def isWd (c : Nat) : Bool := isSm c || (isGr c || isFg c)
theorem rng {l : List Nat} {a n : Nat} (h : l = List.range' a n) (c : Nat) : decide (c ∈ l) = (decide (a ≤ c) && decide (c < a + n)) := by
  subst h
  rw [← Bool.decide_and]
  exact decide_eq_decide.mpr List.mem_range'_1
theorem mem_sm (c : Nat) : decide (c ∈ ("abcdefghijklmnopqrstuvwxyz" : Str).cps.toList) = isSm c := by
  rw [rng (a := 97) (n := 26) (by decide +kernel)]
  exact congrArg _ (decide_eq_decide.mpr (by omega))
theorem mem_gr (c : Nat) : decide (c ∈ ("ABCDEFGHIJKLMNOPQRSTUVWXYZ" : Str).cps.toList) = isGr c := by
  rw [rng (a := 65) (n := 26) (by decide +kernel)]
  exact congrArg _ (decide_eq_decide.mpr (by omega))
theorem mem_fg (c : Nat) : decide (c ∈ ("0123456789" : Str).cps.toList) = isFg c := by
  rw [rng (a := 48) (n := 10) (by decide +kernel)]
  exact congrArg _ (decide_eq_decide.mpr (by omega))
theorem scAS : FnScope ["text", "sign"] ["text"] (defScope (top 8)) := ⟨rfl, rfl, rfl, by decide +kernel, rfl, by decide +kernel, by decide +kernel⟩
theorem scIsS : FnScope ["thing"] ["thing"] (defScope (top 9)) := ⟨rfl, rfl, rfl, by decide +kernel, rfl, by decide +kernel, by decide +kernel⟩
theorem scIsG : FnScope ["thing"] ["thing"] (defScope (top 10)) := ⟨rfl, rfl, rfl, by decide +kernel, rfl, by decide +kernel, by decide +kernel⟩
theorem scRun : FnScope ["row", "at"] ["row", "at"] (defScope (top 16)) := ⟨rfl, rfl, rfl, by decide +kernel, rfl, by decide +kernel, by decide +kernel⟩
theorem scSort : FnScope ["run", "sign"] ["run"] (defScope (top 17)) := ⟨rfl, rfl, rfl, by decide +kernel, rfl, by decide +kernel, by decide +kernel⟩
def spAS : Sp := fun vs H Q _ => ∃ a : List Nat, vs = [.str (S a)] ∧ a.length ≤ 1000000 ∧ ∀ H', Same H H' → Q (.bl (a.all isSm)) H'
section
variable {P : Program} {w : World} {K : PySem.W.Frag} {mg : Str → Option Value} {base : Heap} {f : Addr} {fd : FuncData}
theorem S_size (a : List Nat) : (S a).cps.size = a.length := by rw [← SX.S_len a] <;> rfl
theorem S_get (a : List Nat) (i : Nat) : (S a).cps[i]? = a[i]? := by
  show a.toArray[i]? = a[i]?
  simp
theorem one_S (c : Nat) : (⟨#[c]⟩ : Str) = S [c] := rfl
theorem ok_as (F : Fun K "is_all_small" "is_all_small" (top 8) f fd) (G : Gc K mg) (Z : Bl mg) : FnOk P w K mg base (L2.CX P w) 1 f fd ["text"] spAS := by
  refine F.okX scAS (fun vs H Q E h => ?_) (fun cdv A' outer s₀ H vs Q E hr h => ?_)
  · obtain ⟨a, rfl, _⟩ := h
    rfl
  obtain ⟨a, rfl, hl, q⟩ := h
  obtain ⟨u, mS, rS⟩ := G.small
  refine ⟨_, pss_one (ps_ret (pe_callB (cr_all rfl) rfl Z.all (by decide +kernel) (pa_cons (pe_lc (own := [("sign", 1)]) (g := gName 1) (tt := tYes) rfl scAS.nd (pi_str (pv 0)) (blkOk_by (N := ["text", "sign"]) (sc := defScope (top 8)) (by decide +kernel)) (fun _ _ _ _ _ => pg_name (i := 1) scAS.nd rfl (Or.inl rfl)) (fun _ _ _ _ _ => pts_nil)
    (fun _ _ _ _ _ => pe_cmpR op_in_sign (pv 1) (pe_glob rfl mS rS) (by rfl))) pa_nil))), ?_⟩
  refine ⟨_, rfl, S a, rfl, fun D nD => ?_⟩
  refine lc_it walk_str (fun i H' => Same H H' ∧ H' D = some (.lst (((a.map isSm).take i).map V.bl))) ⟨same_new nD, upd_same⟩ (fun _ _ _ _ => trivial) ?_ ?_
  · rintro i x H1 H1' hi ⟨s1, h1⟩ ⟨rfl, c, hc, rfl⟩
    refine ⟨rfl, ?_⟩
    rw [S_get] at hc
    refine ⟨_, rfl, c, _, rfl, rfl, ?_⟩
    rw [mem_sm]
    have hi' : i < a.length := by rw [S_size] at hi; exact hi
    refine ⟨_, h1, Nat.lt_of_le_of_lt (show _ ≤ 1000000 by rw [List.length_map, List.length_take, List.length_map]; omega) (by decide), fun b o e => ?_, ?_⟩
    · rw [upd_ne (ne_of_none e nD)]
      exact s1 b o e
    · rw [upd_same, List.take_succ, List.map_append, List.getElem?_map, hc] <;> rfl
  · rintro H1 ⟨s1, h1⟩
    rw [S_size, show a.length = (a.map isSm).length from (List.length_map _).symm, List.take_length] at h1
    refine ⟨D, a.map isSm, rfl, SqL.of h1, ?_⟩
    rw [List.all_map]
    exact q _ s1
/-- the kept words -/
def keptL : List K72.L := [[100, 97, 116, 97], [108, 101, 116], [105, 110], [99, 97, 115, 101], [111, 102], [110, 117, 109]]
theorem kept_in (a : List Nat) : inV (.str (S a)) [.str "data", .str "let", .str "in", .str "case", .str "of", .str "num"] = decide (a ∈ keptL) := by
  have e : ([.str "data", .str "let", .str "in", .str "case", .str "of", .str "num"] : List V) = stxs keptL := by decide +kernel
  rw [e, inV_stxs]
def isSmall (a : List Nat) : Bool := decide (1 ≤ a.length) && (decide (a.length ≤ 8) && (a.all isSm && !decide (a ∈ keptL)))
def isGreat (a : List Nat) : Bool := decide (1 ≤ a.length) && (decide (a.length ≤ 8) && (isGr (a.headD 0) && (a.drop 1).all isSm))
def spIsS (g : List Nat → Bool) : Sp := fun vs H Q _ => ∃ a : List Nat, vs = [.str (S a)] ∧ a.length ≤ 1000000 ∧ ∀ H', Same H H' → Q (.bl (g a)) H'
theorem ok_iss (F : Fun K "is_small" "is_small" (top 9) f fd) (G : Gc K mg) (Z : Bl mg) (cA : Cl P w K mg base 1 "is_all_small" spAS) : FnOk P w K mg base (L2.CX P w) 2 f fd ["thing"] (spIsS isSmall) := by
  refine F.okX scIsS (fun vs H Q E h => ?_) (fun cdv A' outer s₀ H vs Q E hr h => ?_)
  · obtain ⟨a, rfl, _⟩ := h
    rfl
  obtain ⟨a, rfl, hl, q⟩ := h
  obtain ⟨u, mL, rL⟩ := G.longest
  obtain ⟨p, mK, hK⟩ := G.kept
  refine ⟨_, pss_cons (ps_if (PW.pt (pw_or (pt_not (pt_val (pe_callB RZ.call_isTy rfl Z.isinstance (by decide +kernel) (pa_cons (pv 0) (pa_cons (pe_bltn (v := .ty "str") (u := .type "str") rfl Z.str (by decide +kernel) rfl) pa_nil)))))
      (pw_or (pt_cmpR op_lt (pe_callB call_len rfl Z.len (by decide +kernel) (pa_cons (pv 0) pa_nil)) pe_int (nomark _)) (pw_or1 (pt_cmpR op_gt (pe_callB call_len rfl Z.len (by decide +kernel) (pa_cons (pv 0) pa_nil)) (pe_glob rfl mL rL) (nomark _))))))
      (pss_one (ps_ret pe_bl)) pss_nil)
    (pss_one (ps_ret (pe_and (pe_cl cA hr pxN rfl (pa_cons (pv 0) pa_nil)) (pe_one (pe_cmpR op_notIn_seq (pv 0) (pe_glob (v := .ref p) rfl mK rfl) (by rfl)))))), ?_⟩
  have hz : (S a).length ≤ sizeLine := by rw [SX.S_len]; exact Nat.le_trans hl (by decide)
  refine ⟨_, rfl, _, _, rfl, .str _, _, rfl, ?_⟩
  refine iteF ?_
  refine ⟨_, rfl, _, _, rfl, ⟨hz, rfl⟩, _, _, rfl, rfl, _, rfl, ?_⟩
  rw [SX.S_len]
  refine ite2 (fun c => ?_) (fun c => ?_)
  · refine iteT ?_
    have c' : (a.length : Int) < 1 := of_decide_eq_true c
    have e : isSmall a = false := by
      unfold isSmall
      rw [decide_eq_false (show ¬ 1 ≤ a.length by omega)] <;> rfl
    rw [e] at q
    exact q H (Same.refl _)
  have c1 : ¬ (a.length : Int) < 1 := fun z => c (decide_eq_true z)
  refine ⟨_, rfl, _, _, rfl, ⟨hz, rfl⟩, _, _, rfl, rfl, _, rfl, ?_⟩
  rw [SX.S_len]
  refine ite2 (fun c => ?_) (fun c => ?_)
  · have c' : (8 : Int) < a.length := of_decide_eq_true c
    have e : isSmall a = false := by
      unfold isSmall
      rw [decide_eq_false (show ¬ a.length ≤ 8 by omega), Bool.false_and, Bool.and_false]
    rw [e] at q
    exact q H (Same.refl _)
  have c2 : ¬ (8 : Int) < a.length := fun z => c (decide_eq_true z)
  have e : isSmall a = (a.all isSm && !decide (a ∈ keptL)) := by
    unfold isSmall
    rw [decide_eq_true (show 1 ≤ a.length by omega), decide_eq_true (show a.length ≤ 8 by omega), Bool.true_and, Bool.true_and]
  rw [e] at q
  refine ⟨_, rfl, a, rfl, hl, fun H1 s1 => ⟨_, rfl, ?_⟩⟩
  refine ite2 (fun c => ?_) (fun c => ?_)
  · rw [c, Bool.true_and] at q
    refine ⟨_, rfl, p, _, rfl, .inr (hK _), rfl, rfl, ?_⟩
    show Q (.bl (!inV (.str (S a)) _)) H1
    rw [kept_in]
    exact q H1 s1
  · rw [show a.all isSm = false by simpa using c] at q
    exact q H1 s1
theorem atI0 {a : List Nat} (h : 1 ≤ a.length) : atI a 0 = some (a.headD 0) := by
  cases a with
  | nil => simp at h
  | cons x r => exact atI_nat (xs := x :: r) (j := 0) rfl
theorem cut_S (a : List Nat) (i j : Nat) : cutS (S a) (some (i : Int)) (some (j : Int)) = S ((a.drop i).take (j - i)) := by
  unfold cutS
  rw [HT.sIx_nat, HT.sIx_nat, SX.S_len]
  show S ((a.drop (min i a.length)).take (min j a.length - min i a.length)) = _
  refine congrArg S ?_
  by_cases hi : i ≤ a.length
  · rw [Nat.min_eq_left hi]
    by_cases hj : j ≤ a.length
    · rw [Nat.min_eq_left hj]
    · rw [Nat.min_eq_right (by omega), List.take_of_length_le (by rw [List.length_drop]; omega), List.take_of_length_le (by rw [List.length_drop]; omega)]
  · rw [Nat.min_eq_right (show a.length ≤ i by omega), List.drop_length, List.drop_of_length_le (show a.length ≤ i by omega)]
    simp
theorem cut_S1 (a : List Nat) : cutS (S a) (some 1) none = S (a.drop 1) := by
  unfold cutS
  rw [show (some (1 : Int)) = some ((1 : Nat) : Int) from rfl, HT.sIx_nat, HT.sIx_none, SX.S_len]
  show S ((a.drop (min 1 a.length)).take (a.length - min 1 a.length)) = _
  refine congrArg S ?_
  by_cases hi : 1 ≤ a.length
  · rw [Nat.min_eq_left hi, List.take_of_length_le (by rw [List.length_drop]; omega)]
  · rw [Nat.min_eq_right (show a.length ≤ 1 by omega), List.drop_length, List.drop_of_length_le (show a.length ≤ 1 by omega)]
    simp
theorem ok_isg (F : Fun K "is_great" "is_great" (top 10) f fd) (G : Gc K mg) (Z : Bl mg) (cA : Cl P w K mg base 1 "is_all_small" spAS) : FnOk P w K mg base (L2.CX P w) 2 f fd ["thing"] (spIsS isGreat) := by
  refine F.okX scIsG (fun vs H Q E h => ?_) (fun cdv A' outer s₀ H vs Q E hr h => ?_)
  · obtain ⟨a, rfl, _⟩ := h
    rfl
  obtain ⟨a, rfl, hl, q⟩ := h
  obtain ⟨u, mL, rL⟩ := G.longest
  obtain ⟨u2, mG, rG⟩ := G.great
  refine ⟨_, pss_cons (ps_if (PW.pt (pw_or (pt_not (pt_val (pe_callB RZ.call_isTy rfl Z.isinstance (by decide +kernel) (pa_cons (pv 0) (pa_cons (pe_bltn (v := .ty "str") (u := .type "str") rfl Z.str (by decide +kernel) rfl) pa_nil)))))
      (pw_or (pt_cmpR op_lt (pe_callB call_len rfl Z.len (by decide +kernel) (pa_cons (pv 0) pa_nil)) pe_int (nomark _)) (pw_or1 (pt_cmpR op_gt (pe_callB call_len rfl Z.len (by decide +kernel) (pa_cons (pv 0) pa_nil)) (pe_glob rfl mL rL) (nomark _))))))
      (pss_one (ps_ret pe_bl)) pss_nil)
    (pss_one (ps_ret (pe_and (pe_cmpR op_in_sign (pe_ix ix_str (pv 0) pe_int (fun _ _ => rfl)) (pe_glob rfl mG rG) (by rfl)) (pe_one (pe_cl cA hr pxN rfl (pa_cons (pe_slice sl_str (pv 0) (po_some pe_int) po_none) pa_nil)))))), ?_⟩
  have hz : (S a).length ≤ sizeLine := by rw [SX.S_len]; exact Nat.le_trans hl (by decide)
  refine ⟨_, rfl, _, _, rfl, .str _, _, rfl, ?_⟩
  refine iteF ?_
  refine ⟨_, rfl, _, _, rfl, ⟨hz, rfl⟩, _, _, rfl, rfl, _, rfl, ?_⟩
  rw [SX.S_len]
  refine ite2 (fun c => ?_) (fun c => ?_)
  · refine iteT ?_
    have c' : (a.length : Int) < 1 := of_decide_eq_true c
    have e : isGreat a = false := by
      unfold isGreat
      rw [decide_eq_false (show ¬ 1 ≤ a.length by omega)] <;> rfl
    rw [e] at q
    exact q H (Same.refl _)
  have c1 : ¬ (a.length : Int) < 1 := fun z => c (decide_eq_true z)
  refine ⟨_, rfl, _, _, rfl, ⟨hz, rfl⟩, _, _, rfl, rfl, _, rfl, ?_⟩
  rw [SX.S_len]
  refine ite2 (fun c => ?_) (fun c => ?_)
  · have c' : (8 : Int) < a.length := of_decide_eq_true c
    have e : isGreat a = false := by
      unfold isGreat
      rw [decide_eq_false (show ¬ a.length ≤ 8 by omega), Bool.false_and, Bool.and_false]
    rw [e] at q
    exact q H (Same.refl _)
  have c2 : ¬ (8 : Int) < a.length := fun z => c (decide_eq_true z)
  have e : isGreat a = (isGr (a.headD 0) && (a.drop 1).all isSm) := by
    unfold isGreat
    rw [decide_eq_true (show 1 ≤ a.length by omega), decide_eq_true (show a.length ≤ 8 by omega), Bool.true_and, Bool.true_and]
  rw [e] at q
  refine ⟨_, rfl, S a, 0, a.headD 0, rfl, rfl, hz, atI0 (a := a) (by omega), a.headD 0, _, rfl, rfl, _, rfl, ?_⟩
  rw [mem_gr]
  refine ite2 (fun c => ?_) (fun c => ?_)
  · rw [c, Bool.true_and] at q
    refine ⟨_, rfl, 1, rfl, S a, rfl, hz, ?_⟩
    rw [cut_S1]
    exact ⟨a.drop 1, rfl, by rw [List.length_drop]; omega, fun H1 s1 => q H1 s1⟩
  · rw [show isGr (a.headD 0) = false by simpa using c] at q
    exact q H (Same.refl _)
/-- the place behind a run -/
def runE (a : List Nat) (i : Nat) : Nat := i + ((a.drop i).takeWhile isWd).length
theorem runE_step {a : List Nat} {j c : Nat} (h : a[j]? = some c) (hc : isWd c = true) : runE a j = runE a (j + 1) := by
  obtain ⟨hj, e⟩ := List.getElem?_eq_some_iff.mp h
  unfold runE
  rw [List.drop_eq_getElem_cons hj, e, List.takeWhile_cons_of_pos hc, List.length_cons]
  omega
theorem runE_stop {a : List Nat} {j c : Nat} (h : a[j]? = some c) (hc : ¬ isWd c = true) : runE a j = j := by
  obtain ⟨hj, e⟩ := List.getElem?_eq_some_iff.mp h
  unfold runE
  rw [List.drop_eq_getElem_cons hj, e, List.takeWhile_cons_of_neg hc]
  rfl
theorem runE_end {a : List Nat} {j : Nat} (h : a.length ≤ j) : runE a j = j := by
  unfold runE
  rw [List.drop_of_length_le h]
  rfl
def spRun : Sp := fun vs H Q _ => ∃ (a : List Nat) (i : Nat), vs = [.str (S a), .int (i : Nat)] ∧ a.length ≤ 1000000 ∧ Q (.int (runE a i : Nat)) H
theorem ok_run (F : Fun K "run_behind" "run_behind" (top 16) f fd) (G : Gc K mg) (Z : Bl mg) : FnOk P w K mg base (L2.CX P w) 1 f fd ["row", "at"] spRun := by
  refine F.okX scRun (fun vs H Q E h => ?_) (fun cdv A' outer s₀ H vs Q E hr h => ?_)
  · obtain ⟨a, i, rfl, _⟩ := h
    rfl
  obtain ⟨a, i, rfl, hl, q⟩ := h
  obtain ⟨u1, m1, r1⟩ := G.small
  obtain ⟨u2, m2, r2⟩ := G.great
  obtain ⟨u3, m3, r3⟩ := G.figs
  refine ⟨_, pss_cons (ps_while (passes_of rfl) (PW.pt (pw_and (pt_cmpR op_lt (pv 1) (pe_callB call_len rfl Z.len (by decide +kernel) (pa_cons (pv 0) pa_nil)) (nomark _))
      (pw_and1 (PW.pt (pw_or (pt_cmpR op_in_sign (pe_ix ix_str (pv 0) (pv 1) (fun _ _ => rfl)) (pe_glob rfl m1 r1) (by rfl)) (pw_or (pt_cmpR op_in_sign (pe_ix ix_str (pv 0) (pv 1) (fun _ _ => rfl)) (pe_glob rfl m2 r2) (by rfl))
        (pw_or1 (pt_cmpR op_in_sign (pe_ix ix_str (pv 0) (pv 1) (fun _ _ => rfl)) (pe_glob rfl m3 r3) (by rfl)))))))))
      (pss_one (ps_aug (i := 1) scRun.nd rfl (Or.inl rfl) pe_int ip_add)))
    (pss_one (ps_ret (pv 1))), ?_⟩
  have hz : (S a).length ≤ sizeLine := by rw [SX.S_len]; exact Nat.le_trans hl (by decide)
  refine ⟨fun m σ H' => H' = H ∧ ∃ j : Nat, σ = [some (.str (S a)), some (.int (j : Nat))] ∧ m = a.length - j ∧ runE a i = runE a j, ⟨_, rfl, i, rfl, rfl, rfl⟩, ?_⟩
  rintro m σ H' ⟨rfl, j, rfl, rfl, he⟩
  rw [he] at q
  refine ⟨_, rfl, _, rfl, _, _, rfl, ⟨hz, rfl⟩, _, _, rfl, rfl, _, rfl, ?_⟩
  rw [SX.S_len]
  refine ite2 (fun c => ?_) (fun c => ?_)
  · have hj : j < a.length := by have := of_decide_eq_true c; omega
    have hg : a[j]? = some a[j] := List.getElem?_eq_getElem hj
    have step : isWd a[j] = true → ∃ N : St → Hp → Prop, (∀ σ' H'', N σ' H'' → ∃ m', m' < a.length - j ∧ H'' = H' ∧ ∃ j : Nat, σ' = [some (.str (S a)), some (.int (j : Nat))] ∧ m' = a.length - j ∧ runE a i = runE a j) ∧ N ([some (.str (S a)), some (.int ((j : Int) + 1))] : St) H' := fun hw => by
      refine ⟨fun σ' H'' => H'' = H' ∧ σ' = [some (.str (S a)), some (.int ((j + 1 : Nat) : Int))], ?_, rfl, rfl⟩
      rintro σ' H'' ⟨rfl, rfl⟩
      exact ⟨a.length - (j + 1), by omega, rfl, j + 1, rfl, rfl, he.trans (runE_step hg hw)⟩
    refine ⟨_, rfl, _, rfl, S a, j, a[j], rfl, rfl, hz, atI_nat hg, a[j], _, rfl, rfl, _, rfl, ?_⟩
    rw [mem_sm]
    refine ite2 (fun c1 => ?_) (fun c1 => ?_)
    · obtain ⟨N, h1, h2⟩ := step (by unfold isWd; rw [c1] <;> rfl)
      refine iteT ⟨N, h1, _, rfl, _, _, rfl, rfl, h2⟩
    refine ⟨_, rfl, _, rfl, S a, j, a[j], rfl, rfl, hz, atI_nat hg, a[j], _, rfl, rfl, _, rfl, ?_⟩
    rw [mem_gr]
    refine ite2 (fun c2 => ?_) (fun c2 => ?_)
    · obtain ⟨N, h1, h2⟩ := step (by unfold isWd; rw [c2, Bool.true_or, Bool.or_true])
      refine iteT ⟨N, h1, _, rfl, _, _, rfl, rfl, h2⟩
    refine ⟨_, rfl, _, rfl, S a, j, a[j], rfl, rfl, hz, atI_nat hg, a[j], _, rfl, rfl, _, rfl, ?_⟩
    rw [mem_fg]
    refine ite2 (fun c3 => ?_) (fun c3 => ?_)
    · obtain ⟨N, h1, h2⟩ := step (by unfold isWd; rw [c3, Bool.or_true, Bool.or_true])
      exact ⟨N, h1, _, rfl, _, _, rfl, rfl, h2⟩
    · rw [runE_stop hg (by unfold isWd; simp only [Bool.not_eq_true] at c1 c2 c3; rw [c1, c2, c3]; exact Bool.false_ne_true)] at q
      exact ⟨_, rfl, q⟩
  · have hj : a.length ≤ j := by
      have : ¬ (j : Int) < a.length := fun z => c (decide_eq_true z)
      omega
    rw [runE_end hj] at q
    exact iteF ⟨_, rfl, q⟩
/-- the sort of a run -/
def sortS (a : List Nat) : Str := if decide (a ∈ keptL) = true then "kept" else if isSmall a = true then "small" else if isGreat a = true then "great" else
  if 20 < a.length then "none" else if a.headD 0 = 48 ∧ 1 < a.length then "none" else if a.all isFg = true then "number" else "none"
def spSort : Sp := fun vs H Q _ => ∃ a : List Nat, vs = [.str (S a)] ∧ 1 ≤ a.length ∧ a.length ≤ 1000000 ∧ ∀ H', Same H H' → Q (.str (sortS a)) H'
theorem ok_sort (F : Fun K "sort_of" "sort_of" (top 17) f fd) (G : Gc K mg) (Z : Bl mg) (cS : Cl P w K mg base 2 "is_small" (spIsS isSmall)) (cG : Cl P w K mg base 2 "is_great" (spIsS isGreat)) : FnOk P w K mg base (L2.CX P w) 3 f fd ["run"] spSort := by
  refine F.okX scSort (fun vs H Q E h => ?_) (fun cdv A' outer s₀ H vs Q E hr h => ?_)
  · obtain ⟨a, rfl, _⟩ := h
    rfl
  obtain ⟨a, rfl, h1, hl, q⟩ := h
  obtain ⟨p, mK, hK⟩ := G.kept
  obtain ⟨u3, m3, r3⟩ := G.figs
  obtain ⟨u4, m4, r4⟩ := G.most
  refine ⟨_, pss_cons (ps_if (pt_cmpR op_in_seq (pv 0) (pe_glob (v := .ref p) rfl mK rfl) (by rfl)) (pss_one (ps_ret pe_str)) pss_nil)
    (pss_cons (ps_if (pt_val (pe_cl cS hr pxN rfl (pa_cons (pv 0) pa_nil))) (pss_one (ps_ret pe_str)) pss_nil)
    (pss_cons (ps_if (pt_val (pe_cl cG hr pxN rfl (pa_cons (pv 0) pa_nil))) (pss_one (ps_ret pe_str)) pss_nil)
    (pss_cons (ps_if (PW.pt (pw_or (pt_cmpR op_gt (pe_callB call_len rfl Z.len (by decide +kernel) (pa_cons (pv 0) pa_nil)) (pe_glob rfl m4 r4) (nomark _))
        (pw_or (PW.pt (pw_and (pt_cmpR op_eq (pe_ix ix_str (pv 0) pe_int (fun _ _ => rfl)) pe_str (nomark _)) (pw_and1 (pt_cmpR op_gt (pe_callB call_len rfl Z.len (by decide +kernel) (pa_cons (pv 0) pa_nil)) pe_int (nomark _)))))
        (pw_or1 (pt_not (pt_val (pe_callB (cr_all rfl) rfl Z.all (by decide +kernel) (pa_cons (pe_lc (own := [("sign", 1)]) (g := gName 1) (tt := tYes) rfl scSort.nd (pi_str (pv 0)) (blkOk_by (N := ["run", "sign"]) (sc := defScope (top 17)) (by decide +kernel)) (fun _ _ _ _ _ => pg_name (i := 1) scSort.nd rfl (Or.inl rfl)) (fun _ _ _ _ _ => pts_nil)
          (fun _ _ _ _ _ => pe_cmpR op_in_sign (pv 1) (pe_glob rfl m3 r3) (by rfl))) pa_nil))))))))
      (pss_one (ps_ret pe_str)) pss_nil)
    (pss_one (ps_ret pe_str))))), ?_⟩
  have hz : (S a).length ≤ sizeLine := by rw [SX.S_len]; exact Nat.le_trans hl (by decide)
  refine ⟨_, rfl, p, _, rfl, .inr (hK _), rfl, rfl, _, rfl, ?_⟩
  show if (inV (.str (S a)) _) = true then _ else _
  rw [kept_in]
  refine ite2 (fun c => ?_) (fun c => ?_)
  · have e : sortS a = "kept" := if_pos c
    rw [e] at q
    exact q H (Same.refl _)
  refine ⟨_, rfl, a, rfl, hl, fun H1 s1 => ⟨_, rfl, ?_⟩⟩
  refine ite2 (fun c2 => ?_) (fun c2 => ?_)
  · have e : sortS a = "small" := by unfold sortS; rw [if_neg c, if_pos c2]
    rw [e] at q
    exact q H1 s1
  refine ⟨_, rfl, a, rfl, hl, fun H2 s2 => ⟨_, rfl, ?_⟩⟩
  refine ite2 (fun c3 => ?_) (fun c3 => ?_)
  · have e : sortS a = "great" := by unfold sortS; rw [if_neg c, if_neg c2, if_pos c3]
    rw [e] at q
    exact q H2 (s1.trans s2)
  refine ⟨_, rfl, _, _, rfl, ⟨hz, rfl⟩, _, _, rfl, rfl, _, rfl, ?_⟩
  rw [SX.S_len]
  refine ite2 (fun c4 => ?_) (fun c4 => ?_)
  · have e : sortS a = "none" := by unfold sortS; rw [if_neg c, if_neg c2, if_neg c3, if_pos (by have := of_decide_eq_true c4; omega)]
    rw [e] at q
    exact iteT (q H2 (s1.trans s2))
  have c4' : ¬ 20 < a.length := fun z => c4 (decide_eq_true (by omega))
  refine ⟨_, rfl, S a, 0, a.headD 0, rfl, rfl, hz, atI0 (a := a) h1, rfl, _, rfl, ?_⟩
  have h0 : decide (V.str ⟨#[a.headD 0]⟩ = V.str "0") = decide (a.headD 0 = 48) := by
    refine decide_eq_decide.mpr ⟨fun z => ?_, fun z => by rw [z]; rfl⟩
    injection z with z
    have z' : S [a.headD 0] = S [48] := z
    exact (List.cons.inj (SX.S_inj z')).1
  show if decide (V.str ⟨#[a.headD 0]⟩ = V.str "0") = true then _ else _
  rw [h0]
  refine ite2 (fun c5 => ?_) (fun c5 => ?_)
  case' refine_1 =>
    refine ⟨_, rfl, _, _, rfl, ⟨hz, rfl⟩, _, _, rfl, rfl, _, rfl, ?_⟩
    rw [SX.S_len]
    refine ite2 (fun c6 => ?_) (fun c6 => ?_)
    · have e : sortS a = "none" := by unfold sortS; rw [if_neg c, if_neg c2, if_neg c3, if_neg c4', if_pos ⟨of_decide_eq_true c5, by have := of_decide_eq_true c6; omega⟩]
      rw [e] at q
      exact iteT (q H2 (s1.trans s2))
    have h5 : ¬ (a.headD 0 = 48 ∧ 1 < a.length) := fun z => c6 (decide_eq_true (by omega))
  case' refine_2 =>
    have h5 : ¬ (a.headD 0 = 48 ∧ 1 < a.length) := fun z => c5 (decide_eq_true z.1)
  all_goals
    try refine iteF ?_
    refine ⟨_, rfl, S a, rfl, fun D nD => ?_⟩
    refine lc_it walk_str (fun i H' => Same H2 H' ∧ H' D = some (.lst (((a.map isFg).take i).map V.bl))) ⟨same_new nD, upd_same⟩ (fun _ _ _ _ => trivial) ?_ ?_
    · rintro i x H3 H3' hi ⟨s3, h3⟩ ⟨rfl, c, hc, rfl⟩
      refine ⟨rfl, ?_⟩
      rw [S_get] at hc
      refine ⟨_, rfl, c, _, rfl, rfl, ?_⟩
      rw [mem_fg]
      refine ⟨_, h3, Nat.lt_of_le_of_lt (show _ ≤ 1000000 by rw [S_size] at hi; rw [List.length_map, List.length_take, List.length_map]; omega) (by decide), fun b o e => ?_, ?_⟩
      · rw [upd_ne (ne_of_none e nD)]
        exact s3 b o e
      · rw [upd_same, List.take_succ, List.map_append, List.getElem?_map, hc] <;> rfl
    · rintro H3 ⟨s3, h3⟩
      rw [S_size, show a.length = (a.map isFg).length from (List.length_map _).symm, List.take_length] at h3
      refine ⟨D, a.map isFg, rfl, SqL.of h3, _, rfl, ?_⟩
      rw [List.all_map]
      show if (!a.all isFg) = true then _ else _
      refine ite2 (fun c7 => ?_) (fun c7 => ?_)
      · have e : sortS a = "none" := by unfold sortS; rw [if_neg c, if_neg c2, if_neg c3, if_neg c4', if_neg h5, if_neg (by simpa using c7)]
        rw [e] at q
        exact q H3 (s1.trans (s2.trans s3))
      · have e : sortS a = "number" := by unfold sortS; rw [if_neg c, if_neg c2, if_neg c3, if_neg c4', if_neg h5, if_pos (by simpa using c7)]
        rw [e] at q
        exact q H3 (s1.trans (s2.trans s3))
end
end W72
/-! W15: words and blanks, as a row's signs; words_of. -/
namespace W72
open PySem L2
inductive Lx where | sp | tk (t : KTok)
def opL : K72.Op → List Nat | .plus => [43] | .minus => [45] | .times => [42] | .less => [60] | .same => [61, 61]
def kwL : K72.Kw → List Nat
  | .data => [100, 97, 116, 97] | .klet => [108, 101, 116] | .kin => [105, 110] | .kcase => [99, 97, 115, 101] | .kof => [111, 102] | .knum => [110, 117, 109]
def toldL : KTok → List Nat
  | .lp => [40] | .rp => [41] | .lb => [123] | .rb => [125] | .semi => [59] | .bs => [92] | .arr => [45, 62] | .eq => [61] | .bar => [124]
  | .op o => opL o
  | .kw k => kwL k
  | .small x => x
  | .great x => x
  | .num n => TL.numL n
  | .fin => []
theorem told_S (t : KTok) : toldS t = S (toldL t) := by
  cases t with
  | op o => cases o <;> decide +kernel
  | kw k => cases k <;> decide +kernel
  | small x => rfl
  | great x => rfl
  | num n => rfl
  | _ => decide +kernel
def textL : List Lx → List Nat
  | [] => []
  | .sp :: r => 32 :: textL r
  | .tk t :: r => toldL t ++ textL r
def toksL : List Lx → List KTok
  | [] => []
  | .sp :: r => toksL r
  | .tk t :: r => t :: toksL r
/-- letters and figures -/
def isW : KTok → Bool | .kw _ | .small _ | .great _ | .num _ => true | _ => false
/-- may stand at any word -/
def isB : KTok → Bool | .lp | .rp | .bs => true | _ => false
def okTk : KTok → Prop
  | .small x => isSmall x = true
  | .great x => isGreat x = true
  | .num n => n < 10 ^ 20
  | .fin => False
  | _ => True
def Sep : List Lx → Prop
  | .tk a :: .tk b :: r => (isB a || isB b) = true ∧ Sep (.tk b :: r)
  | _ :: r => Sep r
  | [] => True
def AllOk : List Lx → Prop
  | .tk t :: r => okTk t ∧ AllOk r
  | .sp :: r => AllOk r
  | [] => True
theorem Sep.tail {x : Lx} {r : List Lx} (h : Sep (x :: r)) : Sep r := by
  cases x with
  | sp => exact h
  | tk t =>
    cases r with
    | nil => trivial
    | cons y r =>
      cases y with
      | sp => exact h
      | tk b => exact h.2
theorem AllOk.tail {x : Lx} {r : List Lx} (h : AllOk (x :: r)) : AllOk r := by
  cases x with
  | sp => exact h
  | tk t => exact h.2
theorem numL_fg (n : Nat) : (TL.numL n).all isFg = true := List.all_eq_true.mpr fun c hc => by
  have := TL.numL_digits n c hc
  unfold isFg
  rw [decide_eq_true this.1, decide_eq_true this.2] <;> rfl
theorem numL_lead (n : Nat) (h : 1 < (TL.numL n).length) : (TL.numL n).headD 0 ≠ 48 := by
  induction n using Nat.strongRecOn with
  | _ n ih =>
    by_cases h10 : n < 10
    · rw [TL.numL_lt h10] at h
      simp at h
    · rw [TL.numL_step (by omega)]
      cases e : TL.numL (n / 10) with
      | nil => exact absurd e (TL.numL_ne _)
      | cons c r =>
        show c ≠ 48
        by_cases hr : r = []
        · subst hr
          have hlt : n / 10 < 10 := by
            refine Nat.lt_of_not_le fun hge => ?_
            have e2 := TL.numL_step hge
            rw [e] at e2
            have := congrArg List.length e2
            rw [List.length_append] at this
            have ne := TL.numL_ne (n / 10 / 10)
            have : (TL.numL (n / 10 / 10)).length = 0 := by simp at this ⊢; exact this
            exact ne (List.length_eq_zero_iff.mp this)
          rw [TL.numL_lt hlt] at e
          injection e with e1 e2
          omega
        · have := ih (n / 10) (by omega) (by rw [e]; cases r with | nil => exact absurd rfl hr | cons _ _ => simp)
          rw [e] at this
          exact this
theorem fg_not_sm {c : Nat} (h : isFg c = true) : isSm c = false ∧ isGr c = false := by
  unfold isFg at h
  simp only [Bool.and_eq_true, decide_eq_true_eq] at h
  unfold isSm isGr
  constructor <;> (simp; omega)
theorem kept_sm : ∀ a ∈ keptL, a.all isSm = true := by decide +kernel
theorem sm_wd {c : Nat} (h : isSm c = true) : isWd c = true := by unfold isWd; rw [h] <;> rfl
theorem gr_wd {c : Nat} (h : isGr c = true) : isWd c = true := by unfold isWd; rw [h, Bool.true_or, Bool.or_true]
theorem fg_wd {c : Nat} (h : isFg c = true) : isWd c = true := by unfold isWd; rw [h, Bool.or_true, Bool.or_true]
theorem small_parts {x : List Nat} (h : isSmall x = true) : 1 ≤ x.length ∧ x.length ≤ 8 ∧ x.all isSm = true ∧ x ∉ keptL := by
  unfold isSmall at h
  simp only [Bool.and_eq_true, decide_eq_true_eq, Bool.not_eq_true', decide_eq_false_iff_not] at h
  exact h
theorem great_parts {x : List Nat} (h : isGreat x = true) : 1 ≤ x.length ∧ x.length ≤ 8 ∧ isGr (x.headD 0) = true ∧ (x.drop 1).all isSm = true := by
  unfold isGreat at h
  simp only [Bool.and_eq_true, decide_eq_true_eq] at h
  exact h
/-- the letters of a word -/
theorem told_wd {t : KTok} (h : okTk t) (hw : isW t = true) : toldL t ≠ [] ∧ (toldL t).all isWd = true := by
  cases t with
  | kw k => cases k <;> exact ⟨by simp [toldL, kwL], by decide +kernel⟩
  | small x =>
    obtain ⟨h1, _, h3, _⟩ := small_parts h
    exact ⟨fun z => by rw [show x = [] from z] at h1; simp at h1, List.all_eq_true.mpr fun c hc => sm_wd (List.all_eq_true.mp h3 c hc)⟩
  | great x =>
    obtain ⟨h1, _, h3, h4⟩ := great_parts h
    cases x with
    | nil => simp at h1
    | cons c r => exact ⟨by simp [toldL], List.all_eq_true.mpr fun d hd => by
        rcases List.mem_cons.mp hd with z | z
        · rw [z]; exact gr_wd h3
        · exact sm_wd (List.all_eq_true.mp h4 d z)⟩
  | num n => exact ⟨TL.numL_ne n, List.all_eq_true.mpr fun c hc => fg_wd (List.all_eq_true.mp (numL_fg n) c hc)⟩
  | _ => cases hw
theorem sort_told {t : KTok} (h : okTk t) (hw : isW t = true) : sortS (toldL t) = manS t := by
  cases t with
  | kw k => cases k <;> exact if_pos (by decide +kernel)
  | small x =>
    obtain ⟨h1, h2, h3, h4⟩ := small_parts h
    show sortS x = _
    unfold sortS
    rw [if_neg (by simpa using h4), if_pos (show isSmall x = true from h)] <;> rfl
  | great x =>
    obtain ⟨h1, h2, h3, h4⟩ := great_parts h
    show sortS x = _
    have hs : x.all isSm = false := by
      cases x with
      | nil => simp at h1
      | cons c r =>
        have h3' : isGr c = true := h3
        have : isSm c = false := by
          unfold isGr at h3'
          simp only [Bool.and_eq_true, decide_eq_true_eq] at h3'
          unfold isSm
          simp; omega
        rw [List.all_cons, this] <;> rfl
    have hk : x ∉ keptL := fun m => by rw [kept_sm x m] at hs; cases hs
    have hn : isSmall x = false := by unfold isSmall; rw [hs, Bool.false_and, Bool.and_false, Bool.and_false]
    unfold sortS
    rw [if_neg (by simpa using hk), hn, if_neg Bool.false_ne_true, if_pos (show isGreat x = true from h)] <;> rfl
  | num n =>
    show sortS (TL.numL n) = _
    have hne := TL.numL_ne n
    have hf := numL_fg n
    have hl : (TL.numL n).length ≤ 20 := TL.numL_len (by decide) h
    have hld := numL_lead n
    generalize TL.numL n = x at *
    cases x with
    | nil => exact absurd rfl hne
    | cons c r =>
      have hc : isFg c = true := List.all_eq_true.mp hf c (List.mem_cons_self ..)
      obtain ⟨e1, e2⟩ := fg_not_sm hc
      have hs : (c :: r).all isSm = false := by rw [List.all_cons, e1] <;> rfl
      have hk : (c :: r) ∉ keptL := fun m => by rw [kept_sm _ m] at hs; cases hs
      have hn : isSmall (c :: r) = false := by unfold isSmall; rw [hs, Bool.false_and, Bool.and_false, Bool.and_false]
      have hg : isGreat (c :: r) = false := by
        unfold isGreat
        rw [show isGr ((c :: r).headD 0) = false from e2, Bool.false_and, Bool.and_false, Bool.and_false]
      unfold sortS
      rw [if_neg (by simpa using hk), hn, if_neg Bool.false_ne_true, hg, if_neg Bool.false_ne_true, if_neg (by omega), if_neg (fun z => hld z.2 z.1), if_pos hf] <;> rfl
  | _ => cases hw
theorem b_head {t : KTok} (h : isB t = true) : toldL t = [40] ∨ toldL t = [41] ∨ toldL t = [92] := by
  cases t <;> first | exact .inl rfl | exact .inr (.inl rfl) | exact .inr (.inr rfl) | cases h
theorem w_notB {t : KTok} (h : isW t = true) : isB t = false := by
  cases t <;> first | rfl | cases h
/-- what stands behind a word that is no bracket -/
theorem next_of {t : KTok} {r : List Lx} (hs : Sep (.tk t :: r)) (hb : isB t = false) : ∀ c u, textL r = c :: u → c = 32 ∨ c = 40 ∨ c = 41 ∨ c = 92 := by
  intro c u e
  cases r with
  | nil => cases e
  | cons y r =>
    cases y with
    | sp =>
      injection e with e1 e2
      exact .inl e1.symm
    | tk b =>
      have h := hs.1
      rw [hb, Bool.false_or] at h
      have e' : toldL b ++ textL r = c :: u := e
      rcases b_head h with z | z | z <;> rw [z] at e' <;> injection e' with e1 e2 <;> subst e1 <;> simp
theorem tw_app {f : Nat → Bool} : ∀ {p q : List Nat}, p.all f = true → (∀ c u, q = c :: u → f c = false) → (p ++ q).takeWhile f = p
  | [], [], _, _ => rfl
  | [], c :: u, _, h => List.takeWhile_cons_of_neg (by rw [h c u rfl]; exact Bool.false_ne_true)
  | c :: p, q, hp, h => by
    rw [List.all_cons, Bool.and_eq_true] at hp
    rw [List.cons_append, List.takeWhile_cons_of_pos hp.1, tw_app hp.2 h]
theorem run_word {t : KTok} {r : List Lx} (ok : okTk t) (hw : isW t = true) (hs : Sep (.tk t :: r)) (p : List Nat) : runE (p ++ textL (.tk t :: r)) p.length = p.length + (toldL t).length := by
  unfold runE
  rw [List.drop_left]
  show _ + ((toldL t ++ textL r).takeWhile isWd).length = _
  rw [tw_app (told_wd ok hw).2 fun c u e => by rcases next_of hs (w_notB hw) c u e with z | z | z | z <;> subst z <;> rfl]
def signL : List Nat := [61, 124, 92, 123, 125, 59, 40, 41, 43, 45, 42, 60]
theorem sign_parts {t : KTok} (ok : okTk t) (hw : isW t = false) : (t = .arr ∨ t = .op .same) ∨ ∃ c, toldL t = [c] ∧ c ≠ 32 ∧ isWd c = false ∧ c ∈ signL ∧ manS t = "sign" := by
  cases t with
  | op o => cases o <;> first | exact .inl (.inr rfl) | exact .inr ⟨_, rfl, by decide, by decide, by decide, rfl⟩
  | arr => exact .inl (.inl rfl)
  | fin => exact ok.elim
  | kw k => cases hw
  | small k => cases hw
  | great k => cases hw
  | num k => cases hw
  | _ => exact .inr ⟨_, rfl, by decide, by decide, by decide, rfl⟩
theorem two_not {t : KTok} {r : List Lx} {c : Nat} (hc : toldL t = [c]) (hs : Sep (.tk t :: r)) : (textL (.tk t :: r)).take 2 ∉ ([[45, 62], [61, 61]] : List (List Nat)) := by
  show (toldL t ++ textL r).take 2 ∉ _
  rw [hc]
  intro m
  cases hb : isB t with
  | true =>
    rcases b_head hb with z | z | z <;> rw [z] at hc <;> injection hc with hc <;> subst hc <;> simp at m
  | false =>
    have hn := next_of hs hb
    cases e : textL r with
    | nil => rw [e] at m; simp at m
    | cons d u =>
      rw [e] at m
      have := hn d u e
      simp at m
      omega
theorem WsAt.snoc {CW : Addr} {H : Hp} {a : Addr} {t : KTok} (h : WordAt CW H a t) : ∀ {as : List Addr} {ts : List KTok}, WsAt CW H as ts → WsAt CW H (as ++ [a]) (ts ++ [t])
  | [], [], _ => ⟨h, trivial⟩
  | _ :: _, _ :: _, g => ⟨g.1, WsAt.snoc h g.2⟩
  | [], _ :: _, g => g.elim
  | _ :: _, [], g => g.elim
/-- a class that may be called -/
structure Mkr (P : Program) (w : World) (K : PySem.W.Frag) (mg : Str → Option Value) (base : Heap) (k : Nat) (C : Addr) (x : Str) (sp : Sp) : Prop where
  ex : ∃ (f : Addr) (fd : FuncData) (ps : List Str), L2.Mk K C f ∧ FnOk P w K mg base (L2.CX P w) k f fd ps sp ∧ mg x = some (.ref C) ∧ Binds K fd ps []
theorem pe_mkr {X : Cx} {k : Nat} {C : Addr} {x : Str} {sp : Sp} {E : XK} {p pos : Pos} {e : Expr} {es : List Expr} {t : L2.TA} (c : Mkr X.prog X.w X.K X.mg X.base k C x sp) (hr : Room (k + 1) X.A) (hx : Passes (L2.CX X.prog X.w) X E) (hg : Gl X x) (ha : PA X (e :: es) t)
    (hdb : (x == ("__debug__" : Str)) = false := by decide) (he : starEach (e :: es) X.env = (false, eval e X.env) :: starEach es X.env := by rfl) (hpl : (backTo pos (starEach es X.env)).any (·.1) = false := by rfl) :
    PE X (.Call (.Name x p) (e :: es) [] pos) (tMake C sp [] E t) := by
  obtain ⟨f, fd, ps, M, F, hm, b⟩ := c.ex
  exact pe_make M F hr hg hm b .nil hx ha hdb he hpl
end W72
/-! W16: words_of, Reader.__init__. -/
namespace W72
open PySem L2
theorem scWords : FnScope ["row", "words", "at", "end", "sort"] ["row"] (defScope (top 18)) := ⟨rfl, rfl, rfl, by decide +kernel, rfl, by decide +kernel, by decide +kernel⟩
def spWords (CW : Addr) : Sp := fun vs H Q _ => ∃ (ls : List Lx), vs = [.str (S (textL ls))] ∧ (textL ls).length ≤ 1000000 ∧ (toksL ls).length < 100000 ∧ Sep ls ∧ AllOk ls ∧
  ∀ p as H', H p = none → Same H H' → H' p = some (.lst (as.map V.ref)) → WsAt CW H' as (toksL ls ++ [.fin]) → Q (.ref p) H'
theorem sign_in (c : Nat) : decide (c ∈ ("=|\\{};()+-*<" : Str).cps.toList) = decide (c ∈ signL) := by
  have e : ("=|\\{};()+-*<" : Str).cps.toList = signL := by decide +kernel
  rw [e]
theorem two_in (a : List Nat) : inV (.str (S a)) [.str "->", .str "=="] = decide (a ∈ ([[45, 62], [61, 61]] : List (List Nat))) := by
  have e : ([.str "->", .str "=="] : List V) = stxs [[45, 62], [61, 61]] := by decide +kernel
  rw [e, inV_stxs]
theorem man_not_none (t : KTok) : decide (V.str (manS t) = V.str "none") = false := by
  refine decide_eq_false fun z => ?_
  injection z with z
  cases t with
  | op o => exact absurd z (by simp only [manS]; decide +kernel)
  | kw k => exact absurd z (by simp only [manS]; decide +kernel)
  | small x => exact absurd z (by simp only [manS]; decide +kernel)
  | great x => exact absurd z (by simp only [manS]; decide +kernel)
  | num n => exact absurd z (by simp only [manS]; decide +kernel)
  | _ => exact absurd z (by simp only [manS]; decide +kernel)
section
variable {P : Program} {w : World} {K : PySem.W.Frag} {mg : Str → Option Value} {base : Heap} {CE CN CW CR fN f : Addr} {mcE : Value} {fd : FuncData}
theorem ok_words (F : Fun K "words_of" "words_of" (top 18) f fd) (G : Gc K mg) (Z : Bl mg) (T : Txt K mg CE CN CW CR fN mcE) (cR : Cl P w K mg base 1 "run_behind" spRun) (cS : Cl P w K mg base 3 "sort_of" spSort) (cW : Mkr P w K mg base 1 CW "Word" (spWi CW)) :
    FnOk P w K mg base (L2.CX P w) 4 f fd ["row"] (spWords CW) := by
  refine F.okX scWords (fun vs H Q E h => ?_) (fun cdv A' outer s₀ H vs Q E hr h => ?_)
  · obtain ⟨a, rfl, _⟩ := h
    rfl
  obtain ⟨ls, rfl, hl, hn, hsep, hok, q⟩ := h
  obtain ⟨u5, m5, r5⟩ := G.signs
  generalize ea : textL ls = a at hl
  refine ⟨_, pss_cons (ps_set (i := 1) scWords.nd rfl (Or.inl rfl) (pe_lst pa_nil))
    (pss_cons (ps_set (i := 2) scWords.nd rfl (Or.inl rfl) pe_int)
    (pss_cons (ps_while (passes_of rfl) (pt_cmpR op_lt (pv 2) (pe_callB call_len rfl Z.len (by decide +kernel) (pa_cons (pv 0) pa_nil)) (nomark _))
      (pss_cons (ps_if (pt_cmpR op_eq (pe_ix ix_str (pv 0) (pv 2) (fun _ _ => rfl)) pe_str (nomark _)) (pss_cons (ps_aug (i := 2) scWords.nd rfl (Or.inl rfl) pe_int ip_add) (pss_one ps_continue)) pss_nil)
      (pss_cons (ps_set (i := 3) scWords.nd rfl (Or.inl rfl) (pe_cl cR (hr.mono (by decide)) pxN rfl (pa_cons (pv 0) (pa_cons (pv 2) pa_nil))))
      (pss_cons (ps_set (i := 4) scWords.nd rfl (Or.inl rfl) pe_str)
      (pss_cons (ps_if (pt_cmpR op_gt (pv 3) (pv 2) (nomark _)) (pss_one (ps_set (i := 4) scWords.nd rfl (Or.inl rfl) (pe_cl cS hr pxN rfl (pa_cons (pe_slice sl_str (pv 0) (po_some (pv 2)) (po_some (pv 3))) pa_nil))))
        (pss_one (ps_if (pt_cmpR op_in_seq (pe_slice sl_str (pv 0) (po_some (pv 2)) (po_some (pe_op op_add (pv 2) pe_int))) (pe_tup (pa_cons pe_str (pa_cons pe_str pa_nil))) (by rfl)) (pss_one (ps_set (i := 3) scWords.nd rfl (Or.inl rfl) (pe_op op_add (pv 2) pe_int)))
          (pss_one (ps_if (pt_cmpR op_in_sign (pe_ix ix_str (pv 0) (pv 2) (fun _ _ => rfl)) (pe_glob rfl m5 r5) (by rfl)) (pss_one (ps_set (i := 3) scWords.nd rfl (Or.inl rfl) (pe_op op_add (pv 2) pe_int)))
            (pss_one (ps_set (i := 4) scWords.nd rfl (Or.inl rfl) pe_str)))))))
      (pss_cons (ps_expr (pe_bm PySem.F.plainAttrs_list PySem.F.slot_list_append PySem.F.type_list_append mt_append (pv 1) (pa_cons (pe_mkr cW (hr.mono (by decide)) pxN rfl (pa_cons (pv 4) (pa_cons (pe_slice sl_str (pv 0) (po_some (pv 2)) (po_some (pv 3))) (pa_cons (pe_op op_add (pv 2) pe_int) pa_nil)))) pa_nil)))
      (pss_cons (ps_if (pt_cmpR op_eq (pv 4) pe_str (nomark _)) (pss_one (ps_ret (pv 1))) pss_nil)
      (pss_one (ps_set (i := 2) scWords.nd rfl (Or.inl rfl) (pv 3))))))))))
    (pss_cons (ps_expr (pe_bm PySem.F.plainAttrs_list PySem.F.slot_list_append PySem.F.type_list_append mt_append (pv 1) (pa_cons (pe_mkr cW (hr.mono (by decide)) pxN rfl (pa_cons pe_str (pa_cons pe_str (pa_cons (pe_op op_add (pe_callB call_len rfl Z.len (by decide +kernel) (pa_cons (pv 0) pa_nil)) pe_int) pa_nil)))) pa_nil)))
    (pss_one (ps_ret (pv 1)))))), ?_⟩
  have hz : (S a).length ≤ sizeLine := by rw [SX.S_len]; exact Nat.le_trans hl (by decide)
  refine ⟨Nat.zero_le _, fun p np => ?_⟩
  refine ⟨fun m σ H' => ∃ pr ls' as ts y1 y2, σ = [some (.str (S a)), some (.ref p), some (.int (pr.length : Nat)), y1, y2] ∧ a = pr ++ textL ls' ∧ Sep ls' ∧ AllOk ls' ∧ Same H H' ∧ H' p = some (.lst (as.map V.ref)) ∧ WsAt CW H' as ts ∧ toksL ls = ts ++ toksL ls' ∧ m = (textL ls').length + ls'.length,
    ⟨_, [], ls, [], [], _, _, rfl, ea.symm, hsep, hok, same_new np, upd_same, trivial, rfl, rfl⟩, ?_⟩
  rintro m σ H1 ⟨pr, ls', as, ts, y1, y2, rfl, e1, sep1, ok1, s1, hp1, w1, ht1, rfl⟩
  refine ⟨_, rfl, _, rfl, _, _, rfl, ⟨hz, rfl⟩, _, _, rfl, rfl, _, rfl, ?_⟩
  rw [SX.S_len]
  have hal : as.length < 100000 := by
    rw [w1.len]
    rw [ht1, List.length_append] at hn
    omega
  have hlst : (as.map V.ref).length < sizeLine := by rw [List.length_map]; exact Nat.lt_of_lt_of_le hal (by decide)
  refine ite2 (fun c => ?_) (fun c => ?_)
  · have c' : pr.length < a.length := by have := of_decide_eq_true c; omega
    cases ls' with
    | nil =>
      rw [e1, show textL [] = [] from rfl, List.append_nil] at c'
      exact absurd c' (Nat.lt_irrefl _)
    | cons y r =>
    refine ⟨fun σ' H' => ∃ m', m' < (textL (y :: r)).length + (y :: r).length ∧ ∃ pr ls' as ts y1 y2, σ' = [some (.str (S a)), some (.ref p), some (.int (pr.length : Nat)), y1, y2] ∧ a = pr ++ textL ls' ∧ Sep ls' ∧ AllOk ls' ∧ Same H H' ∧ H' p = some (.lst (as.map V.ref)) ∧ WsAt CW H' as ts ∧ toksL ls = ts ++ toksL ls' ∧ m' = (textL ls').length + ls'.length, fun _ _ h => h, ?_⟩
    have first : ∀ c u, textL (y :: r) = c :: u → a[pr.length]? = some c := fun c u e => by
      rw [e1, e, List.getElem?_append_right (Nat.le_refl _), Nat.sub_self] <;> rfl
    cases y with
    | sp =>
      have hg := first 32 (textL r) rfl
      refine ⟨_, rfl, _, rfl, S a, _, 32, rfl, rfl, hz, atI_nat hg, rfl, _, rfl, ?_⟩
      rw [show decide (V.str ⟨#[32]⟩ = V.str " ") = true by decide +kernel]
      refine iteT ?_
      refine ⟨_, rfl, _, _, rfl, rfl, ?_⟩
      refine ⟨(textL r).length + r.length, by show _ < (textL r).length + 1 + (r.length + 1); omega, pr ++ [32], r, as, ts, y1, y2, ?_, by rw [e1, List.append_assoc] <;> rfl, sep1.tail, ok1.tail, s1, hp1, w1, ht1, rfl⟩
      rw [List.length_append] <;> rfl
    | tk t =>
      have okt := ok1.1
      obtain ⟨c, u, hc, h32⟩ : ∃ c u, toldL t = c :: u ∧ c ≠ 32 := by
        cases hw : isW t with
        | true =>
          obtain ⟨h1, h2⟩ := told_wd okt hw
          cases e : toldL t with
          | nil => exact absurd e h1
          | cons c u =>
            rw [e, List.all_cons, Bool.and_eq_true] at h2
            exact ⟨c, u, rfl, fun z => by rw [z] at h2; exact absurd h2.1 (by decide)⟩
        | false =>
          rcases sign_parts okt hw with (z | z) | ⟨c, hc, h1, _⟩
          · subst z; exact ⟨_, _, rfl, by decide⟩
          · subst z; exact ⟨_, _, rfl, by decide⟩
          · exact ⟨c, [], hc, h1⟩
      have etx : textL (.tk t :: r) = toldL t ++ textL r := rfl
      have hg := first c (u ++ textL r) (by rw [etx, hc] <;> rfl)
      refine ⟨_, rfl, _, rfl, S a, _, c, rfl, rfl, hz, atI_nat hg, rfl, _, rfl, ?_⟩
      rw [show decide (V.str ⟨#[c]⟩ = V.str " ") = false from decide_eq_false (fun z => by
        injection z with z
        have z' : S [c] = S [32] := z
        exact h32 (List.cons.inj (SX.S_inj z')).1)]
      refine iteF ?_
      refine ⟨_, rfl, _, rfl, a, pr.length, rfl, hl, ?_⟩
      refine ⟨_, rfl, _, rfl, _, _, rfl, rfl, _, rfl, ?_⟩
      have hdrop : a.drop pr.length = toldL t ++ textL r := by rw [e1, List.drop_left] <;> rfl
      have hcut : cutS (S a) (some (pr.length : Nat)) (some ((pr.length + (toldL t).length : Nat) : Int)) = toldS t := by
        rw [cut_S, hdrop, Nat.add_sub_cancel_left, List.take_left, ← told_S]
      cases hw : isW t
      case' true =>
        have hrun : runE a pr.length = pr.length + (toldL t).length := by rw [e1]; exact run_word okt hw sep1 pr
        rw [hrun]
        have hpos : 0 < (toldL t).length := by rw [hc]; exact Nat.succ_pos _
        rw [decide_eq_true (show ((pr.length : Nat) : Int) < ((pr.length + (toldL t).length : Nat) : Int) by omega)]
        refine iteT ?_
        refine ⟨_, rfl, _, rfl, _, rfl, _, rfl, _, rfl, S a, rfl, hz, ?_⟩
        rw [hcut]
        have hll : (toldL t).length ≤ 1000000 := by rw [e1, etx, List.length_append, List.length_append] at hl; omega
        refine ⟨toldL t, by rw [told_S] <;> rfl, hpos, hll, fun H2 s2 => ?_⟩
        have hv : sortS (toldL t) = manS t := sort_told okt hw
      case' false =>
        have hrun : runE a pr.length = pr.length := runE_stop hg (by
          rcases sign_parts okt hw with (z | z) | ⟨c2, hc2, _, h2, _⟩
          · subst z; injection hc with z; rw [← z]; decide
          · subst z; injection hc with z; rw [← z]; decide
          · rw [hc2] at hc; injection hc with z; rw [← z, h2]; exact Bool.false_ne_true)
        rw [hrun]
        rw [decide_eq_false (show ¬ ((pr.length : Nat) : Int) < ((pr.length : Nat) : Int) by omega)]
        refine iteF ?_
        refine ⟨_, rfl, _, rfl, _, rfl, _, rfl, _, _, rfl, rfl, _, rfl, S a, rfl, hz, (by show 2 ≤ sizeLine; decide), fun aa naa => ⟨aa, _, rfl, .inr (SqT.of upd_same), rfl, rfl, _, rfl, ?_⟩⟩
        have s2 : Same H1 (upd H1 aa (.tup [.str "->", .str "=="])) := same_new naa
        generalize upd H1 aa (.tup [.str "->", .str "=="]) = H2 at s2
        have hi : inV (.str (cutS (S a) (some (pr.length : Nat)) (some ((pr.length : Int) + 2)))) [.str "->", .str "=="] = decide ((textL (.tk t :: r)).take 2 ∈ ([[45, 62], [61, 61]] : List (List Nat))) := by
          rw [show ((pr.length : Int) + 2) = ((pr.length + 2 : Nat) : Int) from rfl, cut_S, hdrop, two_in, Nat.add_sub_cancel_left] <;> rfl
        show if inV (.str (cutS (S a) (some (pr.length : Nat)) (some ((pr.length : Int) + 2)))) [.str "->", .str "=="] = true then _ else _
        rw [hi]
        rcases sign_parts okt hw with z | ⟨c2, hc2, _, _, h3, hv⟩
        case' inl =>
          have hv : ("sign" : Str) = manS t := by rcases z with z | z <;> subst z <;> rfl
          have h2 : (toldL t).length = 2 := by rcases z with z | z <;> subst z <;> rfl
          rw [decide_eq_true (show (textL (.tk t :: r)).take 2 ∈ ([[45, 62], [61, 61]] : List (List Nat)) by rcases z with z | z <;> subst z <;> simp [textL, toldL, opL])]
          refine iteT ?_
          refine ⟨_, rfl, _, _, rfl, rfl, ?_⟩
          have he : (pr.length : Int) + 2 = ((pr.length + (toldL t).length : Nat) : Int) := by rw [h2] <;> rfl
          dsimp only
          rw [he]
        case' inr =>
          have h2 : (toldL t).length = 1 := by rw [hc2] <;> rfl
          have ec : c2 = c := by rw [hc2] at hc; injection hc
          subst ec
          rw [decide_eq_false (two_not hc2 sep1)]
          refine iteF ?_
          refine ⟨_, rfl, _, rfl, S a, _, c2, rfl, rfl, hz, atI_nat hg, c2, _, rfl, rfl, _, rfl, ?_⟩
          rw [sign_in, decide_eq_true h3]
          refine iteT ?_
          refine ⟨_, rfl, _, _, rfl, rfl, ?_⟩
          have he : (pr.length : Int) + 1 = ((pr.length + (toldL t).length : Nat) : Int) := by rw [h2] <;> rfl
          dsimp only
          rw [he]
          replace hv := hv.symm
      all_goals
        have hp2 := s2 _ _ hp1
        refine ⟨_, rfl, .inl ⟨rfl, _, SqL.of hp2⟩, ?_⟩
        refine ⟨_, rfl, _, rfl, _, rfl, _, rfl, _, rfl, _, rfl, S a, rfl, hz, _, rfl, _, _, rfl, rfl, fun x dx nx ndx nxd => ?_⟩
        refine ⟨x, dx, t, (pr.length : Int) + 1, by rw [hcut, hv] <;> rfl, upd_same, fun H3 k3 hx => ⟨rfl, ?_⟩⟩
        have s23 : Same H2 H3 := fun b o e => k3 b o (ne_of_none e nx) (by rw [upd_ne (ne_of_none e nx), upd_ne (ne_of_none e ndx)]; exact e)
        have hp3 := s23 _ _ hp2
        refine ⟨p, _, _, rfl, rfl, hp3, hlst, ?_⟩
        refine ⟨_, rfl, rfl, _, rfl, ?_⟩
        rw [hv, man_not_none]
        refine iteF ?_
        refine ⟨_, rfl, ?_⟩
        refine ⟨(textL r).length + r.length, by rw [etx, List.length_append, List.length_cons]; omega, pr ++ toldL t, r, as ++ [x], ts ++ [t], some (.int ((pr.length + (toldL t).length : Nat) : Int)), some (.str (manS t)), ?_, by rw [e1, etx, List.append_assoc], sep1.tail, ok1.tail, fun b o e => by rw [upd_ne (ne_of_none e np)]; exact s23 _ _ (s2 _ _ (s1 _ _ e)), by rw [upd_same, List.map_append] <;> rfl, ?_, by rw [ht1, List.append_assoc] <;> rfl, rfl⟩
        · rw [List.length_append] <;> rfl
        · have keep : ∀ b dx fs, H3 b = some (.ins CW dx fs) → upd H3 p (.lst (as.map V.ref ++ [V.ref x])) b = some (.ins CW dx fs) := fun b dx fs e => by
            rw [upd_ne (fun z => by rw [z, hp3] at e; cases e)]
            exact e
          exact WsAt.snoc (WordAt.mono (keep x) ⟨dx, _, hx⟩) ((w1.mono fun b dx fs e => s23 _ _ (s2 _ _ e)).mono keep)
  · have c' : a.length ≤ pr.length := by
      have : ¬ (pr.length : Int) < a.length := fun z => c (decide_eq_true z)
      omega
    have e2 : textL ls' = [] := by
      rw [e1, List.length_append] at c'
      exact List.length_eq_zero_iff.mp (by omega)
    have e3 : toksL ls' = [] := by
      cases ls' with
      | nil => rfl
      | cons y r =>
        cases y with
        | sp => cases e2
        | tk t =>
          have h1 := List.append_eq_nil_iff.mp (show toldL t ++ textL r = [] from e2)
          cases hw : isW t with
          | true => exact absurd h1.1 (told_wd ok1.1 hw).1
          | false =>
            rcases sign_parts ok1.1 hw with z | ⟨c, hc, _⟩
            · rcases z with z | z <;> subst z <;> simp [toldL, opL] at h1
            · rw [hc] at h1; simp at h1
    rw [e3, List.append_nil] at ht1
    refine ⟨_, rfl, .inl ⟨rfl, _, SqL.of hp1⟩, ?_⟩
    refine ⟨_, rfl, _, _, rfl, ⟨hz, rfl⟩, _, _, rfl, rfl, fun x dx nx ndx nxd => ?_⟩
    refine ⟨x, dx, .fin, _, rfl, upd_same, fun H2 k2 hx => ⟨rfl, ?_⟩⟩
    have s12 : Same H1 H2 := fun b o e => k2 b o (ne_of_none e nx) (by rw [upd_ne (ne_of_none e nx), upd_ne (ne_of_none e ndx)]; exact e)
    refine ⟨p, _, _, rfl, rfl, s12 _ _ hp1, hlst, _, rfl, ?_⟩
    have hp2 := s12 _ _ hp1
    refine q p (as ++ [x]) _ np (fun b o e => by rw [upd_ne (ne_of_none e np)]; exact s12 _ _ (s1 _ _ e)) (by rw [upd_same, List.map_append] <;> rfl) ?_
    rw [ht1]
    have keep : ∀ b dx fs, H2 b = some (.ins CW dx fs) → upd H2 p (.lst (as.map V.ref ++ [V.ref x])) b = some (.ins CW dx fs) := fun b dx fs e => by
      rw [upd_ne (fun z => by rw [z, hp2] at e; cases e)]
      exact e
    exact WsAt.snoc (WordAt.mono (keep x) ⟨dx, _, hx⟩) ((w1.mono fun b dx fs e => s12 _ _ e).mono keep)
end
end W72
/-! W17: enumerate(list, start = k), enumerate(text). -/
namespace W72
open PySem PySem.Spec PyProof.Rows L2
/-- the list at a, each item in a new pair, counted from k0 -/
def Itek (K : PySem.W.Frag) (a : Addr) (k0 : Int) : It :=
  ⟨fun i H => ∃ (xs : List V) (x : V), SqL K H a xs ∧ xs[i]? = some x, fun i H v H' => ∃ T x, v = .ref T ∧ H T = none ∧ H' = upd H T (.tup [.int (k0 + (i : Nat)), x]) ∧ ∀ xs, SqL K H a xs → xs[i]? = some x, fun i H => ∃ xs : List V, SqL K H a xs ∧ xs.length = i⟩
theorem turn_enumK {P : Program} {w : World} {K : PySem.W.Frag} {elts : List Expr} {kk : Nat} {tpos : Pos} (a e it : Addr) (k0 : Int) :
    Turn P w K (.Tuple elts kk tpos) (Itek K a k0) [e, it] e (fun i h => (∃ old, IsEnum h e it (k0 + ((i : Nat) : Int)) old) ∧ h.IsListIter it a i ∧ e ≠ it ∧ e ≠ a ∧ a ≠ it) where
  mem := by simp
  obj := fun i h st b hb => by
    obtain ⟨⟨old, he⟩, ⟨o, ho, hc, hd⟩, _⟩ := st
    have e' : b = e ∨ b = it := by simpa using hb
    rcases e' with z | z
    · rw [z]; exact ⟨_, he, fun v q => nomatch q⟩
    · rw [z]; exact ⟨o, ho, fun v q => by rw [hd] at q; cases q⟩
  keep := fun i h h' st k => let ⟨⟨old, he⟩, hi, hne⟩ := st; ⟨⟨old, k e (by simp) _ he⟩, hi.at fun o q => k it (by simp) o q, hne⟩
  item := by
    intro X hP hw hK hc i pins s σ H E I hf st hg
    subst hP hw hK
    obtain ⟨⟨old, he⟩, hit, hne, hea, hai⟩ := st
    obtain ⟨xs, x, hq, hx⟩ := hg
    obtain ⟨its, rv, p, hz⟩ := I.list hq
    obtain ⟨u, hu, ru⟩ := rv.get hx
    have hel : e < s.heap.objs.size := Heap.lt_size he
    have hil : it < s.heap.objs.size := by obtain ⟨_, q, _⟩ := hit; exact Heap.lt_size q
    have hlt : i < its.toArray.size := by
      rw [List.size_toArray]
      exact (List.getElem?_eq_some_iff.mp hu).1
    refine wpAny_pyNext_enum_itemC (Draws.list (A := X.A.in1) (I.ok.hd hc) it a hai its.toArray) he ⟨hit, p.isList⟩ hlt hne (by simp [hne, hea]) fun x' h' tk hP ho hs' hT hsz hk => ?_
    have ex : x' = u := by
      have hP' : its.toArray[i]? = some x' := hP
      rw [List.getElem?_toArray, hu] at hP'
      exact (Option.some.inj hP').symm
    subst ex
    refine ⟨_, rfl, wpAny_letOwnedTupleGo_enum (s := { s with heap := h', toks := tk + 1 }) ho fun h'' he' sb => ?_⟩
    have hT2 : h''.get? s.heap.objs.size = some { cls := .type "tuple", data := .seq #[.int (k0 + (i : Nat)) tk, x'] } := (sb.2 _ (Nat.ne_of_gt hel)).trans hT
    have new : ObjOk X.prog X.w (upd H s.heap.objs.size (.tup [.int (k0 + (i : Nat)), x])) h'' s.heap.objs.size (.tup [.int (k0 + (i : Nat)), x]) :=
      ⟨by show 2 ≤ sizeLine; decide, [.int (k0 + (i : Nat)) tk, x'], .cons ⟨_, rfl⟩ (.cons ru .nil), ⟨_, hT2, rfl, _, rfl⟩⟩
    have I1 : Inv X pins σ (upd H s.heap.objs.size (.tup [.int (k0 + (i : Nat)), x])) { s with heap := h'', toks := tk + 1 } :=
      I.turnedNew (ch := [e, it]) (fun b ob hb q => (sb.2 b (fun z => hb (by simp [z]))).trans (hk b ob (fun z => hb (by simp [z])) (fun z => hb (by simp [z])) q)) hf (Nat.le_refl _) new
    refine ⟨.ref s.heap.objs.size, _, I1, rfl, ⟨_, x, rfl, I.hok.fresh (Nat.le_refl _), rfl, fun ys hy => by rw [I.list_inj hy hq]; exact hx⟩, ⟨⟨x', ?_⟩, hs'.1.at fun o q => (sb.2 it (Ne.symm hne)).trans q, hne, hea, hai⟩, fun b hb => ?_⟩
    · have e1 : k0 + ((i + 1 : Nat) : Int) = k0 + (i : Int) + 1 := by omega
      rw [e1]; exact he'
    · have hb' : b < s.heap.objs.size := by
        have e' : b = e ∨ b = it := by simpa using hb
        rcases e' with z | z
        · rw [z]; exact hel
        · rw [z]; exact hil
      rw [upd_ne (Nat.ne_of_lt hb')]
      exact (hf b hb).1
  done := by
    intro X hP hw hK hc i pins s σ H E I hf st hg
    subst hP hw hK
    obtain ⟨⟨old, he⟩, hit, hne, hea, hai⟩ := st
    obtain ⟨xs, hq, hx⟩ := hg
    obtain ⟨its, rv, p, hz⟩ := I.list hq
    obtain ⟨f0, f1, f2, f3, f4, f5⟩ := hf it (by simp)
    have hl : i = its.toArray.size := by rw [← hx, rv.length, List.size_toArray]
    subst hl
    exact wpAny_pyNext_enum_endD (Draws.list (A := X.A.in1) (I.ok.hd hc) it a hai its.toArray) he ⟨hit, p.isList⟩ fun h' eb => ⟨rfl, I.turned (t' := s.toks) (fun b o hb q => eb b o hb q) f0 f1 f3 f4 f5⟩
  self := fun A i s Q E st h => let ⟨⟨_, he⟩, _⟩ := st; wpAny_pyIter_enum he h
/-- the text z, each sign in a new pair -/
def Ites (z : Str) : It :=
  ⟨fun i _ => i < z.cps.size, fun i H v H' => ∃ T c, v = .ref T ∧ H T = none ∧ H' = upd H T (.tup [.int (i : Nat), .str ⟨#[c]⟩]) ∧ z.cps[i]? = some c, fun i _ => i = z.cps.size⟩
theorem turn_enumS {P : Program} {w : World} {K : PySem.W.Frag} {elts : List Expr} {kk : Nat} {tpos : Pos} (z : Str) (t : Tok) (e it : Addr) :
    Turn P w K (.Tuple elts kk tpos) (Ites z) [e, it] e (fun i h => (∃ old, IsEnum h e it (((i : Nat) : Int)) old) ∧ h.IsStrIter it (strIterType z) z t i ∧ e ≠ it) where
  mem := by simp
  obj := fun i h st b hb => by
    obtain ⟨⟨old, he⟩, ⟨o, ho, hc, hd⟩, _⟩ := st
    have e' : b = e ∨ b = it := by simpa using hb
    rcases e' with z | z
    · rw [z]; exact ⟨_, he, fun v q => nomatch q⟩
    · rw [z]; exact ⟨o, ho, fun v q => by rw [hd] at q; cases q⟩
  keep := fun i h h' st k => let ⟨⟨old, he⟩, ⟨o, ho, r⟩, hne⟩ := st; ⟨⟨old, k e (by simp) _ he⟩, ⟨o, k it (by simp) o ho, r⟩, hne⟩
  item := by
    intro X hP hw hK hc i pins s σ H E I hf st hg
    subst hP hw hK
    obtain ⟨⟨old, he⟩, hit, hne⟩ := st
    have hel : e < s.heap.objs.size := Heap.lt_size he
    have hil : it < s.heap.objs.size := by obtain ⟨_, q, _⟩ := hit; exact Heap.lt_size q
    refine wpAny_pyNext_enum_itemC (Draws.text (A := X.A.in1) (I.ok.hd hc) it z t) he hit hg hne (by simp [hne]) fun x' h' tk hP ho hs' hT hsz hk => ?_
    obtain ⟨c, u, hcc, rfl⟩ := hP
    refine ⟨_, rfl, wpAny_letOwnedTupleGo_enum (s := { s with heap := h', toks := tk + 1 }) ho fun h'' he' sb => ?_⟩
    have hT2 : h''.get? s.heap.objs.size = some { cls := .type "tuple", data := .seq #[.int ((i : Nat)) tk, .str ⟨#[c]⟩ u] } := (sb.2 _ (Nat.ne_of_gt hel)).trans hT
    have new : ObjOk X.prog X.w (upd H s.heap.objs.size (.tup [.int ((i : Nat)), .str ⟨#[c]⟩])) h'' s.heap.objs.size (.tup [.int ((i : Nat)), .str ⟨#[c]⟩]) :=
      ⟨by show 2 ≤ sizeLine; decide, [.int ((i : Nat)) tk, .str ⟨#[c]⟩ u], .cons ⟨_, rfl⟩ (.cons ⟨_, rfl⟩ .nil), ⟨_, hT2, rfl, _, rfl⟩⟩
    have I1 : Inv X pins σ (upd H s.heap.objs.size (.tup [.int ((i : Nat)), .str ⟨#[c]⟩])) { s with heap := h'', toks := tk + 1 } :=
      I.turnedNew (ch := [e, it]) (fun b ob hb q => (sb.2 b (fun z => hb (by simp [z]))).trans (hk b ob (fun z => hb (by simp [z])) (fun z => hb (by simp [z])) q)) hf (Nat.le_refl _) new
    refine ⟨.ref s.heap.objs.size, _, I1, rfl, ⟨_, c, rfl, I.hok.fresh (Nat.le_refl _), rfl, hcc⟩, ⟨⟨.str ⟨#[c]⟩ u, ?_⟩, ?_, hne⟩, fun b hb => ?_⟩
    · have e1 : ((i + 1 : Nat) : Int) = (i : Int) + 1 := by omega
      rw [e1]; exact he'
    · obtain ⟨o, ho2, r⟩ := hs'
      exact ⟨o, (sb.2 it (Ne.symm hne)).trans ho2, r⟩
    · have hb' : b < s.heap.objs.size := by
        have e' : b = e ∨ b = it := by simpa using hb
        rcases e' with z | z
        · rw [z]; exact hel
        · rw [z]; exact hil
      rw [upd_ne (Nat.ne_of_lt hb')]
      exact (hf b hb).1
  done := by
    intro X hP hw hK hc i pins s σ H E I hf st hg
    subst hP hw hK
    obtain ⟨⟨old, he⟩, hit, hne⟩ := st
    obtain ⟨f0, f1, f2, f3, f4, f5⟩ := hf it (by simp)
    have hg' : i = z.cps.size := hg
    subst hg'
    exact wpAny_pyNext_enum_endD (Draws.text (A := X.A.in1) (I.ok.hd hc) it z t) he hit fun h' eb => ⟨rfl, I.turned (t' := s.toks) (fun b o hb q => eb b o hb q) f0 f1 f3 f4 f5⟩
  self := fun A i s Q E st h => let ⟨⟨_, he⟩, _⟩ := st; wpAny_pyIter_enum he h
section
variable {M : Model} {A : Around} {E : Value → Shared → Prop} {s : Shared} {env : Env}
theorem callWith_tKw {pos : Pos} {T : String} {e : Expr} {rest : List Expr} {kws : List Keyword} {Q : Value → Shared → Prop}
    (hall : (backToKw pos (keywordEach kws env)).all (·.1.isSome) = true)
    (h : wpAny M A (spliced (backTo pos (starEach (e :: rest) env))) (fun vs s₁ => wpAny M A (evalAll ((backToKw pos (keywordEach kws env)).map (·.2)))
      (fun kvs s₂ => wpAny M A (call (.type T) vs (((backToKw pos (keywordEach kws env)).filterMap (·.1)).zip kvs)) Q E s₂) E s₁) E s)
    (he : starEach (e :: rest) env = (false, eval e env) :: starEach rest env) (hplain : ((backTo pos (starEach (e :: rest) env)).any (·.1) || (backToKw pos (keywordEach kws env)).any (·.1.isNone)) = false) :
    wpAny M A (callWith pos (.type T) [] (backTo pos (starEach (e :: rest) env)) (backToKw pos (keywordEach kws env))) Q E s := by
  unfold callWith
  refine wpAny_bind (wpAny_holding (wpAny_mono (evalArgs_kw2 (Q := fun a s₁ => wpAny M A (call (.type T) a.pos a.kw) Q E s₁) hall h he) (fun a s₁ h₁ => wpAny_bind (wpAny_standAt ?_)) fun _ _ x => x))
  simp only [hplain]
  refine wpAny_bind (wpAny_pure ?_)
  exact wpAny_bind (wpAny_mono h₁ (fun r s₂ hr => wpAny_bind (wpAny_holding (wpAny_point (wpAny_pure hr)))) fun _ _ x => x)
end
def iEnumK (K : PySem.W.Frag) (ta : TE) (k0 : Int) : TI := fun σ H R => ta σ H fun x H1 => ∃ a xs, x = .ref a ∧ SqL K H1 a xs ∧ R (Itek K a k0) H1
theorem pi_enumK {X : Cx} {e : Expr} {ta : TE} {p pos tpos cp kpos : Pos} {elts : List Expr} {kk : Nat} {k0 : Int} {j : Nat} (hg : Gl X "enumerate") (hm : X.mg "enumerate" = none) (ha : PE X e ta) (h0 : -(2 ^ 63) ≤ k0) (h1 : k0 < 2 ^ 63)
    (he : starEach [e] X.env = (false, eval e X.env) :: starEach [] X.env := by rfl)
    (hall : (backToKw pos (keywordEach [⟨some "start", .Constant (.int k0) j cp, kpos⟩] X.env)).all (·.1.isSome) = true := by rfl) (hks : (backToKw pos (keywordEach [⟨some "start", .Constant (.int k0) j cp, kpos⟩] X.env)).filterMap (·.1) = [("start" : Str)] := by rfl)
    (hpl : ((backTo pos (starEach [e] X.env)).any (·.1) || (backToKw pos (keywordEach [⟨some "start", .Constant (.int k0) j cp, kpos⟩] X.env)).any (·.1.isNone)) = false := by rfl) :
    PI X (.Tuple elts kk tpos) (.Call (.Name "enumerate" p) [e] [⟨some "start", .Constant (.int k0) j cp, kpos⟩] pos) (iEnumK X.K ta k0) := by
  refine ⟨fun pins s σ H R I h => ?_⟩
  refine wpAny_Call_Name_kw (ld_blt I hg hm boot_enumerate (callWith_tKw hall (one_arg ha I h (fun v s1 x H1 I1 r q => ?_) he) he hpl))
  obtain ⟨a, xs, rfl, hq, q⟩ := q
  refine thn ((pk_cons pe_int pk_nil).run pos pins s1 σ H1 (fun zs H2 => zs = [.int k0] ∧ H2 = H1) I1 ?_) fun ks s2 ⟨zs, H2, I2, r2, ez, eh⟩ => ?_
  · exact ⟨rfl, rfl⟩
  subst ez eh
  rw [hks]
  cases r
  cases r2 with
  | cons r' rr' =>
    cases rr'
    obtain ⟨t, rfl⟩ := r'
    obtain ⟨its, rv, p', hz⟩ := I2.list hq
    show wpAny _ _ (call (.type "enumerate") [.ref a] [("start", .int k0 t)]) _ _ _
    refine enum_begins_start (begins_list a its.toArray) p'.isList h0 h1 fun h' he hit hsz hk => wpAny_pyIter_enum he ?_
    have I3 : Inv X pins σ H2 { s2 with heap := h' } := I2.kept (t' := s2.toks) hk
    have hlt : a < s2.heap.objs.size := by obtain ⟨o, ho, _⟩ := p'.isList; exact Heap.lt_size ho
    refine ⟨s2.heap.objs.size + 1, [s2.heap.objs.size + 1, s2.heap.objs.size], _, _, H2, rfl, I3, turn_enumK a (s2.heap.objs.size + 1) s2.heap.objs.size k0, ⟨⟨.none, ?_⟩, ⟨_, hit, rfl, rfl⟩, Nat.succ_ne_self _, (Nat.ne_of_gt (Nat.lt_succ_of_lt hlt)), Nat.ne_of_lt hlt⟩, fun b hb => ?_, q⟩
    · rw [show k0 + ((0 : Nat) : Int) = k0 by omega]; exact he
    · have e' : b = s2.heap.objs.size + 1 ∨ b = s2.heap.objs.size := by simpa using hb
      have hle : s2.heap.objs.size ≤ b := by
        rcases e' with z | z
        · rw [z]; exact Nat.le_add_right _ _
        · rw [z]; exact Nat.le_refl _
      exact I2.fpOk hle (I2.hok.fresh hle)
def iEnumS (ta : TE) : TI := fun σ H R => ta σ H fun x H1 => ∃ z, x = .str z ∧ R (Ites z) H1
theorem pi_enumS {X : Cx} {e : Expr} {ta : TE} {p pos tpos : Pos} {elts : List Expr} {kk : Nat} (hg : Gl X "enumerate") (hm : X.mg "enumerate" = none) (ha : PE X e ta) (na : starEach [e] X.env = (false, eval e X.env) :: starEach [] X.env := by rfl) :
    PI X (.Tuple elts kk tpos) (.Call (.Name "enumerate" p) [e] [] pos) (iEnumS ta) := by
  refine ⟨fun pins s σ H R I h => ?_⟩
  refine Call_ (ld_blt I hg hm boot_enumerate (PyProof.Rows.callWith_type1 (one_arg ha I h (fun v s2 x H2 I2 r q => ?_) na) na rfl))
  obtain ⟨z, rfl, q⟩ := q
  obtain ⟨t, rfl⟩ := r
  refine call_enumerate_str fun h' he hit hsz hk => wpAny_pyIter_enum he ?_
  have I3 : Inv X pins σ H2 { s2 with heap := h' } := I2.kept (t' := s2.toks) hk
  refine ⟨s2.heap.objs.size + 1, [s2.heap.objs.size + 1, s2.heap.objs.size], _, _, H2, rfl, I3, turn_enumS z t (s2.heap.objs.size + 1) s2.heap.objs.size, ⟨⟨.none, he⟩, hit, Nat.succ_ne_self _⟩, fun b hb => ?_, q⟩
  have e' : b = s2.heap.objs.size + 1 ∨ b = s2.heap.objs.size := by simpa using hb
  have hle : s2.heap.objs.size ≤ b := by
    rcases e' with z | z
    · rw [z]; exact Nat.le_add_right _ _
    · rw [z]; exact Nat.le_refl _
  exact I2.fpOk hle (I2.hok.fresh hle)
end W72
/-! W18: Reader.__init__, read_term, read_program. -/
namespace W72
open PySem L2
/-- a row that may be taken apart -/
structure RowOk (ls : List Lx) : Prop where
  l : (textL ls).length ≤ 1000000
  n : (toksL ls).length < 99000
  s : Sep ls
  o : AllOk ls
theorem allok_mem : ∀ {ls : List Lx}, AllOk ls → ∀ t ∈ toksL ls, okTk t
  | [], _, t, m => by cases m
  | .sp :: r, h, t, m => allok_mem (ls := r) h t m
  | .tk a :: r, h, t, m => by
    rcases List.mem_cons.mp m with e | m
    · rw [e]; exact h.1
    · exact allok_mem h.2 t m
theorem RowOk.endF {ls : List Lx} (h : RowOk ls) : EndF (toksL ls ++ [.fin]) := by
  refine ⟨⟨_, rfl⟩, fun k m => ?_⟩
  rcases List.mem_append.mp m with m | m
  · have : k < 10 ^ 20 := allok_mem h.o _ m
    exact Nat.lt_of_lt_of_le this (Nat.pow_le_pow_right (by decide) (by decide))
  · simp at m
theorem scRi : FnScope ["self", "row", "number"] ["self", "row", "number"] (defScope (sR 0)) := ⟨rfl, rfl, rfl, by decide +kernel, rfl, by decide +kernel, by decide +kernel⟩
theorem scRT : FnScope ["text", "reader", "term"] ["text"] (defScope (top 42)) := ⟨rfl, rfl, rfl, by decide +kernel, rfl, by decide +kernel, by decide +kernel⟩
theorem scRP : FnScope ["text", "datas", "defs", "number", "row", "reader"] ["text"] (defScope (top 41)) := ⟨rfl, rfl, rfl, by decide +kernel, rfl, by decide +kernel, by decide +kernel⟩
def spRi (CW CR : Addr) : Sp := fun vs H Q _ => ∃ (r dx : Addr) (ls : List Lx) (n : Int), vs = [.ref r, .str (S (textL ls)), .int n] ∧ H r = some (.ins CR dx []) ∧ RowOk ls ∧
  ∀ ρ H', ρ.r = r → Kp r H H' → RdAt CW CR H' ρ (toksL ls ++ [.fin]) → Q .non H'
section
variable {P : Program} {w : World} {K : PySem.W.Frag} {mg : Str → Option Value} {base : Heap} {CE CN CW CR fN f : Addr} {mcE : Value} {fd : FuncData} {n : Nat}
theorem ok_Ri (F : Fun K "__init__" "Reader.__init__" (sR 0) f fd) (T : Txt K mg CE CN CW CR fN mcE) (cW : Cl P w K mg base 4 "words_of" (spWords CW)) : FnOk P w K mg base (L2.CX P w) 5 f fd ["self", "row", "number"] (spRi CW CR) := by
  refine F.okX scRi (fun vs H Q E h => ?_) (fun cdv A' outer s₀ H vs Q E hr h => ?_)
  · obtain ⟨r, dx, ls, n, rfl, _⟩ := h
    rfl
  obtain ⟨r, dx, ls, n, rfl, hp, ok, k⟩ := h
  refine ⟨_, pss_cons (ps_fld (pv 0) (pe_cl cW hr pxN rfl (pa_cons (pv 1) pa_nil)) rfl) (pss_cons (ps_fld (pv 0) pe_int rfl) (pss_one (ps_fld (pv 0) (pv 2) rfl))), ?_⟩
  refine ⟨_, rfl, ls, rfl, ok.l, Nat.lt_of_lt_of_le ok.n (by decide), ok.s, ok.o, fun p as H1 np s1 hp1 w1 => ?_⟩
  have hr1 := s1 _ _ hp
  refine ⟨_, rfl, r, CR, dx, [], rfl, hr1, T.clR, T.rA, (by show 0 < 1000; decide), _, rfl, r, CR, dx, _, rfl, upd_same, T.clR, T.rT, (by show 1 < 1000; decide), _, rfl, _, rfl, r, CR, dx, _, rfl, upd_same, T.clR, T.rN, (by
    show (putF "at" _ (putF "all_words" _ [])).length < 1000
    simp only [putF, if_neg ne_aa]
    show 2 < 1000
    decide), ?_⟩
  have pr : p ≠ r := fun z => by rw [z, hr1] at hp1; cases hp1
  refine k ⟨r, dx, p, n, as⟩ _ rfl (fun b o n e => by rw [upd_ne n, upd_ne n, upd_ne n]; exact s1 _ _ e) ⟨0, ?_, ?_, ?_, ?_⟩
  · rw [upd_same]
    exact congrArg (fun x => some (HO.ins CR dx x)) (rd_put _ _ _)
  · rw [upd_ne pr, upd_ne pr, upd_ne pr]; exact hp1
  · show WsAt CW _ as _
    refine w1.mono fun q dx' fs e => ?_
    have qr : q ≠ r := fun z => by
      rw [z, hr1] at e
      injection e with e
      injection e with e _ _
      exact T.neC e.symm
    rw [upd_ne qr, upd_ne qr, upd_ne qr]
    exact e
  · show as.length ≤ 100000
    rw [w1.len, List.length_append]
    have := ok.n
    show (toksL ls).length + 1 ≤ _
    omega
def spRT (K : PySem.W.Frag) (CN : Addr) (n : Nat) : Sp := fun vs H Q E => ∃ (ls : List Lx), vs = [.str (S (textL ls))] ∧ RowOk ls ∧ K72.pT n (toksL ls ++ [.fin]) ≠ .out ∧
  (∀ a, K72.readT n (toksL ls ++ [.fin]) = some a → ∀ v H', Same H H' → Dp K H' v (encT a) → Q v H') ∧ (K72.readT n (toksL ls ++ [.fin]) = none → ∀ d H', Same H H' → E (.ref CN) (some d) H')
/-- all that stood, stands: what changed is new -/
theorem kp_all {r : Addr} {H H1 H2 : Hp} (s : Same H H1) (k : Kp r H1 H2) (hr : H r = none) : Same H H2 := fun b o e => k b o (ne_of_none e hr) (s _ _ e)
theorem ok_RT (F : Fun K "read_term" "read_term" (top 42) f fd) (B : Rd P w K mg base CN CW CR) (cR : Mkr P w K mg base 5 CR "Reader" (spRi CW CR)) (A : Cl P w K mg base (n + 6) "term_of" (spP K CN CW CR (K72.pT n) encT)) :
    FnOk P w K mg base (L2.CX P w) (n + 6 + 1) f fd ["text"] (spRT K CN n) := by
  refine F.okX scRT (fun vs H Q E h => ?_) (fun cdv A' outer s₀ H vs Q E hr h => ?_)
  · obtain ⟨ls, rfl, _⟩ := h
    rfl
  obtain ⟨ls, rfl, ok, hno, q1, q2⟩ := h
  refine ⟨_, pss_cons (ps_set (i := 1) scRT.nd rfl (Or.inl rfl) (pe_mkr cR (hr.mono (by omega)) pxN rfl (pa_cons (pv 0) (pa_cons pe_int pa_nil))))
    (pss_cons (ps_set (i := 2) scRT.nd rfl (Or.inl rfl) (pe_cl A hr pxE rfl (pa_cons (pv 1) pa_nil)))
    (pss_cons (ps_expr (pe_mt0 B.ends (hr.mono (by omega)) pxE (pv 1)))
    (pss_one (ps_ret (pv 2))))), ?_⟩
  refine ⟨_, rfl, fun x dx nx ndx nxd => ?_⟩
  refine ⟨x, dx, ls, 1, rfl, upd_same, ok, fun ρ H1 er k1 R1 => ⟨rfl, ?_⟩⟩
  subst er
  have s1 : Same H H1 := fun b o e => k1 b o (ne_of_none e nx) (by rw [upd_ne (ne_of_none e nx), upd_ne (ne_of_none e ndx)]; exact e)
  have e0 : K72.readT n (toksL ls ++ [.fin]) = match K72.pT n (toksL ls ++ [.fin]) with | .ok t q => if K72.now q = .fin then some t else none | _ => none := rfl
  refine ⟨_, rfl, ρ, _, rfl, R1, ok.endF, hno, fun a q e2 v H2 k2 R2 E2 D2 => ?_, fun e2 d H2 k2 => q2 (by rw [e0, e2]) d H2 (kp_all s1 k2 nx)⟩
  obtain ⟨t, r, rfl⟩ := E2.cons
  obtain ⟨j, X⟩ := id R2
  refine ⟨_, rfl, ρ.r, ρ.dx, _, rfl, X.h, no_at ρ j (by decide +kernel) (by decide +kernel) (by decide +kernel), ρ, t, r, rfl, R2, fun ht => ?_, fun ht d H3 s3 => q2 (by rw [e0, e2]; exact if_neg ht) d H3 ((kp_all s1 k2 nx).trans s3)⟩
  exact ⟨_, rfl, q1 a (by rw [e0, e2]; exact if_pos ht) v H2 (kp_all s1 k2 nx) D2⟩
theorem walk_enumK {a : Addr} {xs : List V} {k0 : Int} : Walk (Itek K a k0) xs.length (fun H => SqL K H a xs) (YPair (fun i => some (.int (k0 + (i : Nat)))) (fun i => xs[i]?)) := by
  refine ⟨fun i _ hi q => ⟨xs, xs[i], q, by simp [hi]⟩, fun _ q => ⟨xs, q, rfl⟩, fun i H v H' _ q y => ?_⟩
  obtain ⟨T, x, h1, h2, h3, h4⟩ := y
  exact ⟨T, .int (k0 + (i : Nat)), x, h1, h2, h3, rfl, h4 xs q⟩
theorem walk_enumS {z : Str} : Walk (Ites z) z.cps.size (fun _ => True) (YPair (fun i => some (.int (i : Nat))) (fun i => z.cps[i]?.map fun c => .str ⟨#[c]⟩)) := by
  refine ⟨fun i _ hi q => hi, fun _ q => rfl, fun i H v H' _ q y => ?_⟩
  obtain ⟨T, c, h1, h2, h3, h4⟩ := y
  exact ⟨T, .int (i : Nat), .str ⟨#[c]⟩, h1, h2, h3, rfl, by show Option.map _ z.cps[i]? = _; rw [h4] <;> rfl⟩
def encPr (d : K72.Dt) : PyData := .tuple [.tuple [encD d], .tuple []]
def spRP (K : PySem.W.Frag) (CN : Addr) (n : Nat) : Sp := fun vs H Q E => ∃ (ls : List Lx), vs = [.str (S (textL ls ++ [10]))] ∧ RowOk ls ∧ 10 ∉ textL ls ∧ (∃ r, toksL ls = .kw .data :: r) ∧ K72.pData n (toksL ls ++ [.fin]) ≠ .out ∧
  (∀ d q, K72.pData n (toksL ls ++ [.fin]) = .ok d q → ∀ v H', Same H H' → Dp K H' v (encPr d) → Q v H') ∧ (K72.pData n (toksL ls ++ [.fin]) = .fail → ∀ d H', Same H H' → E (.ref CN) (some d) H')
theorem split_rows {a : List Nat} (h : 10 ∉ a) : Txt.split (S (a ++ [10])) "\n" = [S a, S []] := by
  rw [show ("\n" : Str) = S [10] by decide +kernel, SX.split_S (by decide) (by decide)]
  have e := TL.spl_part1 (S := []) (rest := []) (acc := []) h
  rw [show a ++ [10] = a ++ (([10] : List Nat) ++ []) from rfl, e, TL.spl_nil]
  rfl
theorem iteT' {b : Bool} {A B : Prop} (hb : b = true) (h : A) : if b = true then A else B := by rw [if_pos hb]; exact h
theorem iteF' {b : Bool} {A B : Prop} (hb : b = false) (h : B) : if b = true then A else B := by rw [hb]; exact h
theorem ok_RP (F : Fun K "read_program" "read_program" (top 41) f fd) (Z : Bl mg) (B : Rd P w K mg base CN CW CR) (cR : Mkr P w K mg base 5 CR "Reader" (spRi CW CR)) (A : Cl P w K mg base (n + 6 + 1 + 1) "data_of" (spP K CN CW CR (K72.pData n) encD))
    (cD : Cl P w K mg base (n + 6 + 1 + 1) "def_of" (fun _ _ _ _ => False)) : FnOk P w K mg base (L2.CX P w) (n + 6 + 1 + 1 + 1) f fd ["text"] (spRP K CN n) := by
  refine F.okX scRP (fun vs H Q E h => ?_) (fun cdv A' outer s₀ H vs Q E hr h => ?_)
  · obtain ⟨ls, rfl, _⟩ := h
    rfl
  obtain ⟨ls, rfl, ok, h10, ⟨rest, hrest⟩, hno, q1, q2⟩ := h
  refine ⟨_, pss_cons (ps_set (i := 1) scRP.nd rfl (Or.inl rfl) (pe_lst pa_nil))
    (pss_cons (ps_set (i := 2) scRP.nd rfl (Or.inl rfl) (pe_lst pa_nil))
    (pss_cons (ps_for (passes_of rfl) rfl (pi_enumK rfl Z.enumerate (pe_split (pv 0) pe_str) (by decide) (by decide)) (pg_tup rfl (pgs_cons (pg_name (i := 3) scRP.nd rfl (Or.inl rfl)) (pgs_cons (pg_name (i := 4) scRP.nd rfl (Or.inl rfl)) pgs_nil)))
      (pss_cons (ps_set (i := 5) scRP.nd rfl (Or.inl rfl) (pe_mkr cR (hr.mono (by omega)) pxN rfl (pa_cons (pv 4) (pa_cons (pv 3) pa_nil))))
      (pss_one (ps_if (pt_val (pe_mtk B.isST (hr.mono (by omega)) pxN (pv 5) (pk_cons pe_str (pk_cons pe_str pk_nil))))
        (pss_one (ps_expr (pe_bm PySem.F.plainAttrs_list PySem.F.slot_list_append PySem.F.type_list_append mt_append (pv 1) (pa_cons (pe_cl A hr pxE rfl (pa_cons (pv 5) pa_nil)) pa_nil))))
        (pss_one (ps_if (pt_not (pt_val (pe_mtk B.isS (hr.mono (by omega)) pxN (pv 5) (pk_cons pe_str pk_nil))))
          (pss_one (ps_expr (pe_bm PySem.F.plainAttrs_list PySem.F.slot_list_append PySem.F.type_list_append mt_append (pv 2) (pa_cons (pe_cl cD hr pxE rfl (pa_cons (pv 5) pa_nil)) pa_nil)))) pss_nil))))))
    (pss_one (ps_ret (pe_tup (pa_cons (pe_callTy call_tuple_of rfl Z.tuple (by decide +kernel) (pa_cons (pv 1) pa_nil)) (pa_cons (pe_callTy call_tuple_of rfl Z.tuple (by decide +kernel) (pa_cons (pv 2) pa_nil)) pa_nil))))))), ?_⟩
  refine ⟨Nat.zero_le _, fun p np => ⟨Nat.zero_le _, fun p2 np2 => ?_⟩⟩
  have npp2 : p ≠ p2 := ne_of_none upd_same np2
  have np2H : H p2 = none := by rw [upd_ne npp2.symm] at np2; exact np2
  generalize hH0 : upd (upd H p (.lst [])) p2 (.lst []) = H0
  have s0 : Same H H0 := by rw [← hH0]; exact (same_new np).trans (same_new np2)
  have hp0 : H0 p = some (.lst []) := by rw [← hH0, upd_ne npp2]; exact upd_same
  have hp20 : H0 p2 = some (.lst []) := by rw [← hH0]; exact upd_same
  refine ⟨_, rfl, ⟨_, rfl⟩, _, _, rfl, rfl, (by decide +kernel), ?_, ?_⟩
  · rw [SX.S_len, List.length_append]
    exact Nat.le_trans (show (textL ls).length + 1 + 2 ≤ 1000003 by have := ok.l; omega) (by decide)
  rw [split_rows h10]
  intro l nl
  have nlp : l ≠ p := (ne_of_none hp0 nl).symm
  have nlp2 : l ≠ p2 := (ne_of_none hp20 nl).symm
  refine ⟨l, _, rfl, SqL.of upd_same, ?_⟩
  generalize hHl : upd H0 l (.lst (([S (textL ls), S []] : List Str).map V.str)) = Hl
  have sl : Same H0 Hl := by rw [← hHl]; exact same_new nl
  have hl : Hl l = some (.lst [.str (S (textL ls)), .str (S [])]) := by rw [← hHl]; exact upd_same
  have hno1 : ∀ {H1 : Hp} {x : Addr}, H1 x = none → Same Hl H1 → x ≠ p ∧ x ≠ p2 ∧ x ≠ l := fun nx s1 => ⟨(ne_of_none (s1 _ _ (sl _ _ hp0)) nx).symm, (ne_of_none (s1 _ _ (sl _ _ hp20)) nx).symm, (ne_of_none (s1 _ _ hl) nx).symm⟩
  refine for_it walk_enumK (fun i σ H' => ∃ y3 y4 y5, σ = [some (.str (S (textL ls ++ [10]))), some (.ref p), some (.ref p2), y3, y4, y5] ∧ Same H H' ∧ H' p2 = some (.lst []) ∧ H' l = some (.lst [.str (S (textL ls)), .str (S [])]) ∧ (i = 0 → Same Hl H') ∧
      (1 ≤ i → ∃ v d q, K72.pData n (toksL ls ++ [.fin]) = .ok d q ∧ H' p = some (.lst [v]) ∧ Dp K H' v (encD d)))
    ⟨_, _, _, rfl, s0.trans sl, sl _ _ hp20, hl, fun _ => Same.refl _, fun h => absurd h (by decide)⟩ (fun i σ H' _ ⟨_, _, _, _, _, _, h, _⟩ => SqL.of h) ?_ ?_
  · rintro i x σ H1 H1' hi ⟨y3, y4, y5, rfl, s1, hp21, hl1, h0, h1⟩ ⟨T, z1, z2, rfl, nT, rfl, e1, e2⟩
    have e1' : z1 = .int (1 + (i : Nat)) := (Option.some.inj e1).symm
    subst e1'
    have sT : Same H1 (upd H1 T (.tup [.int (1 + (i : Nat)), z2])) := same_new nT
    refine ⟨T, _, rfl, SqT.of upd_same, rfl, _, _, rfl, _, _, rfl, rfl, ?_⟩
    generalize upd H1 T (.tup [.int (1 + (i : Nat)), z2]) = H2 at sT
    rcases i with _ | _ | i
    · have ez : z2 = .str (S (textL ls)) := (Option.some.inj e2).symm
      subst ez
      have hp2' : H2 p = some (.lst []) := sT _ _ (h0 rfl _ _ (sl _ _ hp0))
      refine ⟨_, rfl, _, rfl, fun x dx nx ndx nxd => ?_⟩
      refine ⟨x, dx, ls, _, rfl, upd_same, ok, fun ρ H3 er k3 R3 => ⟨rfl, ?_⟩⟩
      subst er
      have s3 : Same H2 H3 := fun b o e => k3 b o (ne_of_none e nx) (by rw [upd_ne (ne_of_none e nx), upd_ne (ne_of_none e ndx)]; exact e)
      have R3' := R3
      rw [hrest] at R3'
      refine t_is rfl R3' (.inr ⟨_, rfl⟩) (fun _ h => h) rfl rfl ?_
      rw [is_data]
      refine iteT' (decide_eq_true rfl) ?_
      have hp3 := s3 _ _ hp2'
      have pr : p ≠ ρ.r := ne_of_none hp2' nx
      have p2r : p2 ≠ ρ.r := ne_of_none (sT _ _ hp21) nx
      have lr : l ≠ ρ.r := ne_of_none (sT _ _ hl1) nx
      refine ⟨_, rfl, .inl ⟨rfl, _, SqL.of hp3⟩, ?_⟩
      refine ⟨_, rfl, ρ, _, rfl, R3, ok.endF, hno, fun d q e4 v H4 k4 R4 E4 D4 => ?_, fun e4 d H4 k4 => q2 e4 d H4 (s1.trans (sT.trans (kp_all s3 k4 nx)))⟩
      have s24 : Same H2 H4 := kp_all s3 k4 nx
      have hp4 := k4 _ _ pr hp3
      refine ⟨p, _, _, rfl, rfl, hp4, (by show 0 < sizeLine; decide), ?_⟩
      refine ⟨_, _, _, rfl, fun b o e => ?_, ?_, ?_, fun h => absurd h (by decide), fun _ => ⟨v, d, q, e4, upd_same, dp_stayT (upd_tp hp4 lst_notTp) ?_ D4⟩⟩
      · rw [upd_ne (ne_of_none e np)]
        exact s24 _ _ (sT _ _ (s1 _ _ e))
      · rw [upd_ne npp2.symm]; exact s24 _ _ (sT _ _ hp21)
      · rw [upd_ne nlp]; exact s24 _ _ (sT _ _ hl1)
      · show (true && (nls (d.2.1.map fun x => PyData.str (S x)) && (nls (d.2.2.map encM) && true))) = true
        rw [nls_strs, nls_ms]; rfl
    · have ez : z2 = .str (S []) := (Option.some.inj e2).symm
      subst ez
      obtain ⟨v, d, q, ed, hpv, dv⟩ := h1 (Nat.le_refl _)
      refine ⟨_, rfl, _, rfl, fun x dx nx ndx nxd => ?_⟩
      refine ⟨x, dx, [], _, rfl, upd_same, ⟨(by decide), (by decide), trivial, trivial⟩, fun ρ H3 er k3 R3 => ⟨rfl, ?_⟩⟩
      subst er
      have s3 : Same H2 H3 := fun b o e => k3 b o (ne_of_none e nx) (by rw [upd_ne (ne_of_none e nx), upd_ne (ne_of_none e ndx)]; exact e)
      refine t_is (t := .fin) (s := []) rfl R3 (.inr ⟨_, rfl⟩) (fun _ h => h) rfl rfl ?_
      rw [is_data]
      refine iteF' (decide_eq_false (fun z => by cases z)) ?_
      refine t_is (t := .fin) (s := []) rfl R3 (.inl rfl) (fun _ h => h) rfl rfl ?_
      rw [isNow_fin]
      refine iteF' rfl ?_
      have s13 : Same H1 H3 := sT.trans s3
      exact ⟨_, _, _, rfl, s1.trans s13, s13 _ _ hp21, s13 _ _ hl1, fun h => absurd h (by decide), fun _ => ⟨v, d, q, ed, s13 _ _ hpv, dp_same s13 dv⟩⟩
    · exact absurd hi (by simp)
  · rintro σ H1 ⟨y3, y4, y5, rfl, s1, hp21, hl1, h0, h1⟩
    obtain ⟨v, d, q, ed, hpv, dv⟩ := h1 (Nat.succ_le_succ (Nat.zero_le _))
    refine ⟨_, rfl, p, _, rfl, .inl ⟨SqL.of hpv, fun a na => ?_⟩⟩
    refine ⟨_, rfl, p2, _, rfl, .inl ⟨SqL.of (same_new na _ _ hp21), fun a2 na2 => ⟨(by show 2 ≤ sizeLine; decide), fun t nt => ?_⟩⟩⟩
    refine q1 d q ed _ _ (s1.trans ((same_new na).trans ((same_new na2).trans (same_new nt)))) ?_
    exact dp_t2 nt (dp_new na2 (.tup (SqT.of upd_same) (.cons (dp_new na dv) .nil))) (.tup (SqT.of upd_same) .nil)
end
end W72
/-! W19: how terms are written: words and blanks. -/
namespace W72
abbrev KT := K72.Tok
def lpre : Bool → List Lx | true => [.sp, .tk .arr, .sp] | false => []
def lshB (n : Nat) (t : KTm) (u : List Lx) : List Lx := if K72.lvl t < n then .tk .lp :: (u ++ [.tk .rp]) else u
def lsm : List K72.L → List Lx
  | [] => []
  | x :: r => .sp :: .tk (.small x) :: lsm r
mutual
def lx : Bool → KTm → List Lx
  | f, .num n => lpre f ++ [.tk (.num n)]
  | f, .name x => lpre f ++ [.tk (.small x)]
  | f, .make c => lpre f ++ [.tk (.great c)]
  | f, .app a b => lpre f ++ (lshB 3 a (lx false a) ++ .sp :: lshB 4 b (lx false b))
  | f, .op o a b => lpre f ++ (lshB (max (K72.ow o) 1) a (lx false a) ++ .sp :: .tk (.op o) :: .sp :: lshB (K72.ow o + 1) b (lx false b))
  | f, .fn x b => (if f then [.sp] else [.tk .bs]) ++ .tk (.small x) :: lx true b
  | f, .lt ps b => lpre f ++ (.tk (.kw .klet) :: .sp :: .tk .lb :: .sp :: (lxPs ps ++ .sp :: .tk .rb :: .sp :: .tk (.kw .kin) :: .sp :: lx false b))
  | f, .cs e ws => lpre f ++ (.tk (.kw .kcase) :: .sp :: (lx false e ++ .sp :: .tk (.kw .kof) :: .sp :: .tk .lb :: .sp :: (lxWs ws ++ [.sp, .tk .rb])))
  | f, .par t => lpre f ++ (.tk .lp :: (lx false t ++ [.tk .rp]))
def lxPs : List (K72.L × KTm) → List Lx
  | [] => []
  | (x, t) :: r => .tk (.small x) :: .sp :: .tk .eq :: .sp :: (lx false t ++ (if r.isEmpty then [] else .sp :: .tk .semi :: .sp :: lxPs r))
def lxWs : List (K72.L × List K72.L × KTm) → List Lx
  | [] => []
  | (c, xs, t) :: r => .tk (.great c) :: (lsm xs ++ .sp :: .tk .arr :: .sp :: (lx false t ++ (if r.isEmpty then [] else .sp :: .tk .semi :: .sp :: lxWs r)))
end
theorem toks_app : ∀ a b : List Lx, toksL (a ++ b) = toksL a ++ toksL b
  | [], b => rfl
  | .sp :: r, b => toks_app r b
  | .tk t :: r, b => congrArg (t :: ·) (toks_app r b)
theorem text_app : ∀ a b : List Lx, textL (a ++ b) = textL a ++ textL b
  | [], b => rfl
  | .sp :: r, b => congrArg (32 :: ·) (text_app r b)
  | .tk t :: r, b => by
    show toldL t ++ textL (r ++ b) = (toldL t ++ textL r) ++ textL b
    rw [text_app r b, List.append_assoc]
theorem toks_pre (f : Bool) : toksL (lpre f) = K72.pre f := by cases f <;> rfl
theorem toks_shB (n : Nat) (t : KTm) (u : List Lx) : toksL (lshB n t u) = K72.shB n t (toksL u) := by
  unfold lshB K72.shB
  split
  · show K72.Tok.lp :: toksL (u ++ [.tk .rp]) = _
    rw [toks_app] <;> rfl
  · rfl
theorem toks_lsm : ∀ xs, toksL (lsm xs) = K72.smTk xs
  | [] => rfl
  | x :: r => congrArg (K72.Tok.small x :: ·) (toks_lsm r)
mutual
theorem toks_lx : ∀ (f : Bool) (t : KTm), toksL (lx f t) = K72.tw f t
  | f, .num n => by rw [lx, toks_app, toks_pre, K72.tw] <;> rfl
  | f, .name x => by rw [lx, toks_app, toks_pre, K72.tw] <;> rfl
  | f, .make c => by rw [lx, toks_app, toks_pre, K72.tw] <;> rfl
  | f, .app a b => by
    rw [lx, toks_app, toks_pre, toks_app, toks_shB, toks_lx false a, K72.tw]
    show _ ++ (_ ++ toksL (lshB 4 b (lx false b))) = _
    rw [toks_shB, toks_lx false b]
  | f, .op o a b => by
    rw [lx, toks_app, toks_pre, toks_app, toks_shB, toks_lx false a, K72.tw]
    show _ ++ (_ ++ K72.Tok.op o :: toksL (lshB (K72.ow o + 1) b (lx false b))) = _
    rw [toks_shB, toks_lx false b]
  | f, .fn x b => by
    rw [lx, toks_app, K72.tw]
    show _ ++ K72.Tok.small x :: toksL (lx true b) = _
    rw [toks_lx true b]
    cases f <;> rfl
  | f, .lt ps b => by
    rw [lx, toks_app, toks_pre, K72.tw]
    show _ ++ K72.Tok.kw .klet :: K72.Tok.lb :: toksL (lxPs ps ++ _) = _
    rw [toks_app, toks_lxPs ps]
    show _ ++ K72.Tok.kw .klet :: K72.Tok.lb :: (_ ++ K72.Tok.rb :: K72.Tok.kw .kin :: toksL (lx false b)) = _
    rw [toks_lx false b]
  | f, .cs e ws => by
    rw [lx, toks_app, toks_pre, K72.tw]
    show _ ++ K72.Tok.kw .kcase :: toksL (lx false e ++ _) = _
    rw [toks_app, toks_lx false e]
    show _ ++ K72.Tok.kw .kcase :: (_ ++ K72.Tok.kw .kof :: K72.Tok.lb :: toksL (lxWs ws ++ _)) = _
    rw [toks_app, toks_lxWs ws] <;> rfl
  | f, .par t => by
    rw [lx, toks_app, toks_pre, K72.tw]
    show _ ++ K72.Tok.lp :: toksL (lx false t ++ _) = _
    rw [toks_app, toks_lx false t] <;> rfl
theorem toks_lxPs : ∀ ps : List (K72.L × KTm), toksL (lxPs ps) = K72.twPs ps
  | [] => by rw [lxPs, K72.twPs] <;> rfl
  | (x, t) :: r => by
    rw [lxPs, K72.twPs]
    show K72.Tok.small x :: K72.Tok.eq :: toksL (lx false t ++ _) = _
    rw [toks_app, toks_lx false t]
    cases r with
    | nil => rfl
    | cons y r =>
      show _ :: _ :: (_ ++ K72.Tok.semi :: toksL (lxPs (y :: r))) = _
      rw [toks_lxPs (y :: r)] <;> rfl
theorem toks_lxWs : ∀ ws : List (K72.L × List K72.L × KTm), toksL (lxWs ws) = K72.twWs ws
  | [] => by rw [lxWs, K72.twWs] <;> rfl
  | (c, xs, t) :: r => by
    rw [lxWs, K72.twWs]
    show K72.Tok.great c :: toksL (lsm xs ++ _) = _
    rw [toks_app, toks_lsm]
    show K72.Tok.great c :: (_ ++ K72.Tok.arr :: toksL (lx false t ++ _)) = _
    rw [toks_app, toks_lx false t]
    cases r with
    | nil => rfl
    | cons y r =>
      show _ :: (_ ++ _ :: (_ ++ K72.Tok.semi :: toksL (lxWs (y :: r)))) = _
      rw [toks_lxWs (y :: r)] <;> rfl
end
/-! ### blanks stand where they must -/
def isS : Lx → Bool | .sp => true | .tk t => isB t
def headOk : List Lx → Bool | [] => true | x :: _ => isS x
def lastOk : List Lx → Bool | [] => true | [x] => isS x | _ :: r => lastOk r
theorem sep_cons {x : Lx} {r : List Lx} (h : Sep r) (hh : (isS x || headOk r) = true) : Sep (x :: r) := by
  cases x with
  | sp => exact h
  | tk a =>
    cases r with
    | nil => trivial
    | cons y r =>
      cases y with
      | sp => exact h
      | tk b => exact ⟨hh, h⟩
theorem sep_app : ∀ {a b : List Lx}, Sep a → Sep b → (lastOk a || headOk b) = true → Sep (a ++ b)
  | [], b, _, hb, _ => hb
  | [x], b, ha, hb, h => sep_cons hb h
  | x :: y :: r, b, ha, hb, h => by
    have ih : Sep ((y :: r) ++ b) := sep_app ha.tail hb h
    refine sep_cons ih ?_
    cases x with
    | sp => rfl
    | tk t =>
      cases y with
      | sp => show (_ || true) = true; rw [Bool.or_true]
      | tk u => exact ha.1
theorem lastOk_app : ∀ {a b : List Lx}, b ≠ [] → lastOk (a ++ b) = lastOk b
  | [], b, _ => rfl
  | [x], [], h => absurd rfl h
  | [x], y :: b, _ => rfl
  | x :: y :: r, b, h => lastOk_app (a := y :: r) h
theorem headOk_app : ∀ {a b : List Lx}, a ≠ [] → headOk (a ++ b) = headOk a
  | [], b, h => absurd rfl h
  | x :: r, b, _ => rfl
theorem ok_app : ∀ {a b : List Lx}, AllOk a → AllOk b → AllOk (a ++ b)
  | [], b, _, h => h
  | .sp :: r, b, h, g => ok_app (a := r) h g
  | .tk t :: r, b, h, g => ⟨h.1, ok_app h.2 g⟩
/-- names and numbers as they may be -/
def okS (x : K72.L) : Prop := isSmall x = true
mutual
def okN : KTm → Prop
  | .num n => n < 10 ^ 20
  | .name x => okS x
  | .make c => isGreat c = true
  | .app a b => okN a ∧ okN b
  | .op _ a b => okN a ∧ okN b
  | .fn x b => okS x ∧ okN b
  | .lt ps b => okNPs ps ∧ okN b
  | .cs e ws => okN e ∧ okNWs ws
  | .par t => okN t
def okNPs : List (K72.L × KTm) → Prop
  | [] => True
  | (x, t) :: r => okS x ∧ okN t ∧ okNPs r
def okNWs : List (K72.L × List K72.L × KTm) → Prop
  | [] => True
  | (c, xs, t) :: r => isGreat c = true ∧ (∀ x ∈ xs, okS x) ∧ okN t ∧ okNWs r
end
end W72
/-! W20: what is written may be taken apart. -/
namespace W72
theorem sep_pre {f : Bool} {u : List Lx} (h : Sep u) : Sep (lpre f ++ u) := by
  cases f with
  | false => exact h
  | true => exact h
theorem sep_sp {u : List Lx} (h : Sep u) : Sep (.sp :: u) := h
theorem sep_tsp {t : KTok} {u : List Lx} (h : Sep u) : Sep (.tk t :: .sp :: u) := h
theorem sep_b {t : KTok} {u : List Lx} (ht : isB t = true) (h : Sep u) : Sep (.tk t :: u) := sep_cons h (by show (isB t || _) = true; rw [ht, Bool.true_or])
theorem sep_mid {u v : List Lx} (h : Sep u) (g : Sep v) : Sep (u ++ .sp :: v) := sep_app h g (by show (_ || true) = true; rw [Bool.or_true])
theorem sep_par {u : List Lx} (h : Sep u) : Sep (.tk .lp :: (u ++ [.tk .rp])) := sep_b rfl (sep_app h trivial (by show (_ || true) = true; rw [Bool.or_true]))
theorem sep_shB {n : Nat} {t : KTm} {u : List Lx} (h : Sep u) : Sep (lshB n t u) := by
  unfold lshB
  split
  · exact sep_par h
  · exact h
theorem sep_lsm : ∀ xs, ∀ {u : List Lx}, Sep u → Sep (lsm xs ++ .sp :: u)
  | [], u, h => h
  | x :: r, u, h => by
    have ih := sep_lsm r h
    show Sep (.sp :: .tk (.small x) :: (lsm r ++ .sp :: u))
    refine sep_sp (sep_cons ih ?_)
    cases r with
    | nil => rfl
    | cons y r => rfl
theorem head_lx (t : KTm) : headOk (lx true t) = true := by
  cases t <;> (rw [lx] <;> rfl)
mutual
theorem sep_lx : ∀ (f : Bool) (t : KTm), Sep (lx f t)
  | f, .num n => by rw [lx]; exact sep_pre trivial
  | f, .name x => by rw [lx]; exact sep_pre trivial
  | f, .make c => by rw [lx]; exact sep_pre trivial
  | f, .app a b => by rw [lx]; exact sep_pre (sep_mid (sep_shB (sep_lx false a)) (sep_shB (sep_lx false b)))
  | f, .op o a b => by rw [lx]; exact sep_pre (sep_mid (sep_shB (sep_lx false a)) (sep_tsp (sep_shB (sep_lx false b))))
  | f, .fn x b => by
    rw [lx]
    have h : Sep (.tk (.small x) :: lx true b) := sep_cons (sep_lx true b) (by rw [head_lx, Bool.or_true])
    cases f with
    | true => exact h
    | false => exact sep_b rfl h
  | f, .lt ps b => by rw [lx]; exact sep_pre (sep_tsp (sep_tsp (sep_mid (sep_lxPs ps) (sep_tsp (sep_tsp (sep_lx false b))))))
  | f, .cs e ws => by rw [lx]; exact sep_pre (sep_tsp (sep_mid (sep_lx false e) (sep_tsp (sep_tsp (sep_mid (sep_lxWs ws) trivial)))))
  | f, .par t => by rw [lx]; exact sep_pre (sep_par (sep_lx false t))
theorem sep_lxPs : ∀ ps : List (K72.L × KTm), Sep (lxPs ps)
  | [] => by rw [lxPs]; trivial
  | (x, t) :: r => by
    rw [lxPs]
    refine sep_tsp (sep_tsp ?_)
    cases r with
    | nil => show Sep (lx false t ++ []); rw [List.append_nil]; exact sep_lx false t
    | cons y r => exact sep_mid (sep_lx false t) (sep_tsp (sep_lxPs (y :: r)))
theorem sep_lxWs : ∀ ws : List (K72.L × List K72.L × KTm), Sep (lxWs ws)
  | [] => by rw [lxWs]; trivial
  | (c, xs, t) :: r => by
    rw [lxWs]
    have h : Sep (lx false t ++ (if r.isEmpty then [] else .sp :: .tk .semi :: .sp :: lxWs r)) := by
      cases r with
      | nil => show Sep (lx false t ++ []); rw [List.append_nil]; exact sep_lx false t
      | cons y r => exact sep_mid (sep_lx false t) (sep_tsp (sep_lxWs (y :: r)))
    refine sep_cons (sep_lsm xs (sep_tsp h)) ?_
    cases xs with
    | nil => rfl
    | cons y r => rfl
end
theorem ok_pre {f : Bool} {u : List Lx} (h : AllOk u) : AllOk (lpre f ++ u) := by
  cases f with
  | false => exact h
  | true => exact ⟨trivial, h⟩
theorem ok_shB {n : Nat} {t : KTm} {u : List Lx} (h : AllOk u) : AllOk (lshB n t u) := by
  unfold lshB
  split
  · exact ⟨trivial, ok_app h ⟨trivial, trivial⟩⟩
  · exact h
theorem ok_lsm : ∀ xs, (∀ x ∈ xs, okS x) → AllOk (lsm xs)
  | [], _ => trivial
  | x :: r, h => ⟨h x (List.mem_cons_self ..), ok_lsm r fun y m => h y (List.mem_cons_of_mem _ m)⟩
mutual
theorem ok_lx : ∀ (f : Bool) (t : KTm), okN t → AllOk (lx f t)
  | f, .num n, h => by rw [lx]; exact ok_pre ⟨h, trivial⟩
  | f, .name x, h => by rw [lx]; exact ok_pre ⟨h, trivial⟩
  | f, .make c, h => by rw [lx]; exact ok_pre ⟨h, trivial⟩
  | f, .app a b, h => by rw [lx]; exact ok_pre (ok_app (ok_shB (ok_lx false a h.1)) (ok_shB (ok_lx false b h.2)))
  | f, .op o a b, h => by rw [lx]; exact ok_pre (ok_app (ok_shB (ok_lx false a h.1)) ⟨trivial, ok_shB (ok_lx false b h.2)⟩)
  | f, .fn x b, h => by
    rw [lx]
    have h2 : AllOk (.tk (.small x) :: lx true b) := ⟨h.1, ok_lx true b h.2⟩
    cases f with
    | true => exact h2
    | false => exact ⟨trivial, h2⟩
  | f, .lt ps b, h => by rw [lx]; exact ok_pre ⟨trivial, trivial, ok_app (ok_lxPs ps h.1) ⟨trivial, trivial, ok_lx false b h.2⟩⟩
  | f, .cs e ws, h => by rw [lx]; exact ok_pre ⟨trivial, ok_app (ok_lx false e h.1) ⟨trivial, trivial, ok_app (ok_lxWs ws h.2) ⟨trivial, trivial⟩⟩⟩
  | f, .par t, h => by rw [lx]; exact ok_pre ⟨trivial, ok_app (ok_lx false t h) ⟨trivial, trivial⟩⟩
theorem ok_lxPs : ∀ ps : List (K72.L × KTm), okNPs ps → AllOk (lxPs ps)
  | [], _ => by rw [lxPs]; trivial
  | (x, t) :: r, h => by
    rw [lxPs]
    refine ⟨h.1, trivial, ok_app (ok_lx false t h.2.1) ?_⟩
    cases r with
    | nil => trivial
    | cons y r => exact ⟨trivial, ok_lxPs (y :: r) h.2.2⟩
theorem ok_lxWs : ∀ ws : List (K72.L × List K72.L × KTm), okNWs ws → AllOk (lxWs ws)
  | [], _ => by rw [lxWs]; trivial
  | (c, xs, t) :: r, h => by
    rw [lxWs]
    refine ⟨h.1, ok_app (ok_lsm xs h.2.1) ⟨trivial, ok_app (ok_lx false t h.2.2.1) ?_⟩⟩
    cases r with
    | nil => trivial
    | cons y r => exact ⟨trivial, ok_lxWs (y :: r) h.2.2.2⟩
end
/-! ### lengths -/
theorem told_len {t : KTok} (h : okTk t) : (toldL t).length ≤ 20 := by
  cases t with
  | op o => cases o <;> decide
  | kw k => cases k <;> decide
  | small x => have := (small_parts h).2.1; show x.length ≤ 20; omega
  | great x => have := (great_parts h).2.1; show x.length ≤ 20; omega
  | num n => exact TL.numL_len (by decide) h
  | _ => decide
theorem text_len : ∀ {ls : List Lx}, AllOk ls → (textL ls).length ≤ 20 * ls.length
  | [], _ => Nat.le_refl _
  | .sp :: r, h => by
    have := text_len (ls := r) h
    show (textL r).length + 1 ≤ 20 * (r.length + 1)
    omega
  | .tk t :: r, h => by
    have := text_len h.2
    have h1 := told_len h.1
    show (toldL t ++ textL r).length ≤ 20 * (r.length + 1)
    rw [List.length_append]
    omega
theorem toks_len : ∀ ls : List Lx, (toksL ls).length ≤ ls.length
  | [] => Nat.le_refl _
  | .sp :: r => Nat.le_succ_of_le (toks_len r)
  | .tk t :: r => Nat.succ_le_succ (toks_len r)
theorem rowOk_of {ls : List Lx} (s : Sep ls) (o : AllOk ls) (h : ls.length ≤ 50000) : RowOk ls :=
  ⟨Nat.le_trans (text_len o) (by omega), Nat.lt_of_le_of_lt (toks_len ls) (by omega), s, o⟩
end W72
/-! W21: a, *b = a tuple. -/
namespace W72
open PySem PySem.Spec PyProof.Rows L2
section
variable {prog : Program} {w : World} {A : Around} {E : Value → Shared → Prop} {s : Shared}
theorem unpack_star1 {l : Addr} {u0 : Value} {us : List Value} {Q : List Value → Shared → Prop} (hl : IsTup s.heap l (u0 :: us).toArray) (hh : A.handled = none) (hz : us.length ≤ 1000)
    (h : ∀ (h2 : Heap) (tk : Nat), (∀ b o, s.heap.get? b = some o → h2.get? b = some o) → Q [u0, .ref h2.objs.size] { s with heap := h2.push { cls := .type "list", data := .seq us.toArray }, toks := tk }) : wpAny (model prog w) A (unpackItems (.ref l) 2 (some 1)) Q E s := by
  generalize hit : (u0 :: us).toArray = items at hl
  have hsz : items.size = us.length + 1 := by rw [← hit] <;> rfl
  have htl : items.toList = u0 :: us := by rw [← hit]
  have hlt : l ≠ s.heap.objs.size := by obtain ⟨o, ho, _⟩ := hl; exact Nat.ne_of_lt (Heap.lt_size ho)
  unfold unpackItems
  refine wpAny_bind ?_
  unfold notIterableAtAll
  refine wpAny_bind (wpAny_specialOf hl.typeIs slot_tuple_iter.lookup ?_)
  refine wpAny_pure ?_
  simp only [Bool.false_eq_true, if_false]
  refine wpAny_bind (wpAny_holding (iter_tuple hl ?_))
  refine wpAny_bind (wpAny_holding (draw_tuple hlt 1 0 _ _ ⟨_, Heap.get?_push_size _ rfl, rfl, rfl⟩ (hl.push _) (by omega) fun h₁ hit₁ hs₁ => ?_))
  have hl₁ : IsTup h₁ l items := (hl.push _).extBut hs₁.extBut hlt
  rw [Nat.zero_add] at hit₁
  have hit₁' := hit₁
  obtain ⟨oi, hoi, _⟩ := hit₁'
  have hl₁' := hl₁
  obtain ⟨ol, hol, _⟩ := hl₁'
  rw [List.drop_zero]
  have hfl : (items.toList.take 1).length = 1 := by rw [htl] <;> rfl
  rw [if_neg (show ¬ ((items.toList.take 1).length < 1) by rw [hfl]; omega)]
  refine wpAny_bind (wpAny_holding (PySem.W.kun_collect (s := { s with heap := h₁ }) (T := "tuple_iterator") (.inr (.inr (.inr rfl))) (Walks.tuple (A := A.in1) hh s.heap.objs.size l hlt items) (fun j u st => st.1.typeIs) (k := 1) (by omega) ⟨hit₁, hl₁⟩ (Heap.lt_size hoi) (Heap.lt_size hol) (fun h₂ tk hk => ?_) (by rw [sizeLine_eq]; omega)))
  have hrl : (items.toList.drop 1).length = us.length := by rw [htl] <;> rfl
  show wpAny _ _ (if (items.toList.drop 1).length < 2 - 1 - 1 then _ else _) _ _ _
  rw [if_neg (by omega)]
  show wpAny _ _ (newList ((items.toList.drop 1).take ((items.toList.drop 1).length - (2 - 1 - 1))) >>= fun d => pure (items.toList.take 1 ++ [d] ++ (items.toList.drop 1).drop ((items.toList.drop 1).length - (2 - 1 - 1)))) _ _ _
  rw [htl]
  show wpAny _ _ (newList (us.take (us.length - 0)) >>= fun d => pure ([u0] ++ [d] ++ us.drop (us.length - 0))) _ _ _
  rw [Nat.sub_zero, List.take_length, List.drop_length]
  refine wpAny_bind (wpAny_newList ?_ (by rw [sizeLine_eq]; omega))
  refine wpAny_pure (h h₂ tk fun b o e => ?_)
  have hb : b ≠ s.heap.objs.size := Nat.ne_of_lt (Heap.lt_size e)
  exact hk b o hb (hs₁.extBut b o hb (Heap.get?_push_of_some _ e))
end
/-- a, *b -/
def gStar (K : PySem.W.Frag) (t u : TG) : TG := fun v σ H Q => ∃ p x xs, v = .ref p ∧ SqT K H p (x :: xs) ∧ xs.length ≤ 1000 ∧ ∀ D, H D = none → t x σ (upd H D (.lst xs)) fun σ1 H1 => u (.ref D) σ1 H1 Q
theorem pg_star {X : Cx} {e1 e2 : Expr} {sp pos : Pos} {k : Nat} {t u : TG} (hc : X.calm = true) (h1 : PG X e1 t) (h2 : PG X e2 u) (ha : assignEach [e1, .Starred e2 sp] X.env = [(false, assign e1 X.env), (true, assign e2 X.env)] := by rfl) :
    PG X (.Tuple [e1, .Starred e2 sp] k pos) (gStar X.K t u) := by
  refine ⟨fun pins s σ H v uv Q I r hw => ?_⟩
  obtain ⟨p, x, xs, rfl, hq, hz, hw⟩ := hw
  cases r
  obtain ⟨its, rv, ht, hz2⟩ := I.tuple hq
  cases rv with
  | @cons _ u0 _ ur r0 rr =>
    rw [assign_Tuple]
    refine wpAny_bind (wpAny_standAt ?_)
    unfold unpack
    rw [ha]
    show wpAny _ _ ((holding [Value.ref p] (unpackItems (.ref p) 2 (some 1))) >>= fun vs => assignInOrder [assign e1 X.env, assign e2 X.env] vs) _ _ _
    have hl : ur.length = xs.length := by rw [rr.length]
    refine wpAny_bind (wpAny_holding (unpack_star1 ht (I.ok.hd hc) (by omega) fun h2' tk hk => ?_))
    have I1 : Inv X pins σ H { s with heap := h2', toks := tk } := I.kept (t' := tk) hk
    have I2 : Inv X pins σ (upd H h2'.objs.size (.lst xs)) { s with heap := h2'.push { cls := .type "list", data := .seq ur.toArray }, toks := tk } :=
      I1.laid (t' := tk) (fun b u e => Heap.get?_push_of_some _ e) (Nat.le_refl _) (show ObjOk X.prog X.w _ _ _ (.lst xs) from ⟨by rw [sizeLine_eq]; omega, ur, 0, rr, Heap.get?_push_size _ rfl⟩)
    refine assignInOrder_cons (thn (h1.run pins _ σ _ x u0 _ I2 r0 (hw _ (I1.hok.fresh (Nat.le_refl _)))) fun _ s2 ⟨σ1, H1, I3, q1⟩ => ?_)
    refine assignInOrder_cons (thn (h2.run pins s2 σ1 H1 (.ref h2'.objs.size) (.ref h2'.objs.size) _ I3 rfl q1) fun _ s3 ⟨σ2, H2, I4, q2⟩ => assignInOrder_nil ⟨σ2, H2, I4, q2⟩)
end W72
/-! W22: level_of, shown. -/
namespace W72
open PySem L2
theorem dp_tupI {K : PySem.W.Frag} {H : Hp} {v : V} {ds : List PyData} (h : Dp K H v (.tuple ds)) : ∃ p xs, v = .ref p ∧ SqT K H p xs ∧ DpAll K H xs ds := by
  cases h with
  | tup a b => exact ⟨_, _, rfl, a, b⟩
theorem dp_strI {K : PySem.W.Frag} {H : Hp} {v : V} {x : Str} (h : Dp K H v (.str x)) : v = .str x := by
  cases h; rfl
theorem dpa_nilI {K : PySem.W.Frag} {H : Hp} {xs : List V} (h : DpAll K H xs []) : xs = [] := by
  cases h; rfl
theorem dpa_consI {K : PySem.W.Frag} {H : Hp} {xs : List V} {d : PyData} {ds : List PyData} (h : DpAll K H xs (d :: ds)) : ∃ v r, xs = v :: r ∧ Dp K H v d ∧ DpAll K H r ds := by
  cases h with
  | cons a b => exact ⟨_, _, rfl, a, b⟩
def srt : KTm → Str
  | .num _ => "num" | .name _ => "name" | .make _ => "make" | .app .. => "app" | .op .. => "op" | .fn .. => "fun" | .lt .. => "let" | .cs .. => "case" | .par _ => ""
theorem enc_shape : ∀ t : KTm, K72.pu t → ∃ rest, encT t = .tuple (.str (srt t) :: rest)
  | .num _, _ => ⟨_, by rw [encT] <;> rfl⟩
  | .name _, _ => ⟨_, by rw [encT] <;> rfl⟩
  | .make _, _ => ⟨_, by rw [encT] <;> rfl⟩
  | .app .., _ => ⟨_, by rw [encT] <;> rfl⟩
  | .op .., _ => ⟨_, by rw [encT] <;> rfl⟩
  | .fn .., _ => ⟨_, by rw [encT] <;> rfl⟩
  | .lt .., _ => ⟨_, by rw [encT] <;> rfl⟩
  | .cs .., _ => ⟨_, by rw [encT] <;> rfl⟩
  | .par _, h => h.elim
def is3 : KTm → Bool | .fn .. | .lt .. | .cs .. => true | _ => false
def isOp : KTm → Bool | .op .. => true | _ => false
def isApp : KTm → Bool | .app .. => true | _ => false
def isFn : KTm → Bool | .fn .. => true | _ => false
def isLt : KTm → Bool | .lt .. => true | _ => false
def isCs : KTm → Bool | .cs .. => true | _ => false
theorem in3 (t : KTm) : inV (.str (srt t)) [.str "fun", .str "let", .str "case"] = is3 t := by
  cases t <;> rfl
theorem eq_op (t : KTm) : decide (V.str (srt t) = V.str "op") = isOp t := by
  cases t <;> rfl
theorem eq_app (t : KTm) : decide (V.str (srt t) = V.str "app") = isApp t := by
  cases t <;> rfl
theorem eq_fn (t : KTm) : decide (V.str (srt t) = V.str "fun") = isFn t := by
  cases t <;> rfl
theorem eq_lt (t : KTm) : decide (V.str (srt t) = V.str "let") = isLt t := by
  cases t <;> rfl
theorem eq_cs (t : KTm) : decide (V.str (srt t) = V.str "case") = isCs t := by
  cases t <;> rfl
structure Lv (K : PySem.W.Frag) (w : World) (mg : Str → Option Value) : Prop where
  lev : ∃ p, mg "LEVELS" = some (.ref p) ∧ ∀ o, KDct K w p (opS o) (.int ((K72.ow o : Nat) : Int))
theorem scLev : FnScope ["term"] ["term"] (defScope (top 43)) := ⟨rfl, rfl, rfl, by decide +kernel, rfl, by decide +kernel, by decide +kernel⟩
theorem scSh : FnScope ["term", "level", "text"] ["term", "level"] (defScope (top 44)) := ⟨rfl, rfl, rfl, by decide +kernel, rfl, by decide +kernel, by decide +kernel⟩
def spLev (K : PySem.W.Frag) : Sp := fun vs H Q _ => ∃ (v : V) (t : KTm), vs = [v] ∧ Dp K H v (encT t) ∧ K72.pu t ∧ ∀ H', Same H H' → Q (.int ((K72.lvl t : Nat) : Int)) H'
section
variable {P : Program} {w : World} {K : PySem.W.Frag} {mg : Str → Option Value} {base : Heap} {f : Addr} {fd : FuncData} {n : Nat}
theorem ok_lev (F : Fun K "level_of" "level_of" (top 43) f fd) (L : Lv K w mg) : FnOk P w K mg base (L2.CX P w) 1 f fd ["term"] (spLev K) := by
  refine F.okX scLev (fun vs H Q E h => ?_) (fun cdv A' outer s₀ H vs Q E hr h => ?_)
  · obtain ⟨v, t, rfl, _⟩ := h
    rfl
  obtain ⟨v, t, rfl, D, hp, q⟩ := h
  obtain ⟨pl, mL, hL⟩ := L.lev
  obtain ⟨rest, e⟩ := enc_shape t hp
  have D0 := D
  rw [e] at D0
  obtain ⟨p, xs, rfl, hS, hA⟩ := dp_tupI D0
  obtain ⟨v0, r0, rfl, d0, hA2⟩ := dpa_consI hA
  cases dp_strI d0
  refine ⟨_, pss_cons (ps_if (pt_cmpR op_in_seq (pe_ix ix_tup (pv 0) pe_int (fun _ _ => rfl)) (pe_tup (pa_cons pe_str (pa_cons pe_str (pa_cons pe_str pa_nil)))) (by rfl)) (pss_one (ps_ret pe_int)) pss_nil)
    (pss_cons (ps_if (pt_cmpR op_eq (pe_ix ix_tup (pv 0) pe_int (fun _ _ => rfl)) pe_str (nomark _)) (pss_one (ps_ret (pe_ix ix_kdict (pe_glob (v := .ref pl) rfl mL rfl) (pe_ix ix_tup (pv 0) pe_int (fun _ _ => rfl)) (fun _ _ => rfl)))) pss_nil)
    (pss_cons (ps_if (pt_cmpR op_eq (pe_ix ix_tup (pv 0) pe_int (fun _ _ => rfl)) pe_str (nomark _)) (pss_one (ps_ret pe_int)) pss_nil)
    (pss_one (ps_ret pe_int)))), ?_⟩
  refine ⟨_, rfl, p, _, 0, _, rfl, rfl, hS, atI_nat (j := 0) rfl, (by show 3 ≤ sizeLine; decide), fun a na => ?_⟩
  refine ⟨a, _, rfl, .inr (SqT.of upd_same), rfl, rfl, _, rfl, ?_⟩
  have s1 : Same H (upd H a (.tup [.str "fun", .str "let", .str "case"])) := same_new na
  have hS1 : SqT K (upd H a (.tup [.str "fun", .str "let", .str "case"])) p (.str (srt t) :: r0) := seqT_stay (fun b o e _ => s1 b o e) hS
  show if inV (.str (srt t)) [.str "fun", .str "let", .str "case"] = true then _ else _
  rw [in3]
  refine ite2 (fun c => ?_) (fun c => ?_)
  · have e1 : K72.lvl t = 0 := by cases t <;> first | rfl | exact absurd c Bool.false_ne_true
    rw [e1] at q
    exact q _ s1
  refine ⟨_, rfl, p, _, 0, _, rfl, rfl, hS1, atI_nat (j := 0) rfl, rfl, _, rfl, ?_⟩
  show if decide (V.str (srt t) = V.str "op") = true then _ else _
  rw [eq_op]
  refine ite2 (fun c2 => ?_) (fun c2 => ?_)
  · cases t with
    | op o x y =>
      rw [encT] at e
      injection e with e
      injection e with e1 e2
      rw [← e2] at hA2
      obtain ⟨v1, r1, rfl, d1, hA3⟩ := dpa_consI hA2
      cases dp_strI d1
      exact ⟨_, rfl, p, _, 1, _, rfl, rfl, hS1, atI_nat (j := 1) rfl, pl, _, _, rfl, rfl, hL o, q _ s1⟩
    | _ => exact absurd c2 Bool.false_ne_true
  refine ⟨_, rfl, p, _, 0, _, rfl, rfl, hS1, atI_nat (j := 0) rfl, rfl, _, rfl, ?_⟩
  show if decide (V.str (srt t) = V.str "app") = true then _ else _
  rw [eq_app]
  refine ite2 (fun c3 => ?_) (fun c3 => ?_)
  · have e1 : K72.lvl t = 3 := by cases t <;> first | rfl | exact absurd c3 Bool.false_ne_true
    rw [e1] at q
    exact q _ s1
  · have e1 : K72.lvl t = 4 := by cases t <;> first | rfl | exact absurd rfl c | exact absurd rfl c2 | exact absurd rfl c3 | exact hp.elim
    rw [e1] at q
    exact q _ s1
end
end W72
/-! W23: shown, shown_fun. -/
namespace W72
open PySem L2
structure Ot (n : Nat) (t : KTm) : Prop where
  p : K72.pu t
  o : okN t
  d : K72.dp t ≤ n
  l : (lx false t).length ≤ 50000
/-- texts side by side -/
def rCS : R2 := fun x y H Q => ∃ a b : List Nat, x = .str (S a) ∧ y = .str (S b) ∧ a.length + b.length ≤ 16000000 ∧ Q (.str (S (a ++ b))) H
theorem op_cs {X : Cx} : OpR X (binaryOp .Add) rCS := by
  intro pins s σ H x y v u Q I rx ry h
  obtain ⟨a, b, rfl, rfl, hl, q⟩ := h
  refine op_add_str pins s σ H _ _ v u Q I rx ry ⟨_, _, rfl, rfl, ?_, ?_⟩
  · rw [SX.S_len, SX.S_len]; exact Nat.le_trans hl (by decide)
  · rw [SX.S_cat]; exact q
def spWh (K : PySem.W.Frag) (n : Nat) : Sp := fun vs H Q _ => ∃ (v : V) (t : KTm), vs = [v] ∧ Dp K H v (encT t) ∧ Ot n t ∧ ∀ H', Same H H' → Q (.str (S (textL (lx false t)))) H'
def spSh (K : PySem.W.Frag) (n : Nat) : Sp := fun vs H Q _ => ∃ (v : V) (t : KTm) (m : Nat), vs = [v, .int (m : Nat)] ∧ Dp K H v (encT t) ∧ Ot n t ∧ ∀ H', Same H H' → Q (.str (S (textL (lshB m t (lx false t))))) H'
theorem Ot.tl {n : Nat} {t : KTm} (h : Ot n t) : (textL (lx false t)).length ≤ 1000000 := Nat.le_trans (text_len (ok_lx false t h.o)) (by have := h.l; omega)
theorem Ot.tlB {n m : Nat} {t : KTm} (h : Ot n t) : (textL (lshB m t (lx false t))).length ≤ 1000002 := by
  unfold lshB
  split
  · show (40 :: textL (lx false t ++ [.tk .rp])).length ≤ _
    rw [text_app, List.length_cons, List.length_append]
    have := h.tl
    show (textL (lx false t)).length + 1 + 1 ≤ _
    omega
  · exact Nat.le_trans h.tl (by decide)
section
variable {P : Program} {w : World} {K : PySem.W.Frag} {mg : Str → Option Value} {base : Heap} {f : Addr} {fd : FuncData} {n k : Nat}
theorem ok_sh (F : Fun K "shown" "shown" (top 44) f fd) (hk : 1 ≤ k) (cW : Cl P w K mg base k "whole" (spWh K n)) (cL : Cl P w K mg base 1 "level_of" (spLev K)) : FnOk P w K mg base (L2.CX P w) (k + 1) f fd ["term", "level"] (spSh K n) := by
  refine F.okX scSh (fun vs H Q E h => ?_) (fun cdv A' outer s₀ H vs Q E hr h => ?_)
  · obtain ⟨v, t, m, rfl, _⟩ := h
    rfl
  obtain ⟨v, t, m, rfl, D, ot, q⟩ := h
  refine ⟨_, pss_cons (ps_set (i := 2) scSh.nd rfl (Or.inl rfl) (pe_cl cW hr pxN rfl (pa_cons (pv 0) pa_nil)))
    (pss_cons (ps_if (pt_cmpR op_lt (pe_cl cL (hr.mono (by omega)) pxN rfl (pa_cons (pv 0) pa_nil)) (pv 1) (nomark _)) (pss_one (ps_ret (pe_op op_cs (pe_op op_cs pe_str (pv 2)) pe_str))) pss_nil)
    (pss_one (ps_ret (pv 2)))), ?_⟩
  refine ⟨_, rfl, v, t, rfl, D, ot, fun H1 s1 => ?_⟩
  refine ⟨_, rfl, v, t, rfl, dp_same s1 D, ot.p, fun H2 s2 => ?_⟩
  refine ⟨_, rfl, _, _, rfl, rfl, _, rfl, ?_⟩
  have htl := ot.tl
  refine ite2 (fun c => ?_) (fun c => ?_)
  · have c' : K72.lvl t < m := by have := of_decide_eq_true c; omega
    have e : textL (lshB m t (lx false t)) = [40] ++ textL (lx false t) ++ [41] := by
      unfold lshB
      rw [if_pos c']
      show 40 :: textL (lx false t ++ [.tk .rp]) = _
      rw [text_app] <;> rfl
    rw [e] at q
    refine ⟨_, rfl, [40], _, by decide +kernel, rfl, by show 1 + _ ≤ _; omega, ?_⟩
    refine ⟨_, [41], rfl, by decide +kernel, by rw [List.length_append]; show 1 + _ + 1 ≤ _; omega, q H2 (s1.trans s2)⟩
  · have c' : ¬ K72.lvl t < m := fun z => c (decide_eq_true (by omega))
    have e : lshB m t (lx false t) = lx false t := if_neg c'
    rw [e] at q
    exact ⟨_, rfl, q H2 (s1.trans s2)⟩
end
def fnNames : KTm → List K72.L | .fn x b => x :: fnNames b | _ => []
def fnCore : KTm → KTm | .fn _ b => fnCore b | t => t
theorem lx_true : ∀ t : KTm, lx true t = lsm (fnNames t) ++ .sp :: .tk .arr :: .sp :: lx false (fnCore t)
  | .fn x b => by
    rw [lx, lx_true b] <;> rfl
  | .num _ => by simp only [lx, fnNames, fnCore, lsm, lpre]; rfl
  | .name _ => by simp only [lx, fnNames, fnCore, lsm, lpre]; rfl
  | .make _ => by simp only [lx, fnNames, fnCore, lsm, lpre]; rfl
  | .app .. => by simp only [lx, fnNames, fnCore, lsm, lpre]; rfl
  | .op .. => by simp only [lx, fnNames, fnCore, lsm, lpre]; rfl
  | .lt .. => by simp only [lx, fnNames, fnCore, lsm, lpre]; rfl
  | .cs .. => by simp only [lx, fnNames, fnCore, lsm, lpre]; rfl
  | .par _ => by simp only [lx, fnNames, fnCore, lsm, lpre]; rfl
theorem lx_fn (x : K72.L) (b : KTm) : lx false (.fn x b) = .tk .bs :: .tk (.small x) :: (lsm (fnNames b) ++ .sp :: .tk .arr :: .sp :: lx false (fnCore b)) := by
  rw [lx, lx_true] <;> rfl
theorem text_lsm : ∀ (x : K72.L) (xs : List K72.L), x ++ textL (lsm xs) = TL.joinL [32] (x :: xs)
  | x, [] => by show x ++ [] = x; rw [List.append_nil]
  | x, y :: r => by
    show x ++ 32 :: (y ++ textL (lsm r)) = x ++ ([32] ++ TL.joinL [32] (y :: r))
    rw [text_lsm y r] <;> rfl
theorem text_fn (x : K72.L) (b : KTm) : textL (lx false (.fn x b)) = [92] ++ TL.joinL [32] (x :: fnNames b) ++ [32, 45, 62, 32] ++ textL (lx false (fnCore b)) := by
  rw [lx_fn]
  show 92 :: (x ++ textL (lsm (fnNames b) ++ _)) = _
  rw [text_app, ← text_lsm]
  show 92 :: (x ++ (textL (lsm (fnNames b)) ++ 32 :: ([45, 62] ++ 32 :: textL (lx false (fnCore b))))) = _
  simp
theorem core_p : ∀ t, K72.pu t → K72.pu (fnCore t)
  | .fn _ b, h => core_p b h
  | .num _, h => h
  | .name _, h => h
  | .make _, h => h
  | .app .., h => h
  | .op .., h => h
  | .lt .., h => h
  | .cs .., h => h
  | .par _, h => h
theorem core_o : ∀ t, okN t → okN (fnCore t) ∧ ∀ x ∈ fnNames t, okS x
  | .fn x b, h => by
    obtain ⟨h1, h2⟩ := core_o b h.2
    exact ⟨h1, fun y m => by
      rcases List.mem_cons.mp m with e | m
      · rw [e]; exact h.1
      · exact h2 y m⟩
  | .num _, h => ⟨h, fun _ m => by cases m⟩
  | .name _, h => ⟨h, fun _ m => by cases m⟩
  | .make _, h => ⟨h, fun _ m => by cases m⟩
  | .app .., h => ⟨h, fun _ m => by cases m⟩
  | .op .., h => ⟨h, fun _ m => by cases m⟩
  | .lt .., h => ⟨h, fun _ m => by cases m⟩
  | .cs .., h => ⟨h, fun _ m => by cases m⟩
  | .par _, h => ⟨h, fun _ m => by cases m⟩
theorem core_d : ∀ t, K72.dp (fnCore t) ≤ K72.dp t
  | .fn _ b => Nat.le_succ_of_le (core_d b)
  | .num _ => Nat.le_refl _
  | .name _ => Nat.le_refl _
  | .make _ => Nat.le_refl _
  | .app .. => Nat.le_refl _
  | .op .. => Nat.le_refl _
  | .lt .. => Nat.le_refl _
  | .cs .. => Nat.le_refl _
  | .par _ => Nat.le_refl _
theorem core_nf : ∀ t, isFn (fnCore t) = false
  | .fn _ b => core_nf b
  | .num _ => rfl
  | .name _ => rfl
  | .make _ => rfl
  | .app .. => rfl
  | .op .. => rfl
  | .lt .. => rfl
  | .cs .. => rfl
  | .par _ => rfl
theorem lsm_len : ∀ xs : List K72.L, (lsm xs).length = 2 * xs.length
  | [] => rfl
  | x :: r => by
    show (lsm r).length + 1 + 1 = 2 * (r.length + 1)
    rw [lsm_len r]
    omega
theorem joinL_len (s : List Nat) : ∀ (y : List Nat) (r : List (List Nat)), (TL.joinL s (y :: r)).length + s.length = ((y :: r).map List.length).sum + (y :: r).length * s.length
  | y, [] => by simp [TL.joinL]
  | y, z :: r => by
    show (y ++ (s ++ TL.joinL s (z :: r))).length + s.length = _
    have ih := joinL_len s z r
    simp only [List.length_append, List.map_cons, List.sum_cons, List.length_cons] at ih ⊢
    have e : (r.length + 1 + 1) * s.length = (r.length + 1) * s.length + s.length := by rw [Nat.succ_mul]
    omega
theorem Ot.core {n : Nat} {x : K72.L} {b : KTm} (h : Ot (n + 1) (.fn x b)) : Ot n (fnCore b) ∧ (okS x ∧ ∀ y ∈ fnNames b, okS y) ∧ (fnNames b).length ≤ 50000 := by
  have hl := h.l
  rw [lx_fn, List.length_cons, List.length_cons, List.length_append, lsm_len, List.length_cons, List.length_cons, List.length_cons] at hl
  obtain ⟨o1, o2⟩ := core_o b h.o.2
  have hd : K72.dp b + 1 ≤ n + 1 := h.d
  have := core_d b
  exact ⟨⟨core_p b h.p, o1, by omega, by omega⟩, ⟨h.o.1, o2⟩, by omega⟩
end W72
/-! W24: shown_fun. -/
namespace W72
open PySem L2
theorem stxs_map (xs : List K72.L) : stxs xs = (xs.map S).map V.str := by rw [List.map_map] <;> rfl
theorem scSF : FnScope ["term", "names", "sort", "name"] ["term"] (defScope (top 46)) := ⟨rfl, rfl, rfl, by decide +kernel, rfl, by decide +kernel, by decide +kernel⟩
def spSF (K : PySem.W.Frag) (n : Nat) : Sp := fun vs H Q _ => ∃ (v : V) (x : K72.L) (b : KTm), vs = [v] ∧ Dp K H v (encT (.fn x b)) ∧ Ot (n + 1) (.fn x b) ∧ ∀ H', Same H H' → Q (.str (S (textL (lx false (.fn x b))))) H'
theorem names_len {xs : List K72.L} (h : ∀ x ∈ xs, okS x) : (xs.map List.length).sum ≤ 8 * xs.length := by
  induction xs with
  | nil => exact Nat.le_refl _
  | cons x r ih =>
    have h1 := (small_parts (h x (List.mem_cons_self ..))).2.1
    have h2 := ih fun y m => h y (List.mem_cons_of_mem _ m)
    simp only [List.map_cons, List.sum_cons, List.length_cons]
    omega
theorem join_cond {xs : List K72.L} {a : List Nat} (h : ∀ x ∈ xs, okS x) (ha : a.length ≤ 3) (hx : xs.length ≤ 60000) : (((xs.map S).map (·.length)).sum + (xs.map S).length * (S a).length ≤ 16777216) := by
  rw [SX.lens, SX.S_len, List.length_map]
  have h1 := names_len h
  have h2 : xs.length * a.length ≤ xs.length * 3 := Nat.mul_le_mul_left _ ha
  show (xs.map fun x => x.length).sum + _ ≤ _
  have e : (xs.map fun x => x.length).sum = (xs.map List.length).sum := rfl
  omega
section
variable {P : Program} {w : World} {K : PySem.W.Frag} {mg : Str → Option Value} {base : Heap} {f : Addr} {fd : FuncData} {n k : Nat}
theorem ok_sf (F : Fun K "shown_fun" "shown_fun" (top 46) f fd) (cW : Cl P w K mg base k "whole" (spWh K n)) : FnOk P w K mg base (L2.CX P w) (k + 1) f fd ["term"] (spSF K n) := by
  refine F.okX scSF (fun vs H Q E h => ?_) (fun cdv A' outer s₀ H vs Q E hr h => ?_)
  · obtain ⟨v, x, b, rfl, _⟩ := h
    rfl
  obtain ⟨v, x, b, rfl, D, ot, q⟩ := h
  refine ⟨_, pss_cons (ps_set (i := 1) scSF.nd rfl (Or.inl rfl) (pe_lst pa_nil))
    (pss_cons (ps_while (passes_of rfl) (pt_cmpR op_eq (pe_ix ix_tup (pv 0) pe_int (fun _ _ => rfl)) pe_str (nomark _))
      (pss_cons (ps_asg (pv 0) (pg_tup rfl (pgs_cons (pg_name (i := 2) scSF.nd rfl (Or.inl rfl)) (pgs_cons (pg_name (i := 3) scSF.nd rfl (Or.inl rfl)) (pgs_cons (pg_name (i := 0) scSF.nd rfl (Or.inl rfl)) pgs_nil)))))
      (pss_one (ps_expr (pe_bm PySem.F.plainAttrs_list PySem.F.slot_list_append PySem.F.type_list_append mt_append (pv 1) (pa_cons (pv 3) pa_nil))))))
    (pss_one (ps_ret (pe_op op_cs (pe_op op_cs (pe_op op_cs pe_str (pe_join pe_str (pv 1))) pe_str) (pe_cl cW hr pxN rfl (pa_cons (pv 0) pa_nil)))))), ?_⟩
  obtain ⟨oc, ⟨ox, on⟩, onl⟩ := ot.core
  refine ⟨Nat.zero_le _, fun p np => ?_⟩
  -- what is left, what has been named
  refine ⟨fun m σ H' => ∃ (ns : List K72.L) (t : KTm) (v' : V) (y2 y3 : Option V), σ = [some v', some (.ref p), y2, y3] ∧ Same H H' ∧ H' p = some (.lst (stxs ns)) ∧ Dp K H' v' (encT t) ∧ K72.pu t ∧ ns ++ fnNames t = x :: fnNames b ∧ fnCore t = fnCore b ∧ m = (fnNames t).length,
    ⟨_, [], .fn x b, v, _, _, rfl, same_new np, upd_same, dp_new np D, ot.p, rfl, rfl, rfl⟩, ?_⟩
  rintro m σ H1 ⟨ns, t, v', y2, y3, rfl, s1, hp1, D1, hpu, hns, hcr, rfl⟩
  obtain ⟨rest, e⟩ := enc_shape t hpu
  have D0 := D1
  rw [e] at D0
  obtain ⟨a, xs, rfl, hS, hA⟩ := dp_tupI D0
  obtain ⟨v0, r0, rfl, d0, hA2⟩ := dpa_consI hA
  cases dp_strI d0
  refine ⟨_, rfl, a, _, 0, _, rfl, rfl, hS, atI_nat (j := 0) rfl, rfl, _, rfl, ?_⟩
  show if decide (V.str (srt t) = V.str "fun") = true then _ else _
  rw [eq_fn]
  have hnl : ns.length ≤ 50001 := by
    have := congrArg List.length hns
    rw [List.length_append, List.length_cons] at this
    omega
  refine ite2 (fun c => ?_) (fun c => ?_)
  · cases t with
    | fn y d =>
      rw [encT] at e
      injection e with e
      injection e with e1 e2
      rw [← e2] at hA2
      obtain ⟨v1, r1, rfl, d1, hA3⟩ := dpa_consI hA2
      cases dp_strI d1
      obtain ⟨v2, r2, rfl, d2, hA4⟩ := dpa_consI hA3
      cases dpa_nilI hA4
      refine ⟨fun σ' H' => ∃ m', m' < (fnNames (.fn y d)).length ∧ ∃ (ns : List K72.L) (t : KTm) (v' : V) (y2 y3 : Option V), σ' = [some v', some (.ref p), y2, y3] ∧ Same H H' ∧ H' p = some (.lst (stxs ns)) ∧ Dp K H' v' (encT t) ∧ K72.pu t ∧ ns ++ fnNames t = x :: fnNames b ∧ fnCore t = fnCore b ∧ m' = (fnNames t).length, fun _ _ h => h, ?_⟩
      refine ⟨_, rfl, a, _, rfl, hS, rfl, _, _, rfl, _, _, rfl, _, _, rfl, rfl, ?_⟩
      refine ⟨_, rfl, .inl ⟨rfl, _, SqL.of hp1⟩, _, rfl, p, _, _, rfl, rfl, hp1, (by rw [len_stxs]; exact Nat.lt_of_le_of_lt hnl (by decide)), ?_⟩
      refine ⟨(fnNames d).length, Nat.lt_succ_self _, ns ++ [y], d, v2, _, _, rfl, fun b' o e' => by rw [upd_ne (ne_of_none e' np)]; exact s1 _ _ e', by rw [upd_same, show stxs (ns ++ [y]) = stxs ns ++ [V.str (S y)] from List.map_append ..], dp_stayT (upd_tp hp1 lst_notTp) (nl_enc d) d2, hpu, by rw [← hns, List.append_assoc] <;> rfl, hcr, rfl⟩
    | _ => exact absurd c Bool.false_ne_true
  · have hc : fnNames t = [] ∧ fnCore t = t := by cases t <;> first | exact ⟨rfl, rfl⟩ | exact absurd rfl c
    rw [hc.2] at hcr
    subst hcr
    rw [hc.1, List.append_nil] at hns
    subst hns
    rw [text_fn] at q
    rw [stxs_map] at hp1
    have okn : ∀ y ∈ x :: fnNames b, okS y := fun y m => by
      rcases List.mem_cons.mp m with z | m
      · rw [z]; exact ox
      · exact on y m
    have hj : (TL.joinL [32] (x :: fnNames b)).length ≤ 600000 := by
      have h1 := joinL_len [32] x (fnNames b)
      have h2 := names_len okn
      simp only [List.length_cons, List.length_nil] at h1 h2 hnl
      omega
    refine ⟨⟨" ", rfl⟩, _, rfl, _, p, (x :: fnNames b).map S, rfl, rfl, .inl (SqL.of hp1), ?_, ?_⟩
    · exact join_cond (a := [32]) okn (by decide) (by simp only [List.length_cons] at hnl ⊢; omega)
    rw [show ((" " : Str)) = S [32] by decide +kernel, SX.join_S]
    refine ⟨[92], _, by decide +kernel, rfl, by show 1 + _ ≤ _; omega, ?_⟩
    refine ⟨_, [32, 45, 62, 32], rfl, by decide +kernel, by rw [List.length_append]; show 1 + _ + 4 ≤ _; omega, ?_⟩
    refine ⟨_, rfl, _, _, rfl, D1, oc, fun H2 s2 => ?_⟩
    exact ⟨_, _, rfl, rfl, by rw [List.length_append, List.length_append]; have := oc.tl; show 1 + _ + 4 + _ ≤ _; omega, q H2 (s1.trans s2)⟩
end
end W72
/-! W25: whole. -/
namespace W72
open PySem L2
abbrev nWhole : List Str := ["term", "sort", "parts", "own", "left", "right", "rows", "name", "one", "maker", "names"]
theorem scWhole : FnScope nWhole ["term"] (defScope (top 45)) := ⟨rfl, rfl, rfl, by decide +kernel, rfl, by decide +kernel, by decide +kernel⟩
def encP (p : K72.L × KTm) : PyData := .tuple [.str (S p.1), encT p.2]
theorem encPs_map : ∀ ps, encPs ps = ps.map encP
  | [] => by simp [encPs]
  | (x, t) :: r => by rw [encPs, encPs_map r] <;> rfl
theorem dpa_get {K : PySem.W.Frag} {H : Hp} : ∀ {vs : List V} {ds : List PyData} {i : Nat} {v : V}, DpAll K H vs ds → vs[i]? = some v → ∃ d, ds[i]? = some d ∧ Dp K H v d
  | _, _, i, v, .nil, h => by simp at h
  | _, _, 0, v, .cons a b, h => ⟨_, rfl, by cases h; exact a⟩
  | _ :: vs, _ :: ds, i + 1, v, .cons a b, h => by
    obtain ⟨d, h1, h2⟩ := dpa_get (vs := vs) (ds := ds) (i := i) b (by simpa using h)
    exact ⟨d, by simpa using h1, h2⟩
def rowP (p : K72.L × KTm) : List Nat := p.1 ++ [32, 61, 32] ++ textL (lx false p.2)
def rowW (w : K72.L × List K72.L × KTm) : List Nat := TL.joinL [32] (w.1 :: w.2.1) ++ [32, 45, 62, 32] ++ textL (lx false w.2.2)
theorem text_ps : ∀ ps : List (K72.L × KTm), textL (lxPs ps) = TL.joinL [32, 59, 32] (ps.map rowP)
  | [] => by rw [lxPs] <;> rfl
  | [(x, t)] => by
    rw [lxPs]
    show x ++ 32 :: ([61] ++ 32 :: textL (lx false t ++ [])) = x ++ [32, 61, 32] ++ textL (lx false t)
    rw [List.append_nil]
    simp
  | (x, t) :: y :: r => by
    rw [lxPs]
    show x ++ 32 :: ([61] ++ 32 :: textL (lx false t ++ _)) = rowP (x, t) ++ ([32, 59, 32] ++ TL.joinL [32, 59, 32] ((y :: r).map rowP))
    rw [text_app, ← text_ps (y :: r)]
    show x ++ 32 :: ([61] ++ 32 :: (textL (lx false t) ++ 32 :: ([59] ++ 32 :: textL (lxPs (y :: r))))) = x ++ [32, 61, 32] ++ textL (lx false t) ++ _
    simp
theorem text_ws : ∀ ws : List (K72.L × List K72.L × KTm), textL (lxWs ws) = TL.joinL [32, 59, 32] (ws.map rowW)
  | [] => by rw [lxWs] <;> rfl
  | [(c, xs, t)] => by
    rw [lxWs]
    show c ++ textL (lsm xs ++ .sp :: .tk .arr :: .sp :: (lx false t ++ [])) = TL.joinL [32] (c :: xs) ++ [32, 45, 62, 32] ++ textL (lx false t)
    rw [text_app, List.append_nil, ← text_lsm]
    show c ++ (textL (lsm xs) ++ 32 :: ([45, 62] ++ 32 :: textL (lx false t))) = _
    simp
  | (c, xs, t) :: y :: r => by
    rw [lxWs]
    show c ++ textL (lsm xs ++ .sp :: .tk .arr :: .sp :: (lx false t ++ .sp :: .tk .semi :: .sp :: lxWs (y :: r))) = rowW (c, xs, t) ++ ([32, 59, 32] ++ TL.joinL [32, 59, 32] ((y :: r).map rowW))
    rw [text_app, ← text_ws (y :: r)]
    show c ++ (textL (lsm xs) ++ 32 :: ([45, 62] ++ 32 :: textL (lx false t ++ .sp :: .tk .semi :: .sp :: lxWs (y :: r)))) = TL.joinL [32] (c :: xs) ++ [32, 45, 62, 32] ++ textL (lx false t) ++ _
    rw [text_app, ← text_lsm]
    show c ++ (textL (lsm xs) ++ 32 :: ([45, 62] ++ 32 :: (textL (lx false t) ++ 32 :: ([59] ++ 32 :: textL (lxWs (y :: r)))))) = _
    simp
theorem text_let (ps : List (K72.L × KTm)) (b : KTm) : textL (lx false (.lt ps b)) = [108, 101, 116, 32, 123, 32] ++ TL.joinL [32, 59, 32] (ps.map rowP) ++ [32, 125, 32, 105, 110, 32] ++ textL (lx false b) := by
  rw [lx, ← text_ps]
  show [108, 101, 116] ++ 32 :: ([123] ++ 32 :: textL (lxPs ps ++ _)) = _
  rw [text_app]
  show [108, 101, 116] ++ 32 :: ([123] ++ 32 :: (textL (lxPs ps) ++ 32 :: ([125] ++ 32 :: ([105, 110] ++ 32 :: textL (lx false b))))) = _
  simp
theorem text_case (e : KTm) (ws : List (K72.L × List K72.L × KTm)) : textL (lx false (.cs e ws)) = [99, 97, 115, 101, 32] ++ textL (lx false e) ++ [32, 111, 102, 32, 123, 32] ++ TL.joinL [32, 59, 32] (ws.map rowW) ++ [32, 125] := by
  rw [lx, ← text_ws]
  show [99, 97, 115, 101] ++ 32 :: textL (lx false e ++ _) = _
  rw [text_app]
  show [99, 97, 115, 101] ++ 32 :: (textL (lx false e) ++ 32 :: ([111, 102] ++ 32 :: ([123] ++ 32 :: textL (lxWs ws ++ _)))) = _
  rw [text_app]
  show [99, 97, 115, 101] ++ 32 :: (textL (lx false e) ++ 32 :: ([111, 102] ++ 32 :: ([123] ++ 32 :: (textL (lxWs ws) ++ 32 :: [125])))) = _
  simp
theorem text_op (o : K72.Op) (a b : KTm) : textL (lx false (.op o a b)) = textL (lshB (max (K72.ow o) 1) a (lx false a)) ++ [32] ++ opL o ++ [32] ++ textL (lshB (K72.ow o + 1) b (lx false b)) := by
  rw [lx]
  show textL (lshB (max (K72.ow o) 1) a (lx false a) ++ _) = _
  rw [text_app]
  show _ ++ 32 :: (opL o ++ 32 :: textL (lshB (K72.ow o + 1) b (lx false b))) = _
  simp
theorem text_apl (a b : KTm) : textL (lx false (.app a b)) = textL (lshB 3 a (lx false a)) ++ [32] ++ textL (lshB 4 b (lx false b)) := by
  rw [lx]
  show textL (lshB 3 a (lx false a) ++ _) = _
  rw [text_app]
  show _ ++ 32 :: textL (lshB 4 b (lx false b)) = _
  simp
theorem lshB_len {m : Nat} {t : KTm} : (lx false t).length ≤ (lshB m t (lx false t)).length := by
  unfold lshB
  split
  · rw [List.length_cons, List.length_append]; omega
  · exact Nat.le_refl _
theorem ps_mem : ∀ {ps : List (K72.L × KTm)} {p}, p ∈ ps → (lx false p.2).length ≤ (lxPs ps).length ∧ K72.dp p.2 ≤ K72.dpPs ps ∧ (okNPs ps → okS p.1 ∧ okN p.2) ∧ (K72.puPs ps → K72.pu p.2)
  | [], p, h => by cases h
  | (x, t) :: r, p, h => by
    have e : (lxPs ((x, t) :: r)).length = 4 + (lx false t).length + (if r.isEmpty then 0 else 3 + (lxPs r).length) := by
      rw [lxPs]
      simp only [List.length_cons, List.length_append]
      split
      · simp; omega
      · simp only [List.length_cons]; omega
    rcases List.mem_cons.mp h with z | m
    · subst z
      exact ⟨by rw [e]; show (lx false t).length ≤ _; omega, Nat.le_max_left _ _, fun o => ⟨o.1, o.2.1⟩, fun o => o.1⟩
    · obtain ⟨h1, h2, h3, h4⟩ := ps_mem m
      refine ⟨?_, Nat.le_trans h2 (Nat.le_max_right _ _), fun o => h3 o.2.2, fun o => h4 o.2⟩
      cases r with
      | nil => cases m
      | cons y r => rw [e, if_neg (by simp)]; omega
theorem ps_cnt : ∀ ps : List (K72.L × KTm), ps.length ≤ (lxPs ps).length
  | [] => Nat.zero_le _
  | (x, t) :: r => by
    have := ps_cnt r
    rw [lxPs]
    simp only [List.length_cons, List.length_append]
    cases r with
    | nil => simp
    | cons y r => simp only [List.isEmpty_cons, Bool.false_eq_true, if_false, List.length_cons] at this ⊢; omega
theorem ws_mem : ∀ {ws : List (K72.L × List K72.L × KTm)} {w}, w ∈ ws → (lx false w.2.2).length + 2 * w.2.1.length ≤ (lxWs ws).length ∧ K72.dp w.2.2 ≤ K72.dpWs ws ∧ (okNWs ws → isGreat w.1 = true ∧ (∀ x ∈ w.2.1, okS x) ∧ okN w.2.2) ∧ (K72.puWs ws → K72.pu w.2.2)
  | [], p, h => by cases h
  | (c, xs, t) :: r, p, h => by
    have e : (lxWs ((c, xs, t) :: r)).length = 4 + 2 * xs.length + (lx false t).length + (if r.isEmpty then 0 else 3 + (lxWs r).length) := by
      rw [lxWs]
      simp only [List.length_cons, List.length_append, lsm_len]
      split
      · simp; omega
      · simp only [List.length_cons]; omega
    rcases List.mem_cons.mp h with z | m
    · subst z
      exact ⟨by rw [e]; show (lx false t).length + 2 * xs.length ≤ _; omega, Nat.le_max_left _ _, fun o => ⟨o.1, o.2.1, o.2.2.1⟩, fun o => o.1⟩
    · obtain ⟨h1, h2, h3, h4⟩ := ws_mem m
      refine ⟨?_, Nat.le_trans h2 (Nat.le_max_right _ _), fun o => h3 o.2.2.2, fun o => h4 o.2⟩
      cases r with
      | nil => cases m
      | cons y r => rw [e, if_neg (by simp)]; omega
theorem ws_cnt : ∀ ws : List (K72.L × List K72.L × KTm), ws.length ≤ (lxWs ws).length
  | [] => Nat.zero_le _
  | (c, xs, t) :: r => by
    have := ws_cnt r
    rw [lxWs]
    simp only [List.length_cons, List.length_append]
    cases r with
    | nil => simp
    | cons y r => simp only [List.isEmpty_cons, Bool.false_eq_true, if_false, List.length_cons] at this ⊢; omega
theorem ot_app {n : Nat} {a b : KTm} (h : Ot (n + 1) (.app a b)) : Ot n a ∧ Ot n b := by
  have hl := h.l
  rw [lx] at hl
  simp only [lpre, List.nil_append, List.length_append, List.length_cons] at hl
  have h1 := lshB_len (m := 3) (t := a)
  have h2 := lshB_len (m := 4) (t := b)
  have hd : max (K72.dp a) (K72.dp b) + 1 ≤ n + 1 := h.d
  exact ⟨⟨h.p.1, h.o.1, by omega, by omega⟩, ⟨h.p.2, h.o.2, by omega, by omega⟩⟩
theorem ot_op {n : Nat} {o : K72.Op} {a b : KTm} (h : Ot (n + 1) (.op o a b)) : Ot n a ∧ Ot n b := by
  have hl := h.l
  rw [lx] at hl
  simp only [lpre, List.nil_append, List.length_append, List.length_cons] at hl
  have h1 := lshB_len (m := max (K72.ow o) 1) (t := a)
  have h2 := lshB_len (m := K72.ow o + 1) (t := b)
  have hd : max (K72.dp a) (K72.dp b) + 1 ≤ n + 1 := h.d
  exact ⟨⟨h.p.1, h.o.1, by omega, by omega⟩, ⟨h.p.2, h.o.2, by omega, by omega⟩⟩
theorem ot_let {n : Nat} {ps : List (K72.L × KTm)} {b : KTm} (h : Ot (n + 1) (.lt ps b)) : Ot n b ∧ (∀ p ∈ ps, okS p.1 ∧ Ot n p.2) ∧ ps.length ≤ 50000 := by
  have hl := h.l
  rw [lx] at hl
  simp only [lpre, List.nil_append, List.length_append, List.length_cons] at hl
  have hd : max (K72.dpPs ps) (K72.dp b) + 1 ≤ n + 1 := h.d
  refine ⟨⟨h.p.2, h.o.2, by omega, by omega⟩, fun p m => ?_, by have := ps_cnt ps; omega⟩
  obtain ⟨h1, h2, h3, h4⟩ := ps_mem m
  exact ⟨(h3 h.o.1).1, h4 h.p.1, (h3 h.o.1).2, by omega, by omega⟩
theorem ot_case {n : Nat} {e : KTm} {ws : List (K72.L × List K72.L × KTm)} (h : Ot (n + 1) (.cs e ws)) : Ot n e ∧ (∀ w ∈ ws, isGreat w.1 = true ∧ (∀ x ∈ w.2.1, okS x) ∧ w.2.1.length ≤ 50000 ∧ Ot n w.2.2) ∧ ws.length ≤ 50000 := by
  have hl := h.l
  rw [lx] at hl
  simp only [lpre, List.nil_append, List.length_append, List.length_cons] at hl
  have hd : max (K72.dp e) (K72.dpWs ws) + 1 ≤ n + 1 := h.d
  refine ⟨⟨h.p.1, h.o.1, by omega, by omega⟩, fun p m => ?_, by have := ws_cnt ws; omega⟩
  obtain ⟨h1, h2, h3, h4⟩ := ws_mem m
  exact ⟨(h3 h.o.2).1, (h3 h.o.2).2.1, by omega, h4 h.p.2, (h3 h.o.2).2.2, by omega, by omega⟩
theorem rows_cond {L : List (List Nat)} (h : (TL.joinL [32, 59, 32] L).length ≤ 1000000) : (((L.map S).map (·.length)).sum + (L.map S).length * (S [32, 59, 32]).length ≤ 16777216) := by
  rw [SX.lens, SX.S_len, List.length_map]
  cases L with
  | nil => simp
  | cons y r =>
    have e := joinL_len [32, 59, 32] y r
    show ((y :: r).map List.length).sum + (y :: r).length * 3 ≤ _
    have e2 : ([32, 59, 32] : List Nat).length = 3 := rfl
    rw [e2] at e
    omega
end W72
/-! W26: whole, its walk. -/
namespace W72
open PySem L2
theorem num_str (n : Nat) : (toString ((n : Nat) : Int) : Str) = S (TL.numL n) := SX.num_S n
theorem dpa_strsI {K : PySem.W.Frag} {H : Hp} : ∀ {ns : List K72.L} {xs : List V}, DpAll K H xs (ns.map fun x => PyData.str (S x)) → xs = stxs ns
  | [], xs, h => dpa_nilI h
  | x :: r, xs, h => by
    obtain ⟨v, u, rfl, d, g⟩ := dpa_consI h
    cases dp_strI d
    rw [dpa_strsI g] <;> rfl
/-- one level lower, where there is one -/
def lower (sp : Nat → Sp) (n : Nat) : Sp := fun vs H Q E => ∃ m, n = m + 1 ∧ sp m vs H Q E
def rJoin (K : PySem.W.Frag) : V → List V → Hp → VK → Prop := fun x xs H Q => ∃ a p, ∃ ys : List Str, x = .str a ∧ xs = [.ref p] ∧ (SqL K H p (ys.map V.str) ∨ SqT K H p (ys.map V.str)) ∧
    (ys.map (·.length)).sum + ys.length * a.length ≤ 16777216 ∧ Q (.str (Txt.join a ys)) H
def rLst (K : PySem.W.Frag) : List V → Hp → VK → Prop := fun xs H Q => ∃ p ys, xs = [.ref p] ∧ (SqL K H p ys ∨ SqT K H p ys) ∧ ∀ l, H l = none → Q (.ref l) (upd H l (.lst ys))
def teCase (K : PySem.W.Frag) (n : Nat) : TE := tOp rCS (tOp rCS (tM1 (rJoin K) (tC (.str " ")) (tOp rCat (tLst (tCons (tVar 9) tNil)) (tCB (rLst K) (tCons (tVar 10) tNil)))) (tC (.str " -> "))) (tCall (lower (spWh K) n) [] E0 (tCons (tVar 8) tNil))
section
variable {P : Program} {w : World} {K : PySem.W.Frag} {mg : Str → Option Value} {base : Heap} {f : Addr} {fd : FuncData} {n k : Nat}
theorem Cl.imp {x : Str} {sp sp' : Sp} (c : Cl P w K mg base k x sp) (h : ∀ vs H Q E, sp' vs H Q E → sp vs H Q E) : Cl P w K mg base k x sp' := by
  obtain ⟨f, fd, ps, F, a, b, d⟩ := c.ex
  exact ⟨f, fd, ps, F.imp h, a, b, d⟩
theorem Df.low {x : Str} {st : Stmt} {ps : List Str} {sp : Nat → Sp} (d : Df K mg x st ps) (h : ∀ m, n = m + 1 → Cl P w K mg base k x (sp m)) : Cl P w K mg base k x (lower sp n) := by
  cases n with
  | zero => exact d.cl0 fun vs H Q E z => by obtain ⟨m, e, _⟩ := z; cases e
  | succ m =>
      exact (h m rfl).imp fun vs H Q E z => by
        obtain ⟨m', e, z⟩ := z
        have : m' = m := by omega
        rw [← this]; exact z
theorem ok_whole (F : Fun K "whole" "whole" (top 45) f fd) (L : Lv K w mg) (Z : Bl mg) (hk : 1 ≤ k) (cW : Cl P w K mg base k "whole" (lower (spWh K) n)) (cS : Cl P w K mg base (k + 1) "shown" (lower (spSh K) n)) (cF : Cl P w K mg base (k + 1) "shown_fun" (lower (spSF K) n)) :
    FnOk P w K mg base (L2.CX P w) (k + 2) f fd ["term"] (spWh K n) := by
  refine F.okX scWhole (fun vs H Q E h => ?_) (fun cdv A' outer s₀ H vs Q E hr h => ?_)
  · obtain ⟨v, t, rfl, _⟩ := h
    rfl
  obtain ⟨v, t, rfl, D, ot, q⟩ := h
  obtain ⟨pl, mL, hL⟩ := L.lev
  refine ⟨_, pss_cons (ps_asg (pv 0) (pg_star rfl (pg_name (i := 1) scWhole.nd rfl (Or.inl rfl)) (pg_name (i := 2) scWhole.nd rfl (Or.inl rfl))))
    (pss_cons (ps_if (pt_cmpR op_eq (pv 1) pe_str (nomark _))
      (pss_cons (ps_set (i := 3) scWhole.nd rfl (Or.inl rfl) (pe_ix ix_kdict (pe_glob (v := .ref pl) rfl mL rfl) (pe_ix ix_list (pv 2) pe_int (fun _ _ => rfl)) (fun _ _ => rfl)))
      (pss_cons (ps_par (i := 4) (j := 5) rfl scWhole.nd rfl rfl (by decide) rfl rfl (pa_cons (pe_callB (call_max2 rfl) rfl Z.max (by decide +kernel) (pa_cons (pv 3) (pa_cons pe_int pa_nil))) (pa_cons (pe_op op_add (pv 3) pe_int) pa_nil)) (by rfl))
      (pss_one (ps_ret (pe_op op_cs (pe_op op_cs (pe_op op_cs (pe_op op_cs (pe_cl cS hr pxN rfl (pa_cons (pe_ix ix_list (pv 2) pe_int (fun _ _ => rfl)) (pa_cons (pv 4) pa_nil))) pe_str) (pe_ix ix_list (pv 2) pe_int (fun _ _ => rfl))) pe_str)
        (pe_cl cS hr pxN rfl (pa_cons (pe_ix ix_list (pv 2) pe_int (fun _ _ => rfl)) (pa_cons (pv 5) pa_nil)))))))) pss_nil)
    (pss_cons (ps_if (pt_cmpR op_eq (pv 1) pe_str (nomark _))
      (pss_one (ps_ret (pe_op op_cs (pe_op op_cs (pe_cl cS hr pxN rfl (pa_cons (pe_ix ix_list (pv 2) pe_int (fun _ _ => rfl)) (pa_cons pe_int pa_nil))) pe_str) (pe_cl cS hr pxN rfl (pa_cons (pe_ix ix_list (pv 2) pe_int (fun _ _ => rfl)) (pa_cons pe_int pa_nil)))))) pss_nil)
    (pss_cons (ps_if (pt_cmpR op_eq (pv 1) pe_str (nomark _)) (pss_one (ps_ret (pe_cl cF hr pxN rfl (pa_cons (pv 0) pa_nil)))) pss_nil)
    (pss_cons (ps_if (pt_cmpR op_eq (pv 1) pe_str (nomark _))
      (pss_cons (ps_setLc (i := 6) (own := [("name", 7), ("one", 8)]) (g := gTup K 2 (gCons (gName 7) (gCons (gName 8) gNil))) (tt := tYes) rfl scWhole.nd rfl rfl (sw_true rfl rfl rfl (by decide +kernel)) (pi_tup (pe_ix ix_list (pv 2) pe_int (fun _ _ => rfl))) (blkOk_by (N := nWhole) (sc := defScope (top 45)) (by decide +kernel))
        (fun _ _ _ _ _ => pg_tup rfl (pgs_cons (pg_name (i := 7) scWhole.nd rfl (Or.inl rfl)) (pgs_cons (pg_name (i := 8) scWhole.nd rfl (Or.inl rfl)) pgs_nil))) (fun _ _ _ _ _ => pts_nil)
        (fun _ _ _ _ _ => pe_op op_cs (pe_op op_cs (pv 7) pe_str) (pe_cl cW (hr.mono (by omega)) pxN rfl (pa_cons (pv 8) pa_nil))))
      (pss_one (ps_ret (pe_op op_cs (pe_op op_cs (pe_op op_cs pe_str (pe_join pe_str (pv 6))) pe_str) (pe_cl cW (hr.mono (by omega)) pxN rfl (pa_cons (pe_ix ix_list (pv 2) pe_int (fun _ _ => rfl)) pa_nil)))))) pss_nil)
    (pss_cons (ps_if (pt_cmpR op_eq (pv 1) pe_str (nomark _))
      (pss_cons (ps_setLc (i := 6) (own := [("maker", 9), ("names", 10), ("one", 8)]) (g := gTup K 3 (gCons (gName 9) (gCons (gName 10) (gCons (gName 8) gNil)))) (te := teCase K n) (tt := tYes) rfl scWhole.nd rfl rfl (sw_true rfl rfl rfl (by decide +kernel)) (pi_tup (pe_ix ix_list (pv 2) pe_int (fun _ _ => rfl))) (blkOk_by (N := nWhole) (sc := defScope (top 45)) (by decide +kernel))
        (fun _ _ _ _ _ => pg_tup rfl (pgs_cons (pg_name (i := 9) scWhole.nd rfl (Or.inl rfl)) (pgs_cons (pg_name (i := 10) scWhole.nd rfl (Or.inl rfl)) (pgs_cons (pg_name (i := 8) scWhole.nd rfl (Or.inl rfl)) pgs_nil)))) (fun _ _ _ _ _ => pts_nil)
        (fun _ _ _ _ _ => by
          unfold teCase
          refine pe_op op_cs (pe_op op_cs (pe_join pe_str ?_) pe_str) (pe_cl cW (hr.mono (by omega)) pxN rfl (pa_cons (pv 8) pa_nil))
          exact pe_op op_cat (pe_lst (pa_cons (pv 9) pa_nil)) (pe_callTy call_list_of rfl Z.list (by decide +kernel) (pa_cons (pv 10) pa_nil))))
      (pss_one (ps_ret (pe_op op_cs (pe_op op_cs (pe_op op_cs (pe_op op_cs pe_str (pe_cl cW (hr.mono (by omega)) pxN rfl (pa_cons (pe_ix ix_list (pv 2) pe_int (fun _ _ => rfl)) pa_nil))) pe_str) (pe_join pe_str (pv 6))) pe_str)))) pss_nil)
    (pss_one (ps_ret (pe_callTy (call_str_int.or SkE.call_str_str) rfl Z.str (by decide +kernel) (pa_cons (pe_ix ix_list (pv 2) pe_int (fun _ _ => rfl)) pa_nil))))))))), ?_⟩
  obtain ⟨rest, e⟩ := enc_shape t ot.p
  have D0 := D
  rw [e] at D0
  obtain ⟨p, xs, rfl, hS, hA⟩ := dp_tupI D0
  obtain ⟨v0, r0, rfl, d0, hA2⟩ := dpa_consI hA
  cases dp_strI d0
  have hr0 : r0.length ≤ 1000 := by
    rw [dpa_len hA2]
    cases t with
    | par x => exact ot.p.elim
    | _ => rw [encT] at e; injection e with e; injection e with _ e; rw [← e]; simp
  refine ⟨_, rfl, p, _, r0, rfl, hS, hr0, fun Dl nD => ?_⟩
  generalize hH1 : upd H Dl (.lst r0) = H1
  have s1 : Same H H1 := by rw [← hH1]; exact same_new nD
  have hD1 : H1 Dl = some (.lst r0) := by rw [← hH1]; exact upd_same
  have A1 : DpAll K H1 r0 rest := dpa_stay (fun b o e _ => s1 b o e) hA2
  refine ⟨_, rfl, rfl, _, rfl, ?_⟩
  show if decide (V.str (srt t) = V.str "op") = true then _ else _
  rw [eq_op]
  refine ite2 (fun c => ?_) (fun c => ?_)
  · cases t with
    | op o a b =>
      have hd := ot.d
      obtain ⟨m, rfl⟩ : ∃ m, n = m + 1 := ⟨n - 1, by
        have : max (K72.dp a) (K72.dp b) + 1 ≤ n := hd
        omega⟩
      obtain ⟨oa, ob⟩ := ot_op ot
      rw [encT] at e
      injection e with e
      injection e with e1 e2
      rw [← e2] at A1
      obtain ⟨v1, r1, rfl, d1, A2⟩ := dpa_consI A1
      cases dp_strI d1
      obtain ⟨va, r2, rfl, da, A3⟩ := dpa_consI A2
      obtain ⟨vb, r3, rfl, db, A4⟩ := dpa_consI A3
      cases dpa_nilI A4
      have la := oa.tlB (m := max (K72.ow o) 1)
      have lb := ob.tlB (m := K72.ow o + 1)
      have lo : (opL o).length ≤ 2 := by cases o <;> decide
      rw [text_op] at q
      refine ⟨_, rfl, Dl, _, 0, _, rfl, rfl, SqL.of hD1, atI_nat (j := 0) rfl, pl, _, _, rfl, rfl, hL o, ?_⟩
      refine ⟨_, rfl, _, _, rfl, _, rfl, _, _, rfl, rfl, _, _, rfl, ?_⟩
      refine ⟨_, rfl, Dl, _, 1, _, rfl, rfl, SqL.of hD1, atI_nat (j := 1) rfl, _, rfl, m, rfl, va, a, max (K72.ow o) 1, by cases o <;> rfl, da, oa, fun H2 s2 => ?_⟩
      refine ⟨_, [32], rfl, by decide +kernel, by show _ + 1 ≤ _; omega, ?_⟩
      refine ⟨_, rfl, Dl, _, 0, _, rfl, rfl, SqL.of (s2 _ _ hD1), atI_nat (j := 0) rfl, _, opL o, rfl, congrArg V.str (told_S (.op o)), by rw [List.length_append]; show _ + 1 + _ ≤ _; omega, ?_⟩
      refine ⟨_, [32], rfl, by decide +kernel, by rw [List.length_append, List.length_append]; show _ + 1 + _ + 1 ≤ _; omega, ?_⟩
      refine ⟨_, rfl, Dl, _, 2, _, rfl, rfl, SqL.of (s2 _ _ hD1), atI_nat (j := 2) rfl, _, rfl, m, rfl, vb, b, K72.ow o + 1, by cases o <;> rfl, dp_same s2 db, ob, fun H3 s3 => ?_⟩
      exact ⟨_, _, rfl, rfl, by rw [List.length_append, List.length_append, List.length_append]; show _ + 1 + _ + 1 + _ ≤ _; omega, q H3 (s1.trans (s2.trans s3))⟩
    | _ => exact absurd c Bool.false_ne_true
  refine ⟨_, rfl, rfl, _, rfl, ?_⟩
  show if decide (V.str (srt t) = V.str "app") = true then _ else _
  rw [eq_app]
  refine ite2 (fun c2 => ?_) (fun c2 => ?_)
  · cases t with
    | app a b =>
      have hd := ot.d
      obtain ⟨m, rfl⟩ : ∃ m, n = m + 1 := ⟨n - 1, by
        have : max (K72.dp a) (K72.dp b) + 1 ≤ n := hd
        omega⟩
      obtain ⟨oa, ob⟩ := ot_app ot
      rw [encT] at e
      injection e with e
      injection e with e1 e2
      rw [← e2] at A1
      obtain ⟨va, r2, rfl, da, A3⟩ := dpa_consI A1
      obtain ⟨vb, r3, rfl, db, A4⟩ := dpa_consI A3
      cases dpa_nilI A4
      have la := oa.tlB (m := 3)
      have lb := ob.tlB (m := 4)
      rw [text_apl] at q
      refine ⟨_, rfl, Dl, _, 0, _, rfl, rfl, SqL.of hD1, atI_nat (j := 0) rfl, m, rfl, va, a, 3, rfl, da, oa, fun H2 s2 => ?_⟩
      refine ⟨_, [32], rfl, by decide +kernel, by show _ + 1 ≤ _; omega, ?_⟩
      refine ⟨_, rfl, Dl, _, 1, _, rfl, rfl, SqL.of (s2 _ _ hD1), atI_nat (j := 1) rfl, m, rfl, vb, b, 4, rfl, dp_same s2 db, ob, fun H3 s3 => ?_⟩
      exact ⟨_, _, rfl, rfl, by rw [List.length_append]; show _ + 1 + _ ≤ _; omega, q H3 (s1.trans (s2.trans s3))⟩
    | _ => exact absurd c2 Bool.false_ne_true
  refine ⟨_, rfl, rfl, _, rfl, ?_⟩
  show if decide (V.str (srt t) = V.str "fun") = true then _ else _
  rw [eq_fn]
  refine ite2 (fun c3 => ?_) (fun c3 => ?_)
  · cases t with
    | fn x b =>
      have hd := ot.d
      obtain ⟨m, rfl⟩ : ∃ m, n = m + 1 := ⟨n - 1, by
        have : K72.dp b + 1 ≤ n := hd
        omega⟩
      exact ⟨_, rfl, m, rfl, _, x, b, rfl, dp_same s1 D, ot, fun H2 s2 => q H2 (s1.trans s2)⟩
    | _ => exact absurd c3 Bool.false_ne_true
  refine ⟨_, rfl, rfl, _, rfl, ?_⟩
  show if decide (V.str (srt t) = V.str "let") = true then _ else _
  rw [eq_lt]
  refine ite2 (fun c4 => ?_) (fun c4 => ?_)
  · cases t with
    | lt ps b =>
      have hd := ot.d
      obtain ⟨m, rfl⟩ : ∃ m, n = m + 1 := ⟨n - 1, by
        have : max (K72.dpPs ps) (K72.dp b) + 1 ≤ n := hd
        omega⟩
      obtain ⟨ob, ops, lps⟩ := ot_let ot
      rw [encT] at e
      injection e with e
      injection e with e1 e2
      rw [← e2] at A1
      obtain ⟨va, r2, rfl, da, A3⟩ := dpa_consI A1
      obtain ⟨vb, r3, rfl, db, A4⟩ := dpa_consI A3
      cases dpa_nilI A4
      obtain ⟨pp, xps, rfl, hPS, hPA⟩ := dp_tupI da
      rw [encPs_map] at hPA
      have hxl : xps.length = ps.length := by rw [dpa_len hPA, List.length_map]
      have ltx := ot.tl
      rw [text_let] at q ltx
      simp only [List.length_append] at ltx
      have e6 : ([108, 101, 116, 32, 123, 32] : List Nat).length = 6 := rfl
      have e7 : ([32, 125, 32, 105, 110, 32] : List Nat).length = 6 := rfl
      refine ⟨_, rfl, Dl, _, 0, _, rfl, rfl, SqL.of hD1, atI_nat (j := 0) rfl, pp, rfl, ⟨_, hPS⟩, fun Dr nDr => ?_⟩
      refine lc_it walk_tup (fun i H' => Same H1 H' ∧ H' Dr = some (.lst (((ps.map rowP).take i).map fun a => V.str (S a)))) ⟨same_new nDr, by rw [upd_same] <;> rfl⟩ (fun i H' _ h => seqT_stay (fun b o e _ => h.1 b o e) hPS) ?_ ?_
      · rintro i x H2 H2' hi ⟨s2, h2⟩ ⟨rfl, hx⟩
        obtain ⟨d, hd1, hd2⟩ := dpa_get hPA hx
        rw [List.getElem?_map] at hd1
        have hi' : i < ps.length := by rw [← hxl]; exact hi
        rw [List.getElem?_eq_getElem hi'] at hd1
        cases hd1
        have hmem : ps[i] ∈ ps := List.getElem_mem hi'
        obtain ⟨okx, oti⟩ := ops _ hmem
        obtain ⟨pi, xi, rfl, hSi, hAi⟩ := dp_tupI (dp_same s2 hd2)
        obtain ⟨v1, r1, rfl, d1, B2⟩ := dpa_consI hAi
        cases dp_strI d1
        obtain ⟨v2, r2, rfl, d2, B3⟩ := dpa_consI B2
        cases dpa_nilI B3
        refine ⟨pi, _, rfl, hSi, rfl, _, _, rfl, _, _, rfl, rfl, rfl, ?_⟩
        have l1 := (small_parts okx).2.1
        have l2 := oti.tl
        refine ⟨_, rfl, _, [32, 61, 32], rfl, by decide +kernel, by show _ + 3 ≤ _; omega, ?_⟩
        refine ⟨_, rfl, m, rfl, v2, ps[i].2, rfl, d2, oti, fun H3 s3 => ?_⟩
        refine ⟨_, _, rfl, rfl, by rw [List.length_append]; show _ + 3 + _ ≤ _; omega, ?_⟩
        refine ⟨_, s3 _ _ h2, ?_, fun b o e => by rw [upd_ne (ne_of_none e nDr)]; exact s3 _ _ (s2 _ _ e), ?_⟩
        · rw [List.length_map, List.length_take, List.length_map]
          exact Nat.lt_of_le_of_lt (show _ ≤ 50000 by omega) (by decide)
        · rw [upd_same, List.take_succ, List.map_append, List.getElem?_map, List.getElem?_eq_getElem hi'] <;> rfl
      · rintro H2 ⟨s2, h2⟩
        rw [hxl, show ps.length = (ps.map rowP).length from (List.length_map _).symm, List.take_length] at h2
        have h2' : H2 Dr = some (.lst (((ps.map rowP).map S).map V.str)) := h2.trans (congrArg (fun z => some (HO.lst z)) (stxs_map _))
        refine ⟨⟨_, rfl⟩, _, rfl, _, Dr, (ps.map rowP).map S, rfl, rfl, .inl (SqL.of h2'), ?_, ?_⟩
        · exact rows_cond (by omega)
        rw [show ((" ; " : Str)) = S [32, 59, 32] by decide +kernel, SX.join_S]
        refine ⟨[108, 101, 116, 32, 123, 32], _, by decide +kernel, rfl, by omega, ?_⟩
        refine ⟨_, [32, 125, 32, 105, 110, 32], rfl, by decide +kernel, by rw [List.length_append]; omega, ?_⟩
        refine ⟨_, rfl, Dl, _, 1, _, rfl, rfl, SqL.of (s2 _ _ hD1), atI_nat (j := 1) rfl, m, rfl, vb, b, rfl, dp_same s2 db, ob, fun H3 s3 => ?_⟩
        exact ⟨_, _, rfl, rfl, by rw [List.length_append, List.length_append]; omega, q H3 (s1.trans (s2.trans s3))⟩
    | _ => exact absurd c4 Bool.false_ne_true
  refine ⟨_, rfl, rfl, _, rfl, ?_⟩
  show if decide (V.str (srt t) = V.str "case") = true then _ else _
  rw [eq_cs]
  refine ite2 (fun c5 => ?_) (fun c5 => ?_)
  · cases t with
    | cs el ws =>
      have hd := ot.d
      obtain ⟨m, rfl⟩ : ∃ m, n = m + 1 := ⟨n - 1, by
        have : max (K72.dp el) (K72.dpWs ws) + 1 ≤ n := hd
        omega⟩
      obtain ⟨oe, ows, lws⟩ := ot_case ot
      rw [encT] at e
      injection e with e
      injection e with e1 e2
      rw [← e2] at A1
      obtain ⟨ve, r2, rfl, de, A3⟩ := dpa_consI A1
      obtain ⟨vw, r3, rfl, dw, A4⟩ := dpa_consI A3
      cases dpa_nilI A4
      obtain ⟨pp, xps, rfl, hPS, hPA⟩ := dp_tupI dw
      rw [encWs_map] at hPA
      have hxl : xps.length = ws.length := by rw [dpa_len hPA, List.length_map]
      have ltx := ot.tl
      rw [text_case] at q ltx
      simp only [List.length_append] at ltx
      have e6 : ([99, 97, 115, 101, 32] : List Nat).length = 5 := rfl
      have e7 : ([32, 111, 102, 32, 123, 32] : List Nat).length = 6 := rfl
      have e8 : ([32, 125] : List Nat).length = 2 := rfl
      refine ⟨_, rfl, Dl, _, 1, _, rfl, rfl, SqL.of hD1, atI_nat (j := 1) rfl, pp, rfl, ⟨_, hPS⟩, fun Dr nDr => ?_⟩
      refine lc_it walk_tup (fun i H' => Same H1 H' ∧ H' Dr = some (.lst (((ws.map rowW).take i).map fun a => V.str (S a)))) ⟨same_new nDr, by rw [upd_same] <;> rfl⟩ (fun i H' _ h => seqT_stay (fun b o e _ => h.1 b o e) hPS) ?_ ?_
      · rintro i x H2 H2' hi ⟨s2, h2⟩ ⟨rfl, hx⟩
        obtain ⟨d, hd1, hd2⟩ := dpa_get hPA hx
        rw [List.getElem?_map] at hd1
        have hi' : i < ws.length := by rw [← hxl]; exact hi
        rw [List.getElem?_eq_getElem hi'] at hd1
        cases hd1
        have hmem : ws[i] ∈ ws := List.getElem_mem hi'
        obtain ⟨okc, okx, lxs, oti⟩ := ows _ hmem
        obtain ⟨pi, xi, rfl, hSi, hAi⟩ := dp_tupI (dp_same s2 hd2)
        obtain ⟨v1, r1, rfl, d1, B2⟩ := dpa_consI hAi
        cases dp_strI d1
        obtain ⟨v2, r2, rfl, d2, B3⟩ := dpa_consI B2
        obtain ⟨v3, r4, rfl, d3, B4⟩ := dpa_consI B3
        cases dpa_nilI B4
        obtain ⟨pn, xn, rfl, hSn, hAn⟩ := dp_tupI d2
        have exn : xn = stxs ws[i].2.1 := dpa_strsI hAn
        subst exn
        refine ⟨pi, _, rfl, hSi, rfl, _, _, rfl, _, _, rfl, _, _, rfl, rfl, rfl, ?_⟩
        have l1 := (great_parts okc).2.1
        have l2 := oti.tl
        unfold teCase
        refine ⟨⟨_, rfl⟩, _, rfl, (by show 1 ≤ sizeLine; decide), fun q1 nq1 => ?_⟩
        refine ⟨_, rfl, pn, _, rfl, .inr (seqT_stay (fun b o e _ => same_new nq1 b o e) hSn), fun q2 nq2 => ?_⟩
        have hq1 : upd (upd H2' q1 (.lst [.str (S ws[i].1)])) q2 (.lst (stxs ws[i].2.1)) q1 = some (.lst [.str (S ws[i].1)]) := by rw [upd_ne (ne_of_none upd_same nq2)]; exact upd_same
        refine ⟨q1, q2, _, _, rfl, rfl, hq1, upd_same, ?_, fun q3 nq3 => ?_⟩
        · rw [len_stxs]
          exact Nat.le_trans (show 1 + _ ≤ 50001 by omega) (by decide)
        have nl8 := names_len okx
        have lj := joinL_len [32] ws[i].1 ws[i].2.1
        simp only [List.map_cons, List.sum_cons, List.length_cons, List.length_nil] at lj
        refine ⟨_, q3, (ws[i].1 :: ws[i].2.1).map S, rfl, rfl, .inl (SqL.of (by rw [upd_same, ← stxs_map] <;> rfl)), ?_, ?_⟩
        · rw [SX.lens, List.length_map]
          show ((ws[i].1 :: ws[i].2.1).map List.length).sum + (ws[i].2.1.length + 1) * 1 ≤ _
          rw [List.map_cons, List.sum_cons]
          omega
        rw [show ((" " : Str)) = S [32] by decide +kernel, SX.join_S]
        have s23 : Same H2' (upd (upd (upd H2' q1 (.lst [.str (S ws[i].1)])) q2 (.lst (stxs ws[i].2.1))) q3 (.lst ([.str (S ws[i].1)] ++ stxs ws[i].2.1))) := (same_new nq1).trans ((same_new nq2).trans (same_new nq3))
        refine ⟨_, [32, 45, 62, 32], rfl, by decide +kernel, by show _ + 4 ≤ _; omega, ?_⟩
        refine ⟨_, rfl, m, rfl, v3, ws[i].2.2, rfl, dp_same s23 d3, oti, fun H3 s3 => ?_⟩
        refine ⟨_, _, rfl, rfl, by rw [List.length_append]; show _ + 4 + _ ≤ _; omega, ?_⟩
        refine ⟨_, s3 _ _ (s23 _ _ h2), ?_, fun b o e => by rw [upd_ne (ne_of_none e nDr)]; exact s3 _ _ (s23 _ _ (s2 _ _ e)), ?_⟩
        · rw [List.length_map, List.length_take, List.length_map]
          exact Nat.lt_of_le_of_lt (show _ ≤ 50000 by omega) (by decide)
        · rw [upd_same, List.take_succ, List.map_append, List.getElem?_map, List.getElem?_eq_getElem hi'] <;> rfl
      · rintro H2 ⟨s2, h2⟩
        rw [hxl, show ws.length = (ws.map rowW).length from (List.length_map _).symm, List.take_length] at h2
        have h2' : H2 Dr = some (.lst (((ws.map rowW).map S).map V.str)) := h2.trans (congrArg (fun z => some (HO.lst z)) (stxs_map _))
        refine ⟨_, rfl, Dl, _, 0, _, rfl, rfl, SqL.of (s2 _ _ hD1), atI_nat (j := 0) rfl, m, rfl, ve, el, rfl, dp_same s2 de, oe, fun H3 s3 => ?_⟩
        refine ⟨[99, 97, 115, 101, 32], _, by decide +kernel, rfl, by omega, ?_⟩
        refine ⟨_, [32, 111, 102, 32, 123, 32], rfl, by decide +kernel, by rw [List.length_append]; omega, ?_⟩
        refine ⟨⟨_, rfl⟩, _, rfl, _, Dr, (ws.map rowW).map S, rfl, rfl, .inl (SqL.of (s3 _ _ h2')), ?_, ?_⟩
        · exact rows_cond (by omega)
        rw [show ((" ; " : Str)) = S [32, 59, 32] by decide +kernel, SX.join_S]
        refine ⟨_, _, rfl, rfl, by rw [List.length_append, List.length_append]; omega, ?_⟩
        exact ⟨_, [32, 125], rfl, by decide +kernel, by rw [List.length_append, List.length_append, List.length_append]; omega, q H3 (s1.trans (s2.trans s3))⟩
    | _ => exact absurd c5 Bool.false_ne_true
  have hn : ∀ {v1 : V} {x : List Nat}, r0 = [v1] → (v1 = .str (S x)) → textL (lx false t) = x → (∃ i, [v1] = [V.int i] ∧ i.natAbs.log2 < 1920 ∧ Q (.str (toString i)) H1) ∨ ∃ a, [v1] = [V.str a] ∧ Q (.str a) H1 := fun {v1 x} _ h2 h3 => .inr ⟨S x, by rw [h2], by rw [← h3]; exact q H1 s1⟩
  cases t with
  | num m =>
    rw [encT] at e
    injection e with e
    injection e with e1 e2
    rw [← e2] at A1
    obtain ⟨v1, r1, rfl, d1, A2⟩ := dpa_consI A1
    cases dpa_nilI A2
    cases d1
    refine ⟨_, rfl, Dl, _, 0, _, rfl, rfl, SqL.of hD1, atI_nat (j := 0) rfl, .inl ⟨_, rfl, ?_, ?_⟩⟩
    · have ho : m < 10 ^ 20 := ot.o
      have : m.log2 < 1920 := by
        by_cases h0 : m = 0
        · rw [h0]; decide
        · rw [Nat.log2_lt h0]
          exact Nat.lt_of_lt_of_le ho (by decide +kernel)
      exact this
    · have h3 := q H1 s1
      rw [lx] at h3
      have e4 : textL (lpre false ++ [.tk (.num m)]) = TL.numL m := by show TL.numL m ++ [] = _; rw [List.append_nil]
      rw [e4, ← num_str] at h3
      exact h3
  | name x =>
    rw [encT] at e
    injection e with e
    injection e with e1 e2
    rw [← e2] at A1
    obtain ⟨v1, r1, rfl, d1, A2⟩ := dpa_consI A1
    cases dpa_nilI A2
    exact ⟨_, rfl, Dl, _, 0, _, rfl, rfl, SqL.of hD1, atI_nat (j := 0) rfl, hn rfl (dp_strI d1) (by rw [lx]; show x ++ [] = x; rw [List.append_nil])⟩
  | make x =>
    rw [encT] at e
    injection e with e
    injection e with e1 e2
    rw [← e2] at A1
    obtain ⟨v1, r1, rfl, d1, A2⟩ := dpa_consI A1
    cases dpa_nilI A2
    exact ⟨_, rfl, Dl, _, 0, _, rfl, rfl, SqL.of hD1, atI_nat (j := 0) rfl, hn rfl (dp_strI d1) (by rw [lx]; show x ++ [] = x; rw [List.append_nil])⟩
  | par x => exact ot.p.elim
  | op _ _ _ => exact absurd rfl c
  | app _ _ => exact absurd rfl c2
  | fn _ _ => exact absurd rfl c3
  | lt _ _ => exact absurd rfl c4
  | cs _ _ => exact absurd rfl c5
end
end W72
/-! W27: whole at any depth; show_term; kinds as words and blanks. -/
namespace W72
open PySem L2
structure SDefs (K : PySem.W.Frag) (mg : Str → Option Value) : Prop where
  Lev : Df K mg "level_of" (top 43) ["term"]
  Sh : Df K mg "shown" (top 44) ["term", "level"]
  Wh : Df K mg "whole" (top 45) ["term"]
  SF : Df K mg "shown_fun" (top 46) ["term"]
theorem scST : FnScope ["term"] ["term"] (defScope (top 47)) := ⟨rfl, rfl, rfl, by decide +kernel, rfl, by decide +kernel, by decide +kernel⟩
section
variable {P : Program} {w : World} {K : PySem.W.Frag} {mg : Str → Option Value} {base : Heap} {f : Addr} {fd : FuncData}
theorem wh_all (D : SDefs K mg) (L : Lv K w mg) (Z : Bl mg) : ∀ n, Cl P w K mg base (2 * n + 3) "whole" (spWh K n) := by
  have cL : Cl P w K mg base 1 "level_of" (spLev K) := D.Lev.cl fun _ _ F => ok_lev F L
  have step : ∀ n k, 1 ≤ k → (∀ m, n = m + 1 → Cl P w K mg base k "whole" (spWh K m)) → Cl P w K mg base (k + 2) "whole" (spWh K n) := fun n k hk h =>
    D.Wh.cl fun _ _ F => ok_whole F L Z hk (D.Wh.low h) (D.Sh.low fun m e => D.Sh.cl fun _ _ F => ok_sh F hk (h m e) cL) (D.SF.low fun m e => D.SF.cl fun _ _ F => ok_sf F (h m e))
  intro n
  induction n with
  | zero => exact step 0 1 (Nat.le_refl _) fun m e => by cases e
  | succ n ih =>
    have e : 2 * (n + 1) + 3 = 2 * n + 3 + 2 := by omega
    rw [e]
    exact step (n + 1) (2 * n + 3) (by omega) fun m e => by
      have : m = n := by omega
      rw [this]; exact ih
theorem ok_st {n k : Nat} (F : Fun K "show_term" "show_term" (top 47) f fd) (cW : Cl P w K mg base k "whole" (spWh K n)) : FnOk P w K mg base (L2.CX P w) (k + 1) f fd ["term"] (spWh K n) := by
  refine F.okX scST (fun vs H Q E h => ?_) (fun cdv A' outer s₀ H vs Q E hr h => ?_)
  · obtain ⟨v, t, rfl, _⟩ := h
    rfl
  obtain ⟨v, t, rfl, D, ot, q⟩ := h
  refine ⟨_, pss_one (ps_ret (pe_cl cW hr pxN rfl (pa_cons (pv 0) pa_nil))), ?_⟩
  exact ⟨_, rfl, v, t, rfl, D, ot, q⟩
end
/-! ### kinds -/
def lkB (n : Nat) (k : KKd) (u : List Lx) : List Lx := if K72.lvK k < n then .tk .lp :: (u ++ [.tk .rp]) else u
mutual
def lk : KKd → List Lx
  | .num => [.tk (.kw .knum)]
  | .var x => [.tk (.small x)]
  | .data d ks => .tk (.great d) :: lks ks
  | .fn a b => lkB 1 a (lk a) ++ .sp :: .tk .arr :: .sp :: lk b
  | .par k => .tk .lp :: (lk k ++ [.tk .rp])
def lks : List KKd → List Lx
  | [] => []
  | k :: r => .sp :: (lkB 2 k (lk k) ++ lks r)
end
theorem toks_kB (n : Nat) (k : KKd) (u : List Lx) : toksL (lkB n k u) = K72.shKB n k (toksL u) := by
  unfold lkB K72.shKB
  split
  · show K72.Tok.lp :: toksL (u ++ [.tk .rp]) = _
    rw [toks_app] <;> rfl
  · rfl
mutual
theorem toks_lk : ∀ k : KKd, toksL (lk k) = K72.tk k
  | .num => by rw [lk, K72.tk] <;> rfl
  | .var x => by rw [lk, K72.tk] <;> rfl
  | .data d ks => by
    rw [lk, K72.tk]
    show K72.Tok.great d :: toksL (lks ks) = _
    rw [toks_lks ks]
  | .fn a b => by
    rw [lk, K72.tk, toks_app, toks_kB, toks_lk a]
    show _ ++ K72.Tok.arr :: toksL (lk b) = _
    rw [toks_lk b]
  | .par k => by
    rw [lk, K72.tk]
    show K72.Tok.lp :: toksL (lk k ++ _) = _
    rw [toks_app, toks_lk k] <;> rfl
theorem toks_lks : ∀ ks : List KKd, toksL (lks ks) = K72.tks ks
  | [] => by rw [lks, K72.tks] <;> rfl
  | k :: r => by
    rw [lks, K72.tks]
    show toksL (lkB 2 k (lk k) ++ lks r) = _
    rw [toks_app, toks_kB, toks_lk k, toks_lks r]
end
def lMs : List K72.Mk → List Lx
  | [] => []
  | (c, ks) :: r => .tk (.great c) :: (lks ks ++ (if r.isEmpty then [] else .sp :: .tk .bar :: .sp :: lMs r))
theorem toks_lMs : ∀ ms : List K72.Mk, toksL (lMs ms) = K72.twMs ms
  | [] => rfl
  | (c, ks) :: r => by
    rw [lMs, K72.twMs]
    show K72.Tok.great c :: toksL (lks ks ++ _) = _
    rw [toks_app, toks_lks]
    cases r with
    | nil => rfl
    | cons y r =>
      show _ :: (_ ++ K72.Tok.bar :: toksL (lMs (y :: r))) = _
      rw [toks_lMs (y :: r)] <;> rfl
def lD (d : K72.Dt) : List Lx := .tk (.kw .data) :: .sp :: .tk (.great d.1) :: (lsm d.2.1 ++ .sp :: .tk .eq :: .sp :: lMs d.2.2)
theorem toks_lD (d : K72.Dt) : toksL (lD d) = K72.twD d := by
  show K72.Tok.kw .data :: K72.Tok.great d.1 :: toksL (lsm d.2.1 ++ _) = _
  rw [toks_app, toks_lsm]
  show _ :: _ :: (_ ++ K72.Tok.eq :: toksL (lMs d.2.2)) = _
  rw [toks_lMs] <;> rfl
/-! ### .. may be taken apart -/
theorem sep_kB {n : Nat} {k : KKd} {u : List Lx} (h : Sep u) : Sep (lkB n k u) := by
  unfold lkB
  split
  · exact sep_par h
  · exact h
theorem head_lks : ∀ ks, headOk (lks ks) = true
  | [] => by rw [lks] <;> rfl
  | k :: r => by rw [lks] <;> rfl
mutual
theorem sep_lk : ∀ k : KKd, Sep (lk k)
  | .num => by rw [lk]; trivial
  | .var x => by rw [lk]; trivial
  | .data d ks => by rw [lk]; exact sep_cons (sep_lks ks) (by rw [head_lks, Bool.or_true])
  | .fn a b => by rw [lk]; exact sep_mid (sep_kB (sep_lk a)) (sep_tsp (sep_lk b))
  | .par k => by rw [lk]; exact sep_par (sep_lk k)
theorem sep_lks : ∀ ks : List KKd, Sep (lks ks)
  | [] => by rw [lks]; trivial
  | k :: r => by rw [lks]; exact sep_sp (sep_app (sep_kB (sep_lk k)) (sep_lks r) (by rw [head_lks, Bool.or_true]))
end
theorem sep_lMs : ∀ ms : List K72.Mk, Sep (lMs ms)
  | [] => trivial
  | (c, ks) :: r => by
    rw [lMs]
    have h : Sep (lks ks ++ (if r.isEmpty then [] else .sp :: .tk .bar :: .sp :: lMs r)) := by
      cases r with
      | nil => show Sep (lks ks ++ []); rw [List.append_nil]; exact sep_lks ks
      | cons y r => exact sep_mid (sep_lks ks) (sep_tsp (sep_lMs (y :: r)))
    refine sep_cons h ?_
    have h2 : headOk (lks ks ++ (if r.isEmpty then [] else .sp :: .tk .bar :: .sp :: lMs r)) = true := by
      cases ks with
      | nil => rw [lks]; cases r <;> rfl
      | cons k q => rw [lks] <;> rfl
    rw [h2, Bool.or_true]
theorem sep_lD (d : K72.Dt) : Sep (lD d) := by
  refine sep_tsp (sep_cons (sep_lsm d.2.1 (sep_tsp (sep_lMs d.2.2))) ?_)
  cases d.2.1 with
  | nil => rfl
  | cons y r => rfl
mutual
def okK : KKd → Prop
  | .num => True
  | .var x => okS x
  | .data d ks => isGreat d = true ∧ okKs ks
  | .fn a b => okK a ∧ okK b
  | .par k => okK k
def okKs : List KKd → Prop
  | [] => True
  | k :: r => okK k ∧ okKs r
end
def okMs : List K72.Mk → Prop
  | [] => True
  | (c, ks) :: r => isGreat c = true ∧ okKs ks ∧ okMs r
def okD (d : K72.Dt) : Prop := isGreat d.1 = true ∧ (∀ x ∈ d.2.1, okS x) ∧ okMs d.2.2
theorem ok_kB {n : Nat} {k : KKd} {u : List Lx} (h : AllOk u) : AllOk (lkB n k u) := by
  unfold lkB
  split
  · exact ⟨trivial, ok_app h ⟨trivial, trivial⟩⟩
  · exact h
mutual
theorem ok_lk : ∀ k : KKd, okK k → AllOk (lk k)
  | .num, _ => by rw [lk]; exact ⟨trivial, trivial⟩
  | .var x, h => by rw [lk]; exact ⟨h, trivial⟩
  | .data d ks, h => by rw [lk]; exact ⟨h.1, ok_lks ks h.2⟩
  | .fn a b, h => by rw [lk]; exact ok_app (ok_kB (ok_lk a h.1)) ⟨trivial, ok_lk b h.2⟩
  | .par k, h => by rw [lk]; exact ⟨trivial, ok_app (ok_lk k h) ⟨trivial, trivial⟩⟩
theorem ok_lks : ∀ ks : List KKd, okKs ks → AllOk (lks ks)
  | [], _ => by rw [lks]; trivial
  | k :: r, h => by rw [lks]; exact ok_app (ok_kB (ok_lk k h.1)) (ok_lks r h.2)
end
theorem ok_lMs : ∀ ms : List K72.Mk, okMs ms → AllOk (lMs ms)
  | [], _ => trivial
  | (c, ks) :: r, h => by
    rw [lMs]
    refine ⟨h.1, ok_app (ok_lks ks h.2.1) ?_⟩
    cases r with
    | nil => trivial
    | cons y r => exact ⟨trivial, ok_lMs (y :: r) h.2.2⟩
theorem ok_lD (d : K72.Dt) (h : okD d) : AllOk (lD d) := ⟨trivial, h.1, ok_app (ok_lsm d.2.1 h.2.1) ⟨trivial, ok_lMs d.2.2 h.2.2⟩⟩
end W72
/-! W28: == of data; terms and kinds that are the same. -/
namespace W72
open PySem L2
def rEqM (K : PySem.W.Frag) (neg : Bool) : R2 := fun x y H Q => ∃ d e, Dp K H x d ∧ Dp K H y e ∧ d.canLay0 = true ∧ e.canLay0 = true ∧ min d.depth e.depth ≤ 64 ∧ Q (.bl (if neg then !PyData.eqv d e else PyData.eqv d e)) H
theorem op_eqM {X : Cx} (hu : X.A.units + 64 < cLine) : OpR X (compareOp .Eq) (rEqM X.K false) := by
  intro pins s σ H x y v u Q I rx ry h
  obtain ⟨d, e, hd, he, sd, se, hm, q⟩ := h
  obtain ⟨as, r1⟩ := Dp.reads I d x v hd rx
  obtain ⟨bs, r2⟩ := Dp.reads I e y u he ry
  exact SeqAt.compareEq_reads r1 r2 sd se (by omega) ⟨.bl _, H, I, rfl, q⟩
theorem op_neM {X : Cx} (hu : X.A.units + 64 < cLine) : OpR X (compareOp .NotEq) (rEqM X.K true) := by
  intro pins s σ H x y v u Q I rx ry h
  obtain ⟨d, e, hd, he, sd, se, hm, q⟩ := h
  obtain ⟨as, r1⟩ := Dp.reads I d x v hd rx
  obtain ⟨bs, r2⟩ := Dp.reads I e y u he ry
  exact SeqAt.compareNe_reads r1 r2 sd se (by omega) ⟨.bl _, H, I, rfl, q⟩
mutual
/-- no bool within, no list, no dict -/
def nb : PyData → Bool
  | .int _ => true
  | .str _ => true
  | .tuple xs => nbs xs
  | _ => false
def nbs : List PyData → Bool
  | [] => true
  | d :: r => nb d && nbs r
end
mutual
theorem eqv_eq : ∀ d e : PyData, nb d = true → nb e = true → PyData.eqv d e = true → d = e
  | .int i, .int j, _, _, h => by
    have h' : (i == j) = true := by simpa [PyData.eqv] using h
    rw [beq_iff_eq.mp h']
  | .str i, .str j, _, _, h => by
    have h' : (i == j) = true := by simpa [PyData.eqv] using h
    rw [beq_iff_eq.mp h']
  | .tuple xs, .tuple ys, n1, n2, h => by
    have h' : PyData.eqvAll xs ys = true := by simpa [PyData.eqv] using h
    rw [eqvs_eq xs ys n1 n2 h']
  | .int _, .str _, _, _, h => by simp [PyData.eqv] at h
  | .int _, .tuple _, _, _, h => by simp [PyData.eqv] at h
  | .str _, .int _, _, _, h => by simp [PyData.eqv] at h
  | .str _, .tuple _, _, _, h => by simp [PyData.eqv] at h
  | .tuple _, .int _, _, _, h => by simp [PyData.eqv] at h
  | .tuple _, .str _, _, _, h => by simp [PyData.eqv] at h
  | .none, _, h, _, _ => by simp [nb] at h
  | .bool _, _, h, _, _ => by simp [nb] at h
  | .list _, _, h, _, _ => by simp [nb] at h
  | .dict _, _, h, _, _ => by simp [nb] at h
  | .int _, .none, _, h, _ => by simp [nb] at h
  | .int _, .bool _, _, h, _ => by simp [nb] at h
  | .int _, .list _, _, h, _ => by simp [nb] at h
  | .int _, .dict _, _, h, _ => by simp [nb] at h
  | .str _, .none, _, h, _ => by simp [nb] at h
  | .str _, .bool _, _, h, _ => by simp [nb] at h
  | .str _, .list _, _, h, _ => by simp [nb] at h
  | .str _, .dict _, _, h, _ => by simp [nb] at h
  | .tuple _, .none, _, h, _ => by simp [nb] at h
  | .tuple _, .bool _, _, h, _ => by simp [nb] at h
  | .tuple _, .list _, _, h, _ => by simp [nb] at h
  | .tuple _, .dict _, _, h, _ => by simp [nb] at h
theorem eqvs_eq : ∀ d e : List PyData, nbs d = true → nbs e = true → PyData.eqvAll d e = true → d = e
  | [], [], _, _, _ => rfl
  | x :: xs, y :: ys, n1, n2, h => by
    have h' : PyData.eqv x y = true ∧ PyData.eqvAll xs ys = true := by simpa [PyData.eqvAll] using h
    have m1 : nb x = true ∧ nbs xs = true := by simpa [nbs] using n1
    have m2 : nb y = true ∧ nbs ys = true := by simpa [nbs] using n2
    rw [eqv_eq x y m1.1 m2.1 h'.1, eqvs_eq xs ys m1.2 m2.2 h'.2]
  | [], _ :: _, _, _, h => by simp [PyData.eqvAll] at h
  | _ :: _, [], _, _, h => by simp [PyData.eqvAll] at h
end
theorem nbs_strs : ∀ xs : List K72.L, nbs (xs.map fun x => PyData.str (S x)) = true
  | [] => rfl
  | x :: r => nbs_strs r
mutual
theorem nb_enc : ∀ t : KTm, nb (encT t) = true
  | .num _ => rfl
  | .name _ => rfl
  | .make _ => rfl
  | .app a b => by show (true && (nb (encT a) && (nb (encT b) && true))) = true; rw [nb_enc a, nb_enc b]; rfl
  | .fn _ b => by show (true && (true && (nb (encT b) && true))) = true; rw [nb_enc b]; rfl
  | .lt ps b => by show (true && (nbs (encPs ps) && (nb (encT b) && true))) = true; rw [nb_encPs ps, nb_enc b]; rfl
  | .cs e ws => by show (true && (nb (encT e) && (nbs (encWs ws) && true))) = true; rw [nb_encWs ws, nb_enc e]; rfl
  | .op _ a b => by show (true && (true && (nb (encT a) && (nb (encT b) && true)))) = true; rw [nb_enc a, nb_enc b]; rfl
  | .par t => by show nb (encT t) = true; exact nb_enc t
theorem nb_encPs : ∀ ps : List (K72.L × KTm), nbs (encPs ps) = true
  | [] => rfl
  | (x, t) :: r => by show ((true && (nb (encT t) && true)) && nbs (encPs r)) = true; rw [nb_enc t, nb_encPs r]; rfl
theorem nb_encWs : ∀ ws : List (K72.L × List K72.L × KTm), nbs (encWs ws) = true
  | [] => rfl
  | (c, xs, t) :: r => by show ((true && (nbs (xs.map fun x => PyData.str (S x)) && (nb (encT t) && true))) && nbs (encWs r)) = true; rw [nbs_strs, nb_enc t, nb_encWs r]; rfl
end
mutual
theorem enc_strip : ∀ t : KTm, encT (K72.strip t) = encT t
  | .num _ => rfl
  | .name _ => rfl
  | .make _ => rfl
  | .app a b => by show PyData.tuple [.str "app", encT (K72.strip a), encT (K72.strip b)] = .tuple [.str "app", encT a, encT b]; rw [enc_strip a, enc_strip b]
  | .fn x b => by show PyData.tuple [.str "fun", .str (S x), encT (K72.strip b)] = .tuple [.str "fun", .str (S x), encT b]; rw [enc_strip b]
  | .lt ps b => by show PyData.tuple [.str "let", .tuple (encPs (K72.stripPs ps)), encT (K72.strip b)] = .tuple [.str "let", .tuple (encPs ps), encT b]; rw [enc_stripPs ps, enc_strip b]
  | .cs e ws => by show PyData.tuple [.str "case", encT (K72.strip e), .tuple (encWs (K72.stripWs ws))] = .tuple [.str "case", encT e, .tuple (encWs ws)]; rw [enc_stripWs ws, enc_strip e]
  | .op o a b => by show PyData.tuple [.str "op", .str (opS o), encT (K72.strip a), encT (K72.strip b)] = .tuple [.str "op", .str (opS o), encT a, encT b]; rw [enc_strip a, enc_strip b]
  | .par t => by show encT (K72.strip t) = encT t; exact enc_strip t
theorem enc_stripPs : ∀ ps : List (K72.L × KTm), encPs (K72.stripPs ps) = encPs ps
  | [] => rfl
  | (x, t) :: r => by show PyData.tuple [.str (S x), encT (K72.strip t)] :: encPs (K72.stripPs r) = .tuple [.str (S x), encT t] :: encPs r; rw [enc_strip t, enc_stripPs r]
theorem enc_stripWs : ∀ ws : List (K72.L × List K72.L × KTm), encWs (K72.stripWs ws) = encWs ws
  | [] => rfl
  | (c, xs, t) :: r => by show PyData.tuple [.str (S c), .tuple (xs.map fun x => .str (S x)), encT (K72.strip t)] :: encWs (K72.stripWs r) = .tuple [.str (S c), .tuple (xs.map fun x => .str (S x)), encT t] :: encWs r; rw [enc_strip t, enc_stripWs r]
end
def ix : KTm → Nat
  | .num _ => 0 | .name _ => 1 | .make _ => 2 | .app .. => 3 | .op .. => 4 | .fn .. => 5 | .lt .. => 6 | .cs .. => 7 | .par _ => 8
def tagOf : Nat → Str | 0 => "num" | 1 => "name" | 2 => "make" | 3 => "app" | 4 => "op" | 5 => "fun" | 6 => "let" | 7 => "case" | _ => ""
theorem srt_tag (t : KTm) : srt t = tagOf (ix t) := by cases t <;> rfl
theorem tag_inj : ∀ i, i < 8 → ∀ j, j < 8 → tagOf i = tagOf j → i = j := by decide +kernel
theorem ix_lt {t : KTm} (h : K72.pu t) : ix t < 8 := by
  cases t with
  | par _ => exact h.elim
  | num _ => exact (by decide : 0 < 8)
  | name _ => exact (by decide : 1 < 8)
  | make _ => exact (by decide : 2 < 8)
  | app _ _ => exact (by decide : 3 < 8)
  | op _ _ _ => exact (by decide : 4 < 8)
  | fn _ _ => exact (by decide : 5 < 8)
  | lt _ _ => exact (by decide : 6 < 8)
  | cs _ _ => exact (by decide : 7 < 8)
theorem strs_inj : ∀ {a b : List K72.L}, (a.map fun x => PyData.str (S x)) = (b.map fun x => PyData.str (S x)) → a = b
  | [], [], _ => rfl
  | x :: a, y :: b, h => by
    injection h with h1 h2
    injection h1 with h1
    rw [SX.S_inj h1, strs_inj h2]
  | [], _ :: _, h => by cases h
  | _ :: _, [], h => by cases h
theorem opS_inj {a b : K72.Op} (h : opS a = opS b) : a = b := by
  have h' : S (toldL (.op a)) = S (toldL (.op b)) := by rw [← told_S, ← told_S]; exact h
  have h2 := SX.S_inj h'
  cases a <;> cases b <;> first | rfl | (exact absurd h2 (by decide))
theorem same_ix {a b : KTm} (pa : K72.pu a) (pb : K72.pu b) (h : encT a = encT b) : ix a = ix b := by
  obtain ⟨r1, e1⟩ := enc_shape a pa
  obtain ⟨r2, e2⟩ := enc_shape b pb
  rw [e1, e2] at h
  injection h with h
  injection h with h _
  injection h with h
  rw [srt_tag, srt_tag] at h
  exact tag_inj _ (ix_lt pa) _ (ix_lt pb) h
mutual
theorem enc_inj : ∀ (a b : KTm), K72.pu a → K72.pu b → encT a = encT b → a = b
  | .num i, b, pa, pb, h => by
    have hx := same_ix pa pb h
    cases b with
    | num j =>
      rw [encT, encT] at h
      injection h with h
      injection h with _ h
      injection h with h _
      injection h with h
      rw [Int.ofNat.inj h]
    | _ => exact absurd hx (by simp [ix])
  | .name i, b, pa, pb, h => by
    have hx := same_ix pa pb h
    cases b with
    | name j =>
      rw [encT, encT] at h
      injection h with h
      injection h with _ h
      injection h with h _
      injection h with h
      rw [SX.S_inj h]
    | _ => exact absurd hx (by simp [ix])
  | .make i, b, pa, pb, h => by
    have hx := same_ix pa pb h
    cases b with
    | make j =>
      rw [encT, encT] at h
      injection h with h
      injection h with _ h
      injection h with h _
      injection h with h
      rw [SX.S_inj h]
    | _ => exact absurd hx (by simp [ix])
  | .app x y, b, pa, pb, h => by
    have hx := same_ix pa pb h
    cases b with
    | app u v =>
      rw [encT, encT] at h
      injection h with h
      injection h with _ h
      injection h with h1 h
      injection h with h2 _
      rw [enc_inj x u pa.1 pb.1 h1, enc_inj y v pa.2 pb.2 h2]
    | _ => exact absurd hx (by simp [ix])
  | .op o x y, b, pa, pb, h => by
    have hx := same_ix pa pb h
    cases b with
    | op p u v =>
      rw [encT, encT] at h
      injection h with h
      injection h with _ h
      injection h with h0 h
      injection h with h1 h
      injection h with h2 _
      injection h0 with h0
      rw [opS_inj h0, enc_inj x u pa.1 pb.1 h1, enc_inj y v pa.2 pb.2 h2]
    | _ => exact absurd hx (by simp [ix])
  | .fn x y, b, pa, pb, h => by
    have hx := same_ix pa pb h
    cases b with
    | fn u v =>
      rw [encT, encT] at h
      injection h with h
      injection h with _ h
      injection h with h1 h
      injection h with h2 _
      injection h1 with h1
      rw [SX.S_inj h1, enc_inj y v pa pb h2]
    | _ => exact absurd hx (by simp [ix])
  | .lt ps y, b, pa, pb, h => by
    have hx := same_ix pa pb h
    cases b with
    | lt qs v =>
      rw [encT, encT] at h
      injection h with h
      injection h with _ h
      injection h with h1 h
      injection h with h2 _
      injection h1 with h1
      rw [encPs_inj ps qs pa.1 pb.1 h1, enc_inj y v pa.2 pb.2 h2]
    | _ => exact absurd hx (by simp [ix])
  | .cs x ws, b, pa, pb, h => by
    have hx := same_ix pa pb h
    cases b with
    | cs u vs =>
      rw [encT, encT] at h
      injection h with h
      injection h with _ h
      injection h with h1 h
      injection h with h2 _
      injection h2 with h2
      rw [enc_inj x u pa.1 pb.1 h1, encWs_inj ws vs pa.2 pb.2 h2]
    | _ => exact absurd hx (by simp [ix])
  | .par _, _, pa, _, _ => pa.elim
theorem encPs_inj : ∀ (a b : List (K72.L × KTm)), K72.puPs a → K72.puPs b → encPs a = encPs b → a = b
  | [], [], _, _, _ => rfl
  | (x, t) :: r, (y, u) :: q, pa, pb, h => by
    rw [encPs, encPs] at h
    injection h with h1 h2
    injection h1 with h1
    injection h1 with h3 h1
    injection h1 with h4 _
    injection h3 with h3
    rw [SX.S_inj h3, enc_inj t u pa.1 pb.1 h4, encPs_inj r q pa.2 pb.2 h2]
  | [], (_, _) :: _, _, _, h => by rw [encPs, encPs] at h; cases h
  | (_, _) :: _, [], _, _, h => by rw [encPs, encPs] at h; cases h
theorem encWs_inj : ∀ (a b : List (K72.L × List K72.L × KTm)), K72.puWs a → K72.puWs b → encWs a = encWs b → a = b
  | [], [], _, _, _ => rfl
  | (c, xs, t) :: r, (d, ys, u) :: q, pa, pb, h => by
    rw [encWs, encWs] at h
    injection h with h1 h2
    injection h1 with h1
    injection h1 with h3 h1
    injection h1 with h5 h1
    injection h1 with h4 _
    injection h3 with h3
    injection h5 with h5
    rw [SX.S_inj h3, strs_inj h5, enc_inj t u pa.1 pb.1 h4, encWs_inj r q pa.2 pb.2 h2]
  | [], (_, _, _) :: _, _, _, h => by rw [encWs, encWs] at h; cases h
  | (_, _, _) :: _, [], _, _, h => by rw [encWs, encWs] at h; cases h
end
/-- two terms the same: up to brackets that mean nothing -/
theorem eqv_ne {a t : KTm} (pt : K72.pu t) (h : K72.strip a ≠ t) : PyData.eqv (encT a) (encT t) = false := by
  cases e : PyData.eqv (encT a) (encT t) with
  | false => rfl
  | true =>
    have e := eqv_eq _ _ (nb_enc a) (nb_enc t) e
    rw [← enc_strip a] at e
    exact absurd (enc_inj _ _ (K72.pu_strip a) pt e) h
/-! ### lay -/
theorem ok_str {x : K72.L} (h : K72.okL x) : PyData.canLay0 (.str (S x)) = true := by
  show PyData.strOk (S x) = true
  show (S x).cps.all (· < 0x110000) = true
  rw [Array.all_eq_true']
  intro c hc
  have : c ∈ x := by
    have h2 : c ∈ (S x).cps.toList := Array.mem_toList_iff.mpr hc
    exact h2
  have := h c this
  exact decide_eq_true (by omega)
theorem ok_strs : ∀ {xs : List K72.L}, (∀ x ∈ xs, K72.okL x) → PyData.canLayAll0 (xs.map fun x => .str (S x)) = true
  | [], _ => rfl
  | x :: r, h => by
    show (PyData.canLay0 (.str (S x)) && PyData.canLayAll0 (r.map fun x => .str (S x))) = true
    rw [ok_str (h x (List.mem_cons_self ..)), ok_strs fun y m => h y (List.mem_cons_of_mem _ m)]; rfl
theorem lay_lit (i : Nat) : PyData.canLay0 (.str (tagOf i)) = true := by
  show PyData.strOk (tagOf i) = true
  match i with
  | 0 | 1 | 2 | 3 | 4 | 5 | 6 | 7 => decide +kernel
  | n + 8 => exact (by decide +kernel : PyData.strOk "" = true)
theorem lay_op (o : K72.Op) : PyData.canLay0 (.str (opS o)) = true := by
  show PyData.strOk (opS o) = true
  cases o <;> decide +kernel
mutual
theorem lay_enc : ∀ t : KTm, K72.okT t → PyData.canLay0 (encT t) = true
  | .num _, _ => by show (PyData.canLay0 (.str (tagOf 0)) && (true && true)) = true; rw [lay_lit]; rfl
  | .name x, h => by show (PyData.canLay0 (.str (tagOf 1)) && (PyData.canLay0 (.str (S x)) && true)) = true; rw [lay_lit, ok_str h]; rfl
  | .make x, h => by show (PyData.canLay0 (.str (tagOf 2)) && (PyData.canLay0 (.str (S x)) && true)) = true; rw [lay_lit, ok_str h]; rfl
  | .app a b, h => by show (PyData.canLay0 (.str (tagOf 3)) && (PyData.canLay0 (encT a) && (PyData.canLay0 (encT b) && true))) = true; rw [lay_lit, lay_enc a h.1, lay_enc b h.2]; rfl
  | .fn x b, h => by show (PyData.canLay0 (.str (tagOf 5)) && (PyData.canLay0 (.str (S x)) && (PyData.canLay0 (encT b) && true))) = true; rw [lay_lit, ok_str h.1, lay_enc b h.2]; rfl
  | .lt ps b, h => by show (PyData.canLay0 (.str (tagOf 6)) && (PyData.canLayAll0 (encPs ps) && (PyData.canLay0 (encT b) && true))) = true; rw [lay_lit, lay_encPs ps h.1, lay_enc b h.2]; rfl
  | .cs e ws, h => by show (PyData.canLay0 (.str (tagOf 7)) && (PyData.canLay0 (encT e) && (PyData.canLayAll0 (encWs ws) && true))) = true; rw [lay_lit, lay_encWs ws h.2, lay_enc e h.1]; rfl
  | .op o a b, h => by show (PyData.canLay0 (.str (tagOf 4)) && (PyData.canLay0 (.str (opS o)) && (PyData.canLay0 (encT a) && (PyData.canLay0 (encT b) && true)))) = true; rw [lay_lit, lay_op, lay_enc a h.1, lay_enc b h.2]; rfl
  | .par t, h => by show PyData.canLay0 (encT t) = true; exact lay_enc t h
theorem lay_encPs : ∀ ps : List (K72.L × KTm), K72.okPs ps → PyData.canLayAll0 (encPs ps) = true
  | [], _ => rfl
  | (x, t) :: r, h => by show ((PyData.canLay0 (.str (S x)) && (PyData.canLay0 (encT t) && true)) && PyData.canLayAll0 (encPs r)) = true; rw [ok_str h.1.1, lay_enc t h.1.2, lay_encPs r h.2]; rfl
theorem lay_encWs : ∀ ws : List (K72.L × List K72.L × KTm), K72.okWs ws → PyData.canLayAll0 (encWs ws) = true
  | [], _ => rfl
  | (c, xs, t) :: r, h => by show ((PyData.canLay0 (.str (S c)) && (PyData.canLayAll0 (xs.map fun x => PyData.str (S x)) && (PyData.canLay0 (encT t) && true))) && PyData.canLayAll0 (encWs r)) = true; rw [ok_str h.1.1, ok_strs h.1.2.1, lay_enc t h.1.2.2, lay_encWs r h.2]; rfl
end
theorem eqv_same {a t : KTm} (h : K72.strip a = t) (ok : K72.okT t) : PyData.eqv (encT a) (encT t) = true := by
  rw [← enc_strip a, h]
  exact SeqAt.eqv_refl _ (lay_enc t ok)
/-! ### depths -/
theorem dep_strs : ∀ xs : List K72.L, PyData.depthAll (xs.map fun x => PyData.str (S x)) = 0
  | [] => rfl
  | x :: r => by show max 0 (PyData.depthAll _) = 0; rw [dep_strs r]; rfl
mutual
theorem dep_enc : ∀ t : KTm, PyData.depth (encT t) ≤ 3 * K72.dp t + 1
  | .num _ => by show max 0 (max 0 0) + 1 ≤ _; omega
  | .name _ => by show max 0 (max 0 0) + 1 ≤ _; omega
  | .make _ => by show max 0 (max 0 0) + 1 ≤ _; omega
  | .app a b => by
    have h1 := dep_enc a
    have h2 := dep_enc b
    show max 0 (max (PyData.depth (encT a)) (max (PyData.depth (encT b)) 0)) + 1 ≤ 3 * (max (K72.dp a) (K72.dp b) + 1) + 1
    omega
  | .op o a b => by
    have h1 := dep_enc a
    have h2 := dep_enc b
    show max 0 (max 0 (max (PyData.depth (encT a)) (max (PyData.depth (encT b)) 0))) + 1 ≤ 3 * (max (K72.dp a) (K72.dp b) + 1) + 1
    omega
  | .fn x b => by
    have h2 := dep_enc b
    show max 0 (max 0 (max (PyData.depth (encT b)) 0)) + 1 ≤ 3 * (K72.dp b + 1) + 1
    omega
  | .lt ps b => by
    have h1 := dep_encPs ps
    have h2 := dep_enc b
    show max 0 (max (PyData.depthAll (encPs ps) + 1) (max (PyData.depth (encT b)) 0)) + 1 ≤ 3 * (max (K72.dpPs ps) (K72.dp b) + 1) + 1
    omega
  | .cs e ws => by
    have h1 := dep_encWs ws
    have h2 := dep_enc e
    show max 0 (max (PyData.depth (encT e)) (max (PyData.depthAll (encWs ws) + 1) 0)) + 1 ≤ 3 * (max (K72.dp e) (K72.dpWs ws) + 1) + 1
    omega
  | .par t => by
    have h1 := dep_enc t
    show PyData.depth (encT t) ≤ 3 * (K72.dp t + 1) + 1
    omega
theorem dep_encPs : ∀ ps : List (K72.L × KTm), PyData.depthAll (encPs ps) ≤ 3 * K72.dpPs ps + 2
  | [] => by show 0 ≤ _; omega
  | (x, t) :: r => by
    have h1 := dep_enc t
    have h2 := dep_encPs r
    show max (max 0 (max (PyData.depth (encT t)) 0) + 1) (PyData.depthAll (encPs r)) ≤ 3 * max (K72.dp t) (K72.dpPs r) + 2
    omega
theorem dep_encWs : ∀ ws : List (K72.L × List K72.L × KTm), PyData.depthAll (encWs ws) ≤ 3 * K72.dpWs ws + 2
  | [] => by show 0 ≤ _; omega
  | (c, xs, t) :: r => by
    have h1 := dep_enc t
    have h2 := dep_encWs r
    show max (max 0 (max (PyData.depthAll (xs.map fun x => PyData.str (S x)) + 1) (max (PyData.depth (encT t)) 0)) + 1) (PyData.depthAll (encWs r)) ≤ 3 * max (K72.dp t) (K72.dpWs r) + 2
    rw [dep_strs]
    omega
end
end W72
/-! W29: kinds and datas that are the same. -/
namespace W72
open PySem L2
mutual
theorem nb_encK : ∀ k : KKd, nb (encK k) = true
  | .num => rfl
  | .var _ => rfl
  | .data _ ks => by show (true && (true && (nbs (encKs ks) && true))) = true; rw [nb_encKs ks]; rfl
  | .fn a b => by show (true && (nb (encK a) && (nb (encK b) && true))) = true; rw [nb_encK a, nb_encK b]; rfl
  | .par k => by show nb (encK k) = true; exact nb_encK k
theorem nb_encKs : ∀ ks : List KKd, nbs (encKs ks) = true
  | [] => rfl
  | k :: r => by show (nb (encK k) && nbs (encKs r)) = true; rw [nb_encK k, nb_encKs r]; rfl
end
theorem nb_encMs : ∀ ms : List K72.Mk, nbs (ms.map encM) = true
  | [] => rfl
  | (c, ks) :: r => by show ((true && (nbs (encKs ks) && true)) && nbs (r.map encM)) = true; rw [nb_encKs ks, nb_encMs r]; rfl
theorem nb_encPr (d : K72.Dt) : nb (encPr d) = true := by
  show ((((true && (nbs (d.2.1.map fun x => PyData.str (S x)) && (nbs (d.2.2.map encM) && true))) && true)) && (true && true)) = true
  rw [nbs_strs, nb_encMs]; rfl
mutual
theorem enc_stripK : ∀ k : KKd, encK (K72.stripK k) = encK k
  | .num => rfl
  | .var _ => rfl
  | .data d ks => by show PyData.tuple [.str "data", .str (S d), .tuple (encKs (K72.stripKs ks))] = .tuple [.str "data", .str (S d), .tuple (encKs ks)]; rw [enc_stripKs ks]
  | .fn a b => by show PyData.tuple [.str "fun", encK (K72.stripK a), encK (K72.stripK b)] = .tuple [.str "fun", encK a, encK b]; rw [enc_stripK a, enc_stripK b]
  | .par k => by show encK (K72.stripK k) = encK k; exact enc_stripK k
theorem enc_stripKs : ∀ ks : List KKd, encKs (K72.stripKs ks) = encKs ks
  | [] => rfl
  | k :: r => by show encK (K72.stripK k) :: encKs (K72.stripKs r) = encK k :: encKs r; rw [enc_stripK k, enc_stripKs r]
end
theorem enc_stripMs : ∀ ms : List K72.Mk, (K72.stripMs ms).map encM = ms.map encM
  | [] => rfl
  | (c, ks) :: r => by
    show PyData.tuple [.str (S c), .tuple (encKs (K72.stripKs ks))] :: (K72.stripMs r).map encM = PyData.tuple [.str (S c), .tuple (encKs ks)] :: r.map encM
    rw [enc_stripKs, enc_stripMs r]
theorem enc_stripD (d : K72.Dt) : encPr (K72.stripD d) = encPr d := by
  show PyData.tuple [.tuple [.tuple [.str (S d.1), .tuple (d.2.1.map fun x => .str (S x)), .tuple ((K72.stripMs d.2.2).map encM)]], .tuple []] = PyData.tuple [.tuple [.tuple [.str (S d.1), .tuple (d.2.1.map fun x => .str (S x)), .tuple (d.2.2.map encM)]], .tuple []]
  rw [enc_stripMs]
def ixK : KKd → Nat | .num => 0 | .var _ => 1 | .data .. => 2 | .fn .. => 3 | .par _ => 8
def tagK : Nat → Str | 0 => "num" | 1 => "var" | 2 => "data" | 3 => "fun" | _ => ""
theorem tagK_inj : ∀ i, i < 4 → ∀ j, j < 4 → tagK i = tagK j → i = j := by decide +kernel
theorem ixK_lt {k : KKd} (h : K72.puK k) : ixK k < 4 := by
  cases k with
  | par _ => exact h.elim
  | num => exact (by decide : 0 < 4)
  | var _ => exact (by decide : 1 < 4)
  | data _ _ => exact (by decide : 2 < 4)
  | fn _ _ => exact (by decide : 3 < 4)
theorem encK_shape : ∀ k : KKd, K72.puK k → ∃ rest, encK k = .tuple (.str (tagK (ixK k)) :: rest)
  | .num, _ => ⟨_, by rw [encK] <;> rfl⟩
  | .var _, _ => ⟨_, by rw [encK] <;> rfl⟩
  | .data .., _ => ⟨_, by rw [encK] <;> rfl⟩
  | .fn .., _ => ⟨_, by rw [encK] <;> rfl⟩
  | .par _, h => h.elim
theorem same_ixK {a b : KKd} (pa : K72.puK a) (pb : K72.puK b) (h : encK a = encK b) : ixK a = ixK b := by
  obtain ⟨r1, e1⟩ := encK_shape a pa
  obtain ⟨r2, e2⟩ := encK_shape b pb
  rw [e1, e2] at h
  injection h with h
  injection h with h _
  injection h with h
  exact tagK_inj _ (ixK_lt pa) _ (ixK_lt pb) h
mutual
theorem encK_inj : ∀ (a b : KKd), K72.puK a → K72.puK b → encK a = encK b → a = b
  | .num, b, pa, pb, h => by
    have hx := same_ixK pa pb h
    cases b with
    | num => rfl
    | _ => exact absurd hx (by simp [ixK])
  | .var i, b, pa, pb, h => by
    have hx := same_ixK pa pb h
    cases b with
    | var j =>
      rw [encK, encK] at h
      injection h with h
      injection h with _ h
      injection h with h _
      injection h with h
      rw [SX.S_inj h]
    | _ => exact absurd hx (by simp [ixK])
  | .data i ks, b, pa, pb, h => by
    have hx := same_ixK pa pb h
    cases b with
    | data j qs =>
      rw [encK, encK] at h
      injection h with h
      injection h with _ h
      injection h with h1 h
      injection h with h2 _
      injection h1 with h1
      injection h2 with h2
      rw [SX.S_inj h1, encKs_inj ks qs pa pb h2]
    | _ => exact absurd hx (by simp [ixK])
  | .fn x y, b, pa, pb, h => by
    have hx := same_ixK pa pb h
    cases b with
    | fn u v =>
      rw [encK, encK] at h
      injection h with h
      injection h with _ h
      injection h with h1 h
      injection h with h2 _
      rw [encK_inj x u pa.1 pb.1 h1, encK_inj y v pa.2 pb.2 h2]
    | _ => exact absurd hx (by simp [ixK])
  | .par _, _, pa, _, _ => pa.elim
theorem encKs_inj : ∀ (a b : List KKd), K72.puKs a → K72.puKs b → encKs a = encKs b → a = b
  | [], [], _, _, _ => rfl
  | k :: r, j :: q, pa, pb, h => by
    rw [encKs, encKs] at h
    injection h with h1 h2
    rw [encK_inj k j pa.1 pb.1 h1, encKs_inj r q pa.2 pb.2 h2]
  | [], _ :: _, _, _, h => by rw [encKs, encKs] at h; cases h
  | _ :: _, [], _, _, h => by rw [encKs, encKs] at h; cases h
end
theorem encMs_inj : ∀ (a b : List K72.Mk), K72.puMs a → K72.puMs b → a.map encM = b.map encM → a = b
  | [], [], _, _, _ => rfl
  | (c, ks) :: r, (d, qs) :: q, pa, pb, h => by
    injection h with h1 h2
    injection h1 with h1
    injection h1 with h3 h1
    injection h1 with h4 _
    injection h3 with h3
    injection h4 with h4
    have e1 : c = d := SX.S_inj h3
    rw [e1, encKs_inj ks qs pa.1 pb.1 h4, encMs_inj r q pa.2 pb.2 h2]
  | [], _ :: _, _, _, h => by cases h
  | _ :: _, [], _, _, h => by cases h
theorem encPr_inj {a b : K72.Dt} (pa : K72.puMs a.2.2) (pb : K72.puMs b.2.2) (h : encPr a = encPr b) : a = b := by
  obtain ⟨n1, p1, m1⟩ := a
  obtain ⟨n2, p2, m2⟩ := b
  injection h with h
  injection h with h _
  injection h with h
  injection h with h _
  injection h with h
  injection h with h1 h
  injection h with h2 h
  injection h with h3 _
  injection h1 with h1
  injection h2 with h2
  injection h3 with h3
  have e1 : n1 = n2 := SX.S_inj h1
  have e2 : p1 = p2 := strs_inj h2
  rw [e1, e2, encMs_inj m1 m2 pa pb h3]
theorem eqvD_ne {a d : K72.Dt} (pd : K72.puMs d.2.2) (h : K72.stripD a ≠ d) : PyData.eqv (encPr a) (encPr d) = false := by
  cases e : PyData.eqv (encPr a) (encPr d) with
  | false => rfl
  | true =>
    have e := eqv_eq _ _ (nb_encPr a) (nb_encPr d) e
    rw [← enc_stripD a] at e
    exact absurd (encPr_inj (K72.pu_stripMs _) pd e) h
theorem lay_litK (i : Nat) : PyData.canLay0 (.str (tagK i)) = true := by
  show PyData.strOk (tagK i) = true
  match i with
  | 0 | 1 | 2 | 3 => decide +kernel
  | n + 4 => exact (by decide +kernel : PyData.strOk "" = true)
mutual
theorem lay_encK : ∀ k : KKd, K72.okK k → PyData.canLay0 (encK k) = true
  | .num, _ => by show (PyData.canLay0 (.str (tagK 0)) && true) = true; rw [lay_litK]; rfl
  | .var x, h => by show (PyData.canLay0 (.str (tagK 1)) && (PyData.canLay0 (.str (S x)) && true)) = true; rw [lay_litK, ok_str h]; rfl
  | .data d ks, h => by show (PyData.canLay0 (.str (tagK 2)) && (PyData.canLay0 (.str (S d)) && (PyData.canLayAll0 (encKs ks) && true))) = true; rw [lay_litK, ok_str h.1, lay_encKs ks h.2]; rfl
  | .fn a b, h => by show (PyData.canLay0 (.str (tagK 3)) && (PyData.canLay0 (encK a) && (PyData.canLay0 (encK b) && true))) = true; rw [lay_litK, lay_encK a h.1, lay_encK b h.2]; rfl
  | .par k, h => by show PyData.canLay0 (encK k) = true; exact lay_encK k h
theorem lay_encKs : ∀ ks : List KKd, K72.okKs ks → PyData.canLayAll0 (encKs ks) = true
  | [], _ => rfl
  | k :: r, h => by show (PyData.canLay0 (encK k) && PyData.canLayAll0 (encKs r)) = true; rw [lay_encK k h.1, lay_encKs r h.2]; rfl
end
theorem lay_encMs : ∀ ms : List K72.Mk, K72.okMs ms → PyData.canLayAll0 (ms.map encM) = true
  | [], _ => rfl
  | (c, ks) :: r, h => by
    show ((PyData.canLay0 (.str (S c)) && (PyData.canLayAll0 (encKs ks) && true)) && PyData.canLayAll0 (r.map encM)) = true
    rw [ok_str h.1.1, lay_encKs ks h.1.2, lay_encMs r h.2]; rfl
theorem lay_encPr {d : K72.Dt} (h1 : K72.okL d.1) (h2 : ∀ x ∈ d.2.1, K72.okL x) (h3 : K72.okMs d.2.2) : PyData.canLay0 (encPr d) = true := by
  show ((((PyData.canLay0 (.str (S d.1)) && (PyData.canLayAll0 (d.2.1.map fun x => PyData.str (S x)) && (PyData.canLayAll0 (d.2.2.map encM) && true))) && true)) && (true && true)) = true
  rw [ok_str h1, ok_strs h2, lay_encMs _ h3]; rfl
theorem eqvD_same {a d : K72.Dt} (h : K72.stripD a = d) (h1 : K72.okL d.1) (h2 : ∀ x ∈ d.2.1, K72.okL x) (h3 : K72.okMs d.2.2) : PyData.eqv (encPr a) (encPr d) = true := by
  rw [← enc_stripD a, h]
  exact SeqAt.eqv_refl _ (lay_encPr h1 h2 h3)
mutual
theorem dep_encK : ∀ k : KKd, PyData.depth (encK k) ≤ 2 * K72.dpK k + 2
  | .num => by show max 0 0 + 1 ≤ _; omega
  | .var _ => by show max 0 (max 0 0) + 1 ≤ _; omega
  | .data d ks => by
    have h := dep_encKs ks
    show max 0 (max 0 (max (PyData.depthAll (encKs ks) + 1) 0)) + 1 ≤ 2 * (K72.dpKs ks + 1) + 2
    omega
  | .fn a b => by
    have h1 := dep_encK a
    have h2 := dep_encK b
    show max 0 (max (PyData.depth (encK a)) (max (PyData.depth (encK b)) 0)) + 1 ≤ 2 * (max (K72.dpK a) (K72.dpK b) + 1) + 2
    omega
  | .par k => by
    have h1 := dep_encK k
    show PyData.depth (encK k) ≤ 2 * (K72.dpK k + 1) + 2
    omega
theorem dep_encKs : ∀ ks : List KKd, PyData.depthAll (encKs ks) ≤ 2 * K72.dpKs ks + 2
  | [] => by show 0 ≤ _; omega
  | k :: r => by
    have h1 := dep_encK k
    have h2 := dep_encKs r
    show max (PyData.depth (encK k)) (PyData.depthAll (encKs r)) ≤ 2 * max (K72.dpK k) (K72.dpKs r) + 2
    omega
end
theorem dep_encMs : ∀ ms : List K72.Mk, PyData.depthAll (ms.map encM) ≤ 2 * K72.dpMs ms + 4
  | [] => by show 0 ≤ _; omega
  | (c, ks) :: r => by
    have h1 := dep_encKs ks
    have h2 := dep_encMs r
    show max (max 0 (max (PyData.depthAll (encKs ks) + 1) 0) + 1) (PyData.depthAll (r.map encM)) ≤ 2 * max (K72.dpKs ks) (K72.dpMs r) + 4
    omega
theorem dep_encPr (d : K72.Dt) : PyData.depth (encPr d) ≤ 2 * K72.dpMs d.2.2 + 8 := by
  have h := dep_encMs d.2.2
  show max (max (max 0 (max (PyData.depthAll (d.2.1.map fun x => PyData.str (S x)) + 1) (max (PyData.depthAll (d.2.2.map encM) + 1) 0)) + 1) 0 + 1) (max (0 + 1) 0) + 1 ≤ _
  rw [dep_strs]
  omega
end W72
/-! W30: kind_shown. -/
namespace W72
open PySem L2
abbrev nKs : List Str := ["one", "level", "own", "text", "part"]
theorem scKs : FnScope nKs ["one", "level"] (defScope (top 48)) := ⟨rfl, rfl, rfl, by decide +kernel, rfl, by decide +kernel, by decide +kernel⟩
structure Ok' (n : Nat) (k : KKd) : Prop where
  p : K72.puK k
  o : okK k
  d : K72.dpK k ≤ n
  l : (lk k).length ≤ 50000
def spKs (K : PySem.W.Frag) (n : Nat) : Sp := fun vs H Q _ => ∃ (v : V) (k : KKd) (m : Nat), vs = [v, .int (m : Nat)] ∧ Dp K H v (encK k) ∧ Ok' n k ∧ ∀ H', Same H H' → Q (.str (S (textL (lkB m k (lk k))))) H'
theorem lkB_len {m : Nat} {k : KKd} : (lk k).length ≤ (lkB m k (lk k)).length := by
  unfold lkB
  split
  · rw [List.length_cons, List.length_append]; omega
  · exact Nat.le_refl _
theorem Ok'.tl {n : Nat} {k : KKd} (h : Ok' n k) : (textL (lk k)).length ≤ 1000000 := Nat.le_trans (text_len (ok_lk k h.o)) (by have := h.l; omega)
theorem Ok'.tlB {n m : Nat} {k : KKd} (h : Ok' n k) : (textL (lkB m k (lk k))).length ≤ 1000002 := by
  unfold lkB
  split
  · show (40 :: textL (lk k ++ [.tk .rp])).length ≤ _
    rw [text_app, List.length_cons, List.length_append]
    have := h.tl
    show (textL (lk k)).length + 1 + 1 ≤ _
    omega
  · exact Nat.le_trans h.tl (by decide)
def rowK (k : KKd) : List Nat := textL (lkB 2 k (lk k))
theorem text_lks : ∀ (d : List Nat) (ks : List KKd), d ++ textL (lks ks) = TL.joinL [32] (d :: ks.map rowK)
  | d, [] => by rw [lks]; show d ++ [] = d; rw [List.append_nil]
  | d, k :: r => by
    rw [lks]
    show d ++ 32 :: textL (lkB 2 k (lk k) ++ lks r) = d ++ ([32] ++ TL.joinL [32] (rowK k :: r.map rowK))
    rw [text_app, ← text_lks (rowK k) r] <;> rfl
theorem text_data (d : K72.L) (ks : List KKd) : textL (lk (.data d ks)) = TL.joinL [32] (d :: ks.map rowK) := by
  rw [lk, ← text_lks] <;> rfl
theorem lkB0 (k : KKd) (u : List Lx) : lkB 0 k u = u := if_neg (by omega)
theorem text_kfn (a b : KKd) : textL (lk (.fn a b)) = textL (lkB 1 a (lk a)) ++ [32, 45, 62, 32] ++ textL (lkB 0 b (lk b)) := by
  rw [lk, text_app, lkB0]
  show _ ++ 32 :: ([45, 62] ++ 32 :: textL (lk b)) = _
  simp
theorem ok_fn {n : Nat} {a b : KKd} (h : Ok' (n + 1) (.fn a b)) : Ok' n a ∧ Ok' n b := by
  have hl := h.l
  rw [lk] at hl
  simp only [List.length_append, List.length_cons] at hl
  have h1 := lkB_len (m := 1) (k := a)
  have hd : max (K72.dpK a) (K72.dpK b) + 1 ≤ n + 1 := h.d
  exact ⟨⟨h.p.1, h.o.1, by omega, by omega⟩, ⟨h.p.2, h.o.2, by omega, by omega⟩⟩
theorem ks_mem : ∀ {ks : List KKd} {k}, k ∈ ks → (lk k).length ≤ (lks ks).length ∧ K72.dpK k ≤ K72.dpKs ks ∧ (okKs ks → okK k) ∧ (K72.puKs ks → K72.puK k)
  | [], k, h => by cases h
  | j :: r, k, h => by
    have e : (lks (j :: r)).length = 1 + (lkB 2 j (lk j)).length + (lks r).length := by
      rw [lks]
      simp only [List.length_cons, List.length_append]
      omega
    have h1 := lkB_len (m := 2) (k := j)
    rcases List.mem_cons.mp h with z | m
    · subst z
      exact ⟨by omega, Nat.le_max_left _ _, fun o => o.1, fun o => o.1⟩
    · obtain ⟨h1, h2, h3, h4⟩ := ks_mem m
      exact ⟨by omega, Nat.le_trans h2 (Nat.le_max_right _ _), fun o => h3 o.2, fun o => h4 o.2⟩
theorem ks_cnt : ∀ ks : List KKd, ks.length ≤ (lks ks).length
  | [] => Nat.zero_le _
  | k :: r => by
    have := ks_cnt r
    rw [lks]
    simp only [List.length_cons, List.length_append]
    omega
theorem ok_dat {n : Nat} {d : K72.L} {ks : List KKd} (h : Ok' (n + 1) (.data d ks)) : isGreat d = true ∧ (∀ k ∈ ks, Ok' n k) ∧ ks.length ≤ 50000 := by
  have hl := h.l
  rw [lk] at hl
  simp only [List.length_cons] at hl
  have hd : K72.dpKs ks + 1 ≤ n + 1 := h.d
  refine ⟨h.o.1, fun k m => ?_, by have := ks_cnt ks; omega⟩
  obtain ⟨h1, h2, h3, h4⟩ := ks_mem m
  exact ⟨h4 h.p, h3 h.o.2, by omega, by omega⟩
theorem eqK (k : KKd) : decide (V.str (tagK (ixK k)) = V.str "var") = (match k with | .var _ => true | _ => false) := by cases k <;> rfl
theorem eqKf (k : KKd) : decide (V.str (tagK (ixK k)) = V.str "fun") = (match k with | .fn .. => true | _ => false) := by cases k <;> rfl
theorem eqKd (k : KKd) : decide (V.str (tagK (ixK k)) = V.str "data") = (match k with | .data .. => true | _ => false) := by cases k <;> rfl
theorem okS_L {x : K72.L} (h : okS x) : K72.okL x := fun c m => by
  have h3 := List.all_eq_true.mp (small_parts h).2.2.1 c m
  unfold isSm at h3
  simp only [Bool.and_eq_true, decide_eq_true_eq] at h3
  omega
theorem okG_L {x : K72.L} (h : isGreat x = true) : K72.okL x := fun c m => by
  obtain ⟨h1, _, h3, h4⟩ := great_parts h
  cases x with
  | nil => cases m
  | cons a r =>
    rcases List.mem_cons.mp m with e | m
    · have h3' : isGr a = true := h3
      unfold isGr at h3'
      simp only [Bool.and_eq_true, decide_eq_true_eq] at h3'
      omega
    · have h4' := List.all_eq_true.mp h4 c m
      unfold isSm at h4'
      simp only [Bool.and_eq_true, decide_eq_true_eq] at h4'
      omega
theorem kB_pos {m : Nat} {k : KKd} {x : List Nat} {o : Int} (ho : o = ((K72.lvK k : Nat) : Int)) (c : decide (o < (m : Int)) = true) (hx : textL (lk k) = x) : textL (lkB m k (lk k)) = [40] ++ x ++ [41] := by
  have c' : K72.lvK k < m := by have := of_decide_eq_true c; omega
  unfold lkB
  rw [if_pos c']
  show 40 :: textL (lk k ++ [.tk .rp]) = _
  rw [text_app, hx] <;> rfl
theorem kB_neg {m : Nat} {k : KKd} {x : List Nat} {o : Int} (ho : o = ((K72.lvK k : Nat) : Int)) (c : ¬ decide (o < (m : Int)) = true) (hx : textL (lk k) = x) : textL (lkB m k (lk k)) = x := by
  have c' : ¬ K72.lvK k < m := fun z => c (decide_eq_true (by omega))
  unfold lkB
  rw [if_neg c', hx]
mutual
theorem okK_K : ∀ k : KKd, okK k → K72.okK k
  | .num, _ => trivial
  | .var _, h => okS_L h
  | .data _ ks, h => ⟨okG_L h.1, okKs_K ks h.2⟩
  | .fn a b, h => ⟨okK_K a h.1, okK_K b h.2⟩
  | .par k, h => okK_K k h
theorem okKs_K : ∀ ks : List KKd, okKs ks → K72.okKs ks
  | [], _ => trivial
  | k :: r, h => ⟨okK_K k h.1, okKs_K r h.2⟩
end
section
variable {P : Program} {w : World} {K : PySem.W.Frag} {mg : Str → Option Value} {base : Heap} {f : Addr} {fd : FuncData} {n k : Nat}
theorem ok_ks (F : Fun K "kind_shown" "kind_shown" (top 48) f fd) (Z : Bl mg) (cK : Cl P w K mg base k "kind_shown" (lower (spKs K) n)) : FnOk P w K mg base (L2.CX P w) (k + 1) f fd ["one", "level"] (spKs K n) := by
  refine F.okX scKs (fun vs H Q E h => ?_) (fun cdv A' outer s₀ H vs Q E hr h => ?_)
  · obtain ⟨v, k, m, rfl, _⟩ := h
    rfl
  obtain ⟨v, kd, m, rfl, D, ok, q⟩ := h
  have hu := hr.units
  refine ⟨_, pss_cons (ps_set (i := 2) scKs.nd rfl (Or.inl rfl) pe_int)
    (pss_cons (ps_set (i := 3) scKs.nd rfl (Or.inl rfl) pe_str)
    (pss_cons (ps_if (pt_cmpR op_eq (pe_ix ix_tup (pv 0) pe_int (fun _ _ => rfl)) pe_str (nomark _))
      (pss_one (ps_set (i := 3) scKs.nd rfl (Or.inl rfl) (pe_ix ix_tup (pv 0) pe_int (fun _ _ => rfl))))
      (pss_one (ps_if (pt_cmpR op_eq (pe_ix ix_tup (pv 0) pe_int (fun _ _ => rfl)) pe_str (nomark _))
        (pss_cons (ps_set (i := 2) scKs.nd rfl (Or.inl rfl) pe_int)
          (pss_one (ps_set (i := 3) scKs.nd rfl (Or.inl rfl) (pe_op op_cs (pe_op op_cs (pe_cl cK hr pxN rfl (pa_cons (pe_ix ix_tup (pv 0) pe_int (fun _ _ => rfl)) (pa_cons pe_int pa_nil))) pe_str) (pe_cl cK hr pxN rfl (pa_cons (pe_ix ix_tup (pv 0) pe_int (fun _ _ => rfl)) (pa_cons pe_int pa_nil)))))))
        (pss_one (ps_if (pt_cmpR op_eq (pe_ix ix_tup (pv 0) pe_int (fun _ _ => rfl)) pe_str (nomark _))
          (pss_cons (ps_set (i := 2) scKs.nd rfl (Or.inl rfl) (pe_op op_sub pe_int (pe_callTy call_int1 rfl Z.int (by decide +kernel) (pa_cons (pe_cmpR (op_neM hu) (pe_ix ix_tup (pv 0) pe_int (fun _ _ => rfl)) (pe_tup pa_nil) (nomark _)) pa_nil))))
            (pss_one (ps_set (i := 3) scKs.nd rfl (Or.inl rfl) (pe_join pe_str (pe_op op_cat (pe_lst (pa_cons (pe_ix ix_tup (pv 0) pe_int (fun _ _ => rfl)) pa_nil))
              (pe_lc (own := [("part", 4)]) (g := gName 4) (tt := tYes) rfl scKs.nd (pi_tup (pe_ix ix_tup (pv 0) pe_int (fun _ _ => rfl))) (blkOk_by (N := nKs) (sc := defScope (top 48)) (by decide +kernel)) (fun _ _ _ _ _ => pg_name (i := 4) scKs.nd rfl (Or.inl rfl)) (fun _ _ _ _ _ => pts_nil)
                (fun _ _ _ _ _ => pe_cl cK hr pxN rfl (pa_cons (pv 4) (pa_cons pe_int pa_nil)))))))))
          pss_nil)))))
    (pss_cons (ps_if (pt_cmpR op_lt (pv 2) (pv 1) (nomark _)) (pss_one (ps_ret (pe_op op_cs (pe_op op_cs pe_str (pv 3)) pe_str))) pss_nil)
    (pss_one (ps_ret (pv 3)))))), ?_⟩
  obtain ⟨rest, e⟩ := encK_shape kd ok.p
  have D0 := D
  rw [e] at D0
  obtain ⟨p, xs, rfl, hS, hA⟩ := dp_tupI D0
  obtain ⟨v0, r0, rfl, d0, hA2⟩ := dpa_consI hA
  cases dp_strI d0
  have htl := ok.tl
  refine ⟨_, rfl, p, _, 0, _, rfl, rfl, hS, atI_nat (j := 0) rfl, rfl, _, rfl, ?_⟩
  show if decide (V.str (tagK (ixK kd)) = V.str "var") = true then _ else _
  rw [eqK]
  cases kd with
  | par _ => exact ok.p.elim
  | num =>
    have hx : textL (lk .num) = [110, 117, 109] := by rw [lk] <;> rfl
    have ho : ((2 : Int)) = ((K72.lvK .num : Nat) : Int) := rfl
    have s3 : Same H H := Same.refl _
    refine iteF' rfl ?_
    refine ⟨_, rfl, p, _, 0, _, rfl, rfl, hS, atI_nat (j := 0) rfl, rfl, _, rfl, ?_⟩
    refine iteF' rfl ?_
    refine ⟨_, rfl, p, _, 0, _, rfl, rfl, hS, atI_nat (j := 0) rfl, rfl, _, rfl, ?_⟩
    refine iteF' rfl ?_
    rw [hx] at htl
    rw [show ("num" : Str) = S [110, 117, 109] by decide +kernel]
    refine ⟨_, rfl, _, rfl, _, _, rfl, rfl, _, rfl, ?_⟩
    refine ite2 (fun c => ?_) (fun c => ?_)
    · rw [kB_pos ho c hx] at q
      exact ⟨_, rfl, [40], _, by decide +kernel, rfl, by show 1 + _ ≤ _; omega, _, [41], rfl, by decide +kernel, by rw [List.length_append]; show 1 + _ + 1 ≤ _; omega, q _ s3⟩
    · rw [kB_neg ho c hx] at q
      exact ⟨_, rfl, q _ s3⟩
  | var x =>
    have hx : textL (lk (.var x)) = x := by rw [lk]; show x ++ [] = x; rw [List.append_nil]
    have ho : ((2 : Int)) = ((K72.lvK (.var x) : Nat) : Int) := rfl
    have s3 : Same H H := Same.refl _
    rw [encK] at e
    injection e with e
    injection e with e1 e2
    rw [← e2] at hA2
    obtain ⟨v1, r1, rfl, d1, hA3⟩ := dpa_consI hA2
    cases dp_strI d1
    refine iteT' rfl ?_
    refine ⟨_, rfl, p, _, 1, _, rfl, rfl, hS, atI_nat (j := 1) rfl, ?_⟩
    rw [hx] at htl
    refine ⟨_, rfl, _, rfl, _, _, rfl, rfl, _, rfl, ?_⟩
    refine ite2 (fun c => ?_) (fun c => ?_)
    · rw [kB_pos ho c hx] at q
      exact ⟨_, rfl, [40], _, by decide +kernel, rfl, by show 1 + _ ≤ _; omega, _, [41], rfl, by decide +kernel, by rw [List.length_append]; show 1 + _ + 1 ≤ _; omega, q _ s3⟩
    · rw [kB_neg ho c hx] at q
      exact ⟨_, rfl, q _ s3⟩
  | fn a b =>
    have hd := ok.d
    obtain ⟨n', rfl⟩ : ∃ n', n = n' + 1 := ⟨n - 1, by
      have : max (K72.dpK a) (K72.dpK b) + 1 ≤ n := hd
      omega⟩
    obtain ⟨oa, ob⟩ := ok_fn ok
    have la := oa.tlB (m := 1)
    have lb := ob.tlB (m := 0)
    have hx := text_kfn a b
    have ho : ((0 : Int)) = ((K72.lvK (.fn a b) : Nat) : Int) := rfl
    rw [encK] at e
    injection e with e
    injection e with e1 e2
    rw [← e2] at hA2
    obtain ⟨va, r1, rfl, da, hA3⟩ := dpa_consI hA2
    obtain ⟨vb, r2, rfl, db, hA4⟩ := dpa_consI hA3
    refine iteF' rfl ?_
    refine ⟨_, rfl, p, _, 0, _, rfl, rfl, hS, atI_nat (j := 0) rfl, rfl, _, rfl, ?_⟩
    refine iteT' rfl ?_
    refine ⟨_, rfl, p, _, 1, _, rfl, rfl, hS, atI_nat (j := 1) rfl, n', rfl, va, a, 1, rfl, da, oa, fun H1 s1 => ?_⟩
    refine ⟨_, [32, 45, 62, 32], rfl, by decide +kernel, by show _ + 4 ≤ _; omega, ?_⟩
    refine ⟨_, rfl, p, _, 2, _, rfl, rfl, seqT_stay (fun b o e _ => s1 b o e) hS, atI_nat (j := 2) rfl, n', rfl, vb, b, 0, rfl, dp_same s1 db, ob, fun H2 s2 => ?_⟩
    refine ⟨_, _, rfl, rfl, by rw [List.length_append]; show _ + 4 + _ ≤ _; omega, ?_⟩
    have s3 : Same H H2 := s1.trans s2
    rw [hx] at htl
    refine ⟨_, rfl, _, rfl, _, _, rfl, rfl, _, rfl, ?_⟩
    refine ite2 (fun c => ?_) (fun c => ?_)
    · rw [kB_pos ho c hx] at q
      exact ⟨_, rfl, [40], _, by decide +kernel, rfl, by show 1 + _ ≤ _; omega, _, [41], rfl, by decide +kernel, by rw [List.length_append]; show 1 + _ + 1 ≤ _; omega, q _ s3⟩
    · rw [kB_neg ho c hx] at q
      exact ⟨_, rfl, q _ s3⟩
  | data d ks =>
    have hd := ok.d
    obtain ⟨n', rfl⟩ : ∃ n', n = n' + 1 := ⟨n - 1, by
      have : K72.dpKs ks + 1 ≤ n := hd
      omega⟩
    obtain ⟨okd, oks, lks⟩ := ok_dat ok
    have hx := text_data d ks
    rw [encK] at e
    injection e with e
    injection e with e1 e2
    rw [← e2] at hA2
    obtain ⟨v1, r1, rfl, d1, hA3⟩ := dpa_consI hA2
    cases dp_strI d1
    obtain ⟨vk, r2, rfl, dk, hA4⟩ := dpa_consI hA3
    obtain ⟨pk, xk, rfl, hSk, hAk⟩ := dp_tupI dk
    refine iteF' rfl ?_
    refine ⟨_, rfl, p, _, 0, _, rfl, rfl, hS, atI_nat (j := 0) rfl, rfl, _, rfl, ?_⟩
    refine iteF' rfl ?_
    refine ⟨_, rfl, p, _, 0, _, rfl, rfl, hS, atI_nat (j := 0) rfl, rfl, _, rfl, ?_⟩
    refine iteT' rfl ?_
    refine ⟨_, rfl, p, _, 2, _, rfl, rfl, hS, atI_nat (j := 2) rfl, Nat.zero_le _, fun a0 na0 => ?_⟩
    refine ⟨.tuple (encKs ks), .tuple [], dp_new na0 (.tup hSk hAk), .tup (SqT.of upd_same) .nil, ?_, rfl, ?_, ?_⟩
    · show PyData.canLayAll0 (encKs ks) = true
      exact lay_encKs ks (okKs_K ks ok.o.2)
    · show min _ (0 + 1) ≤ 64
      omega
    have s0 : Same H (upd H a0 (.tup [])) := same_new na0
    generalize upd H a0 (.tup []) = H0 at s0
    refine .inr ⟨_, rfl, ?_⟩
    refine ⟨_, _, rfl, rfl, ?_⟩
    have ho : (2 : Int) - (if (!PyData.eqv (.tuple (encKs ks)) (.tuple [])) = true then 1 else 0) = ((K72.lvK (.data d ks) : Nat) : Int) := by
      cases ks <;> rfl
    have hS0 : SqT K H0 p [.str (tagK (ixK (.data d ks))), .str (S d), .ref pk] := by
      have h := seqT_stay (fun b o e _ => s0 b o e) hS
      rw [dpa_nilI hA4] at h
      exact h
    refine ⟨⟨_, rfl⟩, _, rfl, p, _, 1, _, rfl, rfl, hS0, atI_nat (j := 1) rfl, (by show 1 ≤ sizeLine; decide), fun q1 nq1 => ?_⟩
    generalize hH1 : upd H0 q1 (.lst [.str (S d)]) = H1
    have s1 : Same H0 H1 := by rw [← hH1]; exact same_new nq1
    have hq1 : H1 q1 = some (.lst [.str (S d)]) := by rw [← hH1]; exact upd_same
    have hSk1 : SqT K H1 pk xk := seqT_stay (fun b o e _ => s1 b o (s0 b o e)) hSk
    have hAk1 : DpAll K H1 xk (encKs ks) := dpa_stay (fun b o e _ => s1 b o (s0 b o e)) hAk
    rw [encKs_map] at hAk1
    have hxl : xk.length = ks.length := by rw [dpa_len hAk1, List.length_map]
    refine ⟨_, rfl, p, _, 2, _, rfl, rfl, seqT_stay (fun b o e _ => s1 b o e) hS0, atI_nat (j := 2) rfl, pk, rfl, ⟨_, hSk1⟩, fun Dr nDr => ?_⟩
    rw [hx] at htl
    refine lc_it walk_tup (fun i H' => Same H1 H' ∧ H' Dr = some (.lst (((ks.map rowK).take i).map fun a => V.str (S a)))) ⟨same_new nDr, by rw [upd_same] <;> rfl⟩ (fun i H' _ h => seqT_stay (fun b o e _ => h.1 b o e) hSk1) ?_ ?_
    · rintro i x H2 H2' hi ⟨s2, h2⟩ ⟨rfl, hxx⟩
      obtain ⟨dd, hd1, hd2⟩ := dpa_get hAk1 hxx
      rw [List.getElem?_map] at hd1
      have hi' : i < ks.length := by rw [← hxl]; exact hi
      rw [List.getElem?_eq_getElem hi'] at hd1
      cases hd1
      have oki := oks _ (List.getElem_mem hi')
      refine ⟨rfl, _, rfl, n', rfl, x, ks[i], 2, rfl, dp_same s2 hd2, oki, fun H3 s3 => ?_⟩
      refine ⟨_, s3 _ _ h2, ?_, fun b o e => by rw [upd_ne (ne_of_none e nDr)]; exact s3 _ _ (s2 _ _ e), ?_⟩
      · rw [List.length_map, List.length_take, List.length_map]
        exact Nat.lt_of_le_of_lt (show _ ≤ 50000 by omega) (by decide)
      · rw [upd_same, List.take_succ, List.map_append, List.getElem?_map, List.getElem?_eq_getElem hi'] <;> rfl
    · rintro H2 ⟨s2, h2⟩
      rw [hxl, show ks.length = (ks.map rowK).length from (List.length_map _).symm, List.take_length] at h2
      refine ⟨q1, Dr, _, _, rfl, rfl, s2 _ _ hq1, h2, ?_, fun q3 nq3 => ?_⟩
      · rw [List.length_map, List.length_map]
        exact Nat.le_trans (show 1 + _ ≤ 50001 by omega) (by decide)
      have lj := joinL_len [32] d (ks.map rowK)
      have e1 : ([32] : List Nat).length = 1 := rfl
      rw [e1] at lj
      refine ⟨_, q3, (d :: ks.map rowK).map S, rfl, rfl, .inl (SqL.of (by rw [upd_same, ← stxs_map] <;> rfl)), ?_, ?_⟩
      · rw [SX.lens, List.length_map]
        show ((d :: ks.map rowK).map List.length).sum + (d :: ks.map rowK).length * 1 ≤ _
        omega
      rw [show ((" " : Str)) = S [32] by decide +kernel, SX.join_S]
      have s3 : Same H (upd H2 q3 (.lst ([.str (S d)] ++ (ks.map rowK).map fun a => V.str (S a)))) := s0.trans (s1.trans (s2.trans (same_new nq3)))
      refine ⟨_, rfl, _, rfl, _, _, rfl, rfl, _, rfl, ?_⟩
      refine ite2 (fun c => ?_) (fun c => ?_)
      · rw [kB_pos ho c hx] at q
        exact ⟨_, rfl, [40], _, by decide +kernel, rfl, by show 1 + _ ≤ _; omega, _, [41], rfl, by decide +kernel, by rw [List.length_append]; show 1 + _ + 1 ≤ _; omega, q _ s3⟩
      · rw [kB_neg ho c hx] at q
        exact ⟨_, rfl, q _ s3⟩
end
end W72
/-! W31: data_shown, show_program. -/
namespace W72
open PySem L2
abbrev nDs : List Str := ["data", "name", "params", "makers", "rows", "maker", "kinds", "one"]
theorem scDs : FnScope nDs ["data"] (defScope (top 49)) := ⟨rfl, rfl, rfl, by decide +kernel, rfl, by decide +kernel, by decide +kernel⟩
abbrev nSp : List Str := ["program", "datas", "defs", "rows", "data", "one", "row"]
theorem scSp : FnScope nSp ["program"] (defScope (top 51)) := ⟨rfl, rfl, rfl, by decide +kernel, rfl, by decide +kernel, by decide +kernel⟩
structure OkDt (n : Nat) (e : K72.Dt) : Prop where
  p : K72.puMs e.2.2
  o : okD e
  d : K72.dpMs e.2.2 ≤ n
  l : (lD e).length ≤ 50000
def rowM (m : K72.Mk) : List Nat := TL.joinL [32] (m.1 :: m.2.map rowK)
theorem text_ms : ∀ ms : List K72.Mk, textL (lMs ms) = TL.joinL [32, 124, 32] (ms.map rowM)
  | [] => rfl
  | [(c, ks)] => by
    rw [lMs]
    show c ++ textL (lks ks ++ []) = TL.joinL [32] (c :: ks.map rowK)
    rw [List.append_nil, text_lks]
  | (c, ks) :: y :: r => by
    rw [lMs]
    show c ++ textL (lks ks ++ .sp :: .tk .bar :: .sp :: lMs (y :: r)) = rowM (c, ks) ++ ([32, 124, 32] ++ TL.joinL [32, 124, 32] ((y :: r).map rowM))
    rw [text_app, ← text_ms (y :: r), ← List.append_assoc, text_lks]
    rfl
theorem text_D (d : K72.Dt) : textL (lD d) = TL.joinL [32] ([100, 97, 116, 97] :: d.1 :: d.2.1) ++ [32, 61, 32] ++ TL.joinL [32, 124, 32] (d.2.2.map rowM) := by
  show [100, 97, 116, 97] ++ 32 :: (d.1 ++ textL (lsm d.2.1 ++ .sp :: .tk .eq :: .sp :: lMs d.2.2)) = _
  rw [text_app, ← text_ms]
  show [100, 97, 116, 97] ++ 32 :: (d.1 ++ (textL (lsm d.2.1) ++ 32 :: ([61] ++ 32 :: textL (lMs d.2.2)))) = ([100, 97, 116, 97] ++ ([32] ++ TL.joinL [32] (d.1 :: d.2.1))) ++ [32, 61, 32] ++ _
  rw [← text_lsm]
  simp
theorem ms_mem : ∀ {ms : List K72.Mk} {m}, m ∈ ms → (lks m.2).length + 1 ≤ (lMs ms).length ∧ K72.dpKs m.2 ≤ K72.dpMs ms ∧ (okMs ms → isGreat m.1 = true ∧ okKs m.2) ∧ (K72.puMs ms → K72.puKs m.2)
  | [], m, h => by cases h
  | (c, ks) :: r, m, h => by
    have e : (lMs ((c, ks) :: r)).length = 1 + (lks ks).length + (if r.isEmpty then 0 else 3 + (lMs r).length) := by
      rw [lMs]
      simp only [List.length_cons, List.length_append]
      split
      · simp; omega
      · simp only [List.length_cons]; omega
    rcases List.mem_cons.mp h with z | m
    · subst z
      exact ⟨by rw [e]; show (lks ks).length + 1 ≤ _; omega, Nat.le_max_left _ _, fun o => ⟨o.1, o.2.1⟩, fun o => o.1⟩
    · obtain ⟨h1, h2, h3, h4⟩ := ms_mem m
      refine ⟨?_, Nat.le_trans h2 (Nat.le_max_right _ _), fun o => h3 o.2.2, fun o => h4 o.2⟩
      cases r with
      | nil => cases m
      | cons y r => rw [e, if_neg (by simp)]; omega
theorem ms_cnt : ∀ ms : List K72.Mk, ms.length ≤ (lMs ms).length
  | [] => Nat.zero_le _
  | (c, ks) :: r => by
    have := ms_cnt r
    rw [lMs]
    simp only [List.length_cons, List.length_append]
    cases r with
    | nil => simp
    | cons y r => simp only [List.isEmpty_cons, Bool.false_eq_true, if_false, List.length_cons] at this ⊢; omega
theorem okdt_parts {n : Nat} {d : K72.Dt} (h : OkDt n d) : (∀ m ∈ d.2.2, isGreat m.1 = true ∧ (∀ k ∈ m.2, Ok' n k) ∧ m.2.length ≤ 50000) ∧ d.2.2.length ≤ 50000 ∧ d.2.1.length ≤ 25000 := by
  have hl := h.l
  unfold lD at hl
  simp only [List.length_cons, List.length_append, lsm_len] at hl
  refine ⟨fun m hm => ?_, by have := ms_cnt d.2.2; omega, by omega⟩
  obtain ⟨h1, h2, h3, h4⟩ := ms_mem hm
  have hd := h.d
  refine ⟨(h3 h.o.2.2).1, fun k hk => ?_, by have := ks_cnt m.2; omega⟩
  obtain ⟨g1, g2, g3, g4⟩ := ks_mem hk
  exact ⟨g4 (h4 h.p), g3 (h3 h.o.2.2).2, by omega, by omega⟩
theorem OkDt.tl {n : Nat} {d : K72.Dt} (h : OkDt n d) : (textL (lD d)).length ≤ 1000000 := Nat.le_trans (text_len (ok_lD d h.o)) (by have := h.l; omega)
theorem joinL_mem (s : List Nat) : ∀ {L : List (List Nat)} {y : List Nat}, y ∈ L → y.length ≤ (TL.joinL s L).length
  | [], y, h => by cases h
  | [x], y, h => by
    rcases List.mem_cons.mp h with z | z
    · rw [z]; exact Nat.le_refl _
    · cases z
  | x :: z :: r, y, h => by
    show y.length ≤ (x ++ (s ++ TL.joinL s (z :: r))).length
    rw [List.length_append, List.length_append]
    rcases List.mem_cons.mp h with e | m
    · rw [e]; omega
    · have := joinL_mem s m
      omega
theorem rows_condB {L : List (List Nat)} (h : (TL.joinL [32, 124, 32] L).length ≤ 1000000) : (((L.map S).map (·.length)).sum + (L.map S).length * (S [32, 124, 32]).length ≤ 16777216) := by
  rw [SX.lens, SX.S_len, List.length_map]
  cases L with
  | nil => simp
  | cons y r =>
    have e := joinL_len [32, 124, 32] y r
    show ((y :: r).map List.length).sum + (y :: r).length * 3 ≤ _
    have e2 : ([32, 124, 32] : List Nat).length = 3 := rfl
    rw [e2] at e
    omega
def spDs (K : PySem.W.Frag) (n : Nat) : Sp := fun vs H Q _ => ∃ (v : V) (d : K72.Dt), vs = [v] ∧ Dp K H v (encD d) ∧ OkDt n d ∧ ∀ H', Same H H' → Q (.str (S (textL (lD d)))) H'
def teMk (K : PySem.W.Frag) (n : Nat) : TE := tM1 (rJoin K) (tC (.str " ")) (tOp rCat (tLst (tCons (tVar 5) tNil)) (tLc (iTup K (tVar 6)) (gName 7) tYes (tCall (spKs K n) [] E0 (tCons (tVar 7) (tCons (tC (.int 2)) tNil))) [7]))
section
variable {P : Program} {w : World} {K : PySem.W.Frag} {mg : Str → Option Value} {base : Heap} {f : Addr} {fd : FuncData} {n k : Nat}
theorem ks_all (D : Df K mg "kind_shown" (top 48) ["one", "level"]) (Z : Bl mg) : ∀ n, Cl P w K mg base (n + 1) "kind_shown" (spKs K n) := by
  intro n
  induction n with
  | zero => exact D.cl fun _ _ F => ok_ks F Z (D.low fun m e => by cases e)
  | succ n ih =>
    exact D.cl fun _ _ F => ok_ks F Z (D.low fun m e => by
      have : m = n := by omega
      rw [this]; exact ih)
theorem ok_ds (F : Fun K "data_shown" "data_shown" (top 49) f fd) (Z : Bl mg) (cK : Cl P w K mg base k "kind_shown" (spKs K n)) : FnOk P w K mg base (L2.CX P w) (k + 1) f fd ["data"] (spDs K n) := by
  refine F.okX scDs (fun vs H Q E h => ?_) (fun cdv A' outer s₀ H vs Q E hr h => ?_)
  · obtain ⟨v, d, rfl, _⟩ := h
    rfl
  obtain ⟨v, d, rfl, D, ok, q⟩ := h
  refine ⟨_, pss_cons (ps_asg (pv 0) (pg_tup rfl (pgs_cons (pg_name (i := 1) scDs.nd rfl (Or.inl rfl)) (pgs_cons (pg_name (i := 2) scDs.nd rfl (Or.inl rfl)) (pgs_cons (pg_name (i := 3) scDs.nd rfl (Or.inl rfl)) pgs_nil)))))
    (pss_cons (ps_setLc (i := 4) (own := [("maker", 5), ("kinds", 6)]) (g := gTup K 2 (gCons (gName 5) (gCons (gName 6) gNil))) (te := teMk K n) (tt := tYes) rfl scDs.nd rfl rfl (sw_true rfl rfl rfl (by decide +kernel)) (pi_tup (pv 3)) (blkOk_by (N := nDs) (sc := defScope (top 49)) (by decide +kernel))
        (fun _ _ _ _ _ => pg_tup rfl (pgs_cons (pg_name (i := 5) scDs.nd rfl (Or.inl rfl)) (pgs_cons (pg_name (i := 6) scDs.nd rfl (Or.inl rfl)) pgs_nil))) (fun _ _ _ _ _ => pts_nil)
        (fun _ _ _ _ _ => by
          unfold teMk
          refine pe_join pe_str ?_
          refine pe_op op_cat (pe_lst (pa_cons (pv 5) pa_nil)) ?_
          refine pe_lc (own := [("one", 7)]) (g := gName 7) (tt := tYes) rfl scDs.nd (pi_tup (pv 6)) (blkOk_by (N := nDs) (sc := { kind := .function, names := [(".0", .local), ("maker", .local), ("kinds", .local)], isGenerator := false, isCoroutine := false }) (by decide +kernel)) (fun _ _ _ _ _ => pg_name (i := 7) scDs.nd rfl (Or.inl rfl)) (fun _ _ _ _ _ => pts_nil) (fun _ _ _ _ _ => ?_)
          exact pe_cl cK hr pxN rfl (pa_cons (pv 7) (pa_cons pe_int pa_nil))))
    (pss_one (ps_ret (pe_op op_cs (pe_op op_cs (pe_join pe_str (pe_op op_cat (pe_lst (pa_cons pe_str (pa_cons (pv 1) pa_nil))) (pe_callTy call_list_of rfl Z.list (by decide +kernel) (pa_cons (pv 2) pa_nil)))) pe_str) (pe_join pe_str (pv 4)))))), ?_⟩
  obtain ⟨oms, lms, lps⟩ := okdt_parts ok
  have htl := ok.tl
  obtain ⟨p, xs, rfl, hS, hA⟩ := dp_tupI D
  obtain ⟨v1, r1, rfl, d1, hA1⟩ := dpa_consI hA
  cases dp_strI d1
  obtain ⟨v2, r2, rfl, d2, hA2⟩ := dpa_consI hA1
  obtain ⟨v3, r3, rfl, d3, hA3⟩ := dpa_consI hA2
  cases dpa_nilI hA3
  obtain ⟨pp, xp, rfl, hSp, hAp⟩ := dp_tupI d2
  cases dpa_strsI hAp
  obtain ⟨pm, xm, rfl, hSm, hAm⟩ := dp_tupI d3
  have hxl : xm.length = d.2.2.length := by rw [dpa_len hAm, List.length_map]
  rw [text_D] at q htl
  simp only [List.length_append] at htl
  refine ⟨_, rfl, p, _, rfl, hS, rfl, _, _, rfl, _, _, rfl, _, _, rfl, rfl, ?_⟩
  refine ⟨_, rfl, pm, rfl, ⟨_, hSm⟩, fun Dr nDr => ?_⟩
  refine lc_it walk_tup (fun i H' => Same H H' ∧ H' Dr = some (.lst (((d.2.2.map rowM).take i).map fun a => V.str (S a)))) ⟨same_new nDr, by rw [upd_same] <;> rfl⟩ (fun i H' _ h => seqT_stay (fun b o e _ => h.1 b o e) hSm) ?_ ?_
  · rintro i x H2 H2' hi ⟨s2, h2⟩ ⟨rfl, hxx⟩
    obtain ⟨dd, hd1, hd2⟩ := dpa_get hAm hxx
    rw [List.getElem?_map] at hd1
    have hi' : i < d.2.2.length := by rw [← hxl]; exact hi
    rw [List.getElem?_eq_getElem hi'] at hd1
    cases hd1
    obtain ⟨okc, oks, lks'⟩ := oms _ (List.getElem_mem hi')
    obtain ⟨pi, xi, rfl, hSi, hAi⟩ := dp_tupI (dp_same s2 hd2)
    obtain ⟨u1, t1, rfl, e1, hB⟩ := dpa_consI hAi
    cases dp_strI e1
    obtain ⟨u2, t2, rfl, e2, hB2⟩ := dpa_consI hB
    cases dpa_nilI hB2
    obtain ⟨pk, xk, rfl, hSk, hAk⟩ := dp_tupI e2
    refine ⟨pi, _, rfl, hSi, rfl, _, _, rfl, _, _, rfl, rfl, rfl, ?_⟩
    unfold teMk
    refine ⟨⟨_, rfl⟩, _, rfl, (by show 1 ≤ sizeLine; decide), fun q1 nq1 => ?_⟩
    generalize hH1 : upd H2' q1 (.lst [.str (S d.2.2[i].1)]) = H1
    have s1 : Same H2' H1 := by rw [← hH1]; exact same_new nq1
    have hq1 : H1 q1 = some (.lst [.str (S d.2.2[i].1)]) := by rw [← hH1]; exact upd_same
    have hSk1 : SqT K H1 pk xk := seqT_stay (fun b o e _ => s1 b o e) hSk
    have hAk1 : DpAll K H1 xk (encKs d.2.2[i].2) := dpa_stay (fun b o e _ => s1 b o e) hAk
    rw [encKs_map] at hAk1
    have hkl : xk.length = d.2.2[i].2.length := by rw [dpa_len hAk1, List.length_map]
    refine ⟨_, rfl, pk, rfl, ⟨_, hSk1⟩, fun Di nDi => ?_⟩
    refine lc_it walk_tup (fun j H' => Same H1 H' ∧ H' Di = some (.lst (((d.2.2[i].2.map rowK).take j).map fun a => V.str (S a)))) ⟨same_new nDi, by rw [upd_same] <;> rfl⟩ (fun i H' _ h => seqT_stay (fun b o e _ => h.1 b o e) hSk1) ?_ ?_
    · rintro j y H3 H3' hj ⟨s3, h3⟩ ⟨rfl, hyy⟩
      obtain ⟨dd, hd1, hd3⟩ := dpa_get hAk1 hyy
      rw [List.getElem?_map] at hd1
      have hj' : j < d.2.2[i].2.length := by rw [← hkl]; exact hj
      rw [List.getElem?_eq_getElem hj'] at hd1
      cases hd1
      have okj := oks _ (List.getElem_mem hj')
      refine ⟨rfl, _, rfl, y, d.2.2[i].2[j], 2, rfl, dp_same s3 hd3, okj, fun H4 s4 => ?_⟩
      refine ⟨_, s4 _ _ h3, ?_, fun b o e => by rw [upd_ne (ne_of_none e nDi)]; exact s4 _ _ (s3 _ _ e), ?_⟩
      · rw [List.length_map, List.length_take, List.length_map]
        exact Nat.lt_of_le_of_lt (show _ ≤ 50000 by omega) (by decide)
      · rw [upd_same, List.take_succ, List.map_append, List.getElem?_map, List.getElem?_eq_getElem hj'] <;> rfl
    · rintro H3 ⟨s3, h3⟩
      rw [hkl, show d.2.2[i].2.length = (d.2.2[i].2.map rowK).length from (List.length_map _).symm, List.take_length] at h3
      refine ⟨q1, Di, _, _, rfl, rfl, s3 _ _ hq1, h3, ?_, fun q3 nq3 => ?_⟩
      · rw [List.length_map, List.length_map]
        exact Nat.le_trans (show 1 + _ ≤ 50001 by omega) (by decide)
      have lj := joinL_len [32] d.2.2[i].1 (d.2.2[i].2.map rowK)
      have e1 : ([32] : List Nat).length = 1 := rfl
      rw [e1] at lj
      have lrow : (rowM d.2.2[i]).length ≤ 1000000 := by
        have := joinL_mem [32, 124, 32] (List.mem_map_of_mem (f := rowM) (List.getElem_mem hi'))
        omega
      have lrow' : (TL.joinL [32] (d.2.2[i].1 :: d.2.2[i].2.map rowK)).length ≤ 1000000 := lrow
      refine ⟨_, q3, (d.2.2[i].1 :: d.2.2[i].2.map rowK).map S, rfl, rfl, .inl (SqL.of (by rw [upd_same, ← stxs_map] <;> rfl)), ?_, ?_⟩
      · rw [SX.lens, List.length_map]
        show ((d.2.2[i].1 :: d.2.2[i].2.map rowK).map List.length).sum + (d.2.2[i].1 :: d.2.2[i].2.map rowK).length * 1 ≤ _
        omega
      rw [show ((" " : Str)) = S [32] by decide +kernel, SX.join_S]
      have hq3 : q3 ≠ Dr := (ne_of_none (s3 _ _ (s1 _ _ h2)) nq3).symm
      refine ⟨_, by rw [upd_ne (Ne.symm hq3)]; exact s3 _ _ (s1 _ _ h2), ?_, fun b o e => by rw [upd_ne (ne_of_none e nDr), upd_ne (ne_of_none (s3 _ _ (s1 _ _ (s2 _ _ e))) nq3)]; exact s3 _ _ (s1 _ _ (s2 _ _ e)), ?_⟩
      · rw [List.length_map, List.length_take, List.length_map]
        exact Nat.lt_of_le_of_lt (show _ ≤ 50000 by omega) (by decide)
      · rw [upd_same, List.take_succ, List.map_append, List.getElem?_map, List.getElem?_eq_getElem hi'] <;> rfl
  · rintro H2 ⟨s2, h2⟩
    rw [hxl, show d.2.2.length = (d.2.2.map rowM).length from (List.length_map _).symm, List.take_length] at h2
    have h2' : H2 Dr = some (.lst (((d.2.2.map rowM).map S).map V.str)) := h2.trans (congrArg (fun z => some (HO.lst z)) (stxs_map _))
    refine ⟨⟨_, rfl⟩, _, rfl, (by show 2 ≤ sizeLine; decide), fun q1 nq1 => ?_⟩
    refine ⟨_, rfl, pp, _, rfl, .inr (seqT_stay (fun b o e _ => same_new nq1 b o (s2 b o e)) hSp), fun q2 nq2 => ?_⟩
    refine ⟨q1, q2, _, _, rfl, rfl, by rw [upd_ne (ne_of_none upd_same nq2)]; exact upd_same, upd_same, ?_, fun q3 nq3 => ?_⟩
    · rw [len_stxs]
      exact Nat.le_trans (show 2 + _ ≤ 25002 by omega) (by decide)
    have lj := joinL_len [32] [100, 97, 116, 97] (d.1 :: d.2.1)
    have e1 : ([32] : List Nat).length = 1 := rfl
    have e3 : ([32, 61, 32] : List Nat).length = 3 := rfl
    rw [e1] at lj
    refine ⟨_, q3, ([100, 97, 116, 97] :: d.1 :: d.2.1).map S, rfl, rfl, .inl (SqL.of ?_), ?_, ?_⟩
    · rw [upd_same, ← stxs_map, show ("data" : Str) = S [100, 97, 116, 97] by decide +kernel] <;> rfl
    · rw [SX.lens, List.length_map]
      show (([100, 97, 116, 97] :: d.1 :: d.2.1).map List.length).sum + ([100, 97, 116, 97] :: d.1 :: d.2.1).length * 1 ≤ _
      omega
    rw [show ((" " : Str)) = S [32] by decide +kernel, SX.join_S]
    have s3 : Same H (upd (upd (upd H2 q1 (.lst [.str "data", .str (S d.1)])) q2 (.lst (stxs d.2.1))) q3 (.lst ([.str "data", .str (S d.1)] ++ stxs d.2.1))) := s2.trans ((same_new nq1).trans ((same_new nq2).trans (same_new nq3)))
    have hr3 := same_new (o := .lst ([.str "data", .str (S d.1)] ++ stxs d.2.1)) nq3 _ _ (same_new (o := .lst (stxs d.2.1)) nq2 _ _ (same_new (o := .lst [.str "data", .str (S d.1)]) nq1 _ _ h2'))
    refine ⟨_, [32, 61, 32], rfl, by decide +kernel, by omega, ?_⟩
    refine ⟨⟨_, rfl⟩, _, rfl, _, Dr, (d.2.2.map rowM).map S, rfl, rfl, .inl (SqL.of hr3), ?_, ?_⟩
    · exact rows_condB (by omega)
    rw [show ((" | " : Str)) = S [32, 124, 32] by decide +kernel, SX.join_S]
    exact ⟨_, _, rfl, rfl, by rw [List.length_append]; omega, q _ s3⟩
end
end W72
/-! W32: show_program. -/
namespace W72
open PySem L2
def spPr (K : PySem.W.Frag) (n : Nat) : Sp := fun vs H Q _ => ∃ (v : V) (d : K72.Dt), vs = [v] ∧ Dp K H v (encPr d) ∧ OkDt n d ∧ ∀ H', Same H H' → Q (.str (S (textL (lD d) ++ [10]))) H'
section
variable {P : Program} {w : World} {K : PySem.W.Frag} {mg : Str → Option Value} {base : Heap} {f : Addr} {fd : FuncData} {n k : Nat}
theorem ok_sp (F : Fun K "show_program" "show_program" (top 51) f fd) (cD : Cl P w K mg base k "data_shown" (spDs K n)) (cF : Cl P w K mg base k "def_shown" (fun _ _ _ _ => False)) : FnOk P w K mg base (L2.CX P w) (k + 1) f fd ["program"] (spPr K n) := by
  refine F.okX scSp (fun vs H Q E h => ?_) (fun cdv A' outer s₀ H vs Q E hr h => ?_)
  · obtain ⟨v, d, rfl, _⟩ := h
    rfl
  obtain ⟨v, d, rfl, D, ok, q⟩ := h
  refine ⟨_, pss_cons (ps_asg (pv 0) (pg_tup rfl (pgs_cons (pg_name (i := 1) scSp.nd rfl (Or.inl rfl)) (pgs_cons (pg_name (i := 2) scSp.nd rfl (Or.inl rfl)) pgs_nil))))
    (pss_cons (ps_set (i := 3) scSp.nd rfl (Or.inl rfl) (pe_op op_cat
      (pe_lc (own := [("data", 4)]) (g := gName 4) (tt := tYes) rfl scSp.nd (pi_tup (pv 1)) (blkOk_by (N := nSp) (sc := defScope (top 51)) (by decide +kernel)) (fun _ _ _ _ _ => pg_name (i := 4) scSp.nd rfl (Or.inl rfl)) (fun _ _ _ _ _ => pts_nil) (fun _ _ _ _ _ => pe_cl cD hr pxN rfl (pa_cons (pv 4) pa_nil)))
      (pe_lc (own := [("one", 5)]) (g := gName 5) (tt := tYes) rfl scSp.nd (pi_tup (pv 2)) (blkOk_by (N := nSp) (sc := defScope (top 51)) (by decide +kernel)) (fun _ _ _ _ _ => pg_name (i := 5) scSp.nd rfl (Or.inl rfl)) (fun _ _ _ _ _ => pts_nil) (fun _ _ _ _ _ => pe_cl cF hr pxN rfl (pa_cons (pv 5) pa_nil)))))
    (pss_one (ps_ret (pe_join pe_str (pe_lc (own := [("row", 6)]) (g := gName 6) (tt := tYes) rfl scSp.nd (pi_list (pv 3)) (blkOk_by (N := nSp) (sc := defScope (top 51)) (by decide +kernel)) (fun _ _ _ _ _ => pg_name (i := 6) scSp.nd rfl (Or.inl rfl)) (fun _ _ _ _ _ => pts_nil)
      (fun _ _ _ _ _ => pe_op op_cs (pv 6) pe_str)))))), ?_⟩
  have htl := ok.tl
  obtain ⟨p, xs, rfl, hS, hA⟩ := dp_tupI D
  obtain ⟨v1, r1, rfl, d1, hA1⟩ := dpa_consI hA
  obtain ⟨v2, r2, rfl, d2, hA2⟩ := dpa_consI hA1
  cases dpa_nilI hA2
  obtain ⟨pd, xd, rfl, hSd, hAd⟩ := dp_tupI d1
  obtain ⟨vd, rd, rfl, dd, hAd2⟩ := dpa_consI hAd
  cases dpa_nilI hAd2
  obtain ⟨pf, xf, rfl, hSf, hAf⟩ := dp_tupI d2
  cases dpa_nilI hAf
  refine ⟨_, rfl, p, _, rfl, hS, rfl, _, _, rfl, _, _, rfl, rfl, ?_⟩
  refine ⟨_, rfl, pd, rfl, ⟨_, hSd⟩, fun D1 nD1 => ?_⟩
  refine lc_it walk_tup (fun i H' => Same H H' ∧ H' D1 = some (.lst ((([textL (lD d)] : List (List Nat)).take i).map fun a => V.str (S a)))) ⟨same_new nD1, by rw [upd_same] <;> rfl⟩ (fun i H' _ h => seqT_stay (fun b o e _ => h.1 b o e) hSd) ?_ ?_
  · rintro i x H2 H2' hi ⟨s2, h2⟩ ⟨rfl, hxx⟩
    have ei : i = 0 := by
      have : i < 1 := hi
      omega
    subst ei
    cases hxx
    refine ⟨rfl, _, rfl, vd, d, rfl, dp_same s2 dd, ok, fun H3 s3 => ?_⟩
    exact ⟨_, s3 _ _ h2, (by show 0 < sizeLine; decide), fun b o e => by rw [upd_ne (ne_of_none e nD1)]; exact s3 _ _ (s2 _ _ e), by rw [upd_same] <;> rfl⟩
  · rintro H2 ⟨s2, h2⟩
    refine ⟨_, rfl, pf, rfl, ⟨_, seqT_stay (fun b o e _ => s2 b o e) hSf⟩, fun D2 nD2 => ?_⟩
    have n12 : D1 ≠ D2 := ne_of_none h2 nD2
    refine lc_it walk_tup (fun i H' => Same H2 H' ∧ H' D2 = some (.lst [])) ⟨same_new nD2, upd_same⟩ (fun i H' _ h => seqT_stay (fun b o e _ => h.1 b o (s2 b o e)) hSf) ?_ ?_
    · rintro i x H3 H3' hi _ _
      exact absurd hi (Nat.not_lt_zero _)
    · rintro H3 ⟨s3, h3⟩
      refine ⟨D1, D2, _, _, rfl, rfl, s3 _ _ h2, h3, (by show 1 + 0 ≤ sizeLine; decide), fun q3 nq3 => ?_⟩
      generalize hH4 : upd H3 q3 (.lst (((([textL (lD d)] : List (List Nat)).take [vd].length).map fun a => V.str (S a)) ++ [])) = H4
      have s4 : Same H H4 := by rw [← hH4]; exact s2.trans (s3.trans (same_new nq3))
      have h4 : H4 q3 = some (.lst [.str (S (textL (lD d)))]) := by rw [← hH4, upd_same] <;> rfl
      refine ⟨⟨_, rfl⟩, _, rfl, q3, rfl, ⟨_, SqL.of h4⟩, fun D3 nD3 => ?_⟩
      refine lc_it walk_list (fun i H' => Same H4 H' ∧ H' D3 = some (.lst ((([textL (lD d) ++ [10]] : List (List Nat)).take i).map fun a => V.str (S a)))) ⟨same_new nD3, by rw [upd_same] <;> rfl⟩ (fun i H' _ h => SqL.of (h.1 _ _ h4)) ?_ ?_
      · rintro i x H5 H5' hi ⟨s5, h5⟩ ⟨rfl, hxx⟩
        have ei : i = 0 := by
          have : i < 1 := hi
          omega
        subst ei
        cases hxx
        refine ⟨rfl, _, rfl, _, [10], rfl, by decide +kernel, by show _ + 1 ≤ _; omega, ?_⟩
        exact ⟨_, h5, (by show 0 < sizeLine; decide), fun b o e => by rw [upd_ne (ne_of_none e nD3)]; exact s5 _ _ e, by rw [upd_same] <;> rfl⟩
      · rintro H5 ⟨s5, h5⟩
        refine ⟨_, D3, [S (textL (lD d) ++ [10])], rfl, rfl, .inl (SqL.of (h5.trans rfl)), ?_, ?_⟩
        · have e1 : (S (textL (lD d) ++ [10])).length = (textL (lD d)).length + 1 := by rw [SX.S_len, List.length_append] <;> rfl
          show (S (textL (lD d) ++ [10])).length + 0 + 1 * 0 ≤ _
          omega
        rw [show ([S (textL (lD d) ++ [10])] : List Str) = ([textL (lD d) ++ [10]]).map S from rfl, show ("" : Str) = S [] by decide +kernel, SX.join_S]
        exact q _ (s4.trans s5)
end
end W72
/-! W33: _law_seed, _law_toss. -/
namespace W72
open PySem PySem.Spec PyProof.Rows L2
theorem op_mulO {X : Cx} : OpR X (binaryOp .Mult) (rI IntMulOk fun i j => .int (i * j)) := by
  intro pins s σ H x y v u Q I rx ry h
  obtain ⟨i, j, rfl, rfl, hc, q⟩ := h
  obtain ⟨t, rfl⟩ := rx
  obtain ⟨t', rfl⟩ := ry
  exact mul_int ⟨.int _, H, I.tok _, ⟨_, rfl⟩, q⟩ hc
theorem mulOk {i j : Int} (h : Builtin.Int.intBits i + Builtin.Int.intBits j ≤ 100000000) : IntMulOk i j := by
  have e : bitsLine = 134217728 := by decide
  unfold IntMulOk
  intro z
  rw [Bool.and_eq_true] at z
  have z2 := z.2
  unfold Builtin.Int.intTooBig at z2
  have z3 := of_decide_eq_true z2
  rw [e] at z3
  omega
/-- a seed at q: what was mixed last, how often it was mixed -/
def Sd (H : Hp) (q : Addr) (c : Nat) : Prop := ∃ s0 s1 s2 : Int, H q = some (.lst [.int s0, .int s1, .int s2]) ∧ 0 ≤ s1 ∧ s1 < 10 ^ 51 ∧ 0 ≤ s2 ∧ s2 ≤ (c : Int)
theorem Sd.mono {H : Hp} {q : Addr} {c c' : Nat} (h : Sd H q c) (hc : c ≤ c') : Sd H q c' := by
  obtain ⟨a, b, d, h1, h2, h3, h4, h5⟩ := h
  exact ⟨a, b, d, h1, h2, h3, h4, by omega⟩
theorem Sd.same {H H' : Hp} {q : Addr} {c : Nat} (h : Sd H q c) (s : Same H H') : Sd H' q c := by
  obtain ⟨a, b, d, h1, h2⟩ := h
  exact ⟨a, b, d, s _ _ h1, h2⟩
abbrev topLaw (i : Nat) : Stmt := top (i + 53)
theorem scSd : FnScope ["cell"] ["cell"] (defScope (top 53)) := ⟨rfl, rfl, rfl, by decide +kernel, rfl, by decide +kernel, by decide +kernel⟩
theorem scTo : FnScope ["seed", "many", "found"] ["seed", "many"] (defScope (top 54)) := ⟨rfl, rfl, rfl, by decide +kernel, rfl, by decide +kernel, by decide +kernel⟩
def spSeed : Sp := fun vs H Q _ => ∃ z : Int, vs = [.int z] ∧ Builtin.Int.intBits z ≤ 1048576 ∧ ∀ q H', H q = none → Same H H' → Sd H' q 0 → Q (.ref q) H'
def spToss : Sp := fun vs H Q _ => ∃ (q : Addr) (m c : Nat), vs = [.ref q, .int (m : Nat)] ∧ 0 < m ∧ m ≤ 10 ^ 20 ∧ Sd H q c ∧ c ≤ 10 ^ 12 ∧ ∀ (r : Nat) H', r < m → Kp q H H' → Sd H' q (c + 1) → Q (.int (r : Nat)) H'
section
variable {P : Program} {w : World} {K : PySem.W.Frag} {mg : Str → Option Value} {base : Heap} {f : Addr} {fd : FuncData}
theorem ok_seed (F : Fun K "_law_seed" "_law_seed" (top 53) f fd) (Z : Bl mg) : FnOk P w K mg base (L2.CX P w) 1 f fd ["cell"] spSeed := by
  refine F.okX scSd (fun vs H Q E h => ?_) (fun cdv A' outer s₀ H vs Q E hr h => ?_)
  · obtain ⟨z, rfl, _⟩ := h
    rfl
  obtain ⟨z, rfl, hz, q⟩ := h
  refine ⟨_, pss_one (ps_ret (pe_lst (pa_cons (pe_callB (call_max2 rfl) rfl Z.max (by decide +kernel) (pa_cons pe_int (pa_cons (pe_op op_sub (pv 0) (pe_op op_pow pe_int pe_int)) pa_nil)))
    (pa_cons (pe_op op_mod (pe_op op_add (pe_op op_mulO (pv 0) (pe_op op_pow pe_int pe_int)) pe_int) (pe_op op_add (pe_op op_pow pe_int pe_int) pe_int)) (pa_cons pe_int pa_nil))))), ?_⟩
  refine ⟨_, rfl, _, _, rfl, rfl, ⟨by decide, by decide, by decide⟩, _, _, rfl, rfl, _, _, rfl, ?_⟩
  refine ⟨_, rfl, _, _, rfl, rfl, ⟨by decide, by decide, by decide⟩, _, _, rfl, rfl, ?_, _, _, rfl, rfl, _, _, rfl, rfl, ⟨by decide, by decide, by decide⟩, _, _, rfl, rfl, _, _, rfl, rfl, (by show (0 : Int) < 10 ^ Int.toNat 50 + 151; decide +kernel), (by show 3 ≤ sizeLine; decide), fun p np => ?_⟩
  · refine mulOk ?_
    have h2 : Builtin.Int.intBits ((2750159 : Int) ^ (5 : Int).toNat) ≤ 1000 := by decide +kernel
    omega
  refine q p _ np (same_new np) ⟨_, _, _, upd_same, Int.emod_nonneg _ (by decide +kernel), Int.lt_trans (Int.emod_lt_of_pos _ (by decide +kernel)) (by decide +kernel), Int.le_refl _, Int.le_refl _⟩
theorem bits_of {i : Int} {b : Nat} (h : i.natAbs < 2 ^ b) (hb : 0 < b) : Builtin.Int.intBits i ≤ b := by
  unfold Builtin.Int.intBits
  split
  · omega
  · have := PySem.Flt.log2_lt_of hb h
    omega
theorem ok_toss (F : Fun K "_law_toss" "_law_toss" (top 54) f fd) (Z : Bl mg) : FnOk P w K mg base (L2.CX P w) 1 f fd ["seed", "many"] spToss := by
  refine F.okX scTo (fun vs H Q E h => ?_) (fun cdv A' outer s₀ H vs Q E hr h => ?_)
  · obtain ⟨q, m, c, rfl, _⟩ := h
    rfl
  obtain ⟨q, m, c, rfl, hm, hm2, hS, hc, k⟩ := h
  obtain ⟨a, b, d, h1, h2, h3, h4, h5⟩ := hS
  refine ⟨_, pss_cons (ps_if (pt_cmpR op_gt (pe_ix ix_list (pv 0) pe_int (fun _ _ => rfl)) pe_int (nomark _))
      (pss_cons (ps_set (i := 2) scTo.nd rfl (Or.inl rfl) (pe_op op_mod (pe_ix ix_list (pv 0) pe_int (fun _ _ => rfl)) (pv 1)))
      (pss_cons (ps_asg (pe_op op_fdivW (pe_ix ix_list (pv 0) pe_int (fun _ _ => rfl)) (pv 1)) (pg_sub (pv 0) pe_int set_list))
      (pss_one (ps_ret (pv 2))))) pss_nil)
    (pss_cons (ps_asg (pe_op op_add (pe_ix ix_list (pv 0) pe_int (fun _ _ => rfl)) pe_int) (pg_sub (pv 0) pe_int set_list))
    (pss_cons (ps_asg (pe_op op_mod (pe_op op_add (pe_op op_mulO (pe_ix ix_list (pv 0) pe_int (fun _ _ => rfl)) (pe_ix ix_list (pv 0) pe_int (fun _ _ => rfl))) (pe_op op_mulO (pe_ix ix_list (pv 0) pe_int (fun _ _ => rfl)) (pe_op op_pow pe_int pe_int))) (pe_op op_add (pe_op op_pow pe_int pe_int) pe_int)) (pg_sub (pv 0) pe_int set_list))
    (pss_one (ps_ret (pe_op op_mod (pe_op op_fdivW (pe_ix ix_list (pv 0) pe_int (fun _ _ => rfl)) pe_int) (pv 1)))))), ?_⟩
  have hmi : (0 : Int) < (m : Nat) := by omega
  have hmw : CDivW a ((m : Nat) : Int) := ⟨hmi, by
    have : (m : Int).natAbs.log2 < 100 := by
      show m.log2 < 100
      have h0 : m ≠ 0 := by omega
      rw [Nat.log2_lt h0]
      exact Nat.lt_of_le_of_lt hm2 (by decide +kernel)
    omega⟩
  refine ⟨_, rfl, q, _, 0, _, rfl, rfl, SqL.of h1, atI_nat (j := 0) rfl, _, _, rfl, rfl, _, rfl, ?_⟩
  refine ite2 (fun cc => ?_) (fun cc => ?_)
  · refine ⟨_, rfl, q, _, 0, _, rfl, rfl, SqL.of h1, atI_nat (j := 0) rfl, _, rfl, _, _, rfl, rfl, hmi, ?_⟩
    refine ⟨_, rfl, q, _, 0, _, rfl, rfl, SqL.of h1, atI_nat (j := 0) rfl, _, rfl, _, _, rfl, rfl, hmw, ?_⟩
    refine ⟨_, rfl, q, _, _, 0, rfl, rfl, h1, rfl, ?_⟩
    have hr1 : 0 ≤ a % (m : Int) := Int.emod_nonneg _ (by omega)
    have hr2 : a % (m : Int) < m := Int.emod_lt_of_pos _ hmi
    have hk := k (a % (m : Int)).toNat (upd H q (.lst [.int (a / (m : Int)), .int b, .int d])) (by omega) kp_upd ⟨_, b, d, upd_same, h2, h3, h4, by omega⟩
    rw [Int.toNat_of_nonneg hr1] at hk
    exact ⟨_, rfl, hk⟩
  · refine ⟨_, rfl, q, _, 2, _, rfl, rfl, SqL.of h1, atI_nat (j := 2) rfl, _, _, rfl, rfl, ?_⟩
    refine ⟨_, rfl, q, _, _, 2, rfl, rfl, h1, rfl, ?_⟩
    generalize hH1 : upd H q (.lst ([V.int a, .int b, .int d].set 2 (.int (d + 1)))) = H1
    have g1 : H1 q = some (.lst [.int a, .int b, .int (d + 1)]) := by rw [← hH1, upd_same] <;> rfl
    have k1 : Kp q H H1 := by rw [← hH1]; exact kp_upd
    have mb : Builtin.Int.intBits b ≤ 200 := bits_of (Nat.lt_of_lt_of_le (show b.natAbs < 10 ^ 51 by omega) (by decide +kernel)) (by decide)
    have md : Builtin.Int.intBits (d + 1) ≤ 200 := bits_of (Nat.lt_of_le_of_lt (show (d + 1).natAbs ≤ 10 ^ 12 + 1 by omega) (by decide +kernel)) (by decide)
    have mk : Builtin.Int.intBits ((32452843 : Int) ^ (5 : Int).toNat) ≤ 1000 := by decide +kernel
    refine ⟨_, rfl, q, _, 1, _, rfl, rfl, SqL.of g1, atI_nat (j := 1) rfl, _, rfl, q, _, 1, _, rfl, rfl, SqL.of g1, atI_nat (j := 1) rfl, _, _, rfl, rfl, mulOk (by omega), ?_⟩
    refine ⟨_, rfl, q, _, 2, _, rfl, rfl, SqL.of g1, atI_nat (j := 2) rfl, _, _, rfl, rfl, ⟨by decide, by decide, by decide⟩, _, _, rfl, rfl, mulOk (by omega), _, _, rfl, rfl, ?_⟩
    refine ⟨_, _, rfl, rfl, ⟨by decide, by decide, by decide⟩, _, _, rfl, rfl, _, _, rfl, rfl, (by show (0 : Int) < 10 ^ Int.toNat 50 + 151; decide +kernel), ?_⟩
    refine ⟨_, rfl, q, _, _, 1, rfl, rfl, g1, rfl, ?_⟩
    have hE : ∃ b', b' = (b * b + (d + 1) * 32452843 ^ Int.toNat 5) % (10 ^ Int.toNat 50 + 151) := ⟨_, rfl⟩
    obtain ⟨b', hb'⟩ := hE
    have b1 : 0 ≤ b' := by rw [hb']; exact Int.emod_nonneg _ (by decide +kernel)
    have b2 : b' < 10 ^ 51 := by rw [hb']; exact Int.lt_trans (Int.emod_lt_of_pos _ (by decide +kernel)) (by decide +kernel)
    have g2 : upd H1 q (.lst ([V.int a, .int b, .int (d + 1)].set 1 (.int ((b * b + (d + 1) * 32452843 ^ Int.toNat 5) % (10 ^ Int.toNat 50 + 151))))) q = some (.lst [.int a, .int b', .int (d + 1)]) := by rw [hb', upd_same] <;> rfl
    have k2 : Kp q H (upd H1 q (.lst ([V.int a, .int b, .int (d + 1)].set 1 (.int ((b * b + (d + 1) * 32452843 ^ Int.toNat 5) % (10 ^ Int.toNat 50 + 151)))))) := k1.trans kp_upd
    refine ⟨_, rfl, q, _, 1, _, rfl, rfl, SqL.of g2, atI_nat (j := 1) rfl, _, _, rfl, rfl, ⟨by decide, by decide +kernel⟩, _, rfl, _, _, rfl, rfl, hmi, ?_⟩
    have hr1 : 0 ≤ b' / 262147 % (m : Int) := Int.emod_nonneg _ (by omega)
    have hr2 : b' / 262147 % (m : Int) < m := Int.emod_lt_of_pos _ hmi
    have hk := k (b' / 262147 % (m : Int)).toNat _ (by omega) k2 ⟨a, b', d + 1, g2, b1, b2, by omega, by omega⟩
    rw [Int.toNat_of_nonneg hr1] at hk
    exact hk
end
end W72
/-! W34: _law_small, _law_great. -/
namespace W72
open PySem L2
theorem kpAll {r : Addr} {H H1 H2 : Hp} (a : Kp r H H1) (b : Kp r H1 H2) : Kp r H H2 := a.trans b
theorem Sd.upd {H : Hp} {q p : Addr} {c : Nat} {o : HO} (h : Sd H q c) (hp : p ≠ q) : Sd (upd H p o) q c := by
  obtain ⟨a, b, d, h1, h2⟩ := h
  exact ⟨a, b, d, by rw [upd_ne hp.symm]; exact h1, h2⟩
theorem Sd.ne {H : Hp} {q p : Addr} {c : Nat} (h : Sd H q c) (np : H p = none) : p ≠ q := by
  obtain ⟨a, b, d, h1, h2⟩ := h
  exact (ne_of_none h1 np).symm
theorem Sd.new {H : Hp} {q p : Addr} {c : Nat} {o : HO} (h : Sd H q c) (np : H p = none) : Sd (L2.upd H p o) q c := h.upd (h.ne np)
/-- a name comes out -/
def spNm (g : List Nat → Bool) : Sp := fun vs H Q _ => ∃ (q : Addr) (c : Nat), vs = [.ref q] ∧ Sd H q c ∧ c ≤ 10 ^ 11 ∧ ∀ (x : List Nat) H', g x = true → Kp q H H' → Sd H' q (c + 10) → Q (.str (S x)) H'
abbrev nSm : List Str := ["seed", "some", "letters", "first", "k"]
theorem scSm2 : FnScope nSm ["seed"] (defScope (top 55)) := ⟨rfl, rfl, rfl, by decide +kernel, rfl, by decide +kernel, by decide +kernel⟩
theorem scGr2 : FnScope nSm ["seed"] (defScope (top 56)) := ⟨rfl, rfl, rfl, by decide +kernel, rfl, by decide +kernel, by decide +kernel⟩
def someL : List (List Nat) := [[97], [98], [120], [121], [120, 115], [102], [103, 111], [97, 98, 99, 100, 101, 102, 103, 104], [99, 97, 115], [108, 101, 116, 115], [110, 117, 109, 115], [122, 122]]
theorem some_eq : ([.str "a", .str "b", .str "x", .str "y", .str "xs", .str "f", .str "go", .str "abcdefgh", .str "cas", .str "lets", .str "nums", .str "zz"] : List V) = stxs someL := by decide +kernel
theorem some_ok : ∀ x ∈ someL, isSmall x = true := by decide +kernel
def firstL : List Nat := [97, 98, 101, 102, 103, 104, 106, 107, 109, 112, 113, 114, 115, 116, 117, 118, 119, 120, 121]
theorem first_eq : ("abefghjkmpqrstuvwxy" : Str).cps.toList = firstL := by decide +kernel
theorem letters_eq : ("abcdefghijklmnopqrstuvwxyz" : Str).cps.toList = List.range' 97 26 := by decide +kernel
theorem first_ok : ∀ c ∈ firstL, isSm c = true ∧ c ∉ keptL.map (fun a => a.headD 0) := by decide +kernel
theorem fresh_small {c : Nat} {r : List Nat} (hc : c ∈ firstL) (hr : r.all isSm = true) (hl : r.length ≤ 7) : isSmall (c :: r) = true := by
  obtain ⟨h1, h2⟩ := first_ok c hc
  unfold isSmall
  have hk : (c :: r) ∉ keptL := fun m => h2 (List.mem_map.mpr ⟨_, m, rfl⟩)
  rw [decide_eq_true (show 1 ≤ (c :: r).length by simp), decide_eq_true (show (c :: r).length ≤ 8 by simp; omega), List.all_cons, h1, hr, decide_eq_false hk] <;> rfl
theorem letter_get {r : Nat} (h : r < 26) : (List.range' 97 26)[r]? = some (97 + r) := by
  rw [List.getElem?_range' h]
  simp
section
variable {P : Program} {w : World} {K : PySem.W.Frag} {mg : Str → Option Value} {base : Heap} {f : Addr} {fd : FuncData}
theorem ok_small (F : Fun K "_law_small" "_law_small" (top 55) f fd) (Z : Bl mg) (cT : Cl P w K mg base 1 "_law_toss" spToss) : FnOk P w K mg base (L2.CX P w) 2 f fd ["seed"] (spNm isSmall) := by
  refine F.okX scSm2 (fun vs H Q E h => ?_) (fun cdv A' outer s₀ H vs Q E hr h => ?_)
  · obtain ⟨q, c, rfl, _⟩ := h
    rfl
  obtain ⟨q, c, rfl, hS, hc, k⟩ := h
  refine ⟨_, pss_cons (ps_set (i := 1) scSm2.nd rfl (Or.inl rfl) (pe_lst (pa_cons pe_str (pa_cons pe_str (pa_cons pe_str (pa_cons pe_str (pa_cons pe_str (pa_cons pe_str (pa_cons pe_str (pa_cons pe_str (pa_cons pe_str (pa_cons pe_str (pa_cons pe_str (pa_cons pe_str pa_nil))))))))))))))
    (pss_cons (ps_if (pt_cmpR op_gt (pe_cl cT hr pxN rfl (pa_cons (pv 0) (pa_cons pe_int pa_nil))) pe_int (nomark _)) (pss_one (ps_ret (pe_ix ix_list (pv 1) (pe_cl cT hr pxN rfl (pa_cons (pv 0) (pa_cons pe_int pa_nil))) (fun _ _ => rfl)))) pss_nil)
    (pss_cons (ps_set (i := 2) scSm2.nd rfl (Or.inr rfl) pe_str)
    (pss_cons (ps_set (i := 3) scSm2.nd rfl (Or.inl rfl) (pe_ix ix_str pe_str (pe_cl cT hr pxN rfl (pa_cons (pv 0) (pa_cons pe_int pa_nil))) (fun _ _ => rfl)))
    (pss_one (ps_ret (pe_op op_cs (pv 3) (pe_join pe_str (pe_lc (own := [("k", 4)]) (g := gName 4) (tt := tYes) rfl scSm2.nd (pi_range1 rfl Z.range (pa_cons (pe_cl cT hr pxN rfl (pa_cons (pv 0) (pa_cons pe_int pa_nil))) pa_nil)) (blkOk_by (N := nSm) (sc := defScope (top 55)) (by decide +kernel)) (fun _ _ _ _ _ => pg_name (i := 4) scSm2.nd rfl (Or.inl rfl)) (fun _ _ _ _ _ => pts_nil)
      (fun _ _ _ _ _ => pe_ix ix_str (pv 2) (pe_cl cT hr pxN rfl (pa_cons (pv 0) (pa_cons pe_int pa_nil))) (fun _ _ => rfl)))))))))), ?_⟩
  refine ⟨(by show 12 ≤ sizeLine; decide), fun p np => ?_⟩
  have pq := hS.ne np
  have S0 : Sd (upd H p (.lst (stxs someL))) q c := hS.new np
  have k0 : Kp q H (upd H p (.lst (stxs someL))) := Kp.of (same_new np)
  rw [some_eq]
  refine ⟨_, rfl, q, 8, c, rfl, by decide, by decide, S0, by omega, fun r1 H1 hr1 k1 S1 => ?_⟩
  have hp1 : H1 p = some (.lst (stxs someL)) := k1 p _ pq upd_same
  refine ⟨_, _, rfl, rfl, _, rfl, ?_⟩
  refine ite2 (fun cc => ?_) (fun cc => ?_)
  · refine ⟨_, rfl, _, rfl, q, 12, c + 1, rfl, by decide, by decide, S1, by omega, fun r2 H2 hr2 k2 S2 => ?_⟩
    have hp2 := k2 p _ pq hp1
    have hr2' : r2 < someL.length := hr2
    have hg : (stxs someL)[r2]? = some (.str (S someL[r2])) := by
      rw [List.getElem?_map, List.getElem?_eq_getElem hr2'] <;> rfl
    exact ⟨p, _, _, _, rfl, rfl, SqL.of hp2, atI_nat hg, k _ _ (some_ok _ (List.getElem_mem hr2')) (kpAll k0 (kpAll k1 k2)) (S2.mono (by omega))⟩
  · refine ⟨_, rfl, q, 19, c + 1, rfl, by decide, by decide, S1, by omega, fun r2 H2 hr2 k2 S2 => ?_⟩
    have hr2' : r2 < firstL.length := hr2
    have hg : firstL[r2]? = some firstL[r2] := List.getElem?_eq_getElem hr2'
    refine ⟨_, _, firstL[r2], rfl, rfl, (by decide +kernel), by rw [first_eq]; exact atI_nat hg, ?_⟩
    generalize hfc : firstL[r2] = fc
    have hfm : fc ∈ firstL := by rw [← hfc]; exact List.getElem_mem hr2'
    refine ⟨_, rfl, ⟨_, rfl⟩, _, rfl, q, 8, c + 1 + 1, rfl, by decide, by decide, S2, by omega, fun r3 H3 hr3 k3 S3 => ?_⟩
    refine ⟨_, rfl, by omega, by omega, fun D nD => ?_⟩
    have Dq := S3.ne nD
    rw [Int.toNat_natCast]
    refine lc_range (n := r3) (fun i H' => ∃ xs : List Nat, xs.length = i ∧ xs.all isSm = true ∧ Kp q H3 H' ∧ H' D = some (.lst (stxs (xs.map fun a => [a]))) ∧ Sd H' q (c + 3 + i)) ⟨[], rfl, rfl, Kp.of (same_new nD), upd_same, S3.new nD⟩ ?_ ?_
    · rintro i H4 hi ⟨xs, h1, h2, h3, h4, h5⟩
      refine ⟨rfl, ?_⟩
      refine ⟨_, rfl, _, rfl, q, 26, c + 3 + i, rfl, by decide, by decide, h5, by omega, fun r4 H5 hr4 k4 S4 => ?_⟩
      refine ⟨_, _, 97 + r4, rfl, rfl, (by decide +kernel), by rw [letters_eq]; exact atI_nat (letter_get hr4), ?_⟩
      have h4' := k4 D _ Dq h4
      refine ⟨_, h4', by rw [len_stxs, List.length_map]; exact Nat.lt_of_le_of_lt (show xs.length ≤ 8 by omega) (by decide), xs ++ [97 + r4], by rw [List.length_append, h1] <;> rfl, ?_, ?_, ?_, ?_⟩
      · rw [List.all_append, h2, List.all_cons]
        have : isSm (97 + r4) = true := by
          unfold isSm
          rw [decide_eq_true (show 97 ≤ 97 + r4 by omega), decide_eq_true (show 97 + r4 ≤ 122 by omega)] <;> rfl
        rw [this] <;> rfl
      · exact kp_upd2 (kpAll h3 k4) nD
      · rw [upd_same]
        unfold stxs
        rw [List.map_append, List.map_append] <;> rfl
      · exact S4.upd Dq
    · rintro H4 ⟨xs, h1, h2, h3, h4, h5⟩
      rw [stxs_map] at h4
      refine ⟨_, D, (xs.map fun a => [a]).map S, rfl, rfl, .inl (SqL.of h4), ?_, ?_⟩
      · rw [SX.lens, List.length_map, List.length_map]
        have e0 : (S []).length = 0 := rfl
        have hs : ((xs.map fun a => [a]).map fun x => x.length).sum ≤ xs.length := by
          clear h1 h2 h4
          induction xs with
          | nil => exact Nat.le_refl _
          | cons a r ih => simp only [List.map_cons, List.sum_cons, List.length_cons, List.length_nil]; omega
        show _ + xs.length * 0 ≤ _
        omega
      rw [show ("" : Str) = S [] by decide +kernel, SX.join_S]
      have hj : TL.joinL [] (xs.map fun a => [a]) = xs := by
        clear h1 h2 h4
        induction xs with
        | nil => rfl
        | cons a r ih =>
          cases r with
          | nil => rfl
          | cons b r =>
            show [a] ++ ([] ++ TL.joinL [] ((b :: r).map fun a => [a])) = _
            rw [ih] <;> rfl
      rw [hj]
      refine ⟨[fc], xs, rfl, rfl, by show 1 + _ ≤ _; omega, ?_⟩
      exact k (fc :: xs) H4 (fresh_small hfm h2 (by omega)) (kpAll k0 (kpAll k1 (kpAll k2 (kpAll k3 h3)))) (h5.mono (by omega))
end
end W72
/-! W35: _law_great. -/
namespace W72
open PySem L2
def someG : List (List Nat) := [[84, 114, 117, 101], [70, 97, 108, 115, 101], [78, 105, 108], [67, 111, 110, 115], [65], [66, 111, 111, 108], [65, 98, 99, 100, 101, 102, 103, 104], [68, 97, 116, 97], [76, 101, 116], [90]]
theorem someG_eq : ([.str "True", .str "False", .str "Nil", .str "Cons", .str "A", .str "Bool", .str "Abcdefgh", .str "Data", .str "Let", .str "Z"] : List V) = stxs someG := by decide +kernel
theorem someG_ok : ∀ x ∈ someG, isGreat x = true := by decide +kernel
theorem fresh_great {c : Nat} {r : List Nat} (hc : isGr c = true) (hr : r.all isSm = true) (hl : r.length ≤ 7) : isGreat (c :: r) = true := by
  unfold isGreat
  rw [decide_eq_true (show 1 ≤ (c :: r).length by simp), decide_eq_true (show (c :: r).length ≤ 8 by simp; omega)]
  show (true && (true && (isGr c && r.all isSm))) = true
  rw [hc, hr] <;> rfl
section
variable {P : Program} {w : World} {K : PySem.W.Frag} {mg : Str → Option Value} {base : Heap} {f : Addr} {fd : FuncData}
theorem ok_great (F : Fun K "_law_great" "_law_great" (top 56) f fd) (Z : Bl mg) (cT : Cl P w K mg base 1 "_law_toss" spToss) : FnOk P w K mg base (L2.CX P w) 2 f fd ["seed"] (spNm isGreat) := by
  refine F.okX scGr2 (fun vs H Q E h => ?_) (fun cdv A' outer s₀ H vs Q E hr h => ?_)
  · obtain ⟨q, c, rfl, _⟩ := h
    rfl
  obtain ⟨q, c, rfl, hS, hc, k⟩ := h
  refine ⟨_, pss_cons (ps_set (i := 1) scGr2.nd rfl (Or.inl rfl) (pe_lst (pa_cons pe_str (pa_cons pe_str (pa_cons pe_str (pa_cons pe_str (pa_cons pe_str (pa_cons pe_str (pa_cons pe_str (pa_cons pe_str (pa_cons pe_str (pa_cons pe_str pa_nil))))))))))))
    (pss_cons (ps_if (pt_cmpR op_gt (pe_cl cT hr pxN rfl (pa_cons (pv 0) (pa_cons pe_int pa_nil))) pe_int (nomark _)) (pss_one (ps_ret (pe_ix ix_list (pv 1) (pe_cl cT hr pxN rfl (pa_cons (pv 0) (pa_cons pe_int pa_nil))) (fun _ _ => rfl)))) pss_nil)
    (pss_cons (ps_set (i := 2) scGr2.nd rfl (Or.inr rfl) pe_str)
    (pss_cons (ps_set (i := 3) scGr2.nd rfl (Or.inl rfl) (pe_upper (pe_ix ix_str (pv 2) (pe_cl cT hr pxN rfl (pa_cons (pv 0) (pa_cons pe_int pa_nil))) (fun _ _ => rfl))))
    (pss_one (ps_ret (pe_op op_cs (pv 3) (pe_join pe_str (pe_lc (own := [("k", 4)]) (g := gName 4) (tt := tYes) rfl scGr2.nd (pi_range1 rfl Z.range (pa_cons (pe_cl cT hr pxN rfl (pa_cons (pv 0) (pa_cons pe_int pa_nil))) pa_nil)) (blkOk_by (N := nSm) (sc := defScope (top 56)) (by decide +kernel)) (fun _ _ _ _ _ => pg_name (i := 4) scGr2.nd rfl (Or.inl rfl)) (fun _ _ _ _ _ => pts_nil)
      (fun _ _ _ _ _ => pe_ix ix_str (pv 2) (pe_cl cT hr pxN rfl (pa_cons (pv 0) (pa_cons pe_int pa_nil))) (fun _ _ => rfl)))))))))), ?_⟩
  refine ⟨(by show 10 ≤ sizeLine; decide), fun p np => ?_⟩
  have pq := hS.ne np
  have S0 : Sd (upd H p (.lst (stxs someG))) q c := hS.new np
  have k0 : Kp q H (upd H p (.lst (stxs someG))) := Kp.of (same_new np)
  rw [someG_eq]
  refine ⟨_, rfl, q, 8, c, rfl, by decide, by decide, S0, by omega, fun r1 H1 hr1 k1 S1 => ?_⟩
  have hp1 : H1 p = some (.lst (stxs someG)) := k1 p _ pq upd_same
  refine ⟨_, _, rfl, rfl, _, rfl, ?_⟩
  refine ite2 (fun cc => ?_) (fun cc => ?_)
  · refine ⟨_, rfl, _, rfl, q, 10, c + 1, rfl, by decide, by decide, S1, by omega, fun r2 H2 hr2 k2 S2 => ?_⟩
    have hp2 := k2 p _ pq hp1
    have hr2' : r2 < someG.length := hr2
    have hg : (stxs someG)[r2]? = some (.str (S someG[r2])) := by
      rw [List.getElem?_map, List.getElem?_eq_getElem hr2'] <;> rfl
    exact ⟨p, _, _, _, rfl, rfl, SqL.of hp2, atI_nat hg, k _ _ (someG_ok _ (List.getElem_mem hr2')) (kpAll k0 (kpAll k1 k2)) (S2.mono (by omega))⟩
  · refine ⟨_, rfl, _, rfl, q, 26, c + 1, rfl, by decide, by decide, S1, by omega, fun r2 H2 hr2 k2 S2 => ?_⟩
    refine ⟨_, _, 97 + r2, rfl, rfl, (by decide +kernel), by rw [letters_eq]; exact atI_nat (letter_get hr2), ?_⟩
    refine ⟨⟨_, rfl⟩, _, rfl, rfl, (by show 1 ≤ _; decide), ?_⟩
    have hup : Txt.upper ⟨#[97 + r2]⟩ = S [65 + r2] := by
      have e := SX.upper_S (a := [97 + r2]) (by simp; omega)
      have e2 : ([97 + r2] : List Nat).map PyProof.Rows.up1 = [65 + r2] := by
        have : ∀ r, r < 26 → PyProof.Rows.up1 (97 + r) = 65 + r := by decide +kernel
        show [PyProof.Rows.up1 (97 + r2)] = _
        rw [this r2 hr2]
      rw [e2] at e
      exact e
    rw [hup]
    generalize hfc : 65 + r2 = fc
    have hfm : isGr fc = true := by
      rw [← hfc]
      unfold isGr
      rw [decide_eq_true (show 65 ≤ 65 + r2 by omega), decide_eq_true (show 65 + r2 ≤ 90 by omega)] <;> rfl
    refine ⟨_, rfl, ⟨_, rfl⟩, _, rfl, q, 8, c + 1 + 1, rfl, by decide, by decide, S2, by omega, fun r3 H3 hr3 k3 S3 => ?_⟩
    refine ⟨_, rfl, by omega, by omega, fun D nD => ?_⟩
    have Dq := S3.ne nD
    rw [Int.toNat_natCast]
    refine lc_range (n := r3) (fun i H' => ∃ xs : List Nat, xs.length = i ∧ xs.all isSm = true ∧ Kp q H3 H' ∧ H' D = some (.lst (stxs (xs.map fun a => [a]))) ∧ Sd H' q (c + 3 + i)) ⟨[], rfl, rfl, Kp.of (same_new nD), upd_same, S3.new nD⟩ ?_ ?_
    · rintro i H4 hi ⟨xs, h1, h2, h3, h4, h5⟩
      refine ⟨rfl, ?_⟩
      refine ⟨_, rfl, _, rfl, q, 26, c + 3 + i, rfl, by decide, by decide, h5, by omega, fun r4 H5 hr4 k4 S4 => ?_⟩
      refine ⟨_, _, 97 + r4, rfl, rfl, (by decide +kernel), by rw [letters_eq]; exact atI_nat (letter_get hr4), ?_⟩
      have h4' := k4 D _ Dq h4
      refine ⟨_, h4', by rw [len_stxs, List.length_map]; exact Nat.lt_of_le_of_lt (show xs.length ≤ 8 by omega) (by decide), xs ++ [97 + r4], by rw [List.length_append, h1] <;> rfl, ?_, ?_, ?_, ?_⟩
      · rw [List.all_append, h2, List.all_cons]
        have : isSm (97 + r4) = true := by
          unfold isSm
          rw [decide_eq_true (show 97 ≤ 97 + r4 by omega), decide_eq_true (show 97 + r4 ≤ 122 by omega)] <;> rfl
        rw [this] <;> rfl
      · exact kp_upd2 (kpAll h3 k4) nD
      · rw [upd_same]
        unfold stxs
        rw [List.map_append, List.map_append] <;> rfl
      · exact S4.upd Dq
    · rintro H4 ⟨xs, h1, h2, h3, h4, h5⟩
      rw [stxs_map] at h4
      refine ⟨_, D, (xs.map fun a => [a]).map S, rfl, rfl, .inl (SqL.of h4), ?_, ?_⟩
      · rw [SX.lens, List.length_map, List.length_map]
        have e0 : (S []).length = 0 := rfl
        have hs : ((xs.map fun a => [a]).map fun x => x.length).sum ≤ xs.length := by
          clear h1 h2 h4
          induction xs with
          | nil => exact Nat.le_refl _
          | cons a r ih => simp only [List.map_cons, List.sum_cons, List.length_cons, List.length_nil]; omega
        show _ + xs.length * 0 ≤ _
        omega
      rw [show ("" : Str) = S [] by decide +kernel, SX.join_S]
      have hj : TL.joinL [] (xs.map fun a => [a]) = xs := by
        clear h1 h2 h4
        induction xs with
        | nil => rfl
        | cons a r ih =>
          cases r with
          | nil => rfl
          | cons b r =>
            show [a] ++ ([] ++ TL.joinL [] ((b :: r).map fun a => [a])) = _
            rw [ih] <;> rfl
      rw [hj]
      refine ⟨[fc], xs, rfl, rfl, by show 1 + _ ≤ _; omega, ?_⟩
      exact k (fc :: xs) H4 (fresh_great hfm h2 (by omega)) (kpAll k0 (kpAll k1 (kpAll k2 (kpAll k3 h3)))) (h5.mono (by omega))
end
end W72
/-! W36: _law_unlike, _law_leaf. -/
namespace W72
open PySem L2
abbrev nUn : List Str := ["seed", "many", "found", "k", "name"]
theorem scUn2 : FnScope nUn ["seed", "many"] (defScope (top 57)) := ⟨rfl, rfl, rfl, by decide +kernel, rfl, by decide +kernel, by decide +kernel⟩
theorem scLf : FnScope ["seed", "way"] ["seed"] (defScope (top 58)) := ⟨rfl, rfl, rfl, by decide +kernel, rfl, by decide +kernel, by decide +kernel⟩
def spUnl : Sp := fun vs H Q _ => ∃ (q : Addr) (m c : Nat), vs = [.ref q, .int (m : Nat)] ∧ m ≤ 10 ∧ Sd H q c ∧ c ≤ 10 ^ 10 ∧
  ∀ (xs : List K72.L) p H', xs.Nodup → (∀ x ∈ xs, okS x) → xs.length ≤ m → (1 ≤ m → 1 ≤ xs.length) → H p = none → p ≠ q → Kp q H H' → H' p = some (.lst (stxs xs)) → Sd H' q (c + 10 * m) → Q (.ref p) H'
/-- a term of no level -/
def isLeaf : KTm → Prop | .num n => n < 10 ^ 20 | .name x => okS x | .make c => isGreat c = true | _ => False
def spLeaf (K : PySem.W.Frag) : Sp := fun vs H Q _ => ∃ (q : Addr) (c : Nat), vs = [.ref q] ∧ Sd H q c ∧ c ≤ 10 ^ 10 ∧ ∀ t v H', isLeaf t → Dp K H' v (encT t) → Kp q H H' → Sd H' q (c + 20) → Q v H'
section
variable {P : Program} {w : World} {K : PySem.W.Frag} {mg : Str → Option Value} {base : Heap} {f : Addr} {fd : FuncData}
theorem ok_unl (F : Fun K "_law_unlike" "_law_unlike" (top 57) f fd) (Z : Bl mg) (cS : Cl P w K mg base 2 "_law_small" (spNm isSmall)) : FnOk P w K mg base (L2.CX P w) 3 f fd ["seed", "many"] spUnl := by
  refine F.okX scUn2 (fun vs H Q E h => ?_) (fun cdv A' outer s₀ H vs Q E hr h => ?_)
  · obtain ⟨q, m, c, rfl, _⟩ := h
    rfl
  obtain ⟨q, m, c, rfl, hm, hS, hc, k⟩ := h
  refine ⟨_, pss_cons (ps_set (i := 2) scUn2.nd rfl (Or.inl rfl) (pe_lst pa_nil))
    (pss_cons (ps_for (passes_of rfl) rfl (pi_range1 rfl Z.range (pa_cons (pv 1) pa_nil)) (pg_name (i := 3) scUn2.nd rfl (Or.inl rfl))
      (pss_cons (ps_set (i := 4) scUn2.nd rfl (Or.inl rfl) (pe_cl cS hr pxN rfl (pa_cons (pv 0) pa_nil)))
      (pss_one (ps_if (pt_cmpR op_notIn_seq (pv 4) (pv 2) (by rfl)) (pss_one (ps_expr (pe_bm PySem.F.plainAttrs_list PySem.F.slot_list_append PySem.F.type_list_append mt_append (pv 2) (pa_cons (pv 4) pa_nil)))) pss_nil))))
    (pss_one (ps_ret (pv 2)))), ?_⟩
  refine ⟨Nat.zero_le _, fun p np => ?_⟩
  have pq := hS.ne np
  refine ⟨_, rfl, _, rfl, by omega, by omega, ?_⟩
  rw [Int.toNat_natCast]
  refine for_it walk_range (fun i σ H' => ∃ (xs : List K72.L) (y3 y4 : Option V), σ = [some (.ref q), some (.int (m : Nat)), some (.ref p), y3, y4] ∧ xs.Nodup ∧ (∀ x ∈ xs, okS x) ∧ xs.length ≤ i ∧ (1 ≤ i → 1 ≤ xs.length) ∧ Kp q H H' ∧ H' p = some (.lst (stxs xs)) ∧ Sd H' q (c + 10 * i))
    ⟨[], _, _, rfl, List.nodup_nil, fun _ h => (by cases h), Nat.le_refl _, fun h => absurd h (by decide), kp_upd2 (Kp.refl _ _) np, upd_same, hS.new np⟩ (fun _ _ _ _ _ => trivial) ?_ ?_
  · rintro i x σ H1 H1' hi ⟨xs, y3, y4, rfl, h1, h2, h3, h4, k1, h5, S1⟩ ⟨rfl, rfl⟩
    refine ⟨_, rfl, q, c + 10 * i, rfl, S1, by omega, fun nm H2 hg k2 S2 => ?_⟩
    have h6 := k2 p _ pq h5
    refine ⟨_, rfl, _, rfl, p, _, rfl, .inl (SqL.of h6), rfl, flat_stxs xs, _, rfl, ?_⟩
    show if (!inV (.str (S nm)) (stxs xs)) = true then _ else _
    rw [inV_stxs]
    refine ite2 (fun cc => ?_) (fun cc => ?_)
    · have hn : nm ∉ xs := by simpa using cc
      refine ⟨_, rfl, .inl ⟨rfl, _, SqL.of h6⟩, _, rfl, p, _, _, rfl, rfl, h6, by rw [len_stxs]; exact Nat.lt_of_le_of_lt (show xs.length ≤ 10 by omega) (by decide), ?_⟩
      refine ⟨xs ++ [nm], _, _, rfl, ?_, ?_, by rw [List.length_append]; show xs.length + 1 ≤ i + 1; omega, fun _ => by rw [List.length_append]; show 1 ≤ xs.length + 1; omega, kp_upd2 (kpAll k1 k2) np, by rw [upd_same, show stxs (xs ++ [nm]) = stxs xs ++ [V.str (S nm)] from List.map_append ..], (S2.upd pq).mono (by omega)⟩
      · rw [List.nodup_append]
        refine ⟨h1, List.nodup_cons.mpr ⟨by simp, List.nodup_nil⟩, fun z hz w hw e => ?_⟩
        rw [List.mem_singleton.mp hw] at e
        rw [e] at hz
        exact hn hz
      · intro x hx
        rcases List.mem_append.mp hx with hx | hx
        · exact h2 x hx
        · rw [List.mem_singleton.mp hx]; exact hg
    · have hn : nm ∈ xs := by simpa using cc
      refine ⟨xs, _, _, rfl, h1, h2, by omega, fun _ => ?_, kpAll k1 k2, h6, S2.mono (by omega)⟩
      cases xs with
      | nil => cases hn
      | cons a r => simp
  · rintro σ H1 ⟨xs, y3, y4, rfl, h1, h2, h3, h4, k1, h5, S1⟩
    exact ⟨_, rfl, k xs p H1 h1 h2 h3 h4 np pq k1 h5 S1⟩
theorem Kp.dpa' {q : Addr} {H H' : Hp} {c : Nat} (k : Kp q H H') (S : Sd H q c) {v : V} {d : PyData} (hd : nl d = true) (h : Dp K H v d) : Dp K H' v d := by
  obtain ⟨a, b, e, h1, _⟩ := S
  refine dp_stayT (fun b o e ht => k b o (fun z => ?_) e) hd h
  rw [z, h1] at e
  rcases ht with ⟨_, h⟩ | ⟨_, _, h⟩ <;> (rw [h] at e; cases e)
theorem ok_leaf (F : Fun K "_law_leaf" "_law_leaf" (top 58) f fd) (cT : Cl P w K mg base 1 "_law_toss" spToss) (cS : Cl P w K mg base 2 "_law_small" (spNm isSmall)) (cG : Cl P w K mg base 2 "_law_great" (spNm isGreat)) : FnOk P w K mg base (L2.CX P w) 3 f fd ["seed"] (spLeaf K) := by
  refine F.okX scLf (fun vs H Q E h => ?_) (fun cdv A' outer s₀ H vs Q E hr h => ?_)
  · obtain ⟨q, c, rfl, _⟩ := h
    rfl
  obtain ⟨q, c, rfl, hS, hc, k⟩ := h
  refine ⟨_, pss_cons (ps_set (i := 1) scLf.nd rfl (Or.inl rfl) (pe_cl cT (hr.mono (by decide)) pxN rfl (pa_cons (pv 0) (pa_cons pe_int pa_nil))))
    (pss_cons (ps_if (pt_cmpR op_lt (pv 1) pe_int (nomark _)) (pss_one (ps_ret (pe_tup (pa_cons pe_str (pa_cons (pe_cl cS hr pxN rfl (pa_cons (pv 0) pa_nil)) pa_nil))))) pss_nil)
    (pss_cons (ps_if (pt_cmpR op_eq (pv 1) pe_int (nomark _)) (pss_one (ps_ret (pe_tup (pa_cons pe_str (pa_cons (pe_cl cG hr pxN rfl (pa_cons (pv 0) pa_nil)) pa_nil))))) pss_nil)
    (pss_one (ps_ret (pe_tup (pa_cons pe_str (pa_cons (pe_ix ix_list (pe_lst (pa_cons pe_int (pa_cons pe_int (pa_cons (pe_cl cT (hr.mono (by decide)) pxN rfl (pa_cons (pv 0) (pa_cons pe_int pa_nil))) (pa_cons (pe_op op_sub (pe_op op_pow pe_int pe_int) pe_int) (pa_cons (pe_cl cT (hr.mono (by decide)) pxN rfl (pa_cons (pv 0) (pa_cons (pe_op op_pow pe_int pe_int) pa_nil))) pa_nil))))))
      (pe_cl cT (hr.mono (by decide)) pxN rfl (pa_cons (pv 0) (pa_cons pe_int pa_nil))) (fun _ _ => rfl)) pa_nil))))))), ?_⟩
  refine ⟨_, rfl, q, 6, c, rfl, by decide, by decide, hS, by omega, fun r1 H1 hr1 k1 S1 => ?_⟩
  refine ⟨_, rfl, _, _, rfl, rfl, _, rfl, ?_⟩
  refine ite2 (fun cc => ?_) (fun cc => ?_)
  · refine ⟨_, rfl, q, c + 1, rfl, S1, by omega, fun x H2 hx k2 S2 => ?_⟩
    refine ⟨(by show 2 ≤ sizeLine; decide), fun p np => ?_⟩
    exact k (.name x) _ _ hx (dp_t2 np dp_str dp_str) (kp_same (kpAll k1 k2) (same_new np)) ((S2.new np).mono (by omega))
  refine ⟨_, rfl, rfl, _, rfl, ?_⟩
  refine ite2 (fun c2 => ?_) (fun c2 => ?_)
  · refine ⟨_, rfl, q, c + 1, rfl, S1, by omega, fun x H2 hx k2 S2 => ?_⟩
    refine ⟨(by show 2 ≤ sizeLine; decide), fun p np => ?_⟩
    exact k (.make x) _ _ hx (dp_t2 np dp_str dp_str) (kp_same (kpAll k1 k2) (same_new np)) ((S2.new np).mono (by omega))
  refine ⟨_, rfl, q, 1000, c + 1, rfl, by decide, by decide, S1, by omega, fun r2 H2 hr2 k2 S2 => ?_⟩
  refine ⟨_, _, rfl, rfl, ⟨by decide, by decide, by decide⟩, _, _, rfl, rfl, ?_⟩
  refine ⟨_, rfl, _, _, rfl, rfl, ⟨by decide, by decide, by decide⟩, q, 10 ^ 20, c + 1 + 1, congrArg (fun z => [V.ref q, z]) (show V.int ((10 : Int) ^ Int.toNat 20) = V.int ((10 ^ 20 : Nat) : Int) by decide +kernel), by decide, by decide, S2, by omega, fun r3 H3 hr3 k3 S3 => ?_⟩
  refine ⟨(by show 5 ≤ sizeLine; decide), fun p np => ?_⟩
  have pq := S3.ne np
  refine ⟨_, rfl, q, 5, c + 1 + 1 + 1, rfl, by decide, by decide, S3.new np, by omega, fun r4 H4 hr4 k4 S4 => ?_⟩
  have hp4 := k4 p _ pq upd_same
  have kk : Kp q H H4 := kpAll k1 (kpAll k2 (kpAll k3 (kpAll (Kp.of (same_new np)) k4)))
  have fin : ∀ n : Nat, n < 10 ^ 20 → ∀ p2, H4 p2 = none → Q (.ref p2) (L2.upd H4 p2 (.tup [.str "num", .int (n : Nat)])) := fun n hn p2 np2 =>
    k (.num n) _ _ hn (dp_t2 np2 dp_str (.int _)) (kp_same kk (same_new np2)) ((S4.new np2).mono (by omega))
  have get : ∀ v : V, ([.int 0, .int 7, .int (r2 : Nat), .int ((10 : Int) ^ Int.toNat 20 - 1), .int (r3 : Nat)] : List V)[r4]? = some v → ∃ n : Nat, n < 10 ^ 20 ∧ v = .int (n : Nat) := fun v hv => by
    match r4, hr4 with
    | 0, _ => exact ⟨0, by decide, (Option.some.inj hv).symm⟩
    | 1, _ => exact ⟨7, by decide, (Option.some.inj hv).symm⟩
    | 2, _ => exact ⟨r2, by omega, (Option.some.inj hv).symm⟩
    | 3, _ => exact ⟨10 ^ 20 - 1, by decide, (Option.some.inj hv).symm.trans (by decide +kernel)⟩
    | 4, _ => exact ⟨r3, hr3, (Option.some.inj hv).symm⟩
  have hlen : r4 < ([.int 0, .int 7, .int (r2 : Nat), .int ((10 : Int) ^ Int.toNat 20 - 1), .int (r3 : Nat)] : List V).length := hr4
  obtain ⟨n, hn, hv⟩ := get _ (List.getElem?_eq_getElem hlen)
  refine ⟨p, _, _, _, rfl, rfl, SqL.of hp4, atI_nat (List.getElem?_eq_getElem hlen), (by show 2 ≤ sizeLine; decide), fun p2 np2 => ?_⟩
  rw [hv]
  exact fin n hn p2 np2
end
end W72
/-! W37: terms as they are drawn. -/
namespace W72
open PySem L2
def Lb : Nat → Nat | 0 => 4 | d + 1 => 4 * Lb d + 60
def Nd : Nat → Nat | 0 => 30 | d + 1 => 4 * Nd d + 200
structure Gt (e : Nat) (t : KTm) : Prop where
  w : K72.wf t
  p : K72.pu t
  o : okN t
  d : K72.dp t ≤ e
  l : (lx true t).length ≤ Lb e
theorem Lb_mono (d : Nat) : Lb d ≤ Lb (d + 1) := by show Lb d ≤ 4 * Lb d + 60; omega
theorem Lb_le {d e : Nat} (h : d ≤ e) : Lb d ≤ Lb e := by
  induction h with
  | refl => exact Nat.le_refl _
  | step _ ih => exact Nat.le_trans ih (Lb_mono _)
theorem Lb0 (d : Nat) : 4 ≤ Lb d := Lb_le (d := 0) (Nat.zero_le _)
theorem Nd_mono (d : Nat) : Nd d ≤ Nd (d + 1) := by show Nd d ≤ 4 * Nd d + 200; omega
theorem Nd_le {d e : Nat} (h : d ≤ e) : Nd d ≤ Nd e := by
  induction h with
  | refl => exact Nat.le_refl _
  | step _ ih => exact Nat.le_trans ih (Nd_mono _)
theorem Nd0 (d : Nat) : 30 ≤ Nd d := Nd_le (d := 0) (Nat.zero_le _)
theorem pre_le (u : List Lx) : (lpre false ++ u).length ≤ (lpre true ++ u).length := by
  rw [List.length_append, List.length_append]
  show 0 + _ ≤ 3 + _
  omega
theorem lx_ft : ∀ t : KTm, (lx false t).length ≤ (lx true t).length
  | .num _ => by rw [lx, lx]; exact pre_le _
  | .name _ => by rw [lx, lx]; exact pre_le _
  | .make _ => by rw [lx, lx]; exact pre_le _
  | .app .. => by rw [lx, lx]; exact pre_le _
  | .op .. => by rw [lx, lx]; exact pre_le _
  | .fn .. => by rw [lx, lx]; exact Nat.le_refl _
  | .lt .. => by rw [lx, lx]; exact pre_le _
  | .cs .. => by rw [lx, lx]; exact pre_le _
  | .par _ => by rw [lx, lx]; exact pre_le _
theorem Gt.mono {d e : Nat} {t : KTm} (h : Gt d t) (hd : d ≤ e) : Gt e t := ⟨h.w, h.p, h.o, Nat.le_trans h.d hd, Nat.le_trans h.l (Lb_le hd)⟩
theorem Gt.lf {d : Nat} {t : KTm} (h : Gt d t) : (lx false t).length ≤ Lb d := Nat.le_trans (lx_ft t) h.l
theorem lshB_le {m : Nat} {t : KTm} : (lshB m t (lx false t)).length ≤ (lx false t).length + 2 := by
  unfold lshB
  split
  · rw [List.length_cons, List.length_append]; show (lx false t).length + 1 + 1 ≤ _; omega
  · omega
theorem gt_leaf {t : KTm} (h : isLeaf t) (d : Nat) : Gt d t := by
  have hl := Lb0 d
  cases t with
  | num n => exact ⟨trivial, trivial, h, Nat.zero_le _, by rw [lx]; exact hl⟩
  | name n => exact ⟨trivial, trivial, h, Nat.zero_le _, by rw [lx]; exact hl⟩
  | make n => exact ⟨trivial, trivial, h, Nat.zero_le _, by rw [lx]; exact hl⟩
  | _ => exact h.elim
theorem gt_app {d : Nat} {a b : KTm} (h1 : Gt d a) (h2 : Gt d b) : Gt (d + 1) (.app a b) := by
  refine ⟨⟨h1.w, h2.w⟩, ⟨h1.p, h2.p⟩, ⟨h1.o, h2.o⟩, ?_, ?_⟩
  · have := h1.d; have := h2.d
    show max (K72.dp a) (K72.dp b) + 1 ≤ d + 1
    omega
  · rw [lx]
    simp only [lpre, List.length_append, List.length_cons, List.length_nil]
    have := h1.lf; have := h2.lf
    have g1 := lshB_le (m := 3) (t := a)
    have g2 := lshB_le (m := 4) (t := b)
    show _ ≤ 4 * Lb d + 60
    omega
theorem gt_op {d : Nat} {o : K72.Op} {a b : KTm} (h1 : Gt d a) (h2 : Gt d b) : Gt (d + 1) (.op o a b) := by
  refine ⟨⟨h1.w, h2.w⟩, ⟨h1.p, h2.p⟩, ⟨h1.o, h2.o⟩, ?_, ?_⟩
  · have := h1.d; have := h2.d
    show max (K72.dp a) (K72.dp b) + 1 ≤ d + 1
    omega
  · rw [lx]
    simp only [lpre, List.length_append, List.length_cons, List.length_nil]
    have := h1.lf; have := h2.lf
    have g1 := lshB_le (m := max (K72.ow o) 1) (t := a)
    have g2 := lshB_le (m := K72.ow o + 1) (t := b)
    show _ ≤ 4 * Lb d + 60
    omega
theorem gt_fn {d : Nat} {x : K72.L} {b : KTm} (hx : okS x) (h2 : Gt d b) : Gt (d + 1) (.fn x b) := by
  refine ⟨h2.w, h2.p, ⟨hx, h2.o⟩, ?_, ?_⟩
  · have := h2.d
    show K72.dp b + 1 ≤ d + 1
    omega
  · rw [lx]
    have := h2.l
    show ([Lx.sp] ++ .tk (.small x) :: lx true b).length ≤ 4 * Lb d + 60
    simp only [List.length_append, List.length_cons, List.length_nil]
    omega
theorem ps_gt {d : Nat} : ∀ {ps : List (K72.L × KTm)}, (∀ p ∈ ps, okS p.1 ∧ Gt d p.2) → K72.wfPs ps ∧ K72.puPs ps ∧ okNPs ps ∧ K72.dpPs ps ≤ d ∧ (lxPs ps).length ≤ ps.length * (Lb d + 7)
  | [], _ => ⟨trivial, trivial, trivial, Nat.zero_le _, Nat.le_of_eq (by rw [lxPs]; simp)⟩
  | (x, t) :: r, h => by
    obtain ⟨h1, h2⟩ := h _ (List.mem_cons_self ..)
    obtain ⟨a, b, c, e, f⟩ := ps_gt (d := d) (ps := r) fun p m => h p (List.mem_cons_of_mem _ m)
    refine ⟨⟨h2.w, a⟩, ⟨h2.p, b⟩, ⟨h1, h2.o, c⟩, Nat.max_le.mpr ⟨h2.d, e⟩, ?_⟩
    have hl : (lx false t).length ≤ Lb d := h2.lf
    rw [lxPs]
    simp only [List.length_cons, List.length_append]
    have e2 : (r.length + 1) * (Lb d + 7) = r.length * (Lb d + 7) + (Lb d + 7) := Nat.succ_mul _ _
    rw [e2]
    split
    · simp; omega
    · simp only [List.length_cons]; omega
theorem ws_gt {d : Nat} : ∀ {ws : List (K72.L × List K72.L × KTm)}, (∀ w ∈ ws, isGreat w.1 = true ∧ (∀ x ∈ w.2.1, okS x) ∧ w.2.1.Nodup ∧ w.2.1.length ≤ 3 ∧ Gt d w.2.2) →
    K72.wfWs ws ∧ K72.puWs ws ∧ okNWs ws ∧ K72.dpWs ws ≤ d ∧ (lxWs ws).length ≤ ws.length * (Lb d + 13)
  | [], _ => ⟨trivial, trivial, trivial, Nat.zero_le _, Nat.le_of_eq (by rw [lxWs]; simp)⟩
  | (x, xs, t) :: r, h => by
    obtain ⟨h1, h3, h4, h5, h2⟩ := h _ (List.mem_cons_self ..)
    obtain ⟨a, b, c, e, f⟩ := ws_gt (d := d) (ws := r) fun p m => h p (List.mem_cons_of_mem _ m)
    refine ⟨⟨⟨h4, h2.w⟩, a⟩, ⟨h2.p, b⟩, ⟨h1, h3, h2.o, c⟩, Nat.max_le.mpr ⟨h2.d, e⟩, ?_⟩
    have hl : (lx false t).length ≤ Lb d := h2.lf
    have h5' : xs.length ≤ 3 := h5
    rw [lxWs]
    simp only [List.length_cons, List.length_append, lsm_len]
    have e2 : (r.length + 1) * (Lb d + 13) = r.length * (Lb d + 13) + (Lb d + 13) := Nat.succ_mul _ _
    rw [e2]
    split
    · simp; omega
    · simp only [List.length_cons]; omega
theorem gt_let {d : Nat} {ps : List (K72.L × KTm)} {b : KTm} (hn : (ps.map Prod.fst).Nodup) (h0 : ps ≠ []) (h3 : ps.length ≤ 3) (hp : ∀ p ∈ ps, okS p.1 ∧ Gt d p.2) (h2 : Gt d b) : Gt (d + 1) (.lt ps b) := by
  obtain ⟨a, b', c, e, f⟩ := ps_gt hp
  refine ⟨⟨⟨h0, hn, a⟩, h2.w⟩, ⟨b', h2.p⟩, ⟨c, h2.o⟩, ?_, ?_⟩
  · have := h2.d
    show max (K72.dpPs ps) (K72.dp b) + 1 ≤ d + 1
    omega
  · rw [lx]
    simp only [lpre, List.length_append, List.length_cons, List.length_nil]
    have := h2.lf
    have : ps.length * (Lb d + 7) ≤ 3 * (Lb d + 7) := Nat.mul_le_mul_right _ h3
    show _ ≤ 4 * Lb d + 60
    omega
theorem gt_case {d : Nat} {ws : List (K72.L × List K72.L × KTm)} {x : KTm} (h0 : ws ≠ []) (h3 : ws.length ≤ 3) (hw : ∀ w ∈ ws, isGreat w.1 = true ∧ (∀ x ∈ w.2.1, okS x) ∧ w.2.1.Nodup ∧ w.2.1.length ≤ 3 ∧ Gt d w.2.2) (h2 : Gt d x) : Gt (d + 1) (.cs x ws) := by
  obtain ⟨a, b', c, e, f⟩ := ws_gt hw
  refine ⟨⟨h2.w, h0, a⟩, ⟨h2.p, b'⟩, ⟨h2.o, c⟩, ?_, ?_⟩
  · have := h2.d
    show max (K72.dp x) (K72.dpWs ws) + 1 ≤ d + 1
    omega
  · rw [lx]
    simp only [lpre, List.length_append, List.length_cons, List.length_nil]
    have := h2.lf
    have : ws.length * (Lb d + 13) ≤ 3 * (Lb d + 13) := Nat.mul_le_mul_right _ h3
    show _ ≤ 4 * Lb d + 60
    omega
end W72
/-! W38: _law_term. -/
namespace W72
open PySem L2
abbrev nTm : List Str := ["seed", "left", "way", "op", "parts", "looked", "ways", "k", "names", "name"]
theorem scTm : FnScope nTm ["seed", "left"] (defScope (top 59)) := ⟨rfl, rfl, rfl, by decide +kernel, rfl, by decide +kernel, by decide +kernel⟩
def spTm (K : PySem.W.Frag) (d : Nat) : Sp := fun vs H Q _ => ∃ (q : Addr) (c : Nat), vs = [.ref q, .int (d : Nat)] ∧ Sd H q c ∧ c + Nd d ≤ 10 ^ 9 ∧ ∀ t v H', Gt d t → Dp K H' v (encT t) → Kp q H H' → Sd H' q (c + Nd d) → Q v H'
section
variable {P : Program} {w : World} {K : PySem.W.Frag} {mg : Str → Option Value} {base : Heap} {f : Addr} {fd : FuncData} {n k : Nat}
theorem int_pred (m : Nat) : (((m + 1 : Nat) : Int) - 1) = ((m : Nat) : Int) := by omega
theorem ok_tm (F : Fun K "_law_term" "_law_term" (top 59) f fd) (Z : Bl mg) (hk : 3 ≤ k) (cR : Cl P w K mg base k "_law_term" (lower (spTm K) n)) (cT : Cl P w K mg base 1 "_law_toss" spToss) (cS : Cl P w K mg base 2 "_law_small" (spNm isSmall)) (cG : Cl P w K mg base 2 "_law_great" (spNm isGreat))
    (cU : Cl P w K mg base 3 "_law_unlike" spUnl) (cL : Cl P w K mg base 3 "_law_leaf" (spLeaf K)) : FnOk P w K mg base (L2.CX P w) (k + 1) f fd ["seed", "left"] (spTm K n) := by
  refine F.okX scTm (fun vs H Q E h => ?_) (fun cdv A' outer s₀ H vs Q E hr h => ?_)
  · obtain ⟨q, c, rfl, _⟩ := h
    rfl
  obtain ⟨q, c, rfl, hS, hc, kk⟩ := h
  refine ⟨_, pss_cons (ps_set (i := 2) scTm.nd rfl (Or.inl rfl) (pe_cl cT (hr.mono (by omega)) pxN rfl (pa_cons (pv 0) (pa_cons pe_int pa_nil))))
    (pss_cons (ps_if (PW.pt (pw_or (pt_cmpR op_eq (pv 1) pe_int (nomark _)) (pw_or1 (pt_cmpR op_lt (pv 2) pe_int (nomark _))))) (pss_one (ps_ret (pe_cl cL (hr.mono (by omega)) pxN rfl (pa_cons (pv 0) pa_nil)))) pss_nil)
    (pss_cons (ps_if (pt_cmpR op_lt (pv 2) pe_int (nomark _)) (pss_one (ps_ret (pe_tup (pa_cons pe_str (pa_cons (pe_cl cR hr pxN rfl (pa_cons (pv 0) (pa_cons (pe_op op_sub (pv 1) pe_int) pa_nil))) (pa_cons (pe_cl cR hr pxN rfl (pa_cons (pv 0) (pa_cons (pe_op op_sub (pv 1) pe_int) pa_nil))) pa_nil)))))) pss_nil)
    (pss_cons (ps_if (pt_cmpR op_lt (pv 2) pe_int (nomark _)) (pss_cons (ps_set (i := 3) scTm.nd rfl (Or.inl rfl) (pe_ix ix_list (pe_lst (pa_cons pe_str (pa_cons pe_str (pa_cons pe_str (pa_cons pe_str (pa_cons pe_str pa_nil)))))) (pe_cl cT (hr.mono (by omega)) pxN rfl (pa_cons (pv 0) (pa_cons pe_int pa_nil))) (fun _ _ => rfl)))
      (pss_one (ps_ret (pe_tup (pa_cons pe_str (pa_cons (pv 3) (pa_cons (pe_cl cR hr pxN rfl (pa_cons (pv 0) (pa_cons (pe_op op_sub (pv 1) pe_int) pa_nil))) (pa_cons (pe_cl cR hr pxN rfl (pa_cons (pv 0) (pa_cons (pe_op op_sub (pv 1) pe_int) pa_nil))) pa_nil)))))))) pss_nil)
    (pss_cons (ps_if (pt_cmpR op_lt (pv 2) pe_int (nomark _)) (pss_one (ps_ret (pe_tup (pa_cons pe_str (pa_cons (pe_cl cS (hr.mono (by omega)) pxN rfl (pa_cons (pv 0) pa_nil)) (pa_cons (pe_cl cR hr pxN rfl (pa_cons (pv 0) (pa_cons (pe_op op_sub (pv 1) pe_int) pa_nil))) pa_nil)))))) pss_nil)
    (pss_cons (ps_if (pt_cmpR op_lt (pv 2) pe_int (nomark _))
      (pss_cons (ps_setLc (i := 4) (own := [("name", 9)]) (g := gName 9) (tt := tYes) rfl scTm.nd rfl rfl (sw_true rfl rfl rfl (by decide +kernel)) (pi_list (pe_cl cU (hr.mono (by omega)) pxN rfl (pa_cons (pv 0) (pa_cons (pe_op op_add pe_int (pe_cl cT (hr.mono (by omega)) pxN rfl (pa_cons (pv 0) (pa_cons pe_int pa_nil)))) pa_nil)))) (blkOk_by (N := nTm) (sc := defScope (top 59)) (by decide +kernel))
        (fun _ _ _ _ _ => pg_name (i := 9) scTm.nd rfl (Or.inl rfl)) (fun _ _ _ _ _ => pts_nil) (fun _ _ _ _ _ => pe_tup (pa_cons (pv 9) (pa_cons (pe_cl cR hr pxN rfl (pa_cons (pv 0) (pa_cons (pe_op op_sub (pv 1) pe_int) pa_nil))) pa_nil))))
      (pss_one (ps_ret (pe_tup (pa_cons pe_str (pa_cons (pe_callTy call_tuple_of rfl Z.tuple (by decide +kernel) (pa_cons (pv 4) pa_nil)) (pa_cons (pe_cl cR hr pxN rfl (pa_cons (pv 0) (pa_cons (pe_op op_sub (pv 1) pe_int) pa_nil))) pa_nil))))))) pss_nil)
    (pss_cons (ps_set (i := 5) scTm.nd rfl (Or.inl rfl) (pe_cl cR hr pxN rfl (pa_cons (pv 0) (pa_cons (pe_op op_sub (pv 1) pe_int) pa_nil))))
    (pss_cons (ps_set (i := 6) scTm.nd rfl (Or.inl rfl) (pe_lst pa_nil))
    (pss_cons (ps_for (passes_of rfl) rfl (pi_range1 rfl Z.range (pa_cons (pe_op op_add pe_int (pe_cl cT (hr.mono (by omega)) pxN rfl (pa_cons (pv 0) (pa_cons pe_int pa_nil)))) pa_nil)) (pg_name (i := 7) scTm.nd rfl (Or.inl rfl))
      (pss_cons (ps_set (i := 8) scTm.nd rfl (Or.inl rfl) (pe_callTy call_tuple_of rfl Z.tuple (by decide +kernel) (pa_cons (pe_cl cU (hr.mono (by omega)) pxN rfl (pa_cons (pv 0) (pa_cons (pe_cl cT (hr.mono (by omega)) pxN rfl (pa_cons (pv 0) (pa_cons pe_int pa_nil))) pa_nil))) pa_nil)))
      (pss_one (ps_expr (pe_bm PySem.F.plainAttrs_list PySem.F.slot_list_append PySem.F.type_list_append mt_append (pv 6) (pa_cons (pe_tup (pa_cons (pe_cl cG (hr.mono (by omega)) pxN rfl (pa_cons (pv 0) pa_nil)) (pa_cons (pv 8) (pa_cons (pe_cl cR hr pxN rfl (pa_cons (pv 0) (pa_cons (pe_op op_sub (pv 1) pe_int) pa_nil))) pa_nil)))) pa_nil))))))
    (pss_one (ps_ret (pe_tup (pa_cons pe_str (pa_cons (pv 5) (pa_cons (pe_callTy call_tuple_of rfl Z.tuple (by decide +kernel) (pa_cons (pv 6) pa_nil)) pa_nil)))))))))))))), ?_⟩
  have hn0 := Nd0 n
  refine ⟨_, rfl, q, 14, c, rfl, by decide, by decide, hS, by omega, fun r1 H1 hr1 k1 S1 => ?_⟩
  refine ⟨_, rfl, rfl, _, rfl, ?_⟩
  refine ite2 (fun cc => ?_) (fun cc => ?_)
  · refine iteT ?_
    exact ⟨_, rfl, q, c + 1, rfl, S1, by omega, fun t v H2 hl D2 k2 S2 => kk t v H2 (gt_leaf hl n) D2 (kpAll k1 k2) (S2.mono (by omega))⟩
  refine ⟨_, rfl, _, _, rfl, rfl, _, rfl, ?_⟩
  refine ite2 (fun c2 => ?_) (fun c2 => ?_)
  · exact ⟨_, rfl, q, c + 1, rfl, S1, by omega, fun t v H2 hl D2 k2 S2 => kk t v H2 (gt_leaf hl n) D2 (kpAll k1 k2) (S2.mono (by omega))⟩
  obtain ⟨m, rfl⟩ : ∃ m, n = m + 1 := by
    have : n ≠ 0 := fun z => by
      subst z
      exact cc (by decide +kernel)
    exact ⟨n - 1, by omega⟩
  have hNd : Nd (m + 1) = 4 * Nd m + 200 := rfl
  refine ⟨_, rfl, _, _, rfl, rfl, _, rfl, ?_⟩
  refine ite2 (fun c3 => ?_) (fun c3 => ?_)
  · refine ⟨_, rfl, _, rfl, _, _, rfl, rfl, m, rfl, q, c + 1, congrArg (fun z => [V.ref q, V.int z]) (int_pred m), S1, by omega, fun a va H2 ga D2 k2 S2 => ?_⟩
    refine ⟨_, rfl, _, rfl, _, _, rfl, rfl, m, rfl, q, c + 1 + Nd m, congrArg (fun z => [V.ref q, V.int z]) (int_pred m), S2, by omega, fun b vb H3 gb D3 k3 S3 => ?_⟩
    refine ⟨(by show 3 ≤ sizeLine; decide), fun p np => ?_⟩
    exact kk (.app a b) _ _ (gt_app ga gb) (dp_t3 np dp_str (k3.dpa' S2 (nl_enc a) D2) D3) (kp_same (kpAll k1 (kpAll k2 k3)) (same_new np)) ((S3.new np).mono (by omega))
  refine ⟨_, rfl, _, _, rfl, rfl, _, rfl, ?_⟩
  refine ite2 (fun c4 => ?_) (fun c4 => ?_)
  · refine ⟨(by show 5 ≤ sizeLine; decide), fun pl npl => ?_⟩
    have plq := S1.ne npl
    refine ⟨_, rfl, q, 5, c + 1, rfl, by decide, by decide, S1.new npl, by omega, fun r2 H2 hr2 k2 S2 => ?_⟩
    have hp2 := k2 pl _ plq upd_same
    have k02 : Kp q H H2 := kpAll k1 (kpAll (Kp.of (same_new npl)) k2)
    have get : ∃ o : K72.Op, ([.str "+", .str "-", .str "*", .str "<", .str "=="] : List V)[r2]? = some (.str (opS o)) := by
      match r2, hr2 with
      | 0, _ => exact ⟨.plus, rfl⟩
      | 1, _ => exact ⟨.minus, rfl⟩
      | 2, _ => exact ⟨.times, rfl⟩
      | 3, _ => exact ⟨.less, rfl⟩
      | 4, _ => exact ⟨.same, rfl⟩
    obtain ⟨o, ho⟩ := get
    refine ⟨pl, _, _, _, rfl, rfl, SqL.of hp2, atI_nat ho, ?_⟩
    refine ⟨_, rfl, _, rfl, _, rfl, _, _, rfl, rfl, m, rfl, q, c + 1 + 1, congrArg (fun z => [V.ref q, V.int z]) (int_pred m), S2, by omega, fun a va H3 ga D2 k3 S3 => ?_⟩
    refine ⟨_, rfl, _, rfl, _, _, rfl, rfl, m, rfl, q, c + 1 + 1 + Nd m, congrArg (fun z => [V.ref q, V.int z]) (int_pred m), S3, by omega, fun b vb H4 gb D3 k4 S4 => ?_⟩
    refine ⟨(by show 4 ≤ sizeLine; decide), fun p np => ?_⟩
    exact kk (.op o a b) _ _ (gt_op ga gb) (dp_t4 np dp_str dp_str (k4.dpa' S3 (nl_enc a) D2) D3) (kp_same (kpAll k02 (kpAll k3 k4)) (same_new np)) ((S4.new np).mono (by omega))
  refine ⟨_, rfl, _, _, rfl, rfl, _, rfl, ?_⟩
  refine ite2 (fun c5 => ?_) (fun c5 => ?_)
  · refine ⟨_, rfl, q, c + 1, rfl, S1, by omega, fun x H2 hx k2 S2 => ?_⟩
    refine ⟨_, rfl, _, rfl, _, _, rfl, rfl, m, rfl, q, c + 1 + 10, congrArg (fun z => [V.ref q, V.int z]) (int_pred m), S2, by omega, fun b vb H3 gb D3 k3 S3 => ?_⟩
    refine ⟨(by show 3 ≤ sizeLine; decide), fun p np => ?_⟩
    exact kk (.fn x b) _ _ (gt_fn hx gb) (dp_t3 np dp_str dp_str D3) (kp_same (kpAll k1 (kpAll k2 k3)) (same_new np)) ((S3.new np).mono (by omega))
  refine ⟨_, rfl, _, _, rfl, rfl, _, rfl, ?_⟩
  refine ite2 (fun c6 => ?_) (fun c6 => ?_)
  · refine ⟨_, rfl, _, rfl, q, 3, c + 1, rfl, by decide, by decide, S1, by omega, fun r2 H2 hr2 k2 S2 => ?_⟩
    refine ⟨_, _, rfl, rfl, q, 1 + r2, c + 1 + 1, congrArg (fun z => [V.ref q, V.int z]) (show (1 : Int) + (r2 : Nat) = ((1 + r2 : Nat) : Int) by omega), by omega, S2, by omega, fun xs p H3 nd okx len pos np pq k3 hp3 S3 => ?_⟩
    have k03 : Kp q H H3 := kpAll k1 (kpAll k2 k3)
    have hlx := pos (by omega)
    refine ⟨p, rfl, ⟨_, SqL.of hp3⟩, fun D nD => ?_⟩
    have Dq := S3.ne nD
    refine lc_it walk_list (fun i H' => ∃ (ps : List (K72.L × KTm)) (vs : List V), ps.map Prod.fst = xs.take i ∧ (∀ p ∈ ps, okS p.1 ∧ Gt m p.2) ∧ Kp q H3 H' ∧ H' D = some (.lst vs) ∧ DpAll K H' vs (ps.map encP) ∧ Sd H' q (c + 32 + i * Nd m))
      ⟨[], [], by rw [List.take_zero] <;> rfl, fun _ h => (by cases h), Kp.of (same_new nD), upd_same, .nil, (S3.new nD).mono (by omega)⟩ (fun i H' _ ⟨_, _, _, _, h, _⟩ => SqL.of (h p _ pq hp3)) ?_ ?_
    · rintro i x H4 H4' hi ⟨ps, vs, e1, e2, k4, hD4, A4, S4⟩ ⟨rfl, hx⟩
      have hi' : i < xs.length := by rw [len_stxs] at hi; exact hi
      have ex : x = .str (S xs[i]) := by
        rw [List.getElem?_map, List.getElem?_eq_getElem hi'] at hx
        exact (Option.some.inj hx).symm
      subst ex
      have him : i * Nd m ≤ 2 * Nd m := Nat.mul_le_mul_right _ (by omega)
      refine ⟨rfl, ?_⟩
      refine ⟨_, rfl, _, rfl, _, rfl, _, _, rfl, rfl, m, rfl, q, c + 32 + i * Nd m, congrArg (fun z => [V.ref q, V.int z]) (int_pred m), S4, by omega, fun t v H5 gt D5 k5 S5 => ?_⟩
      refine ⟨(by show 2 ≤ sizeLine; decide), fun T nT => ?_⟩
      have hD5 := k5 D _ Dq hD4
      have nTD := ne_of_none hD5 nT
      have hD6 : upd H5 T (.tup [.str (S xs[i]), v]) D = some (.lst vs) := by rw [upd_ne nTD]; exact hD5
      have hvl : vs.length = i := by
        rw [dpa_len A4, List.length_map, ← List.length_map (f := Prod.fst), e1, List.length_take]
        omega
      have tp := upd_tp (o' := .lst (vs ++ [V.ref T])) hD6 lst_notTp
      have A6 : DpAll K (upd H5 T (.tup [.str (S xs[i]), v])) vs (ps.map encP) := by
        refine dpa_stayT (fun b o e _ => same_new nT b o e) (by rw [← encPs_map]; exact nl_encPs ps) ?_
        obtain ⟨a1, a2, a3, h1, _⟩ := S4
        refine dpa_stayT (fun b o e ht => k5 b o (fun z => ?_) e) (by rw [← encPs_map]; exact nl_encPs ps) A4
        rw [z, h1] at e
        rcases ht with ⟨_, h⟩ | ⟨_, _, h⟩ <;> (rw [h] at e; cases e)
      refine ⟨_, hD6, by rw [hvl]; exact Nat.lt_of_le_of_lt (show i ≤ 3 by omega) (by decide), ps ++ [(xs[i], t)], vs ++ [.ref T], ?_, ?_, ?_, upd_same, ?_, ?_⟩
      · rw [List.map_append, e1, List.take_succ, List.getElem?_eq_getElem hi'] <;> rfl
      · intro y hy
        rcases List.mem_append.mp hy with hy | hy
        · exact e2 y hy
        · rw [List.mem_singleton.mp hy]
          exact ⟨okx _ (List.getElem_mem hi'), gt⟩
      · exact kp_upd2 (kp_same (kpAll k4 k5) (same_new nT)) nD
      · rw [List.map_append]
        refine dpa_stayT tp (by rw [← List.map_append, ← encPs_map]; exact nl_encPs _) (dpa_snoc ?_ A6)
        exact .tup (SqT.of upd_same) (.cons dp_str (.cons (dp_new nT D5) .nil))
      · refine ((S5.new nT).upd Dq).mono ?_
        rw [Nat.succ_mul]
        omega
    · rintro H4 ⟨ps, vs, e1, e2, k4, hD4, A4, S4⟩
      rw [len_stxs] at S4 e1
      rw [List.take_length] at e1
      have hpl : ps.length = xs.length := by rw [← e1, List.length_map]
      have him : xs.length * Nd m ≤ 3 * Nd m := Nat.mul_le_mul_right _ (by omega)
      refine ⟨_, rfl, D, _, rfl, .inl ⟨SqL.of hD4, fun a na => ?_⟩⟩
      refine ⟨_, rfl, _, rfl, _, _, rfl, rfl, m, rfl, q, c + 32 + xs.length * Nd m, congrArg (fun z => [V.ref q, V.int z]) (int_pred m), S4.new na, by omega, fun b vb H5 gb D5 k5 S5 => ?_⟩
      refine ⟨(by show 3 ≤ sizeLine; decide), fun T nT => ?_⟩
      have Dt : Dp K (upd H4 a (.tup vs)) (.ref a) (.tuple (encPs ps)) := .tup (SqT.of upd_same) (by rw [encPs_map]; exact dpa_stay (fun b o e _ => same_new na b o e) A4)
      refine kk (.lt ps b) _ _ (gt_let (by rw [e1]; exact nd) (fun z => ?_) (by omega) e2 gb) (dp_t3 nT dp_str (k5.dpa' (S4.new na) (nl_encPs ps) Dt) D5) (kp_same (kpAll k03 (kpAll k4 (kpAll (Kp.of (same_new na)) k5))) (same_new nT)) ((S5.new nT).mono (by omega))
      rw [z] at hpl
      simp at hpl
      omega
  refine ⟨_, rfl, _, rfl, _, _, rfl, rfl, m, rfl, q, c + 1, congrArg (fun z => [V.ref q, V.int z]) (int_pred m), S1, by omega, fun e ve H2 ge D2 k2 S2 => ?_⟩
  refine ⟨Nat.zero_le _, fun p np => ?_⟩
  have pq := S2.ne np
  refine ⟨_, rfl, q, 3, c + 1 + Nd m, rfl, by decide, by decide, S2.new np, by omega, fun r2 H3 hr2 k3 S3 => ?_⟩
  refine ⟨_, _, rfl, rfl, _, rfl, by omega, by omega, ?_⟩
  rw [show ((1 : Int) + ((r2 : Nat) : Int)).toNat = 1 + r2 by omega]
  have k23 : Kp q H2 H3 := kpAll (Kp.of (same_new np)) k3
  have hp3 := k3 p _ pq upd_same
  refine for_it walk_range (fun i σ H' => ∃ (ws : List (K72.L × List K72.L × KTm)) (vs : List V) (y7 y8 : Option V), σ = [some (.ref q), some (.int ((m + 1 : Nat) : Int)), some (.int (r1 : Nat)), none, none, some ve, some (.ref p), y7, y8, none] ∧ ws.length = i ∧
      (∀ w ∈ ws, isGreat w.1 = true ∧ (∀ x ∈ w.2.1, okS x) ∧ w.2.1.Nodup ∧ w.2.1.length ≤ 3 ∧ Gt m w.2.2) ∧ Kp q H2 H' ∧ H' p = some (.lst vs) ∧ DpAll K H' vs (ws.map encW) ∧ Sd H' q (c + 10 + Nd m + i * (Nd m + 50)))
    ⟨[], [], _, _, rfl, rfl, fun _ h => (by cases h), k23, hp3, .nil, S3.mono (by omega)⟩ (fun _ _ _ _ _ => trivial) ?_ ?_
  · rintro i x σ H4 H4' hi ⟨ws, vs, y7, y8, rfl, e1, e2, k4, hp4, A4, S4⟩ ⟨rfl, rfl⟩
    have him : i * (Nd m + 50) ≤ 2 * (Nd m + 50) := Nat.mul_le_mul_right _ (by omega)
    refine ⟨_, rfl, _, rfl, q, 4, c + 10 + Nd m + i * (Nd m + 50), rfl, by decide, by decide, S4, by omega, fun r4 H5 hr4 k5 S5 => ?_⟩
    refine ⟨q, r4, _, rfl, by omega, S5, by omega, fun xs pu H6 nd okx len pos npu puq k6 hpu S6 => ?_⟩
    refine ⟨pu, _, rfl, .inl ⟨SqL.of hpu, fun a na => ?_⟩⟩
    have k46 : Kp q H4' (upd H6 a (.tup (stxs xs))) := kp_same (kpAll k5 k6) (same_new na)
    have hp6 := k46 p _ pq hp4
    refine ⟨_, rfl, .inl ⟨rfl, _, SqL.of hp6⟩, ?_⟩
    refine ⟨_, rfl, q, _, rfl, S6.new na, by omega, fun g H7 hg k7 S7 => ?_⟩
    refine ⟨_, rfl, _, rfl, _, rfl, _, _, rfl, rfl, m, rfl, q, _, congrArg (fun z => [V.ref q, V.int z]) (int_pred m), S7, by omega, fun t v H8 gt D8 k8 S8 => ?_⟩
    refine ⟨(by show 3 ≤ sizeLine; decide), fun T nT => ?_⟩
    have hvl : vs.length = i := by rw [dpa_len A4, List.length_map, e1]
    have hp8 := k8 p _ pq (k7 p _ pq hp6)
    have hp9 : upd H8 T (.tup [.str (S g), .ref a, v]) p = some (.lst vs) := by rw [upd_ne (ne_of_none hp8 nT)]; exact hp8
    have aq : a ≠ q := (S6.ne na)
    have ha8 := k8 a _ aq (k7 a _ aq upd_same)
    have k48 : Kp q H4' H8 := kpAll k46 (kpAll k7 k8)
    have A8 : DpAll K H8 vs (ws.map encW) := by
      obtain ⟨a1, a2, a3, h1, _⟩ := S4
      refine dpa_stayT (fun b o e ht => k48 b o (fun z => ?_) e) (nls_ws ws) A4
      rw [z, h1] at e
      rcases ht with ⟨_, h⟩ | ⟨_, _, h⟩ <;> (rw [h] at e; cases e)
    have A9 : DpAll K (upd H8 T (.tup [.str (S g), .ref a, v])) vs (ws.map encW) := dpa_stay (fun b o e _ => same_new nT b o e) A8
    have tp := upd_tp (o' := .lst (vs ++ [V.ref T])) hp9 lst_notTp
    refine ⟨p, _, _, rfl, rfl, hp9, by rw [hvl]; exact Nat.lt_of_le_of_lt (show i ≤ 3 by omega) (by decide), ?_⟩
    refine ⟨ws ++ [(g, xs, t)], vs ++ [.ref T], _, _, rfl, by rw [List.length_append, e1] <;> rfl, ?_, kp_upd2 (kp_same (kpAll k4 k48) (same_new nT)) np, upd_same, ?_, ?_⟩
    · intro y hy
      rcases List.mem_append.mp hy with hy | hy
      · exact e2 y hy
      · rw [List.mem_singleton.mp hy]
        exact ⟨hg, okx, nd, by show xs.length ≤ 3; omega, gt⟩
    · rw [List.map_append]
      refine dpa_stayT tp (by rw [← List.map_append]; exact nls_ws _) (dpa_snoc ?_ A9)
      exact .tup (SqT.of upd_same) (.cons dp_str (.cons (dp_new nT (.tup (SqT.of ha8) (dpa_strs xs))) (.cons (dp_new nT D8) .nil)))
    · refine ((S8.new nT).upd pq).mono ?_
      have esm : (i + 1) * (Nd m + 50) = i * (Nd m + 50) + (Nd m + 50) := Nat.succ_mul _ _
      omega
  · rintro σ H4 ⟨ws, vs, y7, y8, rfl, e1, e2, k4, hp4, A4, S4⟩
    have him : (1 + r2) * (Nd m + 50) ≤ 3 * (Nd m + 50) := Nat.mul_le_mul_right _ (by omega)
    refine ⟨_, rfl, _, rfl, p, _, rfl, .inl ⟨SqL.of hp4, fun a na => ?_⟩⟩
    refine ⟨(by show 3 ≤ sizeLine; decide), fun T nT => ?_⟩
    refine kk (.cs e ws) _ _ (gt_case (fun z => ?_) (by omega) e2 ge) (dp_t3 nT dp_str (dp_new na (k4.dpa' S2 (nl_enc e) D2)) (.tup (SqT.of upd_same) (by rw [encWs_map]; exact dpa_stay (fun b o e _ => same_new na b o e) A4))) (kp_same (kp_same (kpAll k1 (kpAll k2 k4)) (same_new na)) (same_new nT)) (((S4.new na).new nT).mono (by omega))
    rw [z] at e1
    simp at e1
    omega
end
end W72
/-! W39: _law_term at any depth; shapes of drawn kinds. -/
namespace W72
open PySem L2
structure LDefs (K : PySem.W.Frag) (mg : Str → Option Value) : Prop where
  Seed : Df K mg "_law_seed" (top 53) ["cell"]
  Toss : Df K mg "_law_toss" (top 54) ["seed", "many"]
  Small : Df K mg "_law_small" (top 55) ["seed"]
  Great : Df K mg "_law_great" (top 56) ["seed"]
  Unlike : Df K mg "_law_unlike" (top 57) ["seed", "many"]
  Leaf : Df K mg "_law_leaf" (top 58) ["seed"]
  Term : Df K mg "_law_term" (top 59) ["seed", "left"]
section
variable {P : Program} {w : World} {K : PySem.W.Frag} {mg : Str → Option Value} {base : Heap}
theorem toss_cl (D : LDefs K mg) (Z : Bl mg) : Cl P w K mg base 1 "_law_toss" spToss := D.Toss.cl fun _ _ F => ok_toss F Z
theorem small_cl (D : LDefs K mg) (Z : Bl mg) : Cl P w K mg base 2 "_law_small" (spNm isSmall) := D.Small.cl fun _ _ F => ok_small F Z (toss_cl D Z)
theorem great_cl (D : LDefs K mg) (Z : Bl mg) : Cl P w K mg base 2 "_law_great" (spNm isGreat) := D.Great.cl fun _ _ F => ok_great F Z (toss_cl D Z)
theorem unl_cl (D : LDefs K mg) (Z : Bl mg) : Cl P w K mg base 3 "_law_unlike" spUnl := D.Unlike.cl fun _ _ F => ok_unl F Z (small_cl D Z)
theorem leaf_cl (D : LDefs K mg) (Z : Bl mg) : Cl P w K mg base 3 "_law_leaf" (spLeaf K) := D.Leaf.cl fun _ _ F => ok_leaf F (toss_cl D Z) (small_cl D Z) (great_cl D Z)
theorem tm_all (D : LDefs K mg) (Z : Bl mg) : ∀ n, Cl P w K mg base (n + 4) "_law_term" (spTm K n) := by
  intro n
  induction n with
  | zero => exact D.Term.cl fun _ _ F => ok_tm F Z (Nat.le_refl _) (D.Term.low fun m e => by cases e) (toss_cl D Z) (small_cl D Z) (great_cl D Z) (unl_cl D Z) (leaf_cl D Z)
  | succ n ih =>
    exact D.Term.cl fun _ _ F => ok_tm F Z (by omega) (D.Term.low fun m e => by
      have : m = n := by omega
      rw [this]; exact ih) (toss_cl D Z) (small_cl D Z) (great_cl D Z) (unl_cl D Z) (leaf_cl D Z)
end
/-! ### kinds -/
def Lk : Nat → Nat | 0 => 2 | d + 1 => 3 * Lk d + 20
def Nk : Nat → Nat | 0 => 30 | d + 1 => 3 * Nk d + 60
structure Gk (e : Nat) (k : KKd) : Prop where
  p : K72.puK k
  o : okK k
  d : K72.dpK k ≤ e + 1
  l : (lk k).length ≤ Lk e
theorem Lk_mono (d : Nat) : Lk d ≤ Lk (d + 1) := by show Lk d ≤ 3 * Lk d + 20; omega
theorem Lk_le {d e : Nat} (h : d ≤ e) : Lk d ≤ Lk e := by
  induction h with
  | refl => exact Nat.le_refl _
  | step _ ih => exact Nat.le_trans ih (Lk_mono _)
theorem Lk0 (d : Nat) : 2 ≤ Lk d := Lk_le (d := 0) (Nat.zero_le _)
theorem Nk_mono (d : Nat) : Nk d ≤ Nk (d + 1) := by show Nk d ≤ 3 * Nk d + 60; omega
theorem Nk_le {d e : Nat} (h : d ≤ e) : Nk d ≤ Nk e := by
  induction h with
  | refl => exact Nat.le_refl _
  | step _ ih => exact Nat.le_trans ih (Nk_mono _)
theorem Nk0 (d : Nat) : 30 ≤ Nk d := Nk_le (d := 0) (Nat.zero_le _)
theorem Gk.mono {d e : Nat} {k : KKd} (h : Gk d k) (hd : d ≤ e) : Gk e k := ⟨h.p, h.o, Nat.le_trans h.d (by omega), Nat.le_trans h.l (Lk_le hd)⟩
theorem lkB_le {m : Nat} {k : KKd} : (lkB m k (lk k)).length ≤ (lk k).length + 2 := by
  unfold lkB
  split
  · rw [List.length_cons, List.length_append]; show (lk k).length + 1 + 1 ≤ _; omega
  · omega
theorem gk_num (d : Nat) : Gk d .num := ⟨trivial, trivial, Nat.zero_le _, by rw [lk]; have := Lk0 d; show 1 ≤ _; omega⟩
theorem gk_var (d : Nat) {x : K72.L} (h : okS x) : Gk d (.var x) := ⟨trivial, h, Nat.zero_le _, by rw [lk]; have := Lk0 d; show 1 ≤ _; omega⟩
theorem gk_fn {d : Nat} {a b : KKd} (h1 : Gk d a) (h2 : Gk d b) : Gk (d + 1) (.fn a b) := by
  refine ⟨⟨h1.p, h2.p⟩, ⟨h1.o, h2.o⟩, ?_, ?_⟩
  · have := h1.d; have := h2.d
    show max (K72.dpK a) (K72.dpK b) + 1 ≤ d + 1 + 1
    omega
  · rw [lk]
    simp only [List.length_append, List.length_cons]
    have := h1.l; have := h2.l
    have g1 := lkB_le (m := 1) (k := a)
    show _ ≤ 3 * Lk d + 20
    omega
theorem ks_gk {d : Nat} : ∀ {ks : List KKd}, (∀ k ∈ ks, Gk d k) → K72.puKs ks ∧ okKs ks ∧ K72.dpKs ks ≤ d + 1 ∧ (lks ks).length ≤ ks.length * (Lk d + 3)
  | [], _ => ⟨trivial, trivial, Nat.zero_le _, Nat.le_of_eq (by rw [lks]; simp)⟩
  | k :: r, h => by
    have h2 := h _ (List.mem_cons_self ..)
    obtain ⟨b, c, e, f⟩ := ks_gk (d := d) (ks := r) fun p m => h p (List.mem_cons_of_mem _ m)
    refine ⟨⟨h2.p, b⟩, ⟨h2.o, c⟩, Nat.max_le.mpr ⟨h2.d, e⟩, ?_⟩
    have hl := h2.l
    have g1 := lkB_le (m := 2) (k := k)
    rw [lks]
    simp only [List.length_cons, List.length_append]
    have e2 : (r.length + 1) * (Lk d + 3) = r.length * (Lk d + 3) + (Lk d + 3) := Nat.succ_mul _ _
    rw [e2]
    omega
theorem gk_data {d : Nat} {x : K72.L} {ks : List KKd} (hx : isGreat x = true) (h3 : ks.length ≤ 3) (hk : ∀ k ∈ ks, Gk d k) : Gk (d + 1) (.data x ks) := by
  obtain ⟨b, c, e, f⟩ := ks_gk hk
  refine ⟨b, ⟨hx, c⟩, ?_, ?_⟩
  · show K72.dpKs ks + 1 ≤ d + 1 + 1
    omega
  · rw [lk]
    simp only [List.length_cons]
    have : ks.length * (Lk d + 3) ≤ 3 * (Lk d + 3) := Nat.mul_le_mul_right _ h3
    show _ ≤ 3 * Lk d + 20
    omega
theorem gk_data0 (d : Nat) {x : K72.L} (hx : isGreat x = true) : Gk d (.data x []) := ⟨trivial, ⟨hx, trivial⟩, by show 0 + 1 ≤ d + 1; omega, by rw [lk, lks]; have := Lk0 d; show 1 ≤ _; omega⟩
end W72
/-! W40: _law_kind. -/
namespace W72
open PySem L2
abbrev nKd : List Str := ["seed", "left", "way", "k"]
theorem scKd : FnScope nKd ["seed", "left"] (defScope (top 62)) := ⟨rfl, rfl, rfl, by decide +kernel, rfl, by decide +kernel, by decide +kernel⟩
def spKd (K : PySem.W.Frag) (d : Nat) : Sp := fun vs H Q _ => ∃ (q : Addr) (c : Nat), vs = [.ref q, .int (d : Nat)] ∧ Sd H q c ∧ c + Nk d ≤ 10 ^ 9 ∧ ∀ t v H', Gk d t → Dp K H' v (encK t) → Kp q H H' → Sd H' q (c + Nk d) → Q v H'
section
variable {P : Program} {w : World} {K : PySem.W.Frag} {mg : Str → Option Value} {base : Heap} {f : Addr} {fd : FuncData} {n k : Nat}
theorem ok_kd (F : Fun K "_law_kind" "_law_kind" (top 62) f fd) (Z : Bl mg) (hk : 2 ≤ k) (cR : Cl P w K mg base k "_law_kind" (lower (spKd K) n)) (cT : Cl P w K mg base 1 "_law_toss" spToss) (cS : Cl P w K mg base 2 "_law_small" (spNm isSmall)) (cG : Cl P w K mg base 2 "_law_great" (spNm isGreat)) :
    FnOk P w K mg base (L2.CX P w) (k + 1) f fd ["seed", "left"] (spKd K n) := by
  refine F.okX scKd (fun vs H Q E h => ?_) (fun cdv A' outer s₀ H vs Q E hr h => ?_)
  · obtain ⟨q, c, rfl, _⟩ := h
    rfl
  obtain ⟨q, c, rfl, hS, hc, kk⟩ := h
  refine ⟨_, pss_cons (ps_set (i := 2) scKd.nd rfl (Or.inl rfl) (pe_cl cT (hr.mono (by omega)) pxN rfl (pa_cons (pv 0) (pa_cons pe_int pa_nil))))
    (pss_cons (ps_if (PW.pt (pw_or (pt_cmpR op_eq (pv 1) pe_int (nomark _)) (pw_or1 (pt_cmpR op_lt (pv 2) pe_int (nomark _)))))
      (pss_one (ps_ret (pe_ix ix_list (pe_lst (pa_cons (pe_tup (pa_cons pe_str pa_nil)) (pa_cons (pe_tup (pa_cons pe_str (pa_cons (pe_cl cS (hr.mono (by omega)) pxN rfl (pa_cons (pv 0) pa_nil)) pa_nil))) (pa_cons (pe_tup (pa_cons pe_str (pa_cons (pe_cl cG (hr.mono (by omega)) pxN rfl (pa_cons (pv 0) pa_nil)) (pa_cons (pe_tup pa_nil) pa_nil)))) pa_nil))))
        (pe_cl cT (hr.mono (by omega)) pxN rfl (pa_cons (pv 0) (pa_cons pe_int pa_nil))) (fun _ _ => rfl)))) pss_nil)
    (pss_cons (ps_if (pt_cmpR op_lt (pv 2) pe_int (nomark _)) (pss_one (ps_ret (pe_tup (pa_cons pe_str (pa_cons (pe_cl cR hr pxN rfl (pa_cons (pv 0) (pa_cons (pe_op op_sub (pv 1) pe_int) pa_nil))) (pa_cons (pe_cl cR hr pxN rfl (pa_cons (pv 0) (pa_cons (pe_op op_sub (pv 1) pe_int) pa_nil))) pa_nil)))))) pss_nil)
    (pss_one (ps_ret (pe_tup (pa_cons pe_str (pa_cons (pe_cl cG (hr.mono (by omega)) pxN rfl (pa_cons (pv 0) pa_nil)) (pa_cons (pe_callTy call_tuple_of rfl Z.tuple (by decide +kernel) (pa_cons
      (pe_lc (own := [("k", 3)]) (g := gName 3) (tt := tYes) rfl scKd.nd (pi_range1 rfl Z.range (pa_cons (pe_cl cT (hr.mono (by omega)) pxN rfl (pa_cons (pv 0) (pa_cons pe_int pa_nil))) pa_nil)) (blkOk_by (N := nKd) (sc := defScope (top 62)) (by decide +kernel)) (fun _ _ _ _ _ => pg_name (i := 3) scKd.nd rfl (Or.inl rfl)) (fun _ _ _ _ _ => pts_nil)
        (fun _ _ _ _ _ => pe_cl cR hr pxN rfl (pa_cons (pv 0) (pa_cons (pe_op op_sub (pv 1) pe_int) pa_nil)))) pa_nil)) pa_nil)))))))), ?_⟩
  have hn0 := Nk0 n
  refine ⟨_, rfl, q, 8, c, rfl, by decide, by decide, hS, by omega, fun r1 H1 hr1 k1 S1 => ?_⟩
  refine ⟨_, rfl, rfl, _, rfl, ?_⟩
  refine ite2 (fun cc => ?_) (fun cc => ?_)
  case' refine_1 => refine iteT ?_
  case' refine_2 =>
    refine ⟨_, rfl, _, _, rfl, rfl, _, rfl, ?_⟩
    refine ite2 (fun c2 => ?_) (fun c2 => ?_)
    rotate_left
    · obtain ⟨m, rfl⟩ : ∃ m, n = m + 1 := by
        have : n ≠ 0 := fun z => by
          subst z
          exact cc (by decide +kernel)
        exact ⟨n - 1, by omega⟩
      have hNd : Nk (m + 1) = 3 * Nk m + 60 := rfl
      refine ⟨_, rfl, _, _, rfl, rfl, _, rfl, ?_⟩
      refine ite2 (fun c3 => ?_) (fun c3 => ?_)
      · refine ⟨_, rfl, _, rfl, _, _, rfl, rfl, m, rfl, q, c + 1, congrArg (fun z => [V.ref q, V.int z]) (int_pred m), S1, by omega, fun a va H2 ga D2 k2 S2 => ?_⟩
        refine ⟨_, rfl, _, rfl, _, _, rfl, rfl, m, rfl, q, c + 1 + Nk m, congrArg (fun z => [V.ref q, V.int z]) (int_pred m), S2, by omega, fun b vb H3 gb D3 k3 S3 => ?_⟩
        refine ⟨(by show 3 ≤ sizeLine; decide), fun p np => ?_⟩
        exact kk (.fn a b) _ _ (gk_fn ga gb) (dp_t3 np dp_str (k3.dpa' S2 (nl_encK a) D2) D3) (kp_same (kpAll k1 (kpAll k2 k3)) (same_new np)) ((S3.new np).mono (by omega))
      · refine ⟨_, rfl, q, c + 1, rfl, S1, by omega, fun g H2 hg k2 S2 => ?_⟩
        refine ⟨_, rfl, q, 4, c + 1 + 10, rfl, by decide, by decide, S2, by omega, fun r2 H3 hr2 k3 S3 => ?_⟩
        refine ⟨_, rfl, by omega, by omega, fun D nD => ?_⟩
        have Dq := S3.ne nD
        rw [Int.toNat_natCast]
        refine lc_range (n := r2) (fun i H' => ∃ (ks : List KKd) (vs : List V), ks.length = i ∧ (∀ k ∈ ks, Gk m k) ∧ Kp q H3 H' ∧ H' D = some (.lst vs) ∧ DpAll K H' vs (ks.map encK) ∧ Sd H' q (c + 12 + i * Nk m)) ⟨[], [], rfl, fun _ h => (by cases h), Kp.of (same_new nD), upd_same, .nil, (S3.new nD).mono (by omega)⟩ ?_ ?_
        · rintro i H4 hi ⟨ks, vs, e1, e2, k4, hD4, A4, S4⟩
          have him : i * Nk m ≤ 2 * Nk m := Nat.mul_le_mul_right _ (by omega)
          refine ⟨rfl, ?_⟩
          refine ⟨_, rfl, _, rfl, _, _, rfl, rfl, m, rfl, q, c + 12 + i * Nk m, congrArg (fun z => [V.ref q, V.int z]) (int_pred m), S4, by omega, fun t v H5 gt D5 k5 S5 => ?_⟩
          have hD5 := k5 D _ Dq hD4
          have hvl : vs.length = i := by rw [dpa_len A4, List.length_map, e1]
          have A5 : DpAll K H5 vs (ks.map encK) := by
            obtain ⟨a1, a2, a3, h1, _⟩ := S4
            refine dpa_stayT (fun b o e ht => k5 b o (fun z => ?_) e) (nls_ks ks) A4
            rw [z, h1] at e
            rcases ht with ⟨_, h⟩ | ⟨_, _, h⟩ <;> (rw [h] at e; cases e)
          have tp := upd_tp (o' := .lst (vs ++ [v])) hD5 lst_notTp
          refine ⟨_, hD5, by rw [hvl]; exact Nat.lt_of_le_of_lt (show i ≤ 4 by omega) (by decide), ks ++ [t], vs ++ [v], by rw [List.length_append, e1] <;> rfl, ?_, kp_upd2 (kpAll k4 k5) nD, upd_same, ?_, ?_⟩
          · intro y hy
            rcases List.mem_append.mp hy with hy | hy
            · exact e2 y hy
            · rw [List.mem_singleton.mp hy]; exact gt
          · rw [List.map_append]
            exact dpa_stayT tp (by rw [← List.map_append]; exact nls_ks _) (dpa_snoc D5 A5)
          · refine (S5.upd Dq).mono ?_
            have esm : (i + 1) * Nk m = i * Nk m + Nk m := Nat.succ_mul _ _
            omega
        · rintro H4 ⟨ks, vs, e1, e2, k4, hD4, A4, S4⟩
          have him : r2 * Nk m ≤ 3 * Nk m := Nat.mul_le_mul_right _ (by omega)
          refine ⟨D, _, rfl, .inl ⟨SqL.of hD4, fun a na => ?_⟩⟩
          refine ⟨(by show 3 ≤ sizeLine; decide), fun T nT => ?_⟩
          exact kk (.data g ks) _ _ (gk_data hg (by omega) e2) (dp_t3 nT dp_str dp_str (.tup (SqT.of upd_same) (by rw [encKs_map]; exact dpa_stay (fun b o e _ => same_new na b o e) A4))) (kp_same (kp_same (kpAll k1 (kpAll k2 (kpAll k3 k4))) (same_new na)) (same_new nT)) (((S4.new na).new nT).mono (by omega))
  all_goals
    refine ⟨(by show 1 ≤ sizeLine; decide), fun a1 n1 => ?_⟩
    refine ⟨_, rfl, q, c + 1, rfl, S1.new n1, by omega, fun x H2 hx k2 S2 => ?_⟩
    refine ⟨(by show 2 ≤ sizeLine; decide), fun a2 n2 => ?_⟩
    refine ⟨_, rfl, q, c + 1 + 10, rfl, S2.new n2, by omega, fun g H3 hg k3 S3 => ?_⟩
    refine ⟨Nat.zero_le _, fun a3 n3 => ⟨(by show 3 ≤ sizeLine; decide), fun a4 n4 => ⟨(by show 3 ≤ sizeLine; decide), fun p np => ?_⟩⟩⟩
    refine ⟨_, rfl, q, 3, c + 1 + 10 + 10, rfl, by decide, by decide, ((S3.new n3).new n4).new np, by omega, fun r2 H4 hr2 k4 S4 => ?_⟩
    have pq := ((S3.new n3).new n4).ne np
    have h4p := k4 p _ pq upd_same
    have h4a4 := k4 a4 _ ((S3.new n3).ne n4) (same_new np _ _ upd_same)
    have h4a3 := k4 a3 _ (S3.ne n3) (same_new np _ _ (same_new n4 _ _ upd_same))
    have h4a2 := k4 a2 _ (S2.ne n2) (same_new np _ _ (same_new n4 _ _ (same_new n3 _ _ (k3 a2 _ (S2.ne n2) upd_same))))
    have h4a1 := k4 a1 _ (S1.ne n1) (same_new np _ _ (same_new n4 _ _ (same_new n3 _ _ (k3 a1 _ (S1.ne n1) (same_new n2 _ _ (k2 a1 _ (S1.ne n1) upd_same))))))
    have kA : Kp q H H4 := kpAll k1 (kpAll (Kp.of (same_new n1)) (kpAll k2 (kpAll (Kp.of (same_new n2)) (kpAll k3 (kpAll (Kp.of (same_new n3)) (kpAll (Kp.of (same_new n4)) (kpAll (Kp.of (same_new np)) k4)))))))
    have hr : r2 = 0 ∨ r2 = 1 ∨ r2 = 2 := by omega
    rcases hr with rfl | rfl | rfl
    · exact ⟨p, _, _, _, rfl, rfl, SqL.of h4p, atI_nat (j := 0) rfl, kk .num _ _ (gk_num n) (.tup (SqT.of h4a1) (.cons dp_str .nil)) kA (S4.mono (by omega))⟩
    · exact ⟨p, _, _, _, rfl, rfl, SqL.of h4p, atI_nat (j := 1) rfl, kk (.var x) _ _ (gk_var n hx) (.tup (SqT.of h4a2) (.cons dp_str (.cons dp_str .nil))) kA (S4.mono (by omega))⟩
    · exact ⟨p, _, _, _, rfl, rfl, SqL.of h4p, atI_nat (j := 2) rfl, kk (.data g []) _ _ (gk_data0 n hg) (.tup (SqT.of h4a4) (.cons dp_str (.cons dp_str (.cons (.tup (SqT.of h4a3) .nil) .nil)))) kA (S4.mono (by omega))⟩
end
end W72
/-! W41: kinds at any depth; _law_data. -/
namespace W72
open PySem L2
section
variable {P : Program} {w : World} {K : PySem.W.Frag} {mg : Str → Option Value} {base : Heap}
theorem kd_all (D : LDefs K mg) (dK : Df K mg "_law_kind" (top 62) ["seed", "left"]) (Z : Bl mg) : ∀ n, Cl P w K mg base (n + 3) "_law_kind" (spKd K n) := by
  intro n
  induction n with
  | zero => exact dK.cl fun _ _ F => ok_kd F Z (Nat.le_refl _) (dK.low fun m e => by cases e) (toss_cl D Z) (small_cl D Z) (great_cl D Z)
  | succ n ih =>
    exact dK.cl fun _ _ F => ok_kd F Z (by omega) (dK.low fun m e => by
      have : m = n := by omega
      rw [this]; exact ih) (toss_cl D Z) (small_cl D Z) (great_cl D Z)
end
/-- a drawn data -/
structure Gd (d : K72.Dt) : Prop where
  g : isGreat d.1 = true
  p : d.2.1.length ≤ 2 ∧ ∀ x ∈ d.2.1, okS x
  m : 1 ≤ d.2.2.length ∧ d.2.2.length ≤ 3 ∧ ∀ m ∈ d.2.2, isGreat m.1 = true ∧ m.2.length ≤ 2 ∧ ∀ k ∈ m.2, Gk 2 k
theorem ms_gd : ∀ {ms : List K72.Mk}, (∀ m ∈ ms, isGreat m.1 = true ∧ m.2.length ≤ 2 ∧ ∀ k ∈ m.2, Gk 2 k) → K72.puMs ms ∧ okMs ms ∧ K72.dpMs ms ≤ 3 ∧ (lMs ms).length ≤ ms.length * 300
  | [], _ => ⟨trivial, trivial, Nat.zero_le _, Nat.zero_le _⟩
  | (c, ks) :: r, h => by
    obtain ⟨h1, h3, h2⟩ := h _ (List.mem_cons_self ..)
    obtain ⟨a, b, e, f⟩ := ms_gd (ms := r) fun p m => h p (List.mem_cons_of_mem _ m)
    obtain ⟨a2, b2, e2, f2⟩ := ks_gk h2
    refine ⟨⟨a2, a⟩, ⟨h1, b2, b⟩, Nat.max_le.mpr ⟨e2, e⟩, ?_⟩
    have h3' : ks.length ≤ 2 := h3
    have f3 : ks.length * (Lk 2 + 3) ≤ 2 * (Lk 2 + 3) := Nat.mul_le_mul_right _ h3'
    have e4 : Lk 2 = 98 := rfl
    rw [e4] at f2 f3
    replace f2 : (lks ks).length ≤ ks.length * (98 + 3) := f2
    rw [lMs]
    simp only [List.length_cons, List.length_append]
    have e5 : (r.length + 1) * 300 = r.length * 300 + 300 := Nat.succ_mul _ _
    rw [e5]
    split
    · simp; omega
    · simp only [List.length_cons]; omega
theorem Gd.ok {d : K72.Dt} (h : Gd d) : OkDt 3 d := by
  obtain ⟨a, b, e, f⟩ := ms_gd h.m.2.2
  refine ⟨a, ⟨h.g, h.p.2, b⟩, e, ?_⟩
  have h1 := h.p.1
  have h2 := h.m.2.1
  have : d.2.2.length * 300 ≤ 3 * 300 := Nat.mul_le_mul_right _ h2
  unfold lD
  simp only [List.length_cons, List.length_append, lsm_len]
  omega
end W72
/-! W42: _law_data. -/
namespace W72
open PySem L2
abbrev nDt : List Str := ["seed", "makers", "k", "kinds", "params", "j"]
theorem scDt : FnScope nDt ["seed"] (defScope (top 64)) := ⟨rfl, rfl, rfl, by decide +kernel, rfl, by decide +kernel, by decide +kernel⟩
def spDat (K : PySem.W.Frag) : Sp := fun vs H Q _ => ∃ (q : Addr) (c : Nat), vs = [.ref q] ∧ Sd H q c ∧ c ≤ 10 ^ 8 ∧ ∀ d v H', Gd d → Dp K H' v (encD d) → Kp q H H' → Sd H' q (c + 5000) → Q v H'
section
variable {P : Program} {w : World} {K : PySem.W.Frag} {mg : Str → Option Value} {base : Heap} {f : Addr} {fd : FuncData} {k : Nat}
theorem ok_dat_l (F : Fun K "_law_data" "_law_data" (top 64) f fd) (Z : Bl mg) (hk : 3 ≤ k) (cK : ∀ n, n ≤ 2 → Cl P w K mg base k "_law_kind" (spKd K n)) (cK2 : Cl P w K mg base k "_law_kind" (fun vs H Q E => ∃ n, n ≤ 2 ∧ spKd K n vs H Q E)) (cT : Cl P w K mg base 1 "_law_toss" spToss) (cS : Cl P w K mg base 2 "_law_small" (spNm isSmall)) (cG : Cl P w K mg base 2 "_law_great" (spNm isGreat)) :
    FnOk P w K mg base (L2.CX P w) (k + 1) f fd ["seed"] (spDat K) := by
  refine F.okX scDt (fun vs H Q E h => ?_) (fun cdv A' outer s₀ H vs Q E hr h => ?_)
  · obtain ⟨q, c, rfl, _⟩ := h
    rfl
  obtain ⟨q, c, rfl, hS, hc, kk⟩ := h
  refine ⟨_, pss_cons (ps_set (i := 1) scDt.nd rfl (Or.inl rfl) (pe_lst pa_nil))
    (pss_cons (ps_for (passes_of rfl) rfl (pi_range1 rfl Z.range (pa_cons (pe_op op_add pe_int (pe_cl cT (hr.mono (by omega)) pxN rfl (pa_cons (pv 0) (pa_cons pe_int pa_nil)))) pa_nil)) (pg_name (i := 2) scDt.nd rfl (Or.inl rfl))
      (pss_cons (ps_setLc (i := 3) (own := [("j", 5)]) (g := gName 5) (tt := tYes) rfl scDt.nd rfl rfl (sw_true rfl rfl rfl (by decide +kernel)) (pi_range1 rfl Z.range (pa_cons (pe_cl cT (hr.mono (by omega)) pxN rfl (pa_cons (pv 0) (pa_cons pe_int pa_nil))) pa_nil)) (blkOk_by (N := nDt) (sc := defScope (top 64)) (by decide +kernel)) (fun _ _ _ _ _ => pg_name (i := 5) scDt.nd rfl (Or.inl rfl)) (fun _ _ _ _ _ => pts_nil)
        (fun _ _ _ _ _ => pe_cl cK2 hr pxN rfl (pa_cons (pv 0) (pa_cons (pe_cl cT (hr.mono (by omega)) pxN rfl (pa_cons (pv 0) (pa_cons pe_int pa_nil))) pa_nil))))
      (pss_one (ps_expr (pe_bm PySem.F.plainAttrs_list PySem.F.slot_list_append PySem.F.type_list_append mt_append (pv 1) (pa_cons (pe_tup (pa_cons (pe_cl cG (hr.mono (by omega)) pxN rfl (pa_cons (pv 0) pa_nil)) (pa_cons (pe_callTy call_tuple_of rfl Z.tuple (by decide +kernel) (pa_cons (pv 3) pa_nil)) pa_nil))) pa_nil))))))
    (pss_cons (ps_setLc (i := 4) (own := [("k", 2)]) (g := gName 2) (tt := tYes) rfl scDt.nd rfl rfl (sw_true rfl rfl rfl (by decide +kernel)) (pi_range1 rfl Z.range (pa_cons (pe_cl cT (hr.mono (by omega)) pxN rfl (pa_cons (pv 0) (pa_cons pe_int pa_nil))) pa_nil)) (blkOk_by (N := nDt) (sc := defScope (top 64)) (by decide +kernel)) (fun _ _ _ _ _ => pg_name (i := 2) scDt.nd rfl (Or.inl rfl)) (fun _ _ _ _ _ => pts_nil)
        (fun _ _ _ _ _ => pe_cl cS (hr.mono (by omega)) pxN rfl (pa_cons (pv 0) pa_nil)))
    (pss_one (ps_ret (pe_tup (pa_cons (pe_cl cG (hr.mono (by omega)) pxN rfl (pa_cons (pv 0) pa_nil)) (pa_cons (pe_callTy call_tuple_of rfl Z.tuple (by decide +kernel) (pa_cons (pv 4) pa_nil)) (pa_cons (pe_callTy call_tuple_of rfl Z.tuple (by decide +kernel) (pa_cons (pv 1) pa_nil)) pa_nil)))))))), ?_⟩
  refine ⟨Nat.zero_le _, fun p np => ?_⟩
  have pq := hS.ne np
  refine ⟨_, rfl, q, 3, c, rfl, by decide, by decide, hS.new np, by omega, fun r1 H1 hr1 k1 S1 => ?_⟩
  refine ⟨_, _, rfl, rfl, _, rfl, by omega, by omega, ?_⟩
  rw [show ((1 : Int) + ((r1 : Nat) : Int)).toNat = 1 + r1 by omega]
  have k01 : Kp q H H1 := kpAll (Kp.of (same_new np)) k1
  have hp1 := k1 p _ pq upd_same
  have e510 : Nk 2 = 510 := rfl
  refine for_it walk_range (fun i σ H' => ∃ (ms : List K72.Mk) (vs : List V) (y2 y3 : Option V), σ = [some (.ref q), some (.ref p), y2, y3, none, none] ∧ ms.length = i ∧ (∀ m ∈ ms, isGreat m.1 = true ∧ m.2.length ≤ 2 ∧ ∀ k ∈ m.2, Gk 2 k) ∧ Kp q H H' ∧ H' p = some (.lst vs) ∧ DpAll K H' vs (ms.map encM) ∧ Sd H' q (c + 1 + i * 1100))
    ⟨[], [], _, _, rfl, rfl, fun _ h => (by cases h), k01, hp1, .nil, S1.mono (by omega)⟩ (fun _ _ _ _ _ => trivial) ?_ ?_
  · rintro i x σ H4 H4' hi ⟨ms, vs, y2, y3, rfl, e1, e2, k4, hp4, A4, S4⟩ ⟨rfl, rfl⟩
    refine ⟨_, rfl, q, 3, c + 1 + i * 1100, rfl, by decide, by decide, S4, by omega, fun r2 H5 hr2 k5 S5 => ?_⟩
    refine ⟨_, rfl, by omega, by omega, fun D nD => ?_⟩
    have Dq := S5.ne nD
    rw [Int.toNat_natCast]
    refine lc_range (n := r2) (fun j H' => ∃ (ks : List KKd) (us : List V), ks.length = j ∧ (∀ k ∈ ks, Gk 2 k) ∧ Kp q H5 H' ∧ H' D = some (.lst us) ∧ DpAll K H' us (ks.map encK) ∧ Sd H' q (c + 2 + i * 1100 + j * 511)) ⟨[], [], rfl, fun _ h => (by cases h), Kp.of (same_new nD), upd_same, .nil, (S5.new nD).mono (by omega)⟩ ?_ ?_
    · rintro j H6 hj ⟨ks, us, g1, g2, k6, hD6, A6, S6⟩
      refine ⟨rfl, ?_⟩
      refine ⟨_, rfl, _, rfl, q, 3, c + 2 + i * 1100 + j * 511, rfl, by decide, by decide, S6, by omega, fun r3 H7 hr3 k7 S7 => ?_⟩
      have hN : Nk r3 ≤ 510 := Nk_le (e := 2) (by omega)
      refine ⟨r3, by omega, q, _, rfl, S7, by omega, fun t v H8 gt D8 k8 S8 => ?_⟩
      have k68 : Kp q H6 H8 := kpAll k7 k8
      have hD8 := k68 D _ Dq hD6
      have hul : us.length = j := by rw [dpa_len A6, List.length_map, g1]
      have A8 : DpAll K H8 us (ks.map encK) := by
        obtain ⟨a1, a2, a3, h1, _⟩ := S6
        refine dpa_stayT (fun b o e ht => k68 b o (fun z => ?_) e) (nls_ks ks) A6
        rw [z, h1] at e
        rcases ht with ⟨_, h⟩ | ⟨_, _, h⟩ <;> (rw [h] at e; cases e)
      have tp := upd_tp (o' := .lst (us ++ [v])) hD8 lst_notTp
      refine ⟨_, hD8, by rw [hul]; exact Nat.lt_of_le_of_lt (show j ≤ 3 by omega) (by decide), ks ++ [t], us ++ [v], by rw [List.length_append, g1] <;> rfl, ?_, kp_upd2 (kpAll k6 k68) nD, upd_same, ?_, (S8.upd Dq).mono (by omega)⟩
      · intro y hy
        rcases List.mem_append.mp hy with hy | hy
        · exact g2 y hy
        · rw [List.mem_singleton.mp hy]; exact gt.mono (by omega)
      · rw [List.map_append]
        exact dpa_stayT tp (by rw [← List.map_append]; exact nls_ks _) (dpa_snoc D8 A8)
    · rintro H6 ⟨ks, us, g1, g2, k6, hD6, A6, S6⟩
      have k46 : Kp q H4' H6 := kpAll k5 k6
      have hp6 := k46 p _ pq hp4
      refine ⟨_, rfl, .inl ⟨rfl, _, SqL.of hp6⟩, ?_⟩
      refine ⟨_, rfl, q, _, rfl, S6, by omega, fun g H7 hg k7 S7 => ?_⟩
      have hD7 := k7 D _ Dq hD6
      refine ⟨_, rfl, D, _, rfl, .inl ⟨SqL.of hD7, fun a na => ⟨(by show 2 ≤ sizeLine; decide), fun T nT => ?_⟩⟩⟩
      have k49 : Kp q H4' (upd (upd H7 a (.tup us)) T (.tup [.str (S g), .ref a])) := kp_same (kp_same (kpAll k46 k7) (same_new na)) (same_new nT)
      have hp9 := k49 p _ pq hp4
      have A9 : DpAll K (upd (upd H7 a (.tup us)) T (.tup [.str (S g), .ref a])) vs (ms.map encM) := by
        obtain ⟨a1, a2, a3, h1, _⟩ := S4
        refine dpa_stayT (fun b o e ht => k49 b o (fun z => ?_) e) (nls_ms ms) A4
        rw [z, h1] at e
        rcases ht with ⟨_, h⟩ | ⟨_, _, h⟩ <;> (rw [h] at e; cases e)
      have A7 : DpAll K H7 us (ks.map encK) := by
        obtain ⟨a1, a2, a3, h1, _⟩ := S6
        refine dpa_stayT (fun b o e ht => k7 b o (fun z => ?_) e) (nls_ks ks) A6
        rw [z, h1] at e
        rcases ht with ⟨_, h⟩ | ⟨_, _, h⟩ <;> (rw [h] at e; cases e)
      have hvl : vs.length = i := by rw [dpa_len A4, List.length_map, e1]
      have tp := upd_tp (o' := .lst (vs ++ [V.ref T])) hp9 lst_notTp
      refine ⟨p, _, _, rfl, rfl, hp9, by rw [hvl]; exact Nat.lt_of_le_of_lt (show i ≤ 3 by omega) (by decide), ?_⟩
      refine ⟨ms ++ [(g, ks)], vs ++ [.ref T], _, _, rfl, by rw [List.length_append, e1] <;> rfl, ?_, kp_upd2 (kpAll k4 k49) np, upd_same, ?_, (((S7.new na).new nT).upd pq).mono (by omega)⟩
      · intro y hy
        rcases List.mem_append.mp hy with hy | hy
        · exact e2 y hy
        · rw [List.mem_singleton.mp hy]; exact ⟨hg, by show ks.length ≤ 2; omega, g2⟩
      · rw [List.map_append]
        refine dpa_stayT tp (by rw [← List.map_append]; exact nls_ms _) (dpa_snoc ?_ A9)
        exact dp_t2 nT dp_str (.tup (SqT.of upd_same) (by rw [encKs_map]; exact dpa_stay (fun b o e _ => same_new na b o e) A7))
  · rintro σ H4 ⟨ms, vs, y2, y3, rfl, e1, e2, k4, hp4, A4, S4⟩
    refine ⟨_, rfl, q, 3, c + 1 + (1 + r1) * 1100, rfl, by decide, by decide, S4, by omega, fun r5 H5 hr5 k5 S5 => ?_⟩
    refine ⟨_, rfl, by omega, by omega, fun D nD => ?_⟩
    have Dq := S5.ne nD
    rw [Int.toNat_natCast]
    refine lc_range (n := r5) (fun j H' => ∃ xs : List K72.L, xs.length = j ∧ (∀ x ∈ xs, okS x) ∧ Kp q H5 H' ∧ H' D = some (.lst (stxs xs)) ∧ Sd H' q (c + 2 + (1 + r1) * 1100 + j * 10)) ⟨[], rfl, fun _ h => (by cases h), Kp.of (same_new nD), upd_same, (S5.new nD).mono (by omega)⟩ ?_ ?_
    · rintro j H6 hj ⟨xs, g1, g2, k6, hD6, S6⟩
      refine ⟨rfl, ?_⟩
      refine ⟨_, rfl, q, _, rfl, S6, by omega, fun x H7 hx k7 S7 => ?_⟩
      have hD7 := k7 D _ Dq hD6
      refine ⟨_, hD7, by rw [len_stxs, g1]; exact Nat.lt_of_le_of_lt (show j ≤ 3 by omega) (by decide), xs ++ [x], by rw [List.length_append, g1] <;> rfl, ?_, kp_upd2 (kpAll k6 k7) nD, by rw [upd_same, show stxs (xs ++ [x]) = stxs xs ++ [V.str (S x)] from List.map_append ..], (S7.upd Dq).mono (by omega)⟩
      intro y hy
      rcases List.mem_append.mp hy with hy | hy
      · exact g2 y hy
      · rw [List.mem_singleton.mp hy]; exact hx
    · rintro H6 ⟨xs, g1, g2, k6, hD6, S6⟩
      refine ⟨_, rfl, q, _, rfl, S6, by omega, fun g H7 hg k7 S7 => ?_⟩
      have hD7 := k7 D _ Dq hD6
      have k47 : Kp q H4 H7 := kpAll k5 (kpAll k6 k7)
      have hp7 := k47 p _ pq hp4
      have A7 : DpAll K H7 vs (ms.map encM) := by
        obtain ⟨a1, a2, a3, h1, _⟩ := S4
        refine dpa_stayT (fun b o e ht => k47 b o (fun z => ?_) e) (nls_ms ms) A4
        rw [z, h1] at e
        rcases ht with ⟨_, h⟩ | ⟨_, _, h⟩ <;> (rw [h] at e; cases e)
      refine ⟨_, rfl, D, _, rfl, .inl ⟨SqL.of hD7, fun a na => ?_⟩⟩
      refine ⟨_, rfl, p, _, rfl, .inl ⟨SqL.of (same_new na _ _ hp7), fun a2 na2 => ⟨(by show 3 ≤ sizeLine; decide), fun T nT => ?_⟩⟩⟩
      refine kk (g, xs, ms) _ _ ⟨hg, ⟨by show xs.length ≤ 2; omega, g2⟩, by show 1 ≤ ms.length; omega, by show ms.length ≤ 3; omega, e2⟩ ?_ (kp_same (kp_same (kp_same (kpAll k4 k47) (same_new na)) (same_new na2)) (same_new nT)) ((((S7.new na).new na2).new nT).mono (by omega))
      refine dp_t3 nT dp_str (dp_new na2 (.tup (SqT.of upd_same) (dpa_strs xs))) (.tup (SqT.of upd_same) ?_)
      exact dpa_stay (fun b o e _ => same_new na2 b o e) (dpa_stay (fun b o e _ => same_new na b o e) A7)
end
end W72
/-! W43: _law_read. -/
namespace W72
open PySem L2
theorem pe_clS {X : Cx} {k : Nat} {x : Str} {sp : Sp} {E : St → XK} {p pos : Pos} {e : Expr} {es : List Expr} {t : L2.TA} (c : Cl X.prog X.w X.K X.mg X.base k x sp) (hr : Room k X.A) (hx : ∀ σ, PassesAt (L2.CX X.prog X.w) X σ (E σ)) (hg : Gl X x) (ha : PA X (e :: es) t)
    (hdb : (x == ("__debug__" : Str)) = false := by decide) (he : starEach (e :: es) X.env = (false, eval e X.env) :: starEach es X.env := by rfl) (hpl : (backTo pos (starEach es X.env)).any (·.1) = false := by rfl) :
    PE X (.Call (.Name x p) (e :: es) [] pos) (tCallS sp E t) := by
  obtain ⟨f, fd, ps, F, hm, kp, b⟩ := c.ex
  exact pe_callS F hr hg hm kp b hx ha hdb he hpl
theorem scRd : FnScope ["text", "as_term", "found"] ["text", "as_term"] (defScope (top 67)) := ⟨rfl, rfl, rfl, by decide +kernel, rfl, by decide +kernel, by decide +kernel⟩
def spRd (K : PySem.W.Frag) (n1 n2 : Nat) : Sp := fun vs H Q E => (∃ ls : List Lx, vs = [.str (S (textL ls)), .bl true] ∧ RowOk ls ∧ K72.pT n1 (toksL ls ++ [.fin]) ≠ .out ∧
    (∀ a, K72.readT n1 (toksL ls ++ [.fin]) = some a → ∀ v H', Same H H' → Dp K H' v (encT a) → Q v H') ∧ (K72.readT n1 (toksL ls ++ [.fin]) = none → ∀ H', Same H H' → Q .non H')) ∨
  ∃ ls : List Lx, vs = [.str (S (textL ls ++ [10])), .bl false] ∧ RowOk ls ∧ 10 ∉ textL ls ∧ (∃ r, toksL ls = .kw .data :: r) ∧ K72.pData n2 (toksL ls ++ [.fin]) ≠ .out ∧
    (∀ d q, K72.pData n2 (toksL ls ++ [.fin]) = .ok d q → ∀ v H', Same H H' → Dp K H' v (encPr d) → Q v H') ∧ (K72.pData n2 (toksL ls ++ [.fin]) = .fail → ∀ H', Same H H' → Q .non H')
section
variable {P : Program} {w : World} {K : PySem.W.Frag} {mg : Str → Option Value} {base : Heap} {CE CN CW CR fN f : Addr} {mcE : Value} {fd : FuncData} {n1 n2 k : Nat}
theorem ok_rd (F : Fun K "_law_read" "_law_read" (top 67) f fd) (T : Txt K mg CE CN CW CR fN mcE) (cT : Cl P w K mg base k "read_term" (spRT K CN n1)) (cP : Cl P w K mg base k "read_program" (spRP K CN n2)) : FnOk P w K mg base (L2.CX P w) (k + 1) f fd ["text", "as_term"] (spRd K n1 n2) := by
  refine F.okX scRd (fun vs H Q E h => ?_) (fun cdv A' outer s₀ H vs Q E hr h => ?_)
  · rcases h with ⟨ls, rfl, _⟩ | ⟨ls, rfl, _⟩ <;> rfl
  refine ⟨_, pss_cons (ps_set (i := 2) scRd.nd rfl (Or.inl rfl) pe_non)
    (pss_cons (ps_try_only rfl rfl ⟨rfl, by decide, .inl T.mgN⟩ takes0 (fun W pn xe tk _ =>
        pss_one (ps_if (pt_val (pv 1)) (pss_one (ps_set (i := 2) scRd.nd rfl (Or.inl rfl) (pe_clS cT hr (fun σ => passAt tk σ) rfl (pa_cons (pv 0) pa_nil)))) (pss_one (ps_set (i := 2) scRd.nd rfl (Or.inl rfl) (pe_clS cP hr (fun σ => passAt tk σ) rfl (pa_cons (pv 0) pa_nil))))))
      (fun a oe cls d pn _ _ => pss_one (ps_set (i := 2) scRd.nd rfl (Or.inl rfl) pe_non)))
    (pss_one (ps_ret (pv 2)))), ?_⟩
  rcases h with ⟨ls, rfl, ok, hno, q1, q2⟩ | ⟨ls, rfl, ok, h10, hr0, hno, q1, q2⟩
  · refine ⟨_, rfl, true, rfl, ?_⟩
    refine iteT ?_
    exact ⟨_, rfl, ls, rfl, ok, hno, fun a ha v H' s D => ⟨_, rfl, q1 a ha v H' s D⟩, fun hn d H' s => ⟨true, T.teN, fun _ a ha => ⟨_, rfl, q2 hn H' s⟩, fun z => by cases z⟩⟩
  · refine ⟨_, rfl, false, rfl, ?_⟩
    refine iteF ?_
    exact ⟨_, rfl, ls, rfl, ok, h10, hr0, hno, fun a qq ha v H' s D => ⟨_, rfl, q1 a qq ha v H' s D⟩, fun hn d H' s => ⟨true, T.teN, fun _ a ha => ⟨_, rfl, q2 hn H' s⟩, fun z => by cases z⟩⟩
end
end W72
/-! W44: brackets replaced in a row. -/
namespace W72
theorem sep_sub {x y : Lx} (hy : isS y = true) : ∀ {a b : List Lx}, Sep (a ++ x :: b) → Sep (a ++ y :: b)
  | [], b, h => sep_cons h.tail (by rw [hy, Bool.true_or])
  | z :: a, b, h => by
    have ih := sep_sub hy (a := a) (b := b) h.tail
    refine sep_cons ih ?_
    cases a with
    | nil => show (isS z || isS y) = true; rw [hy, Bool.or_true]
    | cons w a =>
      cases z with
      | sp => rfl
      | tk t =>
        cases w with
        | sp => show (_ || true) = true; rw [Bool.or_true]
        | tk u => exact h.1
theorem sep_ins {y : Lx} (hy : isS y = true) : ∀ {a b : List Lx}, Sep (a ++ b) → Sep (a ++ y :: b)
  | [], b, h => sep_cons h (by rw [hy, Bool.true_or])
  | z :: a, b, h => by
    have ih := sep_ins hy (a := a) (b := b) h.tail
    refine sep_cons ih ?_
    cases a with
    | nil => show (isS z || isS y) = true; rw [hy, Bool.or_true]
    | cons w a =>
      cases z with
      | sp => rfl
      | tk t =>
        cases w with
        | sp => show (_ || true) = true; rw [Bool.or_true]
        | tk u => exact h.1
end W72
/-! W45: pairs of brackets, in plain Lean. -/
namespace W72
/-- what has been walked, and the places of the brackets that are open (the last first) -/
def Opn : List Lx → List Nat → Prop
  | pre, [] => K72.Bal (toksL pre)
  | pre, i :: st => ∃ a m, pre = a ++ .tk .lp :: m ∧ i = (textL a).length ∧ K72.Bal (toksL m) ∧ Opn a st
theorem bal_app {u v : List KTok} (h : K72.Bal u) (g : K72.Bal v) : K72.Bal (u ++ v) := by
  unfold K72.Bal at *
  rw [K72.chk_append, h]
  exact g
/-- one thing more that is no bracket -/
theorem opn_more {x : Lx} (hx : K72.Bal (toksL [x])) : ∀ {pre : List Lx} {st : List Nat}, Opn pre st → Opn (pre ++ [x]) st
  | pre, [], h => by
    show K72.Bal (toksL (pre ++ [x]))
    rw [toks_app]
    exact bal_app h hx
  | pre, i :: st, ⟨a, m, e1, e2, e3, e4⟩ => ⟨a, m ++ [x], by rw [e1]; simp, e2, by rw [toks_app]; exact bal_app e3 hx, e4⟩
theorem opn_lp {pre : List Lx} {st : List Nat} (h : Opn pre st) : Opn (pre ++ [.tk .lp]) ((textL pre).length :: st) := ⟨pre, [], rfl, rfl, rfl, h⟩
theorem bal_wrap {u : List KTok} (h : K72.Bal u) : K72.Bal (.lp :: (u ++ [.rp])) := by
  unfold K72.Bal at *
  show K72.chk 1 (u ++ [.rp]) = some 0
  rw [K72.chk_append, K72.chk_shift 0 0 1 u h] <;> rfl
/-- a closing bracket: the last open one goes with it -/
theorem opn_rp {pre : List Lx} {i : Nat} {st : List Nat} (h : Opn pre (i :: st)) : Opn (pre ++ [.tk .rp]) st ∧ ∃ a m, pre = a ++ .tk .lp :: m ∧ i = (textL a).length ∧ K72.Bal (toksL m) := by
  obtain ⟨a, m, e1, e2, e3, e4⟩ := h
  refine ⟨?_, a, m, e1, e2, e3⟩
  have hb : K72.Bal (toksL (.tk .lp :: (m ++ [.tk .rp]))) := by
    show K72.Bal (.lp :: toksL (m ++ [.tk .rp]))
    rw [toks_app]
    exact bal_wrap e3
  have e : pre ++ [.tk .rp] = a ++ (.tk .lp :: (m ++ [.tk .rp])) := by rw [e1]; simp
  rw [e]
  cases st with
  | nil =>
    show K72.Bal (toksL (a ++ _))
    rw [toks_app]
    exact bal_app e4 hb
  | cons j st =>
    obtain ⟨a2, m2, f1, f2, f3, f4⟩ := e4
    refine ⟨a2, m2 ++ (.tk .lp :: (m ++ [.tk .rp])), by rw [f1]; simp, f2, ?_, f4⟩
    rw [toks_app]
    exact bal_app f3 hb
end W72
/-! W46: brackets among the signs of a row. -/
namespace W72
theorem wd_nb {c : Nat} (h : isWd c = true) : c ≠ 40 ∧ c ≠ 41 := by
  constructor <;> (intro z; subst z; exact absurd h (by decide))
/-- no bracket's sign in a word that is none -/
theorem told_nb {t : KTok} (ok : okTk t) (h1 : t ≠ .lp) (h2 : t ≠ .rp) : ∀ c ∈ toldL t, c ≠ 40 ∧ c ≠ 41 := by
  cases hw : isW t with
  | true => exact fun c m => wd_nb (List.all_eq_true.mp (told_wd ok hw).2 c m)
  | false =>
    cases t with
    | lp => exact absurd rfl h1
    | rp => exact absurd rfl h2
    | op o => cases o <;> (intro c m; simp [toldL, opL] at m; omega)
    | kw k => cases hw
    | small x => cases hw
    | great x => cases hw
    | num n => cases hw
    | fin => exact ok.elim
    | _ => intro c m; simp [toldL] at m; omega
theorem told_ne {t : KTok} (ok : okTk t) : toldL t ≠ [] := by
  cases hw : isW t with
  | true => exact (told_wd ok hw).1
  | false =>
    rcases sign_parts ok hw with (z | z) | ⟨c, hc, _⟩
    · subst z; simp [toldL]
    · subst z; simp [toldL, opL]
    · rw [hc]; simp
end W72
/-! W47: the walk over a row's signs. -/
namespace W72
/-- at the n-th sign of ls: the brackets that are open -/
def AtS (ls : List Lx) (n : Nat) (st : List Nat) : Prop := ∃ pre post, ls = pre ++ post ∧ Opn pre st ∧
  ((textL pre).length = n ∨ ∃ t r u v, post = .tk t :: r ∧ t ≠ .lp ∧ t ≠ .rp ∧ toldL t = u ++ v ∧ u ≠ [] ∧ v ≠ [] ∧ n = (textL pre).length + u.length)
theorem allok_right : ∀ {a b : List Lx}, AllOk (a ++ b) → AllOk b
  | [], b, h => h
  | x :: a, b, h => allok_right (a := a) h.tail
theorem bal_tok {t : KTok} (h1 : t ≠ .lp) (h2 : t ≠ .rp) : K72.Bal (toksL [.tk t]) := by
  cases t with
  | lp => exact absurd rfl h1
  | rp => exact absurd rfl h2
  | _ => rfl
theorem opn_tok {t : KTok} (h1 : t ≠ .lp) (h2 : t ≠ .rp) {pre : List Lx} {st : List Nat} (h : Opn pre st) : Opn (pre ++ [.tk t]) st := opn_more (bal_tok h1 h2) h
theorem opn_sp {pre : List Lx} {st : List Nat} (h : Opn pre st) : Opn (pre ++ [.sp]) st := opn_more (x := .sp) (show K72.Bal [] from rfl) h
/-- behind a word's sign -/
theorem at_in {ls pre r : List Lx} {t : KTok} {st : List Nat} {u : List Nat} {c : Nat} {v : List Nat} {n : Nat} (e : ls = pre ++ .tk t :: r) (h1 : t ≠ .lp) (h2 : t ≠ .rp) (ho : Opn pre st) (hu : toldL t = u ++ c :: v) (hn : n = (textL pre).length + u.length) : AtS ls (n + 1) st := by
  cases v with
  | nil =>
    refine ⟨pre ++ [.tk t], r, by rw [e]; simp, opn_tok h1 h2 ho, .inl ?_⟩
    rw [text_app, List.length_append, hn]
    show _ + (toldL t ++ []).length = _
    rw [hu]
    simp
    omega
  | cons d v =>
    exact ⟨pre, .tk t :: r, e, ho, .inr ⟨t, r, u ++ [c], d :: v, rfl, h1, h2, by rw [hu]; simp, by simp, by simp, by rw [hn, List.length_append]; simp; omega⟩⟩
theorem at_start (ls : List Lx) : AtS ls 0 [] := ⟨[], ls, rfl, rfl, .inl rfl⟩
end W72
/-! W48: a sign more; pairs that belong together. -/
namespace W72
/-- the places i and j are brackets that belong together -/
def PairOk (ls : List Lx) (i j : Nat) : Prop := ∃ A M B, ls = A ++ .tk .lp :: (M ++ .tk .rp :: B) ∧ K72.Bal (toksL M) ∧ i = (textL A).length ∧ j = (textL A).length + 1 + (textL M).length
theorem bal_open {u v : List KTok} (h : K72.Bal u) : ¬ K72.Bal (u ++ .rp :: v) := fun g => by
  unfold K72.Bal at *
  rw [K72.chk_append, h] at g
  cases g
theorem at_step {ls : List Lx} (ok : AllOk ls) (hb : K72.Bal (toksL ls)) {n c : Nat} {st : List Nat} (h : AtS ls n st) (hc : (textL ls)[n]? = some c) :
    (c = 40 ∧ AtS ls (n + 1) (n :: st)) ∨ (c = 41 ∧ ∃ i r, st = i :: r ∧ AtS ls (n + 1) r ∧ PairOk ls i n) ∨ (c ≠ 40 ∧ c ≠ 41 ∧ AtS ls (n + 1) st) := by
  obtain ⟨pre, post, e, ho, h⟩ := h
  rcases h with h | ⟨t, r, u, v, e2, h1, h2, h3, h4, h5, h6⟩
  · rw [e, text_app, List.getElem?_append_right (by omega), h, Nat.sub_self] at hc
    cases post with
    | nil => cases hc
    | cons x r =>
      cases x with
      | sp =>
        have ec : c = 32 := (Option.some.inj hc).symm
        subst ec
        exact .inr (.inr ⟨by decide, by decide, pre ++ [.sp], r, by rw [e]; simp, opn_sp ho, .inl (by rw [text_app, List.length_append, h]; rfl)⟩)
      | tk t =>
        have okr := allok_right (by rw [← e]; exact ok : AllOk (pre ++ .tk t :: r))
        by_cases hl : t = .lp
        · subst hl
          have ec : c = 40 := (Option.some.inj hc).symm
          subst ec
          refine .inl ⟨rfl, pre ++ [.tk .lp], r, by rw [e]; simp, ?_, .inl (by rw [text_app, List.length_append, h]; rfl)⟩
          rw [← h]
          exact opn_lp ho
        by_cases hr : t = .rp
        · subst hr
          have ec : c = 41 := (Option.some.inj hc).symm
          subst ec
          refine .inr (.inl ⟨rfl, ?_⟩)
          cases st with
          | nil =>
            exfalso
            refine bal_open (u := toksL pre) (v := toksL r) ho ?_
            rw [e, toks_app] at hb
            exact hb
          | cons i st =>
            obtain ⟨g1, a, m, g2, g3, g4⟩ := opn_rp ho
            refine ⟨i, st, rfl, ⟨pre ++ [.tk .rp], r, by rw [e]; simp, g1, .inl (by rw [text_app, List.length_append, h]; rfl)⟩, a, m, r, by rw [e, g2]; simp, g4, g3, ?_⟩
            rw [← h, g2, text_app, List.length_append]
            show _ + ((textL m).length + 1) = _
            omega
        · obtain ⟨d, w, hd⟩ : ∃ d w, toldL t = d :: w := by
            cases e3 : toldL t with
            | nil => exact absurd e3 (told_ne okr.1)
            | cons d w => exact ⟨d, w, rfl⟩
          have hc' : (toldL t ++ textL r)[0]? = some c := hc
          rw [hd] at hc'
          have ec : c = d := (Option.some.inj hc').symm
          subst ec
          obtain ⟨n1, n2⟩ := told_nb okr.1 hl hr c (by rw [hd]; exact List.mem_cons_self ..)
          exact .inr (.inr ⟨n1, n2, at_in (u := []) e hl hr ho hd (by rw [h]; rfl)⟩)
  · have okr := allok_right (by rw [← e]; exact ok : AllOk (pre ++ post))
    rw [e2] at okr
    rw [e, text_app, List.getElem?_append_right (by omega), h6, Nat.add_sub_cancel_left, e2] at hc
    have hc' : (toldL t ++ textL r)[u.length]? = some c := hc
    cases v with
    | nil => exact absurd rfl h5
    | cons d v =>
      rw [h3, List.append_assoc, List.getElem?_append_right (Nat.le_refl _), Nat.sub_self] at hc'
      have ec : c = d := (Option.some.inj hc').symm
      subst ec
      obtain ⟨n1, n2⟩ := told_nb okr.1 h1 h2 c (by rw [h3]; simp)
      exact .inr (.inr ⟨n1, n2, at_in (by rw [e, e2]) h1 h2 ho h3 h6⟩)
/-- .. of a row with something behind it that holds no bracket -/
def AtR (ls : List Lx) (n : Nat) (st : List Nat) : Prop := AtS ls (min n (textL ls).length) st
theorem atr_step {ls : List Lx} (ok : AllOk ls) (hb : K72.Bal (toksL ls)) {e : List Nat} (he : ∀ c ∈ e, c ≠ 40 ∧ c ≠ 41) {n c : Nat} {st : List Nat} (h : AtR ls n st) (hc : (textL ls ++ e)[n]? = some c) :
    (c = 40 ∧ AtR ls (n + 1) (n :: st)) ∨ (c = 41 ∧ ∃ i r, st = i :: r ∧ AtR ls (n + 1) r ∧ PairOk ls i n) ∨ (c ≠ 40 ∧ c ≠ 41 ∧ AtR ls (n + 1) st) := by
  unfold AtR at *
  by_cases hl : n < (textL ls).length
  · rw [Nat.min_eq_left (by omega)] at h
    rw [List.getElem?_append_left hl] at hc
    rw [Nat.min_eq_left (by omega)]
    exact at_step ok hb h hc
  · rw [Nat.min_eq_right (by omega)] at h
    rw [List.getElem?_append_right (by omega)] at hc
    rw [Nat.min_eq_right (by omega)]
    obtain ⟨n1, n2⟩ := he c (List.mem_of_getElem? hc)
    exact .inr (.inr ⟨n1, n2, h⟩)
theorem atr_start (ls : List Lx) : AtR ls 0 [] := by
  unfold AtR
  rw [Nat.zero_min]
  exact at_start ls
end W72
/-! W49: _law_pairs. -/
namespace W72
open PySem L2
abbrev nPa : List Str := ["text", "open_ones", "found", "at", "sign"]
theorem scPa : FnScope nPa ["text"] (defScope (top 68)) := ⟨rfl, rfl, rfl, by decide +kernel, rfl, by decide +kernel, by decide +kernel⟩
def intL (ns : List Nat) : List V := ns.map fun n => .int (n : Nat)
def PrsAt (ls : List Lx) (H : Hp) (vs : List V) : Prop := ∀ v ∈ vs, ∃ (a : Addr) (i j : Nat), v = .ref a ∧ H a = some (.tup [.int (i : Nat), .int (j : Nat)]) ∧ PairOk ls i j
theorem PrsAt.imp {ls : List Lx} {H H' : Hp} {vs : List V} (h : PrsAt ls H vs) (k : ∀ (a : Addr) (xs : List V), H a = some (.tup xs) → H' a = some (.tup xs)) : PrsAt ls H' vs := fun v hv => by
  obtain ⟨a, i, j, h1, h2, h3⟩ := h v hv
  exact ⟨a, i, j, h1, k _ _ h2, h3⟩
def spPairs : Sp := fun vs H Q _ => ∃ (ls : List Lx) (e : List Nat), vs = [.str (S (textL ls ++ e))] ∧ AllOk ls ∧ K72.Bal (toksL ls) ∧ (∀ c ∈ e, c ≠ 40 ∧ c ≠ 41) ∧ (textL ls ++ e).length ≤ 2000000 ∧
  ∀ p ws H', H p = none → Same H H' → H' p = some (.lst ws) → ws.length ≤ 2000000 → PrsAt ls H' ws → Q (.ref p) H'
theorem dec_sign (c d : Nat) : decide (V.str ⟨#[c]⟩ = V.str (S [d])) = decide (c = d) := by
  by_cases h : c = d
  · rw [h]; rw [decide_eq_true (rfl : d = d)]; exact decide_eq_true rfl
  · rw [decide_eq_false h]
    refine decide_eq_false fun z => ?_
    injection z with z
    have z' : S [c] = S [d] := z
    exact h (List.cons.inj (SX.S_inj z')).1
section
variable {P : Program} {w : World} {K : PySem.W.Frag} {mg : Str → Option Value} {base : Heap} {f : Addr} {fd : FuncData}
theorem ok_pairs (F : Fun K "_law_pairs" "_law_pairs" (top 68) f fd) (Z : Bl mg) : FnOk P w K mg base (L2.CX P w) 1 f fd ["text"] spPairs := by
  refine F.okX scPa (fun vs H Q E h => ?_) (fun cdv A' outer s₀ H vs Q E hr h => ?_)
  · obtain ⟨ls, e, rfl, _⟩ := h
    rfl
  obtain ⟨ls, e, rfl, ok, hb, he, hl, q⟩ := h
  refine ⟨_, pss_cons (ps_set (i := 1) scPa.nd rfl (Or.inl rfl) (pe_lst pa_nil))
    (pss_cons (ps_set (i := 2) scPa.nd rfl (Or.inl rfl) (pe_lst pa_nil))
    (pss_cons (ps_for (passes_of rfl) rfl (pi_enumS rfl Z.enumerate (pv 0)) (pg_tup rfl (pgs_cons (pg_name (i := 3) scPa.nd rfl (Or.inl rfl)) (pgs_cons (pg_name (i := 4) scPa.nd rfl (Or.inl rfl)) pgs_nil)))
      (pss_cons (ps_if (pt_cmpR op_eq (pv 4) pe_str (nomark _)) (pss_one (ps_expr (pe_bm PySem.F.plainAttrs_list PySem.F.slot_list_append PySem.F.type_list_append mt_append (pv 1) (pa_cons (pv 3) pa_nil)))) pss_nil)
      (pss_one (ps_if (pt_cmpR op_eq (pv 4) pe_str (nomark _)) (pss_one (ps_expr (pe_bm PySem.F.plainAttrs_list PySem.F.slot_list_append PySem.F.type_list_append mt_append (pv 2)
        (pa_cons (pe_tup (pa_cons (pe_bm0 PySem.F.plainAttrs_list PySem.F.slot_list_pop PySem.F.type_list_pop mt_pop (pv 1)) (pa_cons (pv 3) pa_nil))) pa_nil)))) pss_nil))))
    (pss_one (ps_ret (pv 2))))), ?_⟩
  refine ⟨Nat.zero_le _, fun p np => ⟨Nat.zero_le _, fun p2 np2 => ?_⟩⟩
  have npp2 : p ≠ p2 := ne_of_none upd_same np2
  have np2H : H p2 = none := by rw [upd_ne npp2.symm] at np2; exact np2
  generalize hH0 : upd (upd H p (.lst [])) p2 (.lst []) = H0
  have s0 : Same H H0 := by rw [← hH0]; exact (same_new np).trans (same_new np2)
  have hp0 : H0 p = some (.lst []) := by rw [← hH0, upd_ne npp2]; exact upd_same
  have hp20 : H0 p2 = some (.lst []) := by rw [← hH0]; exact upd_same
  refine ⟨_, rfl, _, rfl, ?_⟩
  refine for_it walk_enumS (fun i σ H' => ∃ (st : List Nat) (vs : List V) (y3 y4 : Option V), σ = [some (.str (S (textL ls ++ e))), some (.ref p), some (.ref p2), y3, y4] ∧ AtR ls i st ∧ st.length ≤ i ∧ vs.length ≤ i ∧ Same H H' ∧ H' p = some (.lst (intL st.reverse)) ∧ H' p2 = some (.lst vs) ∧ PrsAt ls H' vs)
    ⟨[], [], _, _, rfl, atr_start ls, Nat.le_refl _, Nat.le_refl _, s0, hp0, hp20, fun v hv => by cases hv⟩ (fun i σ H' _ h => trivial) ?_ ?_
  · rintro i x σ H1 H1' hi ⟨st, vs, y3, y4, rfl, hat, hsl, hvl, s1, hp1, hp21, pr1⟩ ⟨T, z1, z2, rfl, nT, rfl, e1, e2⟩
    have e1' : z1 = .int (i : Nat) := (Option.some.inj e1).symm
    subst e1'
    have hi' : i < (textL ls ++ e).length := hi
    obtain ⟨c, hc⟩ : ∃ c, (textL ls ++ e)[i]? = some c := ⟨_, List.getElem?_eq_getElem hi'⟩
    have e2' : z2 = .str ⟨#[c]⟩ := by
      have hz : (S (textL ls ++ e)).cps[i]? = some c := by
        rw [← hc]
        exact List.getElem?_toArray
      replace e2 : Option.map (fun c => V.str ⟨#[c]⟩) (S (textL ls ++ e)).cps[i]? = some z2 := e2
      rw [hz] at e2
      exact (Option.some.inj e2).symm
    subst e2'
    have sT : Same H1 (upd H1 T (.tup [.int (i : Nat), .str ⟨#[c]⟩])) := same_new nT
    refine ⟨T, _, rfl, SqT.of upd_same, rfl, _, _, rfl, _, _, rfl, rfl, ?_⟩
    generalize upd H1 T (.tup [.int (i : Nat), .str ⟨#[c]⟩]) = H2 at sT
    have hp2 := sT _ _ hp1
    have hp22 := sT _ _ hp21
    have pr2 : PrsAt ls H2 vs := pr1.imp fun a xs h => sT _ _ h
    have s2 : Same H H2 := s1.trans sT
    have hline : 2000000 < sizeLine := by decide
    refine ⟨_, rfl, rfl, _, rfl, ?_⟩
    show if decide (V.str ⟨#[c]⟩ = V.str (S [40])) = true then _ else _
    rw [dec_sign]
    rcases atr_step ok hb he hat hc with ⟨hc0, h1⟩ | ⟨hc0, j, r, hst, h1, hpr⟩ | ⟨hc0, hc1, h1⟩
    · subst hc0
      refine iteT ?_
      refine ⟨_, rfl, .inl ⟨rfl, _, SqL.of hp2⟩, _, rfl, p, _, _, rfl, rfl, hp2, ?_, ?_⟩
      · show (List.map _ st.reverse).length < _
        rw [List.length_map, List.length_reverse]
        omega
      refine ⟨_, rfl, rfl, _, rfl, ?_⟩
      show if decide (V.str ⟨#[40]⟩ = V.str (S [41])) = true then _ else _
      rw [dec_sign]
      refine iteF ?_
      refine ⟨i :: st, vs, _, _, rfl, h1, by show st.length + 1 ≤ i + 1; omega, by omega, fun b o h => ?_, ?_, ?_, ?_⟩
      · have hbp : b ≠ p := ne_of_none h np
        rw [upd_ne hbp]
        exact s2 _ _ h
      · rw [upd_same]
        unfold intL
        rw [List.reverse_cons, List.map_append] <;> rfl
      · rw [upd_ne npp2.symm]; exact hp22
      · exact pr2.imp fun a xs h => by rw [upd_ne (fun z => by rw [z, hp2] at h; cases h)]; exact h
    · subst hc0
      refine iteF ?_
      refine ⟨_, rfl, rfl, _, rfl, ?_⟩
      show if decide (V.str ⟨#[41]⟩ = V.str (S [41])) = true then _ else _
      rw [dec_sign]
      refine iteT ?_
      subst hst
      have hrev : intL (j :: r).reverse = intL r.reverse ++ [.int (j : Nat)] := by unfold intL; rw [List.reverse_cons, List.map_append] <;> rfl
      refine ⟨_, rfl, .inl ⟨rfl, _, SqL.of hp22⟩, _, rfl, .inl ⟨rfl, _, SqL.of hp2⟩, p, _, .int (j : Nat), rfl, rfl, hp2, ?_, ?_⟩
      · rw [hrev, List.length_append]
        show (intL r.reverse ++ [V.int (j : Nat)])[(intL r.reverse).length + 1 - 1]? = _
        rw [Nat.add_sub_cancel, List.getElem?_append_right (Nat.le_refl _), Nat.sub_self] <;> rfl
      rw [hrev, List.dropLast_concat]
      refine ⟨_, rfl, (by show 2 ≤ sizeLine; decide), fun t nt => ?_⟩
      generalize hH3 : upd H2 p (.lst (intL r.reverse)) = H3 at nt
      have hp3 : H3 p = some (.lst (intL r.reverse)) := by rw [← hH3]; exact upd_same
      have hp23 : H3 p2 = some (.lst vs) := by rw [← hH3, upd_ne npp2.symm]; exact hp22
      have pr3 : PrsAt ls H3 vs := pr2.imp fun a xs h => by rw [← hH3, upd_ne (fun z => by rw [z, hp2] at h; cases h)]; exact h
      have s3 : Same H H3 := fun b o h => by rw [← hH3, upd_ne (ne_of_none h np)]; exact s2 _ _ h
      have st4 := same_new nt (o := .tup [.int (j : Nat), .int (i : Nat)])
      generalize hH4 : upd H3 t (.tup [.int (j : Nat), .int (i : Nat)]) = H4 at st4
      have ht4 : H4 t = some (.tup [.int (j : Nat), .int (i : Nat)]) := by rw [← hH4]; exact upd_same
      have hp24 := st4 _ _ hp23
      refine ⟨p2, _, _, rfl, rfl, hp24, by omega, ?_⟩
      have tp2 : ∀ (a : Addr) (xs : List V), H4 a = some (.tup xs) → upd H4 p2 (.lst (vs ++ [.ref t])) a = some (.tup xs) := fun a xs h => by
        rw [upd_ne (fun z => by rw [z, hp24] at h; cases h)]; exact h
      refine ⟨r, vs ++ [.ref t], _, _, rfl, h1, ?_, ?_, fun b o h => ?_, ?_, upd_same, fun v hv => ?_⟩
      · have : r.length + 1 ≤ i := hsl
        omega
      · rw [List.length_append]
        show vs.length + 1 ≤ i + 1
        omega
      · rw [upd_ne (ne_of_none h np2H)]
        exact st4 _ _ (s3 _ _ h)
      · rw [upd_ne npp2]
        exact st4 _ _ hp3
      · rcases List.mem_append.mp hv with hv | hv
        · exact (pr3.imp fun a xs h => tp2 _ _ (st4 _ _ h)) v hv
        · rw [List.mem_singleton.mp hv]
          exact ⟨t, j, i, rfl, tp2 _ _ ht4, hpr⟩
    · rw [decide_eq_false hc0]
      refine iteF ?_
      refine ⟨_, rfl, rfl, _, rfl, ?_⟩
      show if decide (V.str ⟨#[c]⟩ = V.str (S [41])) = true then _ else _
      rw [dec_sign, decide_eq_false hc1]
      refine iteF ?_
      exact ⟨st, vs, _, _, rfl, h1, by omega, by omega, s2, hp2, hp22, pr2⟩
  · rintro σ H1 ⟨st, vs, y3, y4, rfl, hat, hsl, hvl, s1, hp1, hp21, pr1⟩
    have hvl' : vs.length ≤ (textL ls ++ e).length := hvl
    exact ⟨_, rfl, q p2 vs H1 np2H s1 hp21 (by omega) pr1⟩
end
end W72
/-! W50: what the law asks of a row, in plain Lean. -/
namespace W72
open PySem L2
theorem okTok_of {t : KTok} (h : okTk t) : K72.okTok t := by
  cases t with
  | small x =>
    obtain ⟨_, _, h3, _⟩ := small_parts h
    intro c hc
    have := List.all_eq_true.mp h3 c hc
    unfold isSm at this
    simp only [Bool.and_eq_true, decide_eq_true_eq] at this
    omega
  | great x =>
    obtain ⟨h1, _, h3, h4⟩ := great_parts h
    intro c hc
    cases x with
    | nil => cases hc
    | cons d r =>
      have g : isGr c = true ∨ isSm c = true := by
        rcases List.mem_cons.mp hc with z | z
        · rw [z]; exact .inl h3
        · exact .inr (List.all_eq_true.mp h4 c z)
      unfold isGr isSm at g
      simp only [Bool.and_eq_true, decide_eq_true_eq] at g
      omega
  | _ => trivial
theorem okToks {ls : List Lx} (o : AllOk ls) : ∀ x ∈ toksL ls ++ [.fin], K72.okTok x := fun x m => by
  rcases List.mem_append.mp m with m | m
  · exact okTok_of (allok_mem o x m)
  · rw [List.mem_singleton.mp m]; trivial
theorem allok_left : ∀ {a b : List Lx}, AllOk (a ++ b) → AllOk a
  | [], b, _ => trivial
  | .sp :: a, b, h => allok_left (a := a) h
  | .tk t :: a, b, h => ⟨h.1, allok_left h.2⟩
theorem told10 {t : KTok} (ok : okTk t) : 10 ∉ toldL t := by
  cases hw : isW t with
  | true => exact fun m => absurd (List.all_eq_true.mp (told_wd ok hw).2 10 m) (by decide)
  | false =>
    cases t with
    | op o => cases o <;> (intro m; simp [toldL, opL] at m)
    | kw k => cases hw
    | small x => cases hw
    | great x => cases hw
    | num n => cases hw
    | fin => exact ok.elim
    | _ => intro m; simp [toldL] at m
theorem no10 : ∀ {ls : List Lx}, AllOk ls → 10 ∉ textL ls
  | [], _, m => by cases m
  | .sp :: r, h, m => by
    rcases List.mem_cons.mp m with z | z
    · cases z
    · exact no10 (ls := r) h z
  | .tk t :: r, h, m => by
    rcases List.mem_append.mp (show 10 ∈ toldL t ++ textL r from m) with z | z
    · exact told10 h.1 z
    · exact no10 h.2 z
/-- a row of a term, a data -/
structure Base (ls : List Lx) : Prop where
  s : Sep ls
  o : AllOk ls
  l : ls.length ≤ 49000
theorem Base.row {ls : List Lx} (h : Base ls) : RowOk ls := rowOk_of h.s h.o (by have := h.l; omega)
theorem Base.less {A M B : List Lx} (h : Base (A ++ .tk .lp :: (M ++ .tk .rp :: B))) : RowOk (A ++ .sp :: (M ++ .sp :: B)) := by
  have s1 := sep_sub (y := .sp) rfl h.s
  have e : A ++ .sp :: (M ++ .tk .rp :: B) = (A ++ .sp :: M) ++ .tk .rp :: B := by simp
  rw [e] at s1
  have s2 := sep_sub (y := .sp) rfl s1
  have e2 : (A ++ .sp :: M) ++ .sp :: B = A ++ .sp :: (M ++ .sp :: B) := by simp
  rw [e2] at s2
  have o1 := allok_left h.o
  have o2 : AllOk (M ++ .tk .rp :: B) := (allok_right h.o).tail
  have o3 : AllOk B := (allok_right o2).tail
  refine rowOk_of s2 (ok_app o1 (b := .sp :: (M ++ .sp :: B)) (ok_app (a := M) (allok_left o2) (b := .sp :: B) o3)) ?_
  have := h.l
  simp only [List.length_append, List.length_cons] at this ⊢
  omega
theorem Base.twice {A M B : List Lx} (h : Base (A ++ .tk .lp :: (M ++ .tk .rp :: B))) : RowOk (A ++ .tk .lp :: .tk .lp :: (M ++ .tk .rp :: .tk .rp :: B)) := by
  have s1 := sep_ins (y := .tk .lp) rfl h.s
  have e : A ++ .tk .lp :: .tk .lp :: (M ++ .tk .rp :: B) = (A ++ .tk .lp :: .tk .lp :: M) ++ .tk .rp :: B := by simp
  rw [e] at s1
  have s2 := sep_ins (y := .tk .rp) rfl s1
  have e2 : (A ++ .tk .lp :: .tk .lp :: M) ++ .tk .rp :: .tk .rp :: B = A ++ .tk .lp :: .tk .lp :: (M ++ .tk .rp :: .tk .rp :: B) := by simp
  rw [e2] at s2
  have o1 := allok_left h.o
  have o2 : AllOk (M ++ .tk .rp :: B) := (allok_right h.o).tail
  have o3 : AllOk B := (allok_right o2).tail
  refine rowOk_of s2 (ok_app o1 ⟨trivial, trivial, ok_app (allok_left o2) ⟨trivial, trivial, o3⟩⟩) ?_
  have := h.l
  simp only [List.length_append, List.length_cons] at this ⊢
  omega
/-! ### what is read -/
def rdT (n : Nat) (ls : List Lx) : PyData := match K72.readT n (toksL ls ++ [.fin]) with | some a => encT a | none => .none
def rdD (n : Nat) (ls : List Lx) : PyData := match K72.pData n (toksL ls ++ [.fin]) with | .ok d _ => encPr d | _ => .none
def nlOf : Bool → List Nat | true => [] | false => [10]
/-- the row may be read, r is read -/
def Rdy (n1 n2 : Nat) : Bool → List Lx → PyData → Prop
  | true, ls, r => RowOk ls ∧ K72.pT n1 (toksL ls ++ [.fin]) ≠ .out ∧ r = rdT n1 ls
  | false, ls, r => RowOk ls ∧ (∃ u, toksL ls = .kw .data :: u) ∧ K72.pData n2 (toksL ls ++ [.fin]) ≠ .out ∧ r = rdD n2 ls
theorem Rdy.row {n1 n2 : Nat} {b : Bool} {ls : List Lx} {r : PyData} (h : Rdy n1 n2 b ls r) : RowOk ls := by cases b <;> exact h.1
theorem spRd_of {K : PySem.W.Frag} {n1 n2 : Nat} {b : Bool} {ls : List Lx} {r : PyData} {H : Hp} {Q : V → Hp → Prop} {E : XK} (h : Rdy n1 n2 b ls r) (q : ∀ v H', Same H H' → Dp K H' v r → Q v H') :
    spRd K n1 n2 [.str (S (textL ls ++ nlOf b)), .bl b] H Q E := by
  cases b with
  | true =>
    obtain ⟨ok, hno, rfl⟩ := h
    refine .inl ⟨ls, by rw [show nlOf true = [] from rfl, List.append_nil], ok, hno, fun a ha v H' s D => q v H' s ?_, fun hn H' s => q _ H' s ?_⟩
    · unfold rdT; rw [ha]; exact D
    · unfold rdT; rw [hn]; exact .non
  | false =>
    obtain ⟨ok, hr, hno, rfl⟩ := h
    refine .inr ⟨ls, rfl, ok, no10 ok.o, hr, hno, fun a qq ha v H' s D => q v H' s ?_, fun hn H' s => q _ H' s ?_⟩
    · unfold rdD; rw [ha]; exact D
    · unfold rdD; rw [hn]; exact .non
/-- what is asked of a row: it is read as d; without a pair of brackets another thing or none is; with it twice d is -/
structure NdR (n1 n2 : Nat) (b : Bool) (ls : List Lx) (d : PyData) : Prop where
  base : Base ls
  bal : K72.Bal (toksL ls)
  lay : PyData.canLay0 d = true
  dep : PyData.depth d ≤ 64
  flat : nl d = true
  self : ∃ r, Rdy n1 n2 b ls r ∧ PyData.canLay0 r = true ∧ PyData.eqv r d = true
  less : ∀ A M B, ls = A ++ .tk .lp :: (M ++ .tk .rp :: B) → K72.Bal (toksL M) → ∃ r, Rdy n1 n2 b (A ++ .sp :: (M ++ .sp :: B)) r ∧ PyData.canLay0 r = true ∧ PyData.eqv r d = false
  twice : ∀ A M B, ls = A ++ .tk .lp :: (M ++ .tk .rp :: B) → K72.Bal (toksL M) → ∃ r, Rdy n1 n2 b (A ++ .tk .lp :: .tk .lp :: (M ++ .tk .rp :: .tk .rp :: B)) r ∧ PyData.canLay0 r = true ∧ PyData.eqv r d = true
theorem eqv_nonT (xs : List PyData) : PyData.eqv .none (.tuple xs) = false := by simp [PyData.eqv]
theorem encT_tup : ∀ t : KTm, ∃ xs, encT t = .tuple xs
  | .num _ => ⟨_, rfl⟩ | .name _ => ⟨_, rfl⟩ | .make _ => ⟨_, rfl⟩ | .app .. => ⟨_, rfl⟩ | .fn .. => ⟨_, rfl⟩ | .lt .. => ⟨_, rfl⟩ | .cs .. => ⟨_, rfl⟩ | .op .. => ⟨_, rfl⟩
  | .par t => encT_tup t
/-- brackets in a row, brackets among its words -/
theorem toks_pair {A M B : List Lx} {u : List KTok} (e : toksL (A ++ .tk .lp :: (M ++ .tk .rp :: B)) = u) : u = toksL A ++ .lp :: (toksL M ++ .rp :: toksL B) := by
  rw [← e, toks_app]
  show _ ++ K72.Tok.lp :: toksL (M ++ _) = _
  rw [toks_app] <;> rfl
theorem toks_less (A M B : List Lx) : toksL (A ++ .sp :: (M ++ .sp :: B)) = toksL A ++ (toksL M ++ toksL B) := by
  rw [toks_app]
  show _ ++ toksL (M ++ _) = _
  rw [toks_app] <;> rfl
theorem toks_twice (A M B : List Lx) : toksL (A ++ .tk .lp :: .tk .lp :: (M ++ .tk .rp :: .tk .rp :: B)) = toksL A ++ .lp :: .lp :: (toksL M ++ .rp :: .rp :: toksL B) := by
  rw [toks_app]
  show _ ++ K72.Tok.lp :: K72.Tok.lp :: toksL (M ++ _) = _
  rw [toks_app] <;> rfl
theorem rdT_ok {n : Nat} {ls : List Lx} (o : AllOk ls) : PyData.canLay0 (rdT n ls) = true := by
  unfold rdT
  cases e : K72.readT n (toksL ls ++ [.fin]) with
  | none => rfl
  | some a =>
    unfold K72.readT at e
    cases e2 : K72.pT n (toksL ls ++ [.fin]) with
    | out => rw [e2] at e; cases e
    | fail => rw [e2] at e; cases e
    | ok t q =>
      rw [e2] at e
      dsimp only at e
      split at e
      · cases e
        exact lay_enc _ (K72.read_ok e2 (okToks o))
      · cases e
theorem rdD_ok {n : Nat} {ls : List Lx} (o : AllOk ls) : PyData.canLay0 (rdD n ls) = true := by
  unfold rdD
  cases e : K72.pData n (toksL ls ++ [.fin]) with
  | out => rfl
  | fail => rfl
  | ok d q =>
    obtain ⟨u, hu, _, _, h⟩ := K72.data_post e
    obtain ⟨h1, h2, h3⟩ := h fun x m => okToks o x (by rw [hu]; exact List.mem_append_left _ m)
    exact lay_encPr h1 h2 h3
/-- a drawn term's row -/
theorem need_term {n2 : Nat} {t : KTm} (g : Gt 5 t) : NdR 216 n2 true (lx false t) (encT t) := by
  have base : Base (lx false t) := ⟨sep_lx false t, ok_lx false t g.o, Nat.le_trans g.lf (by decide)⟩
  have hd := g.d
  have hb7 : K72.Hb 7 = 168 := by decide
  have hb5 : K72.Hb 5 = 90 := by decide
  have sp := K72.strip_pu t g.p
  have ok0 : K72.okT t := by
    have h := K72.reads_back g.w (n := 216) (by have := K72.Hb_mono (show K72.dp t ≤ 7 by omega); omega)
    rw [sp, ← toks_lx] at h
    exact K72.read_ok h (okToks base.o)
  refine ⟨base, by rw [toks_lx]; exact K72.bal_tw false t, lay_enc t ok0, Nat.le_trans (dep_enc t) (by omega), nl_enc t, ?_, ?_, ?_⟩
  · have h := K72.reads_back g.w (n := 216) (by have := K72.Hb_mono (show K72.dp t ≤ 7 by omega); omega)
    rw [← toks_lx] at h
    refine ⟨_, ⟨base.row, by rw [h]; exact fun z => (by cases z), rfl⟩, rdT_ok base.o, ?_⟩
    unfold rdT
    rw [K72.now_fin_of h, sp]
    exact eqv_same sp ok0
  · intro A M B e hm
    have e2 : K72.tw false t = toksL A ++ .lp :: (toksL M ++ .rp :: toksL B) := toks_pair (by rw [← e, toks_lx])
    obtain ⟨t', dwt⟩ := K72.dw t g.w g.p false _ _ _ e2 hm
    have row : RowOk (A ++ .sp :: (M ++ .sp :: B)) := Base.less (by rw [← e]; exact base)
    refine ⟨_, ⟨row, ?_, rfl⟩, rdT_ok row.o, ?_⟩
    · rw [toks_less]
      refine K72.not_out dwt.h ?_
      have := K72.Hb_mono hd
      show K72.Hb (K72.dp t) + 6 * K72.dp t + 0 + 6 + (12 * K72.dp t + 0) ≤ 216
      omega
    · unfold rdT
      obtain ⟨xs, hxs⟩ := encT_tup t
      cases e3 : K72.readT 216 (toksL (A ++ .sp :: (M ++ .sp :: B)) ++ [.fin]) with
      | none => show PyData.eqv .none (encT t) = false; rw [hxs]; exact eqv_nonT _
      | some a =>
        show PyData.eqv (encT a) (encT t) = false
        unfold K72.readT at e3
        cases e4 : K72.pT 216 (toksL (A ++ .sp :: (M ++ .sp :: B)) ++ [.fin]) with
        | out => rw [e4] at e3; cases e3
        | fail => rw [e4] at e3; cases e3
        | ok t2 q =>
          rw [e4] at e3
          dsimp only at e3
          split at e3
          · cases e3
            rw [toks_less] at e4
            exact eqv_ne g.p (K72.less_ne' e2 e4)
          · cases e3
  · intro A M B e hm
    have e2 : K72.tw false t = toksL A ++ .lp :: (toksL M ++ .rp :: toksL B) := toks_pair (by rw [← e, toks_lx])
    obtain ⟨t', dwt⟩ := K72.dw t g.w g.p false _ _ _ e2 hm
    have row : RowOk (A ++ .tk .lp :: .tk .lp :: (M ++ .tk .rp :: .tk .rp :: B)) := Base.twice (by rw [← e]; exact base)
    have hd2 := dwt.d
    have h := K72.reads_back dwt.wf (n := 216) (by have := K72.Hb_mono (show K72.dp t' ≤ 7 by omega); omega)
    rw [dwt.w, ← toks_twice] at h
    refine ⟨_, ⟨row, by rw [h]; exact fun z => (by cases z), rfl⟩, rdT_ok row.o, ?_⟩
    unfold rdT
    rw [K72.now_fin_of h, dwt.s, sp]
    exact eqv_same sp ok0
theorem bal_twMs : ∀ ms : List K72.Mk, K72.Bal (K72.twMs ms)
  | [] => rfl
  | (c, ks) :: r => by
    rw [K72.twMs]
    refine K72.Bal.cons rfl ((K72.bal_tks ks).cat ?_)
    cases r with
    | nil => rfl
    | cons y r => exact K72.Bal.cons rfl (bal_twMs (y :: r))
theorem Gd.len {d : K72.Dt} (h : Gd d) : (lD d).length ≤ 49000 := by
  obtain ⟨a, b, e, f⟩ := ms_gd h.m.2.2
  have h1 := h.p.1
  have h2 := h.m.2.1
  have : d.2.2.length * 300 ≤ 3 * 300 := Nat.mul_le_mul_right _ h2
  unfold lD
  simp only [List.length_cons, List.length_append, lsm_len]
  omega
theorem nl_encPr (d : K72.Dt) : nl (encPr d) = true := by
  show ((((true && (nls (d.2.1.map fun x => PyData.str (S x)) && (nls (d.2.2.map encM) && true))) && true)) && (true && true)) = true
  rw [nls_strs, nls_ms]; rfl
/-- a drawn data's row -/
theorem need_data {n1 : Nat} {d : K72.Dt} (g : Gd d) : NdR n1 140 false (lD d) (encPr d) := by
  have ok := g.ok
  have base : Base (lD d) := ⟨sep_lD d, ok_lD d ok.o, g.len⟩
  have hd : K72.dpMs d.2.2 ≤ 3 := ok.d
  have hb5 : K72.Hb 5 = 90 := by decide
  have hb3 : K72.Hb 3 = 36 := by decide
  have hne : d.2.2 ≠ [] := fun z => by have := g.m.1; rw [z] at this; exact absurd this (by decide)
  have sp : K72.stripMs d.2.2 = d.2.2 := K72.stripMs_pu _ ok.p
  have back : ∀ ms : List K72.Mk, ms ≠ [] → K72.dpMs ms ≤ 5 → K72.pData 140 (K72.twD (d.1, d.2.1, ms) ++ [.fin]) = .ok (d.1, d.2.1, K72.stripMs ms) [.fin] := fun ms h1 h2 =>
    K72.data_back h1 (by have := K72.Hb_mono h2; omega)
  have h0 : K72.pData 140 (toksL (lD d) ++ [.fin]) = .ok d [.fin] := by
    have h := back d.2.2 hne (by omega)
    rw [sp] at h
    rw [toks_lD]
    exact h
  have ok0 : K72.okL d.1 ∧ (∀ x ∈ d.2.1, K72.okL x) ∧ K72.okMs d.2.2 := by
    obtain ⟨u, hu, _, _, h⟩ := K72.data_post h0
    exact h fun x m => okToks base.o x (by rw [hu]; exact List.mem_append_left _ m)
  have bal : K72.Bal (toksL (lD d)) := by
    rw [toks_lD]
    exact K72.Bal.cons rfl (K72.Bal.cons rfl ((K72.bal_smTk _).cat (K72.Bal.cons rfl (bal_twMs _))))
  refine ⟨base, bal, lay_encPr ok0.1 ok0.2.1 ok0.2.2, Nat.le_trans (dep_encPr d) (by omega), nl_encPr d, ?_, ?_, ?_⟩
  · refine ⟨_, ⟨base.row, ⟨_, by rw [toks_lD] <;> rfl⟩, by rw [h0]; exact fun z => (by cases z), rfl⟩, rdD_ok base.o, ?_⟩
    unfold rdD
    rw [h0]
    exact eqvD_same (by show (d.1, d.2.1, K72.stripMs d.2.2) = d; rw [sp]) ok0.1 ok0.2.1 ok0.2.2
  · intro A M B e hm
    have e2 : K72.twD d = toksL A ++ .lp :: (toksL M ++ .rp :: toksL B) := toks_pair (by rw [← e, toks_lD])
    obtain ⟨A1, hA, e5⟩ := K72.row_split e2
    obtain ⟨ms', dm⟩ := K72.dms d.2.2 ok.p _ _ _ e5 hm
    have row : RowOk (A ++ .sp :: (M ++ .sp :: B)) := Base.less (by rw [← e]; exact base)
    have er : toksL (A ++ .sp :: (M ++ .sp :: B)) = .kw .data :: .great d.1 :: (K72.smTk d.2.1 ++ .eq :: (A1 ++ (toksL M ++ toksL B))) := by rw [toks_less, hA]; simp
    refine ⟨_, ⟨row, ⟨_, er⟩, ?_, rfl⟩, rdD_ok row.o, ?_⟩
    · rw [er]
      refine K72.data_not_out dm.h ?_
      have := K72.Hb_mono hd
      omega
    · unfold rdD
      cases e4 : K72.pData 140 (toksL (A ++ .sp :: (M ++ .sp :: B)) ++ [.fin]) with
      | out => exact eqv_nonT _
      | fail => exact eqv_nonT _
      | ok t2 q =>
        rw [toks_less] at e4
        exact eqvD_ne ok.p (K72.data_less' e2 e4)
  · intro A M B e hm
    have e2 : K72.twD d = toksL A ++ .lp :: (toksL M ++ .rp :: toksL B) := toks_pair (by rw [← e, toks_lD])
    obtain ⟨A1, hA, e5⟩ := K72.row_split e2
    obtain ⟨ms', dm⟩ := K72.dms d.2.2 ok.p _ _ _ e5 hm
    have row : RowOk (A ++ .tk .lp :: .tk .lp :: (M ++ .tk .rp :: .tk .rp :: B)) := Base.twice (by rw [← e]; exact base)
    have hd2 := dm.d
    have hne2 : ms' ≠ [] := fun z => by
      have := dm.n
      rw [z] at this
      cases e6 : d.2.2 with
      | nil => exact hne e6
      | cons y r => rw [e6] at this; cases this
    have er : toksL (A ++ .tk .lp :: .tk .lp :: (M ++ .tk .rp :: .tk .rp :: B)) = K72.twD (d.1, d.2.1, ms') := by
      rw [toks_twice, hA]
      show _ = .kw .data :: .great d.1 :: (K72.smTk d.2.1 ++ .eq :: K72.twMs ms')
      rw [dm.w]; simp
    have h := back ms' hne2 (by omega)
    rw [← er] at h
    refine ⟨_, ⟨row, ⟨_, er⟩, by rw [h]; exact fun z => (by cases z), rfl⟩, rdD_ok row.o, ?_⟩
    unfold rdD
    rw [h]
    refine eqvD_same ?_ ok0.1 ok0.2.1 ok0.2.2
    show (d.1, d.2.1, K72.stripMs (K72.stripMs ms')) = d
    rw [dm.s, sp, sp]
end W72
/-! W51: _law_needed. -/
namespace W72
open PySem L2
abbrev nNe : List Str := ["seed", "text", "due", "as_term", "pairs", "k", "first", "last", "inner", "less_line", "twice"]
theorem scNe : FnScope nNe ["seed", "text", "due", "as_term"] (defScope (top 69)) := ⟨rfl, rfl, rfl, by decide +kernel, rfl, by decide +kernel, by decide +kernel⟩
def spNeed (K : PySem.W.Frag) (n1 n2 : Nat) : Sp := fun vs H Q _ => ∃ (q : Addr) (c : Nat) (b : Bool) (ls : List Lx) (dv : V) (d : PyData), vs = [.ref q, .str (S (textL ls ++ nlOf b)), dv, .bl b] ∧ NdR n1 n2 b ls d ∧ Dp K H dv d ∧ Sd H q c ∧ c ≤ 10 ^ 9 ∧
  ∀ H', Kp q H H' → Sd H' q (c + 15) → Q (.bl true) H'
theorem cut_lo (a : List Nat) (j : Nat) : cutS (S a) none (some (j : Int)) = S (a.take j) := by
  have h := cut_S a 0 j
  rw [List.drop_zero, Nat.sub_zero] at h
  rw [← h]
  unfold cutS
  have e : HT.sIx (S a).length 0 (some ((0 : Nat) : Int)) = 0 := by rw [HT.sIx_nat, Nat.zero_min]
  rw [HT.sIx_none, e]
theorem cut_hi (a : List Nat) (i : Nat) : cutS (S a) (some (i : Int)) none = S (a.drop i) := by
  unfold cutS
  rw [HT.sIx_nat, HT.sIx_none, SX.S_len]
  show S ((a.drop (min i a.length)).take (a.length - min i a.length)) = _
  refine congrArg S ?_
  by_cases hi : i ≤ a.length
  · rw [Nat.min_eq_left hi, List.take_of_length_le (by rw [List.length_drop]; omega)]
  · rw [Nat.min_eq_right (show a.length ≤ i by omega), List.drop_length, List.drop_of_length_le (show a.length ≤ i by omega)]
    simp
/-- the parts of a row around a pair of brackets -/
theorem parts {ls A M B : List Lx} {e : List Nat} (h : ls = A ++ .tk .lp :: (M ++ .tk .rp :: B)) :
    (textL ls ++ e).take (textL A).length = textL A ∧ ((textL ls ++ e).drop ((textL A).length + 1)).take (textL M).length = textL M ∧ (textL ls ++ e).drop ((textL A).length + 1 + (textL M).length + 1) = textL B ++ e := by
  have e1 : textL ls ++ e = textL A ++ (40 :: (textL M ++ (41 :: (textL B ++ e)))) := by
    rw [h, text_app]
    show (textL A ++ 40 :: textL (M ++ .tk .rp :: B)) ++ e = _
    rw [text_app]
    show (textL A ++ 40 :: (textL M ++ 41 :: textL B)) ++ e = _
    simp
  have e2 : textL A ++ (40 :: (textL M ++ (41 :: (textL B ++ e)))) = (textL A ++ [40]) ++ (textL M ++ (41 :: (textL B ++ e))) := by simp
  have e3 : textL A ++ (40 :: (textL M ++ (41 :: (textL B ++ e)))) = (textL A ++ 40 :: (textL M ++ [41])) ++ (textL B ++ e) := by simp
  refine ⟨by rw [e1, List.take_left], ?_, ?_⟩
  · rw [e1, e2, List.drop_left' (by rw [List.length_append] <;> rfl), List.take_left]
  · rw [e1, e3]
    refine List.drop_left' ?_
    rw [List.length_append, List.length_cons, List.length_append]
    show _ + (_ + 1 + 1) = _
    omega
theorem less_text (A M B : List Lx) (e : List Nat) : textL (A ++ .sp :: (M ++ .sp :: B)) ++ e = textL A ++ [32] ++ textL M ++ [32] ++ (textL B ++ e) := by
  rw [text_app]
  show (textL A ++ 32 :: textL (M ++ .sp :: B)) ++ e = _
  rw [text_app]
  show (textL A ++ 32 :: (textL M ++ 32 :: textL B)) ++ e = _
  simp
theorem twice_text (A M B : List Lx) (e : List Nat) : textL (A ++ .tk .lp :: .tk .lp :: (M ++ .tk .rp :: .tk .rp :: B)) ++ e = textL A ++ [40, 40] ++ textL M ++ [41, 41] ++ (textL B ++ e) := by
  rw [text_app]
  show (textL A ++ 40 :: 40 :: textL (M ++ .tk .rp :: .tk .rp :: B)) ++ e = _
  rw [text_app]
  show (textL A ++ 40 :: 40 :: (textL M ++ 41 :: 41 :: textL B)) ++ e = _
  simp
theorem seq_nat {r n : Nat} (h : r < n) : seqIndex? (r : Int) n = some r := by
  have h0 : ¬ ((r : Int) < 0) := by omega
  simp [seqIndex?, h0, h]
theorem nl40 (b : Bool) : ∀ c ∈ nlOf b, c ≠ 40 ∧ c ≠ 41 := by
  cases b with
  | true => intro c m; cases m
  | false => intro c m; rw [List.mem_singleton.mp m]; decide
section
variable {P : Program} {w : World} {K : PySem.W.Frag} {mg : Str → Option Value} {base : Heap} {f : Addr} {fd : FuncData} {n1 n2 k : Nat}
theorem ok_need (F : Fun K "_law_needed" "_law_needed" (top 69) f fd) (Z : Bl mg) (hk : 1 ≤ k) (cR : Cl P w K mg base k "_law_read" (spRd K n1 n2)) (cP : Cl P w K mg base 1 "_law_pairs" spPairs) (cT : Cl P w K mg base 1 "_law_toss" spToss) :
    FnOk P w K mg base (L2.CX P w) (k + 1) f fd ["seed", "text", "due", "as_term"] (spNeed K n1 n2) := by
  refine F.okX scNe (fun vs H Q E h => ?_) (fun cdv A' outer s₀ H vs Q E hr h => ?_)
  · obtain ⟨q, c, b, ls, dv, d, rfl, _⟩ := h
    rfl
  obtain ⟨q, c, b, ls, dv, d, rfl, N, D, hS, hc, kk⟩ := h
  refine ⟨_, pss_cons (ps_set (i := 4) scNe.nd rfl (Or.inl rfl) (pe_cl cP (hr.mono (by omega)) pxN rfl (pa_cons (pv 1) pa_nil)))
    (pss_cons (ps_for (passes_of rfl) rfl (pi_range1 rfl Z.range (pa_cons (pe_callB (call_min2 rfl) rfl Z.min (by decide +kernel) (pa_cons (pe_callB call_len_seq rfl Z.len PySem.boot_len (pa_cons (pv 4) pa_nil)) (pa_cons pe_int pa_nil))) pa_nil)) (pg_name (i := 5) scNe.nd rfl (Or.inl rfl))
      (pss_cons (ps_asg (pe_bm PySem.F.plainAttrs_list PySem.F.slot_list_pop PySem.F.type_list_pop mt_popAt (pv 4) (pa_cons (pe_cl cT (hr.mono (by omega)) pxN rfl (pa_cons (pv 0) (pa_cons (pe_callB call_len_seq rfl Z.len PySem.boot_len (pa_cons (pv 4) pa_nil)) pa_nil))) pa_nil))
        (pg_tup rfl (pgs_cons (pg_name (i := 6) scNe.nd rfl (Or.inl rfl)) (pgs_cons (pg_name (i := 7) scNe.nd rfl (Or.inl rfl)) pgs_nil))))
      (pss_cons (ps_set (i := 8) scNe.nd rfl (Or.inl rfl) (pe_slice sl_str (pv 1) (po_some (pe_op op_add (pv 6) pe_int)) (po_some (pv 7))))
      (pss_cons (ps_set (i := 9) scNe.nd rfl (Or.inl rfl) (pe_op op_cs (pe_op op_cs (pe_op op_cs (pe_op op_cs (pe_slice sl_str (pv 1) po_none (po_some (pv 6))) pe_str) (pv 8)) pe_str) (pe_slice sl_str (pv 1) (po_some (pe_op op_add (pv 7) pe_int)) po_none)))
      (pss_cons (ps_if (pt_cmpR (op_eqM hr.units) (pe_cl cR hr pxN rfl (pa_cons (pv 9) (pa_cons (pv 3) pa_nil))) (pv 2) (nomark _)) (pss_one (ps_ret pe_bl)) pss_nil)
      (pss_cons (ps_set (i := 10) scNe.nd rfl (Or.inl rfl) (pe_op op_cs (pe_op op_cs (pe_op op_cs (pe_op op_cs (pe_slice sl_str (pv 1) po_none (po_some (pv 6))) pe_str) (pv 8)) pe_str) (pe_slice sl_str (pv 1) (po_some (pe_op op_add (pv 7) pe_int)) po_none)))
      (pss_one (ps_if (pt_cmpR (op_neM hr.units) (pe_cl cR hr pxN rfl (pa_cons (pv 10) (pa_cons (pv 3) pa_nil))) (pv 2) (nomark _)) (pss_one (ps_ret pe_bl)) pss_nil))))))))
    (pss_one (ps_ret (pe_cmpR (op_eqM hr.units) (pe_cl cR hr pxN rfl (pa_cons (pv 1) (pa_cons (pv 3) pa_nil))) (pv 2) (nomark _))))), ?_⟩
  have hl : (textL ls).length ≤ 1000000 := N.base.row.l
  have hle : (nlOf b).length ≤ 1 := by cases b <;> decide
  have hlt : (textL ls ++ nlOf b).length ≤ 1000001 := by rw [List.length_append]; omega
  have hz : (S (textL ls ++ nlOf b)).length ≤ sizeLine := by rw [SX.S_len]; exact Nat.le_trans hlt (by decide)
  refine ⟨_, rfl, ls, nlOf b, rfl, N.base.o, N.bal, nl40 b, by omega, fun p ws H1 np s1 hp1 hw1 pr1 => ?_⟩
  have pq := hS.ne np
  obtain ⟨m, hm, hm15, hmw⟩ : ∃ m : Nat, (if (15 : Int) < ((ws.length : Nat) : Int) then (15 : Int) else ((ws.length : Nat) : Int)) = ((m : Nat) : Int) ∧ m ≤ 15 ∧ m ≤ ws.length := by
    by_cases h : (15 : Int) < ((ws.length : Nat) : Int)
    · exact ⟨15, if_pos h, Nat.le_refl _, by omega⟩
    · exact ⟨ws.length, if_neg h, by omega, Nat.le_refl _⟩
  refine ⟨_, rfl, p, _, rfl, .inl (SqL.of hp1), _, _, rfl, ?_⟩
  rw [hm]
  refine ⟨_, rfl, by omega, by omega, ?_⟩
  rw [Int.toNat_natCast]
  have self : ∀ (H2 : Hp), Kp q H H2 → Dp K H2 dv d := fun H2 k2 => k2.dpa' hS N.flat D
  refine for_it walk_range (fun i σ H' => ∃ (us : List V) (y5 y6 y7 y8 y9 y10 : Option V), σ = [some (.ref q), some (.str (S (textL ls ++ nlOf b))), some dv, some (.bl b), some (.ref p), y5, y6, y7, y8, y9, y10] ∧ us.length + i = ws.length ∧ Kp q H H' ∧ H' p = some (.lst us) ∧ PrsAt ls H' us ∧ Sd H' q (c + i))
    ⟨ws, _, _, _, _, _, _, rfl, rfl, Kp.of s1, hp1, pr1, hS.same s1⟩ (fun _ _ _ _ _ => trivial) ?_ ?_
  · rintro i x σ H2 H2' hi ⟨us, y5, y6, y7, y8, y9, y10, rfl, hul, k2, hp2, pr2, S2⟩ ⟨rfl, rfl⟩
    have hi' : i < m := hi
    refine ⟨_, rfl, .inl ⟨rfl, _, SqL.of hp2⟩, ?_⟩
    refine ⟨_, rfl, _, rfl, p, _, rfl, .inl (SqL.of hp2), q, us.length, c + i, rfl, by omega, Nat.le_trans (show us.length ≤ 2000000 by omega) (by decide), S2, by omega, fun r H3 hr3 k3 S3 => ?_⟩
    have hp3 := k3 p _ pq hp2
    have pr3 : PrsAt ls H3 us := pr2.imp fun a xs h => k3 a _ (fun z => by
      obtain ⟨s0, s1, s2, hq, _⟩ := S2
      rw [z, hq] at h; cases h) h
    obtain ⟨a, fi, la, ev, ha, A, M, B, e1, e2, e3, e4⟩ := pr3 us[r] (List.getElem_mem hr3)
    refine ⟨p, _, _, r, us[r], rfl, rfl, hp3, by omega, by omega, seq_nat hr3, List.getElem?_eq_getElem hr3, ?_⟩
    rw [ev]
    generalize hH4 : upd H3 p (.lst (us.eraseIdx r)) = H4
    have ha4 : H4 a = some (.tup [.int (fi : Nat), .int (la : Nat)]) := by rw [← hH4, upd_ne (fun z => by rw [z, hp3] at ha; cases ha)]; exact ha
    have hp4 : H4 p = some (.lst (us.eraseIdx r)) := by rw [← hH4]; exact upd_same
    have k4 : Kp q H H4 := by rw [← hH4]; exact kp_upd2 (kpAll k2 k3) np
    have S4 : Sd H4 q (c + (i + 1)) := by rw [← hH4]; exact (S3.upd pq).mono (by omega)
    have pr4 : PrsAt ls H4 (us.eraseIdx r) := fun v hv => by
      have := (pr3.imp (H' := H4) fun b xs h => by rw [← hH4, upd_ne (fun z => by rw [z, hp3] at h; cases h)]; exact h) v (List.mem_of_mem_eraseIdx hv)
      exact this
    have hel : (us.eraseIdx r).length + (i + 1) = ws.length := by rw [List.length_eraseIdx_of_lt hr3]; omega
    obtain ⟨t1, t2, t3⟩ := parts (e := nlOf b) e1
    have lA : (textL A).length ≤ 1000001 := by
      rw [← t1, List.length_take]; omega
    have lM : (textL M).length ≤ 1000001 := by
      rw [← t2, List.length_take, List.length_drop]; omega
    have lB : (textL B ++ nlOf b).length ≤ 1000001 := by
      rw [← t3, List.length_drop]; omega
    refine ⟨a, _, rfl, SqT.of ha4, rfl, _, _, rfl, _, _, rfl, rfl, ?_⟩
    have c1 : cutS (S (textL ls ++ nlOf b)) (some ((fi : Int) + 1)) (some (la : Int)) = S (textL M) := by
      rw [show ((fi : Int) + 1) = ((fi + 1 : Nat) : Int) from rfl, cut_S, e3, e4, show (textL A).length + 1 + (textL M).length - ((textL A).length + 1) = (textL M).length by omega, t2]
    have c2 : cutS (S (textL ls ++ nlOf b)) none (some (fi : Int)) = S (textL A) := by rw [cut_lo, e3, t1]
    have c3 : cutS (S (textL ls ++ nlOf b)) (some ((la : Int) + 1)) none = S (textL B ++ nlOf b) := by
      rw [show ((la : Int) + 1) = ((la + 1 : Nat) : Int) from rfl, cut_hi, e4, t3]
    refine ⟨_, rfl, _, rfl, _, _, rfl, rfl, _, rfl, _, rfl, _, rfl, S _, rfl, hz, ?_⟩
    rw [c1]
    refine ⟨_, rfl, _, rfl, _, rfl, S _, rfl, hz, ?_⟩
    rw [c2]
    refine ⟨_, [32], rfl, by decide +kernel, by show _ + 1 ≤ _; omega, _, rfl, _, _, rfl, rfl, by rw [List.length_append]; show _ + 1 + _ ≤ _; omega, ?_⟩
    refine ⟨_, [32], rfl, by decide +kernel, by rw [List.length_append, List.length_append]; show _ + 1 + _ + 1 ≤ _; omega, ?_⟩
    refine ⟨_, rfl, _, rfl, _, _, rfl, rfl, _, rfl, S _, rfl, hz, ?_⟩
    rw [c3]
    refine ⟨_, _, rfl, rfl, by rw [List.length_append, List.length_append, List.length_append]; show _ + 1 + _ + 1 + _ ≤ _; omega, ?_⟩
    rw [← less_text]
    obtain ⟨r1, R1, L1, E1⟩ := N.less A M B e1 e2
    refine ⟨_, rfl, _, rfl, spRd_of (E := E0) R1 fun v1 H5 s5 D5 => ?_⟩
    have k5 : Kp q H H5 := kp_same k4 s5
    refine ⟨_, rfl, r1, d, D5, self _ k5, L1, N.lay, Nat.le_trans (Nat.min_le_right _ _) N.dep, _, rfl, ?_⟩
    show if PyData.eqv r1 d = true then _ else _
    rw [E1]
    refine iteF ?_
    refine ⟨_, rfl, _, rfl, _, rfl, S _, rfl, hz, ?_⟩
    rw [c2]
    refine ⟨_, [40, 40], rfl, by decide +kernel, by show _ + 2 ≤ _; omega, _, rfl, _, _, rfl, rfl, by rw [List.length_append]; show _ + 2 + _ ≤ _; omega, ?_⟩
    refine ⟨_, [41, 41], rfl, by decide +kernel, by rw [List.length_append, List.length_append]; show _ + 2 + _ + 2 ≤ _; omega, ?_⟩
    refine ⟨_, rfl, _, rfl, _, _, rfl, rfl, _, rfl, S _, rfl, hz, ?_⟩
    rw [c3]
    refine ⟨_, _, rfl, rfl, by rw [List.length_append, List.length_append, List.length_append]; show _ + 2 + _ + 2 + _ ≤ _; omega, ?_⟩
    rw [← twice_text]
    obtain ⟨r2, R2, L2, E2⟩ := N.twice A M B e1 e2
    refine ⟨_, rfl, _, rfl, spRd_of (E := E0) R2 fun v2 H6 s6 D6 => ?_⟩
    have s46 : Same H4 H6 := s5.trans s6
    have k6 : Kp q H H6 := kp_same k4 s46
    refine ⟨_, rfl, r2, d, D6, self _ k6, L2, N.lay, Nat.le_trans (Nat.min_le_right _ _) N.dep, _, rfl, ?_⟩
    show if (!PyData.eqv r2 d) = true then _ else _
    rw [E2]
    refine iteF ?_
    exact ⟨us.eraseIdx r, _, _, _, _, _, _, rfl, hel, k6, s46 _ _ hp4, pr4.imp fun b xs h => s46 _ _ h, S4.same s46⟩
  · rintro σ H2 ⟨us, y5, y6, y7, y8, y9, y10, rfl, hul, k2, hp2, pr2, S2⟩
    obtain ⟨r1, R1, L1, E1⟩ := N.self
    refine ⟨_, rfl, _, rfl, spRd_of (E := E0) R1 fun v1 H5 s5 D5 => ?_⟩
    have k5 : Kp q H H5 := kp_same k2 s5
    refine ⟨_, rfl, r1, d, D5, self _ k5, L1, N.lay, Nat.le_trans (Nat.min_le_right _ _) N.dep, ?_⟩
    show Q (.bl (PyData.eqv r1 d)) H5
    rw [E1]
    exact kk H5 k5 ((S2.same s5).mono (by omega))
end
end W72
/-! W52: _law_right, law. -/
namespace W72
open PySem PySem.Spec PyProof.Rows L2
/-- list + list, of any that stand -/
def rCatL (K : PySem.W.Frag) : R2 := fun x y H Q => ∃ l b xs zs, x = .ref l ∧ y = .ref b ∧ SqL K H l xs ∧ SqL K H b zs ∧ xs.length + zs.length ≤ sizeLine ∧ ∀ p, H p = none → Q (.ref p) (upd H p (.lst (xs ++ zs)))
theorem op_catL {X : Cx} : OpR X (binaryOp .Add) (rCatL X.K) := by
  intro pins s σ H x y v u Q I rx ry h
  obtain ⟨l, b, xs, zs, rfl, rfl, hH, hB, hz, q⟩ := h
  cases rx
  cases ry
  obtain ⟨its, r, ⟨o1, n1, g1, c1, d1, e1⟩, z1⟩ := I.list hH
  obtain ⟨its2, r2, ⟨o2, n2, g2, c2, d2, e2⟩, z2⟩ := I.list hB
  have hl1 := r.length
  have hl2 := r2.length
  obtain ⟨cls1, dd1, data1, sl1⟩ := o1
  obtain ⟨cls2, dd2, data2, sl2⟩ := o2
  simp only at c1 d1 e1 c2 d2 e2
  subst c1 d1 e1 c2 d2 e2
  refine concat_meets ⟨_, g1, rfl⟩ ⟨_, g2, rfl⟩ noFill_list_add seq_list_add PySem.F.slot_list_add PySem.F.entry_list_add (PySem.F.args_list_add_2 _ _) (PyProof.Rows.list_addW l b its.toArray its2.toArray n1 n2 none none sl1 sl2 (by rw [List.size_toArray, List.size_toArray]; omega)) ⟨g1, g2, ?_⟩
  have ea : its.toArray ++ its2.toArray = (its ++ its2).toArray := by simp
  rw [ea]
  exact ⟨.ref _, _, I.lnew (t' := s.toks) (r.append r2) (by rw [List.length_append]; omega), rfl, q _ I.fresh⟩
abbrev nRi : List Str := ["seed", "term", "program"]
theorem scRt : FnScope nRi ["seed"] (defScope (top 70)) := ⟨rfl, rfl, rfl, by decide +kernel, rfl, by decide +kernel, by decide +kernel⟩
theorem scLw : FnScope ["script", "cell"] ["script"] (defScope (top 71)) := ⟨rfl, rfl, rfl, by decide +kernel, rfl, by decide +kernel, by decide +kernel⟩
def spRight : Sp := fun vs H Q _ => ∃ (q : Addr), vs = [.ref q] ∧ Sd H q 0 ∧ ∀ H', Kp q H H' → Q (.bl true) H'
def spLaw (K : PySem.W.Frag) : Sp := fun vs H Q _ => ∃ (a : Addr) (ns : List Int), vs = [.ref a] ∧ SqL K H a (ns.map V.int) ∧ ns.length ≤ 63 ∧ (∀ z ∈ ns, Builtin.Int.intBits z ≤ 1048576) ∧ ∀ H', Q (.bl true) H'
theorem sqL_new {K : PySem.W.Frag} {H : Hp} {a p : Addr} {xs : List V} {o : HO} (np : H p = none) (h : SqL K H a xs) : SqL K (upd H p o) a xs := seqL_stay (fun b u e _ => same_new np b u e) h
theorem sqL_same {K : PySem.W.Frag} {H H' : Hp} {a : Addr} {xs : List V} (s : Same H H') (h : SqL K H a xs) : SqL K H' a xs := seqL_stay (fun b u e _ => s b u e) h
theorem Gt.ot {t : KTm} (g : Gt 5 t) : Ot 5 t := ⟨g.p, g.o, g.d, Nat.le_trans g.lf (by decide)⟩
section
variable {P : Program} {w : World} {K : PySem.W.Frag} {mg : Str → Option Value} {base : Heap} {f : Addr} {fd : FuncData} {n2 k : Nat}
theorem ok_right (F : Fun K "_law_right" "_law_right" (top 70) f fd) (hk : 20 ≤ k) (cT : Cl P w K mg base 1 "_law_toss" spToss) (cM : Cl P w K mg base 9 "_law_term" (fun vs H Q E => ∃ n, n ≤ 5 ∧ spTm K n vs H Q E)) (cS : Cl P w K mg base k "show_term" (spWh K 5))
    (cN : Cl P w K mg base k "_law_needed" (spNeed K 216 140)) (cD : Cl P w K mg base k "_law_data" (spDat K)) (cP : Cl P w K mg base k "show_program" (spPr K 3)) : FnOk P w K mg base (L2.CX P w) (k + 1) f fd ["seed"] spRight := by
  refine F.okX scRt (fun vs H Q E h => ?_) (fun cdv A' outer s₀ H vs Q E hr h => ?_)
  · obtain ⟨q, rfl, _⟩ := h
    rfl
  obtain ⟨q, rfl, hS, kk⟩ := h
  refine ⟨_, pss_cons (ps_set (i := 1) scRt.nd rfl (Or.inl rfl) (pe_cl cM (hr.mono (by omega)) pxN rfl (pa_cons (pv 0) (pa_cons (pe_cl cT (hr.mono (by omega)) pxN rfl (pa_cons (pv 0) (pa_cons pe_int pa_nil))) pa_nil))))
    (pss_cons (ps_if (pt_not (pt_val (pe_cl cN hr pxN rfl (pa_cons (pv 0) (pa_cons (pe_cl cS hr pxN rfl (pa_cons (pv 1) pa_nil)) (pa_cons (pv 1) (pa_cons pe_bl pa_nil))))))) (pss_one (ps_ret pe_bl)) pss_nil)
    (pss_cons (ps_set (i := 2) scRt.nd rfl (Or.inl rfl) (pe_tup (pa_cons (pe_tup (pa_cons (pe_cl cD hr pxN rfl (pa_cons (pv 0) pa_nil)) pa_nil)) (pa_cons (pe_tup pa_nil) pa_nil))))
    (pss_one (ps_ret (pe_cl cN hr pxN rfl (pa_cons (pv 0) (pa_cons (pe_cl cP hr pxN rfl (pa_cons (pv 2) pa_nil)) (pa_cons (pv 2) (pa_cons pe_bl pa_nil))))))))), ?_⟩
  refine ⟨_, rfl, _, rfl, q, 6, 0, rfl, by decide, by decide, hS, by omega, fun r1 H1 hr1 k1 S1 => ?_⟩
  have hN : Nd r1 ≤ 98920 := Nd_le (e := 5) (by omega)
  refine ⟨r1, by omega, q, _, rfl, S1, by omega, fun t v H2 gt D2 k2 S2 => ?_⟩
  have g5 : Gt 5 t := gt.mono (by omega)
  have k02 : Kp q H H2 := kpAll k1 k2
  refine ⟨_, rfl, _, rfl, v, t, rfl, D2, g5.ot, fun H3 s3 => ⟨_, rfl, ?_⟩⟩
  have e1 : textL (lx false t) = textL (lx false t) ++ nlOf true := (List.append_nil _).symm
  rw [e1]
  refine ⟨q, _, true, lx false t, v, encT t, rfl, need_term g5, dp_same s3 D2, S2.same s3, by omega, fun H4 k4 S4 => ⟨true, rfl, iteF ?_⟩⟩
  refine ⟨_, rfl, q, _, rfl, S4, by omega, fun d vd H5 gd D5 k5 S5 => ?_⟩
  refine ⟨(by show 1 ≤ sizeLine; decide), fun p np => ?_⟩
  refine ⟨Nat.zero_le _, fun p2 np2 => ⟨(by show 2 ≤ sizeLine; decide), fun p3 np3 => ?_⟩⟩
  generalize hH6 : upd (upd (upd H5 p (.tup [vd])) p2 (.tup [])) p3 (.tup [.ref p, .ref p2]) = H6
  have s6 : Same H5 H6 := by rw [← hH6]; exact (same_new np).trans ((same_new np2).trans (same_new np3))
  have npp2 : p ≠ p2 := ne_of_none upd_same np2
  have hp6 : H6 p = some (.tup [vd]) := by rw [← hH6]; exact same_new np3 _ _ (same_new np2 _ _ upd_same)
  have hp26 : H6 p2 = some (.tup []) := by rw [← hH6]; exact same_new np3 _ _ upd_same
  have hp36 : H6 p3 = some (.tup [.ref p, .ref p2]) := by rw [← hH6]; exact upd_same
  have D6 : Dp K H6 (.ref p3) (encPr d) := .tup (SqT.of hp36) (.cons (.tup (SqT.of hp6) (.cons (dp_same s6 D5) .nil)) (.cons (.tup (SqT.of hp26) .nil) .nil))
  refine ⟨_, rfl, _, rfl, .ref p3, d, rfl, D6, gd.ok, fun H7 s7 => ⟨_, rfl, ?_⟩⟩
  refine ⟨q, _, false, lD d, .ref p3, encPr d, rfl, need_data gd, dp_same s7 D6, (S5.same s6).same s7, by omega, fun H8 k8 S8 => ?_⟩
  exact kk H8 (kpAll k02 (kpAll (kp_same (Kp.of s3) (Same.refl _)) (kpAll k4 (kpAll k5 (kpAll (Kp.of (s6.trans s7)) k8)))))
theorem ok_law (F : Fun K "law" "law" (top 71) f fd) (Z : Bl mg) (hk : 1 ≤ k) (cS : Cl P w K mg base 1 "_law_seed" spSeed) (cR : Cl P w K mg base k "_law_right" spRight) : FnOk P w K mg base (L2.CX P w) (k + 1) f fd ["script"] (spLaw K) := by
  refine F.okX scLw (fun vs H Q E h => ?_) (fun cdv A' outer s₀ H vs Q E hr h => ?_)
  · obtain ⟨a, ns, rfl, _⟩ := h
    rfl
  obtain ⟨a, ns, rfl, hL, hlen, hbits, q⟩ := h
  refine ⟨_, pss_cons (ps_for (passes_of rfl) rfl (pi_list (pe_slice sl_list (pe_op op_catL (pv 0) (pe_lst (pa_cons pe_int pa_nil))) po_none (po_some (pe_callB (call_max2 rfl) rfl Z.max (by decide +kernel) (pa_cons pe_int (pa_cons (pe_callB (call_min2 rfl) rfl Z.min (by decide +kernel)
      (pa_cons (pe_callB call_len_seq rfl Z.len PySem.boot_len (pa_cons (pv 0) pa_nil)) (pa_cons pe_int pa_nil))) pa_nil)))))) (pg_name (i := 1) scLw.nd rfl (Or.inl rfl))
      (pss_one (ps_if (pt_not (pt_val (pe_cl cR hr pxN rfl (pa_cons (pe_cl cS (hr.mono (by omega)) pxN rfl (pa_cons (pv 1) pa_nil)) pa_nil)))) (pss_one (ps_ret pe_bl)) pss_nil)))
    (pss_one (ps_ret pe_bl)), ?_⟩
  refine ⟨_, rfl, (by show 1 ≤ sizeLine; decide), fun b nb => ?_⟩
  have hL1 : SqL K (upd H b (.lst [.int 0])) a (ns.map V.int) := sqL_new nb hL
  refine ⟨a, b, _, _, rfl, rfl, hL1, SqL.of upd_same, by rw [List.length_map]; exact Nat.le_trans (show ns.length + 1 ≤ 64 by omega) (by decide), fun p np => ?_⟩
  have hL2 := sqL_new (o := .lst (ns.map V.int ++ [.int 0])) np hL1
  refine ⟨_, rfl, a, _, rfl, .inl hL2, _, _, rfl, _, _, rfl, _, rfl, p, _, rfl, SqL.of upd_same, fun p2 np2 => ?_⟩
  generalize hj : (if _ > (1 : Int) then _ else (1 : Int)) = j
  have hcut : ∀ x ∈ cutV (ns.map V.int ++ [.int 0]) none (some j), ∃ z : Int, x = .int z ∧ Builtin.Int.intBits z ≤ 1048576 := fun x hx => by
    have h1 : x ∈ ns.map V.int ++ [.int 0] := List.mem_of_mem_drop (List.mem_of_mem_take hx)
    rcases List.mem_append.mp h1 with h1 | h1
    · obtain ⟨z, hz, rfl⟩ := List.mem_map.mp h1
      exact ⟨z, rfl, hbits z hz⟩
    · exact ⟨0, List.mem_singleton.mp h1, by decide⟩
  generalize cutV (ns.map V.int ++ [.int 0]) none (some j) = us at hcut
  generalize hH0 : upd _ p2 (.lst us) = H0
  have hp0 : H0 p2 = some (.lst us) := by rw [← hH0]; exact upd_same
  refine ⟨p2, rfl, ⟨_, SqL.of hp0⟩, ?_⟩
  refine for_it walk_list (fun i σ H' => ∃ y1 : Option V, σ = [some (.ref a), y1] ∧ Same H0 H') ⟨_, rfl, Same.refl _⟩ (fun i σ H' _ ⟨_, _, h⟩ => sqL_same h (SqL.of hp0)) ?_ ?_
  · rintro i x σ H1 H1' hi ⟨y1, rfl, s1⟩ ⟨rfl, hx⟩
    obtain ⟨z, rfl, hz⟩ := hcut x (List.mem_of_getElem? hx)
    refine ⟨_, rfl, z, rfl, hz, fun qa H2 nq s2 S2 => ?_⟩
    refine ⟨qa, rfl, S2, fun H3 k3 => ⟨true, rfl, iteF ?_⟩⟩
    refine ⟨_, rfl, fun b o h => ?_⟩
    exact k3 b o (fun e => by rw [e] at h; rw [s1 _ _ h] at nq; cases nq) (s2 _ _ (s1 _ _ h))
  · rintro σ H1 ⟨y1, rfl, s1⟩
    exact q H1
end
end W72
/-! W53: what the top leaves; from it the law's def. -/
namespace W72
open PySem L2
/-- a method of a class, all its arguments written -/
structure Me (K : PySem.W.Frag) (C : Addr) (m qual : Str) (st : Stmt) (ps : List Str) : Prop where
  ex : ∃ (f : Addr) (fd : FuncData), Meth K C m f ∧ Fun K m qual st f fd ∧ Binds K fd ps []
/-- .. with keyword-only parameters -/
structure Mo (K : PySem.W.Frag) (C : Addr) (m qual : Str) (st : Stmt) (kws : List (Str × V)) : Prop where
  ex : ∃ (f : Addr) (fd : FuncData), Meth K C m f ∧ Fun K m qual st f fd ∧ FunD K m qual (defArgs st) (defBody st) (defScope st) [] kws f fd
section
variable {P : Program} {w : World} {K : PySem.W.Frag} {mg : Str → Option Value} {base : Heap} {C : Addr} {m qual : Str} {st : Stmt} {ps : List Str} {k : Nat} {sp : Sp} {kws : List (Str × V)}
theorem Me.mt (d : Me K C m qual st ps) (hC : Cls K C) (h : ∀ f fd, Fun K m qual st f fd → FnOk P w K mg base (L2.CX P w) k f fd ps sp) : Mt P w K mg base k C m sp := by
  obtain ⟨f, fd, M, F, b⟩ := d.ex
  exact ⟨f, fd, ps, hC, M, h f fd F, b⟩
/-! ### keywords of is_now, take, small_names -/
abbrev kwST : List (Str × V) := [("sort", .str "sign"), ("text", .non)]
abbrev psST : List Str := ["self", "sort", "text"]
theorem vals_app {a b : List V} {u v : List Value} (h : Vals a u) (g : Vals b v) : Vals (a ++ b) (u ++ v) := h.append g
theorem Mo.kT (d : Mo K C "is_now" "Reader.is_now" (sR 3) kwST) (hC : Cls K C) (h : ∀ f fd, Fun K "is_now" "Reader.is_now" (sR 3) f fd → FnOk P w K mg base (L2.CX P w) k f fd psST sp) : Mtk P w K mg base k C "is_now" ["text"] gT sp := by
  obtain ⟨f, fd, M, F, D⟩ := d.ex
  obtain ⟨mv, b⟩ := D.kbinds0 (ps := psST) 1 ["text"] [("sort", .str "sign")] (fun us mv ws => us ++ (mv ++ ws)) (by simp) (by simp) (fun r1 r2 r3 => r1.append (r2.append r3))
    (fun D doc pm an cdv ct us mv ws h1 h2 h3 => match us, mv, ws, h1, h2, h3 with
      | [u], [m], [z], _, _, _ => ⟨_, _, _, _, _, _, rfl, rfl, rfl⟩)
  exact ⟨f, fd, _, _, hC, M, h f fd F, b⟩
theorem Mo.kS (d : Mo K C "is_now" "Reader.is_now" (sR 3) kwST) (hC : Cls K C) (h : ∀ f fd, Fun K "is_now" "Reader.is_now" (sR 3) f fd → FnOk P w K mg base (L2.CX P w) k f fd psST sp) : Mtk P w K mg base k C "is_now" ["sort"] gS sp := by
  obtain ⟨f, fd, M, F, D⟩ := d.ex
  obtain ⟨mv, b⟩ := D.kbinds0 (ps := psST) 1 ["sort"] [("text", .non)] (fun us mv ws => us ++ (ws ++ mv)) (by simp) (by simp) (fun r1 r2 r3 => r1.append (r3.append r2))
    (fun D doc pm an cdv ct us mv ws h1 h2 h3 => match us, mv, ws, h1, h2, h3 with
      | [u], [m], [z], _, _, _ => ⟨_, _, _, _, _, _, rfl, rfl, rfl⟩)
  exact ⟨f, fd, _, _, hC, M, h f fd F, b⟩
theorem Mo.kST (d : Mo K C "is_now" "Reader.is_now" (sR 3) kwST) (hC : Cls K C) (h : ∀ f fd, Fun K "is_now" "Reader.is_now" (sR 3) f fd → FnOk P w K mg base (L2.CX P w) k f fd psST sp) : Mtk P w K mg base k C "is_now" ["sort", "text"] gST sp := by
  obtain ⟨f, fd, M, F, D⟩ := d.ex
  obtain ⟨mv, b⟩ := D.kbinds0 (ps := psST) 1 ["sort", "text"] [] (fun us mv ws => us ++ ws) (by simp) (by simp) (fun r1 r2 r3 => r1.append r3)
    (fun D doc pm an cdv ct us mv ws h1 h2 h3 => match us, mv, ws, h1, h2, h3 with
      | [u], [], [z, y], _, _, _ => rfl)
  exact ⟨f, fd, _, _, hC, M, h f fd F, b⟩
theorem Mo.tT (d : Mo K C "take" "Reader.take" (sR 4) kwST) (hC : Cls K C) (h : ∀ f fd, Fun K "take" "Reader.take" (sR 4) f fd → FnOk P w K mg base (L2.CX P w) k f fd psST sp) : Mtk P w K mg base k C "take" ["text"] gT sp := by
  obtain ⟨f, fd, M, F, D⟩ := d.ex
  obtain ⟨mv, b⟩ := D.kbinds0 (ps := psST) 1 ["text"] [("sort", .str "sign")] (fun us mv ws => us ++ (mv ++ ws)) (by simp) (by simp) (fun r1 r2 r3 => r1.append (r2.append r3))
    (fun D doc pm an cdv ct us mv ws h1 h2 h3 => match us, mv, ws, h1, h2, h3 with
      | [u], [m], [z], _, _, _ => ⟨_, _, _, _, _, _, rfl, rfl, rfl⟩)
  exact ⟨f, fd, _, _, hC, M, h f fd F, b⟩
theorem Mo.tS (d : Mo K C "take" "Reader.take" (sR 4) kwST) (hC : Cls K C) (h : ∀ f fd, Fun K "take" "Reader.take" (sR 4) f fd → FnOk P w K mg base (L2.CX P w) k f fd psST sp) : Mtk P w K mg base k C "take" ["sort"] gS sp := by
  obtain ⟨f, fd, M, F, D⟩ := d.ex
  obtain ⟨mv, b⟩ := D.kbinds0 (ps := psST) 1 ["sort"] [("text", .non)] (fun us mv ws => us ++ (ws ++ mv)) (by simp) (by simp) (fun r1 r2 r3 => r1.append (r3.append r2))
    (fun D doc pm an cdv ct us mv ws h1 h2 h3 => match us, mv, ws, h1, h2, h3 with
      | [u], [m], [z], _, _, _ => ⟨_, _, _, _, _, _, rfl, rfl, rfl⟩)
  exact ⟨f, fd, _, _, hC, M, h f fd F, b⟩
theorem Mo.tST (d : Mo K C "take" "Reader.take" (sR 4) kwST) (hC : Cls K C) (h : ∀ f fd, Fun K "take" "Reader.take" (sR 4) f fd → FnOk P w K mg base (L2.CX P w) k f fd psST sp) : Mtk P w K mg base k C "take" ["sort", "text"] gST sp := by
  obtain ⟨f, fd, M, F, D⟩ := d.ex
  obtain ⟨mv, b⟩ := D.kbinds0 (ps := psST) 1 ["sort", "text"] [] (fun us mv ws => us ++ ws) (by simp) (by simp) (fun r1 r2 r3 => r1.append r3)
    (fun D doc pm an cdv ct us mv ws h1 h2 h3 => match us, mv, ws, h1, h2, h3 with
      | [u], [], [z, y], _, _, _ => rfl)
  exact ⟨f, fd, _, _, hC, M, h f fd F, b⟩
theorem Mo.t0 (d : Mo K C "take" "Reader.take" (sR 4) kwST) (hC : Cls K C) (h : ∀ f fd, Fun K "take" "Reader.take" (sR 4) f fd → FnOk P w K mg base (L2.CX P w) k f fd psST sp) : Mtd P w K mg base k C "take" [.str "sign", .non] sp := by
  obtain ⟨f, fd, M, F, D⟩ := d.ex
  obtain ⟨ds, hv, b⟩ := D.binds0 (ps := psST) 1 (by simp) rfl
    (fun D doc pm an cdv ct us ks h1 h2 => match us, ks, h1, h2 with
      | [u], [m, n], _, _ => ⟨_, _, _, _, _, _, rfl, rfl, ⟨_, _, _, _, _, _, rfl, rfl, rfl⟩⟩)
  exact ⟨f, fd, _, _, hC, M, h f fd F, b, hv⟩
/-- small_names: a keyword without a default -/
structure Ms (K : PySem.W.Frag) (C : Addr) : Prop where
  ex : ∃ (f : Addr) (fd : FuncData), Meth K C "small_names" f ∧ Fun K "small_names" "Reader.small_names" (sR 6) f fd
theorem sm_kb {f : Addr} {fd : FuncData} (F : Fun K "small_names" "Reader.small_names" (sR 6) f fd) : KBn K fd ["self", "unlike"] 1 ["unlike"] (fun us ws => us ++ ws) gU := by
  obtain ⟨oc, od, kV, doc, pm, an, cdv, ct, osl, rfl, lk, hcd⟩ := F.ex
  exact ⟨fun s us ws X h1 h2 => match us, ws, h1, h2 with | [u], [z], _, _ => BindsTo.of_eq rfl, fun r1 r2 => r1.append r2⟩
theorem Ms.kU (d : Ms K C) (hC : Cls K C) (h : ∀ f fd, Fun K "small_names" "Reader.small_names" (sR 6) f fd → FnOk P w K mg base (L2.CX P w) k f fd ["self", "unlike"] sp) : Mtk P w K mg base k C "small_names" ["unlike"] gU sp := by
  obtain ⟨f, fd, M, F⟩ := d.ex
  exact ⟨f, fd, _, _, hC, M, h f fd F, sm_kb F⟩
end
/-! ### what the top leaves -/
structure Facts (K : PySem.W.Frag) (w : World) (mg : Str → Option Value) (CE CN CW CR fN : Addr) (mcE : Value) : Prop where
  T : Txt K mg CE CN CW CR fN mcE
  Z : Bl mg
  G : Gc K mg
  L : Lv K w mg
  Wi : ∃ (f : Addr) (fd : FuncData), L2.Mk K CW f ∧ Fun K "__init__" "Word.__init__" sWi f fd ∧ Binds K fd ["self", "sort", "text", "column"] []
  Ri : ∃ (f : Addr) (fd : FuncData), L2.Mk K CR f ∧ Fun K "__init__" "Reader.__init__" (sR 0) f fd ∧ Binds K fd ["self", "row", "number"] []
  Ni : ∃ fd : FuncData, Fun K "__init__" "NoText.__init__" sNi fN fd ∧ Binds K fd ["self", "row", "column"] []
  now : Me K CR "now" "Reader.now" (sR 1) ["self"]
  fail : Me K CR "fail" "Reader.fail" (sR 2) ["self"]
  isn : Mo K CR "is_now" "Reader.is_now" (sR 3) kwST
  tak : Mo K CR "take" "Reader.take" (sR 4) kwST
  un : Me K CR "take_unlike" "Reader.take_unlike" (sR 5) ["self", "names"]
  sm : Ms K CR
  ends : Me K CR "ends" "Reader.ends" (sR 7) ["self"]
  R : RDefs K mg
  S : SDefs K mg
  D : LDefs K mg
  as : Df K mg "is_all_small" (top 8) ["text"]
  iss : Df K mg "is_small" (top 9) ["thing"]
  isg : Df K mg "is_great" (top 10) ["thing"]
  run : Df K mg "run_behind" (top 16) ["row", "at"]
  sort : Df K mg "sort_of" (top 17) ["run"]
  words : Df K mg "words_of" (top 18) ["row"]
  dfo : Df K mg "def_of" (top 38) ["reader"]
  RP : Df K mg "read_program" (top 41) ["text"]
  RT : Df K mg "read_term" (top 42) ["text"]
  st : Df K mg "show_term" (top 47) ["term"]
  ks : Df K mg "kind_shown" (top 48) ["one", "level"]
  ds : Df K mg "data_shown" (top 49) ["data"]
  dfs : Df K mg "def_shown" (top 50) ["one"]
  sp : Df K mg "show_program" (top 51) ["program"]
  kd : Df K mg "_law_kind" (top 62) ["seed", "left"]
  dat : Df K mg "_law_data" (top 64) ["seed"]
  rd : Df K mg "_law_read" (top 67) ["text", "as_term"]
  prs : Df K mg "_law_pairs" (top 68) ["text"]
  need : Df K mg "_law_needed" (top 69) ["seed", "text", "due", "as_term"]
  right : Df K mg "_law_right" (top 70) ["seed"]
section
variable {P : Program} {w : World} {K : PySem.W.Frag} {mg : Str → Option Value} {base : Heap} {CE CN CW CR fN : Addr} {mcE : Value}
theorem Facts.rdr (A : Facts K w mg CE CN CW CR fN mcE) : Rd P w K mg base CN CW CR := by
  have T := A.T
  have cN : Mt P w K mg base 1 CR "now" (spNow CW CR) := A.now.mt T.clR fun _ _ F => ok_now F T
  have cI : Ini P w K mg base 1 fN (spNi CN) := by
    obtain ⟨fd, F, b⟩ := A.Ni
    exact ⟨fd, _, ok_Ni F T, b⟩
  have cF : Mt P w K mg base 3 CR "fail" (spFail CN CW CR) := A.fail.mt T.clR fun _ _ F => ok_fail F T cN cI
  have iS : Mtk P w K mg base 2 CR "is_now" ["sort"] gS (spIs CW CR) := A.isn.kS T.clR fun _ _ F => ok_is F T cN
  have iST : Mtk P w K mg base 2 CR "is_now" ["sort", "text"] gST (spIs CW CR) := A.isn.kST T.clR fun _ _ F => ok_is F T cN
  have tS : Mtk P w K mg base 4 CR "take" ["sort"] gS (spTake CN CW CR) := A.tak.tS T.clR fun _ _ F => ok_take F T cN cF iST
  have un : Mt P w K mg base 5 CR "take_unlike" (spUn K CN CW CR) := A.un.mt T.clR fun _ _ F => ok_un F T cN cF tS
  exact {
    isT := A.isn.kT T.clR fun _ _ F => ok_is F T cN
    isS := iS
    isST := iST
    tkT := A.tak.tT T.clR fun _ _ F => ok_take F T cN cF iST
    tkS := tS
    tkST := A.tak.tST T.clR fun _ _ F => ok_take F T cN cF iST
    tk0 := A.tak.t0 T.clR fun _ _ F => ok_take F T cN cF iST
    un := un
    sm := A.sm.kU T.clR fun _ _ F => ok_sm F T iS tS un
    ends := A.ends.mt T.clR fun _ _ F => ok_ends F T cF iS
    now := cN }
/-- one promise of several -/
theorem fn_or {f : Addr} {fd : FuncData} {ps : List Str} {sp : Nat → Sp} {k N : Nat} (h : ∀ n, n ≤ N → FnOk P w K mg base (L2.CX P w) k f fd ps (sp n)) : FnOk P w K mg base (L2.CX P w) k f fd ps (fun vs H Q E => ∃ n, n ≤ N ∧ sp n vs H Q E) :=
  ⟨fun vs H Q E ⟨n, hn, q⟩ => (h n hn).len vs H Q E q, fun A outer s H args us vs Q E hr he hb hv ⟨n, hn, q⟩ => (h n hn).run A outer s H args us vs Q E hr he hb hv q⟩
theorem tm_fn {f : Addr} {fd : FuncData} (D : LDefs K mg) (Z : Bl mg) (F : Fun K "_law_term" "_law_term" (top 59) f fd) : ∀ n, FnOk P w K mg base (L2.CX P w) (n + 4) f fd ["seed", "left"] (spTm K n)
  | 0 => ok_tm F Z (Nat.le_refl _) (D.Term.low fun m e => by cases e) (toss_cl D Z) (small_cl D Z) (great_cl D Z) (unl_cl D Z) (leaf_cl D Z)
  | n + 1 => ok_tm F Z (by omega) (D.Term.low fun m e => by
      have : m = n := by omega
      rw [this]; exact tm_all D Z n) (toss_cl D Z) (small_cl D Z) (great_cl D Z) (unl_cl D Z) (leaf_cl D Z)
theorem kd_fn {f : Addr} {fd : FuncData} (D : LDefs K mg) (dK : Df K mg "_law_kind" (top 62) ["seed", "left"]) (Z : Bl mg) (F : Fun K "_law_kind" "_law_kind" (top 62) f fd) : ∀ n, FnOk P w K mg base (L2.CX P w) (n + 3) f fd ["seed", "left"] (spKd K n)
  | 0 => ok_kd F Z (Nat.le_refl _) (dK.low fun m e => by cases e) (toss_cl D Z) (small_cl D Z) (great_cl D Z)
  | n + 1 => ok_kd F Z (by omega) (dK.low fun m e => by
      have : m = n := by omega
      rw [this]; exact kd_all D dK Z n) (toss_cl D Z) (small_cl D Z) (great_cl D Z)
theorem Facts.right_cl (A : Facts K w mg CE CN CW CR fN mcE) : Cl P w K mg base 226 "_law_right" spRight := by
  have T := A.T
  have Z := A.Z
  have B : Rd P w K mg base CN CW CR := A.rdr
  have cAS : Cl P w K mg base 1 "is_all_small" spAS := A.as.cl fun _ _ F => ok_as F A.G Z
  have cIS : Cl P w K mg base 2 "is_small" (spIsS isSmall) := A.iss.cl fun _ _ F => ok_iss F A.G Z cAS
  have cIG : Cl P w K mg base 2 "is_great" (spIsS isGreat) := A.isg.cl fun _ _ F => ok_isg F A.G Z cAS
  have cRun : Cl P w K mg base 1 "run_behind" spRun := A.run.cl fun _ _ F => ok_run F A.G Z
  have cSort : Cl P w K mg base 3 "sort_of" spSort := A.sort.cl fun _ _ F => ok_sort F A.G Z cIS cIG
  have cWm : Mkr P w K mg base 1 CW "Word" (spWi CW) := by
    obtain ⟨f, fd, M, F, b⟩ := A.Wi
    exact ⟨f, fd, _, M, ok_Wi F T, T.mgW, b⟩
  have cWo : Cl P w K mg base 4 "words_of" (spWords CW) := A.words.cl fun _ _ F => ok_words F A.G Z T cRun cSort cWm
  have cRm : Mkr P w K mg base 5 CR "Reader" (spRi CW CR) := by
    obtain ⟨f, fd, M, F, b⟩ := A.Ri
    exact ⟨f, fd, _, M, ok_Ri F T cWo, T.mgR, b⟩
  have cRT : Cl P w K mg base 223 "read_term" (spRT K CN 216) := A.RT.cl fun _ _ F => ok_RT (n := 216) F B cRm (p_all A.R T B Z 216).T
  have cDf : Cl P w K mg base (140 + 6 + 1 + 1) "def_of" (fun _ _ _ _ => False) := A.dfo.cl0 fun _ _ _ _ h => h
  have cRP : Cl P w K mg base 149 "read_program" (spRP K CN 140) := A.RP.cl fun _ _ F => ok_RP (n := 140) F Z B cRm (data_cl A.R T B Z 140) cDf
  have cRd : Cl P w K mg base 224 "_law_read" (spRd K 216 140) := A.rd.cl fun _ _ F => ok_rd F T cRT (cRP.mono (by decide))
  have cPrs : Cl P w K mg base 1 "_law_pairs" spPairs := A.prs.cl fun _ _ F => ok_pairs F Z
  have cT := toss_cl (P := P) (w := w) (base := base) A.D Z
  have cNe : Cl P w K mg base 225 "_law_needed" (spNeed K 216 140) := A.need.cl fun _ _ F => ok_need F Z (by decide) cRd cPrs cT
  have cSt : Cl P w K mg base 14 "show_term" (spWh K 5) := A.st.cl fun _ _ F => ok_st F (wh_all A.S A.L Z 5)
  have cKs : Cl P w K mg base 4 "kind_shown" (spKs K 3) := ks_all A.ks Z 3
  have cDs : Cl P w K mg base 5 "data_shown" (spDs K 3) := A.ds.cl fun _ _ F => ok_ds F Z cKs
  have cSp : Cl P w K mg base 6 "show_program" (spPr K 3) := A.sp.cl fun _ _ F => ok_sp F cDs (A.dfs.cl0 fun _ _ _ _ h => h)
  have cM : Cl P w K mg base 9 "_law_term" (fun vs H Q E => ∃ n, n ≤ 5 ∧ spTm K n vs H Q E) := A.D.Term.cl fun _ _ F => fn_or fun n hn => (tm_fn A.D Z F n).mono (by omega)
  have cK : ∀ n, n ≤ 2 → Cl P w K mg base 5 "_law_kind" (spKd K n) := fun n hn => (kd_all A.D A.kd Z n).mono (by omega)
  have cK2 : Cl P w K mg base 5 "_law_kind" (fun vs H Q E => ∃ n, n ≤ 2 ∧ spKd K n vs H Q E) := A.kd.cl fun _ _ F => fn_or fun n hn => (kd_fn A.D A.kd Z F n).mono (by omega)
  have cDat : Cl P w K mg base 6 "_law_data" (spDat K) := A.dat.cl fun _ _ F => ok_dat_l F Z (by decide) cK cK2 cT (small_cl A.D Z) (great_cl A.D Z)
  exact A.right.cl fun _ _ F => ok_right (k := 225) F (by decide) cT cM (cSt.mono (by decide)) cNe (cDat.mono (by decide)) (cSp.mono (by decide))
theorem Facts.law {f : Addr} {fd : FuncData} (A : Facts K w mg CE CN CW CR fN mcE) (F : Fun K "law" "law" (top 71) f fd) : FnOk P w K mg base (L2.CX P w) 227 f fd ["script"] (spLaw K) :=
  ok_law F A.Z (by decide) (A.D.Seed.cl fun _ _ F => ok_seed F A.Z) A.right_cl
end
end W72
/-! W54: facts by k_is. -/
namespace W72
open PySem L2
/-- how a def's arguments bind -/
def Bo (x qual : Str) (st : Stmt) (ps : List Str) : Prop := ∀ (kV doc pm : Value) (an : Option Addr) (cdv ct : Value) (us : List Value), us.length = ps.length → bindArgs (PySem.W.fnOf x qual (defArgs st) (defBody st) (defScope st) .none kV doc pm an cdv ct) ⟨us, []⟩ = pure (ps.zip us)
section
variable {K : PySem.W.Frag} {mg : Str → Option Value} {h : Heap} {x qual : Str} {st : Stmt} {ps : List Str} {f C : Addr} {oc kV doc pm cdv ct : Value} {od an : Option Addr} {osl : Array (Option Value)}
theorem df_mk (b : Bo x x st ps) (X : K.In h) (G : h.Ns mainGlobals mg) (a : PySem.W.nsIn K mainGlobals x = some (some (.ref f)))
    (l : K.lookup f = some ⟨oc, od, .func (PySem.W.fnOf x x (defArgs st) (defBody st) (defScope st) .none kV doc pm an cdv ct), osl⟩) (c : PySem.W.codeIn K cdv x = true) (k : PySem.W.keepIn K (.ref f) = true) : Df K mg x st ps :=
  ⟨f, _, fun_mk l c k, PySem.W.mg_of X G a, (fun_mk l c k).binds b⟩
theorem me_mk (b : Bo x qual st ps) (a : PySem.W.findIn K (.ref C) x = some (some (.ref f))) (i : PySem.W.isFn K (.ref f) = true)
    (l : K.lookup f = some ⟨oc, od, .func (PySem.W.fnOf x qual (defArgs st) (defBody st) (defScope st) .none kV doc pm an cdv ct), osl⟩) (c : PySem.W.codeIn K cdv qual = true) (k : PySem.W.keepIn K (.ref f) = true) : Me K C x qual st ps :=
  ⟨f, _, ⟨a, i, k⟩, fun_mk l c k, (fun_mk l c k).binds b⟩
theorem ms_mk (a : PySem.W.findIn K (.ref C) "small_names" = some (some (.ref f))) (i : PySem.W.isFn K (.ref f) = true)
    (l : K.lookup f = some ⟨oc, od, .func (PySem.W.fnOf "small_names" "Reader.small_names" (defArgs (sR 6)) (defBody (sR 6)) (defScope (sR 6)) .none kV doc pm an cdv ct), osl⟩) (c : PySem.W.codeIn K cdv "Reader.small_names" = true) (k : PySem.W.keepIn K (.ref f) = true) : Ms K C :=
  ⟨f, _, ⟨a, i, k⟩, fun_mk l c k⟩
theorem mo_mk {D : Addr} {t : PySem.Tok} (a : PySem.W.findIn K (.ref C) x = some (some (.ref f))) (i : PySem.W.isFn K (.ref f) = true)
    (l : K.lookup f = some ⟨oc, od, .func (PySem.W.fnOf x qual (defArgs st) (defBody st) (defScope st) .none (.ref D) doc pm an cdv ct), osl⟩) (c : PySem.W.codeIn K cdv qual = true) (k : PySem.W.keepIn K (.ref f) = true)
    (s1 : PySem.W.nsIn K D "sort" = some (some (.str "sign" t))) (s2 : PySem.W.nsIn K D "text" = some (some .none)) : Mo K C x qual st kwST :=
  ⟨f, _, ⟨a, i, k⟩, fun_mk l c k, ⟨⟨oc, od, .none, .ref D, doc, pm, an, cdv, ct, osl, rfl, l, c, .inl ⟨rfl, rfl⟩, .inr ⟨D, rfl, fun q hq => by
    rcases List.mem_cons.mp hq with e | hq
    · rw [e]; exact ⟨_, s1, ⟨t, rfl⟩⟩
    · rw [List.mem_singleton.mp hq]; exact ⟨_, s2, rfl⟩⟩⟩, k⟩⟩
theorem mk_mk (b : Bo "__init__" qual st ps) (m : PySem.W.makesIn K C = true) (a : PySem.W.findIn K (.ref C) "__init__" = some (some (.ref f))) (i : PySem.W.isFn K (.ref f) = true)
    (l : K.lookup f = some ⟨oc, od, .func (PySem.W.fnOf "__init__" qual (defArgs st) (defBody st) (defScope st) .none kV doc pm an cdv ct), osl⟩) (c : PySem.W.codeIn K cdv qual = true) (k : PySem.W.keepIn K (.ref f) = true) (kC : PySem.W.keepIn K (.ref C) = true) :
    ∃ (f : Addr) (fd : FuncData), L2.Mk K C f ∧ Fun K "__init__" qual st f fd ∧ Binds K fd ps [] := ⟨f, _, ⟨m, a, i, kC⟩, fun_mk l c k, (fun_mk l c k).binds b⟩
theorem ni_mk (b : Bo "__init__" qual st ps) (l : K.lookup f = some ⟨oc, od, .func (PySem.W.fnOf "__init__" qual (defArgs st) (defBody st) (defScope st) .none kV doc pm an cdv ct), osl⟩) (c : PySem.W.codeIn K cdv qual = true) (k : PySem.W.keepIn K (.ref f) = true) :
    ∃ fd : FuncData, Fun K "__init__" qual st f fd ∧ Binds K fd ps [] := ⟨_, fun_mk l c k, (fun_mk l c k).binds b⟩
theorem exm_self {S : Addr} (h1 : PySem.W.subIn K (.ref S) (.type "BaseException") = some true) (h2 : PySem.W.isClsIn K S = true) (h3 : PySem.W.typeIn K (.ref S) = some (.type "type")) (h4 : PySem.W.subIn K (.ref S) (.ref S) = some true) :
    PySem.W.exmOne K (.ref S) (.ref S) = some true := by
  have e1 : (PySem.W.subIn K (.ref S) (.type "BaseException") == some true) = true := by rw [h1] <;> rfl
  have e2 : ((PySem.W.clsIn K S).isSome && PySem.W.typeIn K (.ref S) == some (.type "type")) = true := by
    have h2' : (PySem.W.clsIn K S).isSome = true := h2
    rw [h2', h3] <;> rfl
  show (if (PySem.W.subIn K (.ref S) (.type "BaseException") == some true) = true then (if ((PySem.W.clsIn K S).isSome && PySem.W.typeIn K (.ref S) == some (.type "type")) = true then PySem.W.subIn K (.ref S) (.ref S) else none) else none) = some true
  rw [if_pos e1, if_pos e2]
  exact h4
theorem free_mk (X : K.In h) (G : h.Ns mainGlobals mg) (z : PySem.W.nsIn K mainGlobals x = some none) : mg x = none := PySem.W.mg_none_of X G z
theorem str_mk {s : Str} {t : PySem.Tok} (X : K.In h) (G : h.Ns mainGlobals mg) (z : PySem.W.nsIn K mainGlobals x = some (some (.str s t))) : ∃ u, mg x = some u ∧ RelV (.str s) u := ⟨_, PySem.W.mg_of X G z, ⟨t, rfl⟩⟩
theorem int_mk {i : Int} {t : PySem.Tok} (X : K.In h) (G : h.Ns mainGlobals mg) (z : PySem.W.nsIn K mainGlobals x = some (some (.int i t))) : ∃ u, mg x = some u ∧ RelV (.int i) u := ⟨_, PySem.W.mg_of X G z, ⟨t, rfl⟩⟩
end
theorem walk {l : PySem.W.OpenLaw} {q : Program} {loose : List Str} {XP : (Str → Option Value) → Heap → Prop} {YP : World → Heap → Prop} {d : DefRec} {K : Params → PySem.W.Frag} (hn : l.most = some 63) (hdf : d.params.defaults = [])
    (hY : ∀ (w : World) (h : Heap), YP w h → (K w.params).In h)
    (F : ∀ (w : World) (mg : Str → Option Value) (fa : Addr) (h : Heap), (K w.params).In h → h.Ns mainGlobals mg → mg d.name = some (.ref fa) →
      ∃ fd : FuncData, (∀ (s : Shared) (u : Value), BindsTo s fd ⟨[u], []⟩ [("script", u)]) ∧ ∀ base : Heap, (K w.params).In base → base.Ns mainGlobals mg → FnOk l.prog w (K w.params) mg base (L2.CX l.prog w) 227 fa fd ["script"] (spLaw (K w.params))) :
    PySem.W.WalkO q loose XP YP l.row.toRowW d [] (fun f vs => PySem.call f vs) :=
  L2.walk_ofB (n := 63) (k := 227) (x := "script") (CX := fun w => L2.CX l.prog w) (sp := fun w => spLaw (K w.params)) hn (by decide) hdf ⟨rfl, by decide, by decide⟩ hY F (fun _ _ a ns hl hb _ hS => ⟨a, ns, rfl, hS, hl, hb, fun _ => rfl⟩) fun _ _ _ _ _ z => by
    obtain ⟨_, _, _, _, _, _, _, _, _, _, _, _, z⟩ := z
    exact z
theorem law_mk {P : Program} {w : World} {K : PySem.W.Frag} {mg : Str → Option Value} {h : Heap} {CE CN CW CR fN f fa : Addr} {mcE : Value} {oc kV doc pm cdv ct : Value} {od an : Option Addr} {osl : Array (Option Value)} (A : Facts K w mg CE CN CW CR fN mcE) (X : K.In h) (G : h.Ns mainGlobals mg) (hfa : mg "law" = some (.ref fa))
    (a : PySem.W.nsIn K mainGlobals "law" = some (some (.ref f)))
    (l : K.lookup f = some ⟨oc, od, .func (PySem.W.fnOf "law" "law" (defArgs (top 71)) (defBody (top 71)) (defScope (top 71)) .none kV doc pm an cdv ct), osl⟩) (c : PySem.W.codeIn K cdv "law" = true) (k : PySem.W.keepIn K (.ref f) = true) :
    ∃ fd : FuncData, (∀ (s : Shared) (u : Value), BindsTo s fd ⟨[u], []⟩ [("script", u)]) ∧ ∀ base : Heap, K.In base → base.Ns mainGlobals mg → FnOk P w K mg base (L2.CX P w) 227 fa fd ["script"] (spLaw K) := by
  have e := hfa.symm.trans (PySem.W.mg_of X G a)
  cases e
  exact ⟨_, fun s u => .of_eq rfl, fun base _ _ => A.law (fun_mk l c k)⟩
end W72
/-! W55: how each def binds. -/
namespace W72
open PySem L2
theorem b21 : Bo "term_of" "term_of" (top 21) ["reader"] := fun _ _ _ _ _ _ us hl => match us, hl with | [_], _ => rfl
theorem b22 : Bo "fun_of" "fun_of" (top 22) ["reader"] := fun _ _ _ _ _ _ us hl => match us, hl with | [_], _ => rfl
theorem b23 : Bo "let_of" "let_of" (top 23) ["reader"] := fun _ _ _ _ _ _ us hl => match us, hl with | [_], _ => rfl
theorem b24 : Bo "case_of" "case_of" (top 24) ["reader"] := fun _ _ _ _ _ _ us hl => match us, hl with | [_], _ => rfl
theorem b25 : Bo "way_of" "way_of" (top 25) ["reader"] := fun _ _ _ _ _ _ us hl => match us, hl with | [_], _ => rfl
theorem b26 : Bo "comparing_of" "comparing_of" (top 26) ["reader"] := fun _ _ _ _ _ _ us hl => match us, hl with | [_], _ => rfl
theorem b27 : Bo "sum_of" "sum_of" (top 27) ["reader"] := fun _ _ _ _ _ _ us hl => match us, hl with | [_], _ => rfl
theorem b28 : Bo "product_of" "product_of" (top 28) ["reader"] := fun _ _ _ _ _ _ us hl => match us, hl with | [_], _ => rfl
theorem b29 : Bo "begins_thing" "begins_thing" (top 29) ["reader"] := fun _ _ _ _ _ _ us hl => match us, hl with | [_], _ => rfl
theorem b30 : Bo "calling_of" "calling_of" (top 30) ["reader"] := fun _ _ _ _ _ _ us hl => match us, hl with | [_], _ => rfl
theorem b31 : Bo "thing_of" "thing_of" (top 31) ["reader"] := fun _ _ _ _ _ _ us hl => match us, hl with | [_], _ => rfl
theorem b32 : Bo "begins_kind" "begins_kind" (top 32) ["reader"] := fun _ _ _ _ _ _ us hl => match us, hl with | [_], _ => rfl
theorem b33 : Bo "lone_kind_of" "lone_kind_of" (top 33) ["reader"] := fun _ _ _ _ _ _ us hl => match us, hl with | [_], _ => rfl
theorem b34 : Bo "lone_kinds_of" "lone_kinds_of" (top 34) ["reader"] := fun _ _ _ _ _ _ us hl => match us, hl with | [_], _ => rfl
theorem b35 : Bo "kind_of" "kind_of" (top 35) ["reader"] := fun _ _ _ _ _ _ us hl => match us, hl with | [_], _ => rfl
theorem b36 : Bo "maker_of" "maker_of" (top 36) ["reader"] := fun _ _ _ _ _ _ us hl => match us, hl with | [_], _ => rfl
theorem b37 : Bo "data_of" "data_of" (top 37) ["reader"] := fun _ _ _ _ _ _ us hl => match us, hl with | [_], _ => rfl
theorem b43 : Bo "level_of" "level_of" (top 43) ["term"] := fun _ _ _ _ _ _ us hl => match us, hl with | [_], _ => rfl
theorem b44 : Bo "shown" "shown" (top 44) ["term", "level"] := fun _ _ _ _ _ _ us hl => match us, hl with | [_, _], _ => rfl
theorem b45 : Bo "whole" "whole" (top 45) ["term"] := fun _ _ _ _ _ _ us hl => match us, hl with | [_], _ => rfl
theorem b46 : Bo "shown_fun" "shown_fun" (top 46) ["term"] := fun _ _ _ _ _ _ us hl => match us, hl with | [_], _ => rfl
theorem b53 : Bo "_law_seed" "_law_seed" (top 53) ["cell"] := fun _ _ _ _ _ _ us hl => match us, hl with | [_], _ => rfl
theorem b54 : Bo "_law_toss" "_law_toss" (top 54) ["seed", "many"] := fun _ _ _ _ _ _ us hl => match us, hl with | [_, _], _ => rfl
theorem b55 : Bo "_law_small" "_law_small" (top 55) ["seed"] := fun _ _ _ _ _ _ us hl => match us, hl with | [_], _ => rfl
theorem b56 : Bo "_law_great" "_law_great" (top 56) ["seed"] := fun _ _ _ _ _ _ us hl => match us, hl with | [_], _ => rfl
theorem b57 : Bo "_law_unlike" "_law_unlike" (top 57) ["seed", "many"] := fun _ _ _ _ _ _ us hl => match us, hl with | [_, _], _ => rfl
theorem b58 : Bo "_law_leaf" "_law_leaf" (top 58) ["seed"] := fun _ _ _ _ _ _ us hl => match us, hl with | [_], _ => rfl
theorem b59 : Bo "_law_term" "_law_term" (top 59) ["seed", "left"] := fun _ _ _ _ _ _ us hl => match us, hl with | [_, _], _ => rfl
theorem b8 : Bo "is_all_small" "is_all_small" (top 8) ["text"] := fun _ _ _ _ _ _ us hl => match us, hl with | [_], _ => rfl
theorem b9 : Bo "is_small" "is_small" (top 9) ["thing"] := fun _ _ _ _ _ _ us hl => match us, hl with | [_], _ => rfl
theorem b10 : Bo "is_great" "is_great" (top 10) ["thing"] := fun _ _ _ _ _ _ us hl => match us, hl with | [_], _ => rfl
theorem b16 : Bo "run_behind" "run_behind" (top 16) ["row", "at"] := fun _ _ _ _ _ _ us hl => match us, hl with | [_, _], _ => rfl
theorem b17 : Bo "sort_of" "sort_of" (top 17) ["run"] := fun _ _ _ _ _ _ us hl => match us, hl with | [_], _ => rfl
theorem b18 : Bo "words_of" "words_of" (top 18) ["row"] := fun _ _ _ _ _ _ us hl => match us, hl with | [_], _ => rfl
theorem b38 : Bo "def_of" "def_of" (top 38) ["reader"] := fun _ _ _ _ _ _ us hl => match us, hl with | [_], _ => rfl
theorem b41 : Bo "read_program" "read_program" (top 41) ["text"] := fun _ _ _ _ _ _ us hl => match us, hl with | [_], _ => rfl
theorem b42 : Bo "read_term" "read_term" (top 42) ["text"] := fun _ _ _ _ _ _ us hl => match us, hl with | [_], _ => rfl
theorem b47 : Bo "show_term" "show_term" (top 47) ["term"] := fun _ _ _ _ _ _ us hl => match us, hl with | [_], _ => rfl
theorem b48 : Bo "kind_shown" "kind_shown" (top 48) ["one", "level"] := fun _ _ _ _ _ _ us hl => match us, hl with | [_, _], _ => rfl
theorem b49 : Bo "data_shown" "data_shown" (top 49) ["data"] := fun _ _ _ _ _ _ us hl => match us, hl with | [_], _ => rfl
theorem b50 : Bo "def_shown" "def_shown" (top 50) ["one"] := fun _ _ _ _ _ _ us hl => match us, hl with | [_], _ => rfl
theorem b51 : Bo "show_program" "show_program" (top 51) ["program"] := fun _ _ _ _ _ _ us hl => match us, hl with | [_], _ => rfl
theorem b62 : Bo "_law_kind" "_law_kind" (top 62) ["seed", "left"] := fun _ _ _ _ _ _ us hl => match us, hl with | [_, _], _ => rfl
theorem b64 : Bo "_law_data" "_law_data" (top 64) ["seed"] := fun _ _ _ _ _ _ us hl => match us, hl with | [_], _ => rfl
theorem b67 : Bo "_law_read" "_law_read" (top 67) ["text", "as_term"] := fun _ _ _ _ _ _ us hl => match us, hl with | [_, _], _ => rfl
theorem b68 : Bo "_law_pairs" "_law_pairs" (top 68) ["text"] := fun _ _ _ _ _ _ us hl => match us, hl with | [_], _ => rfl
theorem b69 : Bo "_law_needed" "_law_needed" (top 69) ["seed", "text", "due", "as_term"] := fun _ _ _ _ _ _ us hl => match us, hl with | [_, _, _, _], _ => rfl
theorem b70 : Bo "_law_right" "_law_right" (top 70) ["seed"] := fun _ _ _ _ _ _ us hl => match us, hl with | [_], _ => rfl
theorem bWi : Bo "__init__" "Word.__init__" sWi ["self", "sort", "text", "column"] := fun _ _ _ _ _ _ us hl => match us, hl with | [_, _, _, _], _ => rfl
theorem bRi : Bo "__init__" "Reader.__init__" (sR 0) ["self", "row", "number"] := fun _ _ _ _ _ _ us hl => match us, hl with | [_, _, _], _ => rfl
theorem bNi : Bo "__init__" "NoText.__init__" sNi ["self", "row", "column"] := fun _ _ _ _ _ _ us hl => match us, hl with | [_, _, _], _ => rfl
theorem bNow : Bo "now" "Reader.now" (sR 1) ["self"] := fun _ _ _ _ _ _ us hl => match us, hl with | [_], _ => rfl
theorem bFail : Bo "fail" "Reader.fail" (sR 2) ["self"] := fun _ _ _ _ _ _ us hl => match us, hl with | [_], _ => rfl
theorem bUn : Bo "take_unlike" "Reader.take_unlike" (sR 5) ["self", "names"] := fun _ _ _ _ _ _ us hl => match us, hl with | [_, _], _ => rfl
theorem bEnds : Bo "ends" "Reader.ends" (sR 7) ["self"] := fun _ _ _ _ _ _ us hl => match us, hl with | [_], _ => rfl
end W72
/-! W56: the classes' facts. -/
namespace W72
open PySem L2
section
variable {K : PySem.W.Frag} {mg : Str → Option Value} {h : Heap} {C p : Addr} {x f y qual : Str} {st : Stmt} {ps : List Str}
theorem cls_mk (X : K.In h) (m : mg x = some (.ref C)) (a : PySem.W.plainGet K C Str.empty = true) (b : PySem.W.hasDictIn K C = true) (c : PySem.W.plainOver K C = true) (d : PySem.W.findIn K (.ref C) "__setattr__" = some (some (.builtin "object.__setattr__"))) : Cls K C := ⟨a, b, c, d⟩
theorem no_mk (X : K.In h) (m : mg x = some (.ref C)) (a : PySem.W.findIn K (.ref C) f = some none) : NoAttr K C f := a
theorem kept_mk {o : Obj} (X : K.In h) (m : mg "KEPT_WORDS" = some (.ref p)) (l : K.lookup p = some o) (e : ∃ t1 t2 t3 t4 t5 t6 n, o = { cls := .type "tuple", data := .seq #[.str "data" t1, .str "let" t2, .str "in" t3, .str "case" t4, .str "of" t5, .str "num" t6] n }) :
    ∃ p, mg "KEPT_WORDS" = some (.ref p) ∧ ∀ H, SqT K H p [.str "data", .str "let", .str "in", .str "case", .str "of", .str "num"] := by
  obtain ⟨t1, t2, t3, t4, t5, t6, n, rfl⟩ := e
  exact ⟨p, m, fun H => .inr ⟨_, _, n, l, rfl, rfl, (by show 6 ≤ sizeLine; decide), (.cons ⟨_, rfl⟩ (.cons ⟨_, rfl⟩ (.cons ⟨_, rfl⟩ (.cons ⟨_, rfl⟩ (.cons ⟨_, rfl⟩ (.cons ⟨_, rfl⟩ .nil)))) ) : Vals [.str "data", .str "let", .str "in", .str "case", .str "of", .str "num"] [.str "data" t1, .str "let" t2, .str "in" t3, .str "case" t4, .str "of" t5, .str "num" t6])⟩⟩
theorem lev_mk {w : World} {es : Array DictEntry} {n : Nat} {t1 t2 t3 t4 t5 : PySem.Tok} (X : K.In h) (m : mg "LEVELS" = some (.ref p)) (l : K.lookup p = some ⟨.type "dict", none, .dict es n, #[]⟩) (k : PySem.W.KeysLit w.params es.toList)
    (a1 : PySem.W.nsIn K p "+" = some (some (.int 1 t1))) (a2 : PySem.W.nsIn K p "-" = some (some (.int 1 t2))) (a3 : PySem.W.nsIn K p "*" = some (some (.int 2 t3))) (a4 : PySem.W.nsIn K p "<" = some (some (.int 0 t4))) (a5 : PySem.W.nsIn K p "==" = some (some (.int 0 t5))) : Lv K w mg :=
  ⟨p, m, fun o => match o with
    | .plus => ⟨es, n, _, l, k, a1, ⟨_, rfl⟩⟩
    | .minus => ⟨es, n, _, l, k, a2, ⟨_, rfl⟩⟩
    | .times => ⟨es, n, _, l, k, a3, ⟨_, rfl⟩⟩
    | .less => ⟨es, n, _, l, k, a4, ⟨_, rfl⟩⟩
    | .same => ⟨es, n, _, l, k, a5, ⟨_, rfl⟩⟩⟩
section
variable {oc kV doc pm cdv ct : Value} {od an : Option Addr} {osl : Array (Option Value)} {g : Addr}
theorem meC (X : K.In h) (m : mg y = some (.ref C)) (b : Bo x qual st ps) (a : PySem.W.findIn K (.ref C) x = some (some (.ref g))) (i : PySem.W.isFn K (.ref g) = true)
    (l : K.lookup g = some ⟨oc, od, .func (PySem.W.fnOf x qual (defArgs st) (defBody st) (defScope st) .none kV doc pm an cdv ct), osl⟩) (c : PySem.W.codeIn K cdv qual = true) (k : PySem.W.keepIn K (.ref g) = true) : Me K C x qual st ps := me_mk b a i l c k
theorem msC (X : K.In h) (m : mg y = some (.ref C)) (a : PySem.W.findIn K (.ref C) "small_names" = some (some (.ref g))) (i : PySem.W.isFn K (.ref g) = true)
    (l : K.lookup g = some ⟨oc, od, .func (PySem.W.fnOf "small_names" "Reader.small_names" (defArgs (sR 6)) (defBody (sR 6)) (defScope (sR 6)) .none kV doc pm an cdv ct), osl⟩) (c : PySem.W.codeIn K cdv "Reader.small_names" = true) (k : PySem.W.keepIn K (.ref g) = true) : Ms K C := ms_mk a i l c k
theorem moC {D : Addr} {t : PySem.Tok} (X : K.In h) (x qual : Str) (st : Stmt) (m : mg y = some (.ref C)) (a : PySem.W.findIn K (.ref C) x = some (some (.ref g))) (i : PySem.W.isFn K (.ref g) = true)
    (l : K.lookup g = some ⟨oc, od, .func (PySem.W.fnOf x qual (defArgs st) (defBody st) (defScope st) .none (.ref D) doc pm an cdv ct), osl⟩) (c : PySem.W.codeIn K cdv qual = true) (k : PySem.W.keepIn K (.ref g) = true)
    (s1 : PySem.W.nsIn K D "sort" = some (some (.str "sign" t))) (s2 : PySem.W.nsIn K D "text" = some (some .none)) : Mo K C x qual st kwST := mo_mk a i l c k s1 s2
theorem mkC (X : K.In h) (y : mg y = some (.ref C)) (b : Bo "__init__" qual st ps) (m : PySem.W.makesIn K C = true) (a : PySem.W.findIn K (.ref C) "__init__" = some (some (.ref g))) (i : PySem.W.isFn K (.ref g) = true)
    (l : K.lookup g = some ⟨oc, od, .func (PySem.W.fnOf "__init__" qual (defArgs st) (defBody st) (defScope st) .none kV doc pm an cdv ct), osl⟩) (c : PySem.W.codeIn K cdv qual = true) (k : PySem.W.keepIn K (.ref g) = true) (kC : PySem.W.keepIn K (.ref C) = true) :
    ∃ (f : Addr) (fd : FuncData), L2.Mk K C f ∧ Fun K "__init__" qual st f fd ∧ Binds K fd ps [] := mk_mk b m a i l c k kC
theorem niC (X : K.In h) (y : mg y = some (.ref C)) (b : Bo "__init__" qual st ps) (a : PySem.W.findIn K (.ref C) "__init__" = some (some (.ref g)))
    (l : K.lookup g = some ⟨oc, od, .func (PySem.W.fnOf "__init__" qual (defArgs st) (defBody st) (defScope st) .none kV doc pm an cdv ct), osl⟩) (c : PySem.W.codeIn K cdv qual = true) (k : PySem.W.keepIn K (.ref g) = true) :
    ∃ fd : FuncData, Fun K "__init__" qual st g fd ∧ Binds K fd ps [] := ni_mk b l c k
end
theorem txt_mk {CE CN CW CR fN : Addr} {nm q : Str} {N : Addr} {bs : List Value} {sn : List Str} {sub bm : List Value} {ab : Bool} {col : Option Bool} {dd : Option Addr} {m0 m1 m2 m3 m5 : Option Value}
    (mW : mg "Word" = some (.ref CW)) (mR : mg "Reader" = some (.ref CR)) (mN : mg "NoText" = some (.ref CN)) (mE : mg "ForgeError" = some (.ref CE)) (cW : Cls K CW) (cR : Cls K CR)
    (w1 : NoAttr K CW "manner") (w2 : NoAttr K CW "told") (w3 : NoAttr K CW "column") (r1 : NoAttr K CR "all_words") (r2 : NoAttr K CR "at") (r3 : NoAttr K CR "number") (n1 : NoAttr K CN "row") (n2 : NoAttr K CN "column")
    (ne : CW ≠ CR) (xL : K.lookup CN = some (excClassObj nm q CN N bs bm true sn sub ab col dd m0 m1 m2 m3 m5 "ValueError.__new__")) (rf : PySem.HandSPX.refsVE bm = true)
    (sa : PySem.W.findIn K (.ref CN) "__setattr__" = some (some (.builtin "object.__setattr__"))) (ex : PySem.W.subIn K (.ref CN) (.type "BaseException") = some true) (ty : PySem.W.typeIn K (.ref CN) = some (.type "type")) (kC : PySem.W.keepIn K (.ref CN) = true)
    (iN : PySem.W.findIn K (.ref CN) "__init__" = some (some (.ref fN))) (tN : PySem.W.typeIn K (.ref fN) = some (.type "function"))
    (rE : PySem.W.readsIn K CE (.type "type") = true) (gE : PySem.W.specialIn K (.ref CE) "__getattribute__" = some (some (.builtin "type.__getattribute__"))) (aE : PySem.W.findCls K (.ref CE) (.type "type") "__init__" = some (.val (.builtin "ValueError.__init__")))
    (ic : PySem.W.isClsIn K CN = true) (ss : PySem.W.subIn K (.ref CN) (.ref CN) = some true) : Txt K mg CE CN CW CR fN (.type "type") :=
  ⟨cW, w1, w2, w3, mW, cR, r1, r2, r3, mR, ne, ⟨⟨nm, q, N, bs, bm, sn, sub, ab, col, dd, m0, m1, m2, m3, m5, xL, rf⟩, sa, ex, ty, kC⟩, mN, iN, tN, n1, n2, mE, ⟨rE, gE⟩, aE, exm_self ex ic ty ss⟩
end
end W72
namespace W72
open PySem PySem.W PyProof.Rows
set_option maxHeartbeats 0 in
open_top head for PySem.Challenge.rw_forgeproved_k72_whole_each_bracket_neede
end W72
open PySem PySem.W PyProof.Rows W72
set_option maxRecDepth 100000 in
set_option maxHeartbeats 0 in
theorem PySem.Challenge.cw_forgeproved_k72_whole_each_bracket_neede_holds : PySem.Challenge.rw_forgeproved_k72_whole_each_bracket_neede.Holds := by
  refine W72.head ?_
  k_fill
  refine W72.walk (l := PySem.Challenge.rw_forgeproved_k72_whole_each_bracket_neede) rfl rfl (fun w h Y => PySem.W.kIn_of Y) ?F
  case F =>
    intro w mg fa h KX G hmg
    have z_len := free_mk (x := "len") KX G (by k_is)
    have z_all := free_mk (x := "all") KX G (by k_is)
    have z_isinstance := free_mk (x := "isinstance") KX G (by k_is)
    have z_reversed := free_mk (x := "reversed") KX G (by k_is)
    have z_list := free_mk (x := "list") KX G (by k_is)
    have z_tuple := free_mk (x := "tuple") KX G (by k_is)
    have z_int := free_mk (x := "int") KX G (by k_is)
    have z_str := free_mk (x := "str") KX G (by k_is)
    have z_enumerate := free_mk (x := "enumerate") KX G (by k_is)
    have z_max := free_mk (x := "max") KX G (by k_is)
    have z_min := free_mk (x := "min") KX G (by k_is)
    have z_range := free_mk (x := "range") KX G (by k_is)
    have Z : Bl mg := ⟨z_len, z_all, z_isinstance, z_reversed, z_list, z_tuple, z_int, z_str, z_enumerate, z_max, z_min, z_range⟩
    have g_SMALL := str_mk (x := "SMALL") KX G (by k_is)
    have g_GREAT := str_mk (x := "GREAT") KX G (by k_is)
    have g_FIGURES := str_mk (x := "FIGURES") KX G (by k_is)
    have g_SIGNS := str_mk (x := "SIGNS") KX G (by k_is)
    have g_LONGEST := int_mk (x := "LONGEST") KX G (by k_is)
    have g_MOST_FIGURES := int_mk (x := "MOST_FIGURES") KX G (by k_is)
    have m_Word := PySem.W.mg_of (n := "Word") KX G (by k_is)
    have m_Reader := PySem.W.mg_of (n := "Reader") KX G (by k_is)
    have m_LEVELS := PySem.W.mg_of (n := "LEVELS") KX G (by k_is)
    have m_KEPT_WORDS := PySem.W.mg_of (n := "KEPT_WORDS") KX G (by k_is)
    have m_NoText := PySem.W.mg_of (n := "NoText") KX G (by k_is)
    have m_ForgeError := PySem.W.mg_of (n := "ForgeError") KX G (by k_is)
    have gk := kept_mk KX m_KEPT_WORDS (by k_is) ⟨_, _, _, _, _, _, _, rfl⟩
    have GC : Gc _ mg := ⟨g_SMALL, g_GREAT, g_FIGURES, g_SIGNS, g_LONGEST, g_MOST_FIGURES, gk⟩
    have L := lev_mk (w := w) KX m_LEVELS (by k_is) (by exact ⟨⟨_, _, rfl, rfl⟩, ⟨_, _, rfl, rfl⟩, ⟨_, _, rfl, rfl⟩, ⟨_, _, rfl, rfl⟩, ⟨_, _, rfl, rfl⟩, trivial⟩) (by k_is) (by k_is) (by k_is) (by k_is) (by k_is)
    have cW := cls_mk KX m_Word (by k_is) (by k_is) (by k_is) (by k_is)
    have cR := cls_mk KX m_Reader (by k_is) (by k_is) (by k_is) (by k_is)
    have n_Word_manner := no_mk (f := "manner") KX m_Word (by k_is)
    have n_Word_told := no_mk (f := "told") KX m_Word (by k_is)
    have n_Word_column := no_mk (f := "column") KX m_Word (by k_is)
    have n_Reader_all_words := no_mk (f := "all_words") KX m_Reader (by k_is)
    have n_Reader_at := no_mk (f := "at") KX m_Reader (by k_is)
    have n_Reader_number := no_mk (f := "number") KX m_Reader (by k_is)
    have n_NoText_row := no_mk (f := "row") KX m_NoText (by k_is)
    have n_NoText_column := no_mk (f := "column") KX m_NoText (by k_is)
    have T := txt_mk m_Word m_Reader m_NoText m_ForgeError cW cR n_Word_manner n_Word_told n_Word_column n_Reader_all_words n_Reader_at n_Reader_number n_NoText_row n_NoText_column (by decide) (by k_is) (by decide +kernel) (by k_is) (by k_is) (by k_is) (by k_is) (by k_is) (by k_is) (by k_is) (by k_is) (by k_is) (by k_is) (by k_is)
    have wi := mkC KX m_Word bWi (by k_is) (by k_is) (by k_is) (by k_is) (by k_is) (by k_is) (by k_is)
    have ri := mkC KX m_Reader bRi (by k_is) (by k_is) (by k_is) (by k_is) (by k_is) (by k_is) (by k_is)
    have ni := niC KX m_NoText bNi (by k_is) (by k_is) (by k_is) (by k_is)
    have mNow := meC KX m_Reader bNow (by k_is) (by k_is) (by k_is) (by k_is) (by k_is)
    have mFail := meC KX m_Reader bFail (by k_is) (by k_is) (by k_is) (by k_is) (by k_is)
    have mUn := meC KX m_Reader bUn (by k_is) (by k_is) (by k_is) (by k_is) (by k_is)
    have mEnds := meC KX m_Reader bEnds (by k_is) (by k_is) (by k_is) (by k_is) (by k_is)
    have mSm := msC KX m_Reader (by k_is) (by k_is) (by k_is) (by k_is) (by k_is)
    have mIs := moC KX "is_now" "Reader.is_now" (sR 3) m_Reader (by k_is) (by k_is) (by k_is) (by k_is) (by k_is) (by k_is) (by k_is)
    have mTk := moC KX "take" "Reader.take" (sR 4) m_Reader (by k_is) (by k_is) (by k_is) (by k_is) (by k_is) (by k_is) (by k_is)
    have rT := df_mk b21 KX G (by k_is) (by k_is) (by k_is) (by k_is)
    have rFn := df_mk b22 KX G (by k_is) (by k_is) (by k_is) (by k_is)
    have rLt := df_mk b23 KX G (by k_is) (by k_is) (by k_is) (by k_is)
    have rCs := df_mk b24 KX G (by k_is) (by k_is) (by k_is) (by k_is)
    have rWay := df_mk b25 KX G (by k_is) (by k_is) (by k_is) (by k_is)
    have rCmp := df_mk b26 KX G (by k_is) (by k_is) (by k_is) (by k_is)
    have rSum := df_mk b27 KX G (by k_is) (by k_is) (by k_is) (by k_is)
    have rProd := df_mk b28 KX G (by k_is) (by k_is) (by k_is) (by k_is)
    have rBg := df_mk b29 KX G (by k_is) (by k_is) (by k_is) (by k_is)
    have rCall := df_mk b30 KX G (by k_is) (by k_is) (by k_is) (by k_is)
    have rThing := df_mk b31 KX G (by k_is) (by k_is) (by k_is) (by k_is)
    have rBk := df_mk b32 KX G (by k_is) (by k_is) (by k_is) (by k_is)
    have rLone := df_mk b33 KX G (by k_is) (by k_is) (by k_is) (by k_is)
    have rLones := df_mk b34 KX G (by k_is) (by k_is) (by k_is) (by k_is)
    have rKind := df_mk b35 KX G (by k_is) (by k_is) (by k_is) (by k_is)
    have rMaker := df_mk b36 KX G (by k_is) (by k_is) (by k_is) (by k_is)
    have rData := df_mk b37 KX G (by k_is) (by k_is) (by k_is) (by k_is)
    have sLev := df_mk b43 KX G (by k_is) (by k_is) (by k_is) (by k_is)
    have sSh := df_mk b44 KX G (by k_is) (by k_is) (by k_is) (by k_is)
    have sWh := df_mk b45 KX G (by k_is) (by k_is) (by k_is) (by k_is)
    have sSF := df_mk b46 KX G (by k_is) (by k_is) (by k_is) (by k_is)
    have lSeed := df_mk b53 KX G (by k_is) (by k_is) (by k_is) (by k_is)
    have lToss := df_mk b54 KX G (by k_is) (by k_is) (by k_is) (by k_is)
    have lSmall := df_mk b55 KX G (by k_is) (by k_is) (by k_is) (by k_is)
    have lGreat := df_mk b56 KX G (by k_is) (by k_is) (by k_is) (by k_is)
    have lUnlike := df_mk b57 KX G (by k_is) (by k_is) (by k_is) (by k_is)
    have lLeaf := df_mk b58 KX G (by k_is) (by k_is) (by k_is) (by k_is)
    have lTerm := df_mk b59 KX G (by k_is) (by k_is) (by k_is) (by k_is)
    have oas := df_mk b8 KX G (by k_is) (by k_is) (by k_is) (by k_is)
    have oiss := df_mk b9 KX G (by k_is) (by k_is) (by k_is) (by k_is)
    have oisg := df_mk b10 KX G (by k_is) (by k_is) (by k_is) (by k_is)
    have orun := df_mk b16 KX G (by k_is) (by k_is) (by k_is) (by k_is)
    have osort := df_mk b17 KX G (by k_is) (by k_is) (by k_is) (by k_is)
    have owords := df_mk b18 KX G (by k_is) (by k_is) (by k_is) (by k_is)
    have odfo := df_mk b38 KX G (by k_is) (by k_is) (by k_is) (by k_is)
    have oRP := df_mk b41 KX G (by k_is) (by k_is) (by k_is) (by k_is)
    have oRT := df_mk b42 KX G (by k_is) (by k_is) (by k_is) (by k_is)
    have ost := df_mk b47 KX G (by k_is) (by k_is) (by k_is) (by k_is)
    have oks := df_mk b48 KX G (by k_is) (by k_is) (by k_is) (by k_is)
    have ods := df_mk b49 KX G (by k_is) (by k_is) (by k_is) (by k_is)
    have odfs := df_mk b50 KX G (by k_is) (by k_is) (by k_is) (by k_is)
    have osp := df_mk b51 KX G (by k_is) (by k_is) (by k_is) (by k_is)
    have okd := df_mk b62 KX G (by k_is) (by k_is) (by k_is) (by k_is)
    have odat := df_mk b64 KX G (by k_is) (by k_is) (by k_is) (by k_is)
    have ord := df_mk b67 KX G (by k_is) (by k_is) (by k_is) (by k_is)
    have oprs := df_mk b68 KX G (by k_is) (by k_is) (by k_is) (by k_is)
    have oneed := df_mk b69 KX G (by k_is) (by k_is) (by k_is) (by k_is)
    have oright := df_mk b70 KX G (by k_is) (by k_is) (by k_is) (by k_is)
    exact law_mk ⟨T, Z, GC, L, wi, ri, ni, mNow, mFail, mIs, mTk, mUn, mSm, mEnds, ⟨rT, rFn, rLt, rCs, rWay, rCmp, rSum, rProd, rBg, rCall, rThing, rBk, rLone, rLones, rKind, rMaker, rData⟩, ⟨sLev, sSh, sWh, sSF⟩, ⟨lSeed, lToss, lSmall, lGreat, lUnlike, lLeaf, lTerm⟩, oas, oiss, oisg, orun, osort, owords, odfo, oRP, oRT, ost, oks, ods, odfs, osp, okd, odat, ord, oprs, oneed, oright⟩ KX G hmg (by k_is) (by k_is) (by k_is) (by k_is)
