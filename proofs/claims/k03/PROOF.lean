import PyProof.Rows.All
import Wide.All
import OpenK.AllK
import HandS.List
import HandS.Comp
import HandS.Iter
import HandS.Words
import HandS.TupAny
import HandS.TupMul
import HandS.IsInst
import HandS.Deep
import HandS.TupLe
import Wide.FinOn
import HandS.Ends
import PySem.Challenge.RW_lassohold_k03_least_lassos_are_counted
set_option Elab.async false
set_option linter.all false
set_option maxRecDepth 100000
set_option maxHeartbeats 4000000
/-! M1: plain data, an intermediate form of Python texts, and what it means. -/
namespace M
open PySem (Str PyData)

inductive D where
  | non | bl (b : Bool) | int (i : Int) | str (x : Str) | tup (xs : List D) | ref (n : Nat)
inductive Ob where
  | lst (xs : List D)
  | rdl (xs : List D)
abbrev Sto := List Ob
abbrev Ev := List (Option D)
abbrev Fn := List D → Sto → Option (D × Sto)
def LIM : Nat := 1000000

inductive Bop where | add | sub | mul | fdiv | mod | pow | band | shr
  deriving DecidableEq
inductive Cop where | lt | le | gt | ge | eq | ne | isn | nisn | inn | nin
  deriving DecidableEq
inductive Bi where | len | min | max | int | list | tuple | sum
  deriving DecidableEq
inductive Ty where | list | tuple | bool | str | int
  deriving DecidableEq
inductive Tg where | nm (i : Nat) | tp (is : List Nat)
inductive E where
  | var (i : Nat) | int (i : Int) | bl (b : Bool) | non | str (x : Str)
  | bin (o : Bop) (a b : E) | neg (a : E)
  | cmp (o : Cop) (a b : E) | chn (o p : Cop) (a b c : E)
  | boo (k : Bool) (as : E) | not (a : E) | ite (c a b : E)
  | tup (as : E) | idx (a b : E) | slc (a lo hi : E)
  | call (j : Nat) (as : E) | bi (b : Bi) (as : E) | isi (a : E) (t : Ty)
  | lst (l : E) | tupL (l : E) | nilL (neg : Bool) (l : E) | app (o a : E) | extL (o l : E)
  | disp (as : E) | comp (own : List Nat) (tg : Tg) (it c elt : E)
  | nil | cons (a as : E)
  | seq (a : E) | rng1 (a : E) | rng2 (a b : E) | enm (a : E)
inductive Stm where
  | nil | cons (a b : Stm)
  | set (g : Tg) (e : E) | par (i j : Nat) (a b : E) | setI (o i e : E) | aug (i : Nat) (o : Bop) (e : E)
  | expr (e : E) | ret (e : E) | retN
  | ite (c : E) (a b : Stm) | whl (c : E) (b : Stm) | for_ (g : Tg) (it : E) (b : Stm) | brk | cnt | pass
inductive Out where
  | nx (e : Ev) (S : Sto) | ret (d : D) (S : Sto) | brk (e : Ev) (S : Sto) | cnt (e : Ev) (S : Sto)

/-! ### data -/
def bnd {α β : Type} (m : Option (α × Sto)) (f : α → Sto → Option β) : Option β := match m with
  | none => none
  | some (a, S) => f a S
@[simp] theorem bnd_some {α β : Type} (a : α) (S : Sto) (f : α → Sto → Option β) : bnd (some (a, S)) f = f a S := (rfl)
@[simp] theorem bnd_none {α β : Type} (f : α → Sto → Option β) : bnd none f = none := (rfl)
theorem bnd_eq {α β : Type} {m : Option (α × Sto)} {f : α → Sto → Option β} {r : β} (h : bnd m f = some r) : ∃ a S, m = some (a, S) ∧ f a S = some r := by
  cases m with
  | none => cases h
  | some p => obtain ⟨a, S⟩ := p; exact ⟨a, S, rfl, h⟩
def getv : Ev → Nat → Option D
  | [], _ => none
  | x :: _, 0 => x
  | _ :: r, n + 1 => getv r n
def setv : Ev → Nat → Option D → Ev
  | [], _, _ => []
  | _ :: r, 0, d => d :: r
  | x :: r, n + 1, d => x :: setv r n d
def setvs : List Nat → List D → Ev → Ev
  | i :: is, d :: ds, e => setvs is ds (setv e i (some d))
  | _, _, e => e
def wipev : List Nat → Ev → Ev
  | [], e => e
  | i :: is, e => setv (wipev is e) i none
def asg : Tg → D → Ev → Option Ev
  | .nm i, d, e => some (setv e i (some d))
  | .tp is, .tup ds, e => if is.length = ds.length then some (setvs is ds e) else none
  | _, _, _ => none
mutual
def noRef : D → Bool
  | .ref _ => false
  | .tup xs => noRefs xs
  | .non | .bl _ | .int _ | .str _ => true
def noRefs : List D → Bool
  | [] => true
  | x :: r => noRef x && noRefs r
end
def itemsAt (S : Sto) (n : Nat) : Option (List D) := match S[n]? with
  | some (.lst xs) => some xs
  | some (.rdl xs) => some xs
  | none => none
def sq (S : Sto) : D → Option (List D)
  | .tup xs => some xs
  | .ref n => itemsAt S n
  | _ => none
/-- data as a whole, lists read out of the store -/
def pd (S : Sto) : Nat → D → Option PyData
  | 0, _ => none
  | _ + 1, .non => some .none
  | _ + 1, .bl b => some (.bool b)
  | _ + 1, .int i => some (.int i)
  | _ + 1, .str x => some (.str x)
  | k + 1, .tup xs => (xs.mapM (pd S k)).map .tuple
  | k + 1, .ref n => match itemsAt S n with
    | some xs => (xs.mapM (pd S k)).map .list
    | none => none
def shp (p : PyData) : Prop := p.canLay0 = true ∧ p.depth ≤ 64
instance (p : PyData) : Decidable (shp p) := inferInstanceAs (Decidable (_ ∧ _))
def eqD (S : Sto) (x y : D) : Option Bool := match pd S 64 x, pd S 64 y with
  | some p, some q => if shp p ∧ shp q then some (PyData.eqv p q) else none
  | _, _ => none
def flat : D → Bool
  | .non | .bl _ | .int _ | .str _ => true
  | _ => false
def eqf : D → D → Bool
  | .non, .non => true
  | .bl a, .bl b => a == b
  | .int a, .int b => a == b
  | .str a, .str b => a == b
  | _, _ => false
def flatI : D → Bool
  | .int _ => true
  | _ => false
def small (i : Int) : Prop := -(2 ^ 64) < i ∧ i < 2 ^ 64
instance (i : Int) : Decidable (small i) := inferInstanceAs (Decidable (_ ∧ _))
def intsOf : List D → Option (List Int)
  | [] => some []
  | .int i :: r => (intsOf r).map (i :: ·)
  | _ :: _ => none
/-- x >= y of ints and of tuples of such -/
def geL (f : PyData → PyData → Option Bool) : List PyData → List PyData → Option Bool
  | _, [] => some true
  | [], _ :: _ => some false
  | x :: xs, y :: ys => match f x y, geL f xs ys with
    | some g, some r => some (if PyData.eqv x y = true then r else g)
    | _, _ => none
def geP : Nat → PyData → PyData → Option Bool
  | 0, _, _ => none
  | _ + 1, .int a, .int b => some (decide (b ≤ a))
  | n + 1, .tuple xs, .tuple ys => geL (geP n) xs ys
  | _ + 1, _, _ => none
def repOk (n : Nat) (k : Int) : Prop := n ≤ 10000 ∧ 0 ≤ k ∧ k ≤ 10000 ∧ n * k.toNat ≤ 1000000
instance (n : Nat) (k : Int) : Decidable (repOk n k) := inferInstanceAs (Decidable (_ ∧ _))
def binD (o : Bop) (x y : D) (S : Sto) : Option (D × Sto) := match o, x, y with
  | .add, .int i, .int j => some (.int (i + j), S)
  | .sub, .int i, .int j => some (.int (i - j), S)
  | .mul, .int i, .int j => if small i ∨ small j then some (.int (i * j), S) else none
  | .fdiv, .int i, .int j => if 0 < j ∧ j < 1073741824 then some (.int (i / j), S) else none
  | .mod, .int i, .int j => if 0 < j then some (.int (i % j), S) else none
  | .pow, .int i, .int j => if 0 ≤ j ∧ j ≤ 1000000 ∧ i.natAbs < 2 ^ 64 then some (.int (i ^ j.toNat), S) else none
  | .band, .int i, .int j => some (.int (PySem.Builtin.bitAnd i j), S)
  | .shr, .int i, .int j => if 0 ≤ j then some (.int (i / 2 ^ j.toNat), S) else none
  | .add, .tup a, .tup b => if a.length + b.length ≤ LIM then some (.tup (a ++ b), S) else none
  | .add, .str a, .str b => if a.length + b.length ≤ LIM then some (.str (a ++ b), S) else none
  | .add, .ref n, .ref m => match S[n]?, S[m]? with
    | some (.lst a), some (.lst b) => if a.length + b.length ≤ LIM then some (.ref S.length, S ++ [.lst (a ++ b)]) else none
    | _, _ => none
  | .mul, .tup a, .int k => if repOk a.length k then some (.tup (List.replicate k.toNat a).flatten, S) else none
  | _, _, _ => none
def memD (x y : D) (S : Sto) : Option Bool := match y with
  | .tup ys => if flatI x = true ∧ ys.all flatI = true then some (ys.any (eqf x)) else none
  | .ref n => match pd S 64 x, pd S 64 (.ref n) with
    | some p, some (.list qs) => if shp p ∧ shp (.list qs) then some (qs.any fun z => PyData.eqv z p) else none
    | _, _ => none
  | _ => none
def geD (S : Sto) (x y : D) : Option Bool := match pd S 64 x, pd S 64 y with
  | some p, some q => if shp p ∧ shp q then geP 8 p q else none
  | _, _ => none
def cmpD (o : Cop) (x y : D) (S : Sto) : Option Bool := match o, x, y with
  | .lt, .int i, .int j => some (decide (i < j))
  | .le, .int i, .int j => some (decide (i ≤ j))
  | .gt, .int i, .int j => some (decide (j < i))
  | .ge, .int i, .int j => some (decide (j ≤ i))
  | .ge, .tup a, .tup b => geD S (.tup a) (.tup b)
  | .eq, x, y => eqD S x y
  | .ne, x, y => (eqD S x y).map (!·)
  | .isn, x, .non => some (match x with | .non => true | _ => false)
  | .nisn, x, .non => some (match x with | .non => false | _ => true)
  | .inn, x, y => memD x y S
  | .nin, x, y => (memD x y S).map (!·)
  | _, _, _ => none
def truD (S : Sto) : D → Option Bool
  | .non => some false
  | .bl b => some b
  | .int i => some (i != 0)
  | .tup xs => some (!xs.isEmpty)
  | .ref n => match itemsAt S n with
    | some xs => some (!xs.isEmpty)
    | none => none
  | _ => none
def isiD (t : Ty) (x : D) (S : Sto) : Option Bool := match x with
  | .non => some false
  | .bl _ => some (t == .bool || t == .int)
  | .int _ => some (t == .int)
  | .str _ => some (t == .str)
  | .tup _ => some (t == .tuple)
  | .ref n => match S[n]? with
    | some _ => some (t == .list)
    | none => none
def biD (b : Bi) (ds : List D) (S : Sto) : Option (D × Sto) := match b, ds with
  | .len, [x] => match sq S x with
    | some xs => some (.int xs.length, S)
    | none => none
  | .min, [.int i, .int j] => some (.int (if j < i then j else i), S)
  | .max, [.int i, .int j] => some (.int (if j > i then j else i), S)
  | .sum, [.ref n] => match itemsAt S n with
    | some xs => match intsOf xs with
      | some ns => some (.int ns.sum, S)
      | none => none
    | none => none
  | .int, [.int i] => some (.int i, S)
  | .int, [.bl k] => some (.int (if k = true then 1 else 0), S)
  | .list, [x] => match sq S x with
    | some xs => some (.ref S.length, S ++ [.lst xs])
    | none => none
  | .tuple, [x] => match sq S x with
    | some xs => some (.tup xs, S)
    | none => none
  | _, _ => none
def idxD (x y : D) (S : Sto) : Option (D × Sto) := match y with
  | .int i => match sq S x with
    | some xs => (L2.atI xs i).map (·, S)
    | none => none
  | _ => none
def cut (xs : List D) (lo hi : Option Int) : List D := (xs.drop (HT.sIx xs.length 0 lo)).take (HT.sIx xs.length xs.length hi - HT.sIx xs.length 0 lo)
def slcD (x : D) (lo hi : Option Int) (S : Sto) : Option (D × Sto) := match x with
  | .tup xs => some (.tup (cut xs lo hi), S)
  | .ref n => match itemsAt S n with
    | some xs => some (.ref S.length, S ++ [.lst (cut xs lo hi)])
    | none => none
  | _ => none
def appD (x y : D) (S : Sto) : Option (D × Sto) := match x with
  | .ref n => match S[n]? with
    | some (.lst xs) => if xs.length < LIM then some (.non, S.set n (.lst (xs ++ [y]))) else none
    | _ => none
  | _ => none
def extD (x : D) (ys : List D) (S : Sto) : Option (D × Sto) := match x with
  | .ref n => match S[n]? with
    | some (.lst xs) => if xs.length + ys.length ≤ LIM then some (.non, S.set n (.lst (xs ++ ys))) else none
    | _ => none
  | _ => none
def setID (x i y : D) (S : Sto) : Option Sto := match x, i with
  | .ref n, .int k => match S[n]? with
    | some (.lst xs) => match L2.ixN xs.length k with
      | some j => some (S.set n (.lst (xs.set j y)))
      | none => none
    | _ => none
  | _, _ => none

/-- the items can be compared -/
def nilOk (S : Sto) (ds : List D) : Prop := ∃ ps, ds.mapM (pd S 63) = some ps ∧ shp (.list ps)
open Classical in
noncomputable def nilD (neg : Bool) (ds : List D) (S : Sto) : Option (D × Sto) := if nilOk S ds then some (.bl (if neg = true then !ds.isEmpty else ds.isEmpty), S) else none
/-! ### walks -/
structure Sq where
  ds : List D
  src : Option (Nat × List D)
open Classical in
noncomputable instance : DecidableEq Ob := fun _ _ => inferInstance
def okS (S : Sto) (q : Option (Nat × List D)) : Prop := match q with
  | none => True
  | some (n, ds) => itemsAt S n = some ds
def lim62 (j : Int) : Prop := -(2 ^ 62) ≤ j ∧ j < 2 ^ 62
instance (i : Int) : Decidable (lim62 i) := inferInstanceAs (Decidable (_ ∧ _))
def seqD (x : D) (S : Sto) : Option (Sq × Sto) := match x with
  | .tup xs => some (⟨xs, none⟩, S)
  | .ref n => match itemsAt S n with
    | some xs => some (⟨xs, some (n, xs)⟩, S)
    | none => none
  | _ => none
def rng (i : Int) (n : Nat) : List D := (List.range n).map fun (k : Nat) => D.int (i + k)
def rngD (x y : D) (S : Sto) : Option (Sq × Sto) := match x, y with
  | .int i, .int j => if lim62 i ∧ lim62 j then some (⟨rng i (j - i).toNat, none⟩, S) else none
  | _, _ => none
def enmFrom : Nat → List D → List D
  | _, [] => []
  | k, x :: r => D.tup [.int k, x] :: enmFrom (k + 1) r
def enmD (x : D) (S : Sto) : Option (Sq × Sto) := match x with
  | .ref n => match itemsAt S n with
    | some xs => some (⟨enmFrom 0 xs, some (n, xs)⟩, S)
    | none => none
  | _ => none
open Classical in
/-- turn by turn; all: what the source must hold -/
noncomputable def forD (b : D → Ev → Sto → Option Out) (ok : Sto → Prop) : List D → Ev → Sto → Option Out
  | [], e, S => if ok S then some (.nx e S) else none
  | d :: ds, e, S => if ok S then (match b d e S with
    | some (.nx e' S') => forD b ok ds e' S'
    | some (.cnt e' S') => forD b ok ds e' S'
    | some (.brk e' S') => some (.nx e' S')
    | r => r) else none
open Classical in
noncomputable def compD (b : D → Sto → Option (Option D × Sto)) (ok : Sto → Prop) : List D → List D → Sto → Option (List D × Sto)
  | [], acc, S => if ok S then some (acc, S) else none
  | d :: ds, acc, S => if ok S then (match b d S with
    | some (some y, S') => if acc.length < LIM then compD b ok ds (acc ++ [y]) S' else none
    | some (none, S') => compD b ok ds acc S'
    | none => none) else none
/-- while, n turns at most -/
def whN (c : Ev → Sto → Option (Bool × Sto)) (b : Ev → Sto → Option Out) : Nat → Ev → Sto → Option Out
  | 0, _, _ => none
  | n + 1, e, S => match c e S with
    | some (true, S') => (match b e S' with
      | some (.nx e' S'') => whN c b n e' S''
      | some (.cnt e' S'') => whN c b n e' S''
      | some (.brk e' S'') => some (.nx e' S'')
      | r => r)
    | some (false, S') => some (.nx e S')
    | none => none
theorem whN_mono {c : Ev → Sto → Option (Bool × Sto)} {b : Ev → Sto → Option Out} : ∀ {n : Nat} {e : Ev} {S : Sto} {o : Out}, whN c b n e S = some o → whN c b (n + 1) e S = some o
  | 0, _, _, _, h => by cases h
  | n + 1, e, S, o, h => by
    unfold whN at h ⊢
    split at h
    · rename_i S' hc
      split at h
      · exact whN_mono h
      · exact whN_mono h
      · exact h
      · exact h
    · exact h
    · cases h
theorem whN_le {c : Ev → Sto → Option (Bool × Sto)} {b : Ev → Sto → Option Out} {n m : Nat} {e : Ev} {S : Sto} {o : Out} (h : whN c b n e S = some o) (hm : n ≤ m) : whN c b m e S = some o := by
  induction hm with
  | refl => exact h
  | step _ ih => exact whN_mono ih
open Classical in
noncomputable def wh (c : Ev → Sto → Option (Bool × Sto)) (b : Ev → Sto → Option Out) (e : Ev) (S : Sto) : Option Out :=
  if h : ∃ n o, whN c b n e S = some o then some h.choose_spec.choose else none
theorem wh_of {c : Ev → Sto → Option (Bool × Sto)} {b : Ev → Sto → Option Out} {e : Ev} {S : Sto} {n : Nat} {o : Out} (h : whN c b n e S = some o) : wh c b e S = some o := by
  have hx : ∃ n o, whN c b n e S = some o := ⟨n, o, h⟩
  unfold wh
  rw [dif_pos hx]
  have h2 := hx.choose_spec.choose_spec
  have h3 := whN_le h (Nat.le_max_left n hx.choose)
  have h4 := whN_le h2 (Nat.le_max_right n hx.choose)
  rw [h3] at h4
  exact congrArg some (Option.some.inj h4).symm
theorem of_wh {c : Ev → Sto → Option (Bool × Sto)} {b : Ev → Sto → Option Out} {e : Ev} {S : Sto} {o : Out} (h : wh c b e S = some o) : ∃ n, whN c b n e S = some o := by
  unfold wh at h
  split at h
  · rename_i hx
    have e1 := hx.choose_spec.choose_spec
    rw [Option.some.inj h] at e1
    exact ⟨_, e1⟩
  · cases h
theorem wh_eq {c : Ev → Sto → Option (Bool × Sto)} {b : Ev → Sto → Option Out} {e : Ev} {S : Sto} : wh c b e S = match c e S with
    | some (true, S') => (match b e S' with
      | some (.nx e' S'') => wh c b e' S''
      | some (.cnt e' S'') => wh c b e' S''
      | some (.brk e' S'') => some (.nx e' S'')
      | r => r)
    | some (false, S') => some (.nx e S')
    | none => none := by
  apply Option.ext
  intro o
  constructor
  · intro h
    obtain ⟨n, hn⟩ := of_wh h
    cases n with
    | zero => cases hn
    | succ n =>
      unfold whN at hn
      split at hn
      · split at hn
        · exact wh_of hn
        · exact wh_of hn
        · exact hn
        · exact hn
      · exact hn
      · cases hn
  · intro h
    split at h
    · rename_i S' hc
      split at h
      · rename_i e' S'' hb
        obtain ⟨n, hn⟩ := of_wh h
        exact wh_of (n := n + 1) (by unfold whN; rw [hc]; simp only [hb]; exact hn)
      · rename_i e' S'' hb
        obtain ⟨n, hn⟩ := of_wh h
        exact wh_of (n := n + 1) (by unfold whN; rw [hc]; simp only [hb]; exact hn)
      · rename_i e' S'' hb
        exact wh_of (n := 1) (by unfold whN; rw [hc]; simp only [hb]; exact h)
      · rename_i h1 h2 h3
        refine wh_of (n := 1) ?_
        unfold whN
        rw [hc]
        dsimp only
        split
        · rename_i hh; exact absurd hh (h1 _ _)
        · rename_i hh; exact absurd hh (h2 _ _)
        · rename_i hh; exact absurd hh (h3 _ _)
        · exact h
    · rename_i hc
      exact wh_of (n := 1) (by unfold whN; rw [hc]; exact h)
    · cases h

/-! ### expressions -/
structure Sm where
  v : Ev → Sto → Option (D × Sto)
  t : Ev → Sto → Option (Bool × Sto)
  a : Ev → Sto → Option (List D × Sto)
  vb : Bool → Ev → Sto → Option (D × Sto)
  tb : Bool → Ev → Sto → Option (Bool × Sto)
  o : Ev → Sto → Option (Option Int × Sto)
  i : Ev → Sto → Option (Sq × Sto)
def tstF (v : Ev → Sto → Option (D × Sto)) : Ev → Sto → Option (Bool × Sto) := fun e S => bnd (v e S) fun x S => (truD S x).map (·, S)
def prtF (v : Ev → Sto → Option (D × Sto)) : Ev → Sto → Option (Option Int × Sto) := fun e S => bnd (v e S) fun x S => match x with
  | .int i => some (some i, S)
  | _ => none
/-- the meaning of a comprehension's turn -/
def turnF (own : List Nat) (tg : Tg) (c : Ev → Sto → Option (Bool × Sto)) (elt : Ev → Sto → Option (D × Sto)) (e : Ev) (d : D) (S : Sto) : Option (Option D × Sto) := match asg tg d (wipev own e) with
  | none => none
  | some e' => bnd (c e' S) fun k S => if k = true then bnd (elt e' S) fun y S => some (some y, S) else some (none, S)
def bodyF (g : Tg) (b : Ev → Sto → Option Out) (d : D) (e : Ev) (S : Sto) : Option Out := match asg g d e with
  | none => none
  | some e' => b e' S
def Sm.no : Sm := ⟨fun _ _ => none, fun _ _ => none, fun _ _ => none, fun _ _ _ => none, fun _ _ _ => none, fun _ _ => none, fun _ _ => none⟩
/-- a value: its test, its use as a part of a slice -/
def Sm.val (v : Ev → Sto → Option (D × Sto)) : Sm := { Sm.no with
  v := v
  t := tstF v
  o := prtF v }
def Sm.vt (v : Ev → Sto → Option (D × Sto)) (t : Ev → Sto → Option (Bool × Sto)) : Sm := ⟨v, t, fun _ _ => none, fun _ _ _ => none, fun _ _ _ => none, fun _ _ => none, fun _ _ => none⟩
def Sm.cs (a : Ev → Sto → Option (List D × Sto)) (vb : Bool → Ev → Sto → Option (D × Sto)) (tb : Bool → Ev → Sto → Option (Bool × Sto)) : Sm := ⟨fun _ _ => none, fun _ _ => none, a, vb, tb, fun _ _ => none, fun _ _ => none⟩
def Sm.ar (a : Ev → Sto → Option (List D × Sto)) : Sm := ⟨fun _ _ => none, fun _ _ => none, a, fun _ _ _ => none, fun _ _ _ => none, fun _ _ => none, fun _ _ => none⟩
noncomputable def sem (T : List Fn) : E → Sm
  | .var i => .val fun e S => (getv e i).map (·, S)
  | .int i => .val fun _ S => some (.int i, S)
  | .bl b => .val fun _ S => some (.bl b, S)
  | .non => .val fun _ S => some (.non, S)
  | .str x => .val fun _ S => some (.str x, S)
  | .bin o a b => .val fun e S => bnd ((sem T a).v e S) fun x S => bnd ((sem T b).v e S) fun y S => binD o x y S
  | .neg a => .val fun e S => bnd ((sem T a).v e S) fun x S => match x with
    | .int i => some (.int (-i), S)
    | _ => none
  | .cmp o a b => .val fun e S => bnd ((sem T a).v e S) fun x S => bnd ((sem T b).v e S) fun y S => (cmpD o x y S).map fun k => (.bl k, S)
  | .chn o p a b c => .val fun e S => bnd ((sem T a).v e S) fun x S => bnd ((sem T b).v e S) fun y S => match cmpD o x y S with
    | some true => bnd ((sem T c).v e S) fun z S => (cmpD p y z S).map fun k => (.bl k, S)
    | some false => some (.bl false, S)
    | none => none
  | .boo k as => { Sm.no with v := (sem T as).vb k, t := (sem T as).tb k }
  | .not a => Sm.vt (fun e S => bnd ((sem T a).v e S) fun x S => match x with
        | .bl k => some (.bl (!k), S)
        | _ => none)
      (fun e S => bnd ((sem T a).t e S) fun k S => some (!k, S))
  | .ite c a b => { Sm.no with v := fun e S => bnd ((sem T c).t e S) fun k S => if k = true then (sem T a).v e S else (sem T b).v e S }
  | .tup as => .val fun e S => bnd ((sem T as).a e S) fun ds S => if ds.length ≤ LIM then some (.tup ds, S) else none
  | .idx a b => .val fun e S => bnd ((sem T a).v e S) fun x S => bnd ((sem T b).v e S) fun y S => idxD x y S
  | .slc a lo hi => .val fun e S => bnd ((sem T a).v e S) fun x S => bnd ((sem T lo).o e S) fun l S => bnd ((sem T hi).o e S) fun h S => slcD x l h S
  | .call j as => .val fun e S => bnd ((sem T as).a e S) fun ds S => match T[j]? with
    | some F => F ds S
    | none => none
  | .bi b as => .val fun e S => bnd ((sem T as).a e S) fun ds S => biD b ds S
  | .isi a t => .val fun e S => bnd ((sem T a).v e S) fun x S => (isiD t x S).map fun k => (.bl k, S)
  | .lst l => .val fun e S => bnd ((sem T l).a e S) fun ds S => some (.ref S.length, S ++ [.lst ds])
  | .tupL l => .val fun e S => bnd ((sem T l).a e S) fun ds S => some (.tup ds, S)
  | .nilL neg l => .val fun e S => bnd ((sem T l).a e S) (nilD neg)
  | .app o a => .val fun e S => bnd ((sem T o).v e S) fun x S => bnd ((sem T a).v e S) fun y S => appD x y S
  | .extL o l => .val fun e S => bnd ((sem T o).v e S) fun x S => bnd ((sem T l).a e S) fun ys S => extD x ys S
  | .disp as => { Sm.no with a := fun e S => bnd ((sem T as).a e S) fun ds S => if ds.length ≤ LIM then some (ds, S) else none }
  | .comp own tg it c elt => Sm.ar fun e S => bnd ((sem T it).i e S) fun q S =>
      compD (turnF own tg (sem T c).t (sem T elt).v e) (fun S => okS S q.src) q.ds [] S
  | .nil => { Sm.no with a := fun _ S => some ([], S), o := fun _ S => some (none, S), t := fun _ S => some (true, S) }
  | .cons a as => Sm.cs (fun e S => bnd ((sem T a).v e S) fun x S => bnd ((sem T as).a e S) fun xs S => some (x :: xs, S))
      (fun k e S => match as with
        | .nil => (sem T a).v e S
        | _ => bnd ((sem T a).v e S) fun x S => match x with
          | .bl b => if b = k then (sem T as).vb k e S else some (.bl b, S)
          | _ => none)
      (fun k e S => match as with
        | .nil => (sem T a).t e S
        | _ => bnd ((sem T a).t e S) fun b S => if b = k then (sem T as).tb k e S else some (b, S))
  | .seq a => { Sm.no with i := fun e S => bnd ((sem T a).v e S) seqD }
  | .rng1 a => { Sm.no with i := fun e S => bnd ((sem T a).v e S) fun y S => rngD (.int 0) y S }
  | .rng2 a b => { Sm.no with i := fun e S => bnd ((sem T a).v e S) fun x S => bnd ((sem T b).v e S) fun y S => rngD x y S }
  | .enm a => { Sm.no with i := fun e S => bnd ((sem T a).v e S) enmD }

/-- one statement behind another -/
def seqO (r : Option Out) (k : Ev → Sto → Option Out) : Option Out := match r with
  | some (.nx e S) => k e S
  | r => r
noncomputable def exec (T : List Fn) : Stm → Ev → Sto → Option Out
  | .nil, e, S => some (.nx e S)
  | .pass, e, S => some (.nx e S)
  | .cons a b, e, S => seqO (exec T a e S) (exec T b)
  | .set g x, e, S => bnd ((sem T x).v e S) fun d S => (asg g d e).map (.nx · S)
  | .par i j a b, e, S => bnd ((sem T a).v e S) fun x S => bnd ((sem T b).v e S) fun y S => some (.nx (setv (setv e i (some x)) j (some y)) S)
  | .setI o i x, e, S => bnd ((sem T x).v e S) fun y S => bnd ((sem T o).v e S) fun ov S => bnd ((sem T i).v e S) fun iv S => (setID ov iv y S).map (.nx e ·)
  | .aug i o x, e, S => match getv e i with
    | some v => bnd ((sem T x).v e S) fun y S => match v, y with
      | .int _, .int _ => bnd (binD o v y S) fun z S => some (.nx (setv e i (some z)) S)
      | _, _ => none
    | none => none
  | .expr x, e, S => bnd ((sem T x).v e S) fun _ S => some (.nx e S)
  | .ret x, e, S => bnd ((sem T x).v e S) fun d S => some (.ret d S)
  | .retN, _, S => some (.ret .non S)
  | .ite c a b, e, S => bnd ((sem T c).t e S) fun k S => if k = true then exec T a e S else exec T b e S
  | .whl c b, e, S => wh (sem T c).t (exec T b) e S
  | .for_ g it b, e, S => bnd ((sem T it).i e S) fun q S => forD (bodyF g (exec T b)) (fun S => okS S q.src) q.ds e S
  | .brk, e, S => some (.brk e S)
  | .cnt, e, S => some (.cnt e S)
open Classical in
/-- new objects that nothing holds any more are forgotten -/
noncomputable def gcD (S : Sto) (d : D) (S' : Sto) : D × Sto := if S'.take S.length = S ∧ noRef d = true then (d, S) else (d, S')
noncomputable def endO (S : Sto) (r : Option Out) : Option (D × Sto) := match r with
  | some (.ret d S') => some (gcD S d S')
  | some (.nx _ S') => some (gcD S .non S')
  | _ => none
noncomputable def fnD (T : List Fn) (n np : Nat) (b : Stm) : Fn := fun ds S =>
  if ds.length = np then endO S (exec T b (ds.map some ++ List.replicate (n - np) none) S) else none
end M

/-! M2: plain data in the abstract heap. -/
namespace M
open PySem PySem.Spec PyProof.Rows L2
section
variable (K : PySem.W.Frag)
mutual
def Rep (R : List Addr) (H : Hp) : V → D → Prop
  | v, .non => v = .non
  | v, .bl b => v = .bl b
  | v, .int i => v = .int i
  | v, .str x => v = .str x
  | v, .tup ds => ∃ a vs, v = .ref a ∧ SqT K H a vs ∧ Reps R H vs ds
  | v, .ref n => ∃ a, R[n]? = some a ∧ v = .ref a
def Reps (R : List Addr) (H : Hp) : List V → List D → Prop
  | vs, [] => vs = []
  | vs, d :: ds => ∃ v r, vs = v :: r ∧ Rep R H v d ∧ Reps R H r ds
end
/-- tuples stand, known objects keep their numbers -/
structure Lo (R : List Addr) (H : Hp) (R' : List Addr) (H' : Hp) : Prop where
  ext : R <+: R'
  tst : ∀ a xs, SqT K H a xs → SqT K H' a xs
/-- the object at a may be written -/
def Mt (R : List Addr) (S : Sto) (a : Addr) : Prop := ∃ (n : Nat) (xs : List D), R[n]? = some a ∧ S[n]? = some (.lst xs)
structure Le (R : List Addr) (H : Hp) (S : Sto) (R' : List Addr) (H' : Hp) (S' : Sto) : Prop extends Lo K R H R' H' where
  fr : ∀ a o, H a = some o → ¬ Mt R S a → H' a = some o
  nw : ∀ a, Mt R' S' a → ¬ Mt R S a → H a = none
  kd : ∀ (n : Nat) (xs : List D), S[n]? = some (.lst xs) → ∃ ys, S'[n]? = some (.lst ys)
/-- a list of the module's own -/
def KL (a : Addr) (xs : List V) : Prop :=
  ∃ (o : Obj) (its : Array Value) (n : Nat), K.lookup a = some o ∧ o.cls = .type "list" ∧ o.dict = none ∧ o.data = .seq its n ∧ its.size ≤ sizeLine ∧ Vals xs its.toList
def RepO (R : List Addr) (H : Hp) (a : Addr) : Ob → Prop
  | .lst ds => ∃ vs, H a = some (.lst vs) ∧ Reps K R H vs ds
  | .rdl ds => ∃ vs, ((∃ o, H a = some (.frz o (.lst vs))) ∨ KL K a vs) ∧ Reps K R H vs ds
structure AbsH (R : List Addr) (H : Hp) (S : Sto) : Prop where
  len : R.length = S.length
  nd : ∀ (n m : Nat) (a : Addr) (xs ys : List D), R[n]? = some a → R[m]? = some a → S[n]? = some (.lst xs) → S[m]? = some (.lst ys) → n = m
  ob : ∀ (n : Nat) (o : Ob), S[n]? = some o → ∃ a, R[n]? = some a ∧ RepO K R H a o
structure Abs (R : List Addr) (σ : L2.St) (H : Hp) (e : Ev) (S : Sto) : Prop where
  h : AbsH K R H S
  len : σ.length = e.length
  st : ∀ i d, getv e i = some d → ∃ v, σ[i]? = some (some v) ∧ Rep K R H v d
end
section
variable {K : PySem.W.Frag} {R R' R'' : List Addr} {H H' H'' : Hp} {S S' S'' : Sto} {e : Ev} {σ : L2.St}
mutual
theorem Rep.mono (L : Lo K R H R' H') : ∀ {d : D} {v : V}, Rep K R H v d → Rep K R' H' v d
  | .non, _, h => h
  | .bl _, _, h => h
  | .int _, _, h => h
  | .str _, _, h => h
  | .tup _, _, ⟨a, vs, e, hs, hr⟩ => ⟨a, vs, e, L.tst _ _ hs, Reps.mono L hr⟩
  | .ref _, _, ⟨a, e1, e2⟩ => ⟨a, by
      obtain ⟨t, rfl⟩ := L.ext
      rw [List.getElem?_append_left (List.getElem?_eq_some_iff.mp e1).1]
      exact e1, e2⟩
theorem Reps.mono (L : Lo K R H R' H') : ∀ {ds : List D} {vs : List V}, Reps K R H vs ds → Reps K R' H' vs ds
  | [], _, h => h
  | _ :: _, _, ⟨v, r, e, h1, h2⟩ => ⟨v, r, e, Rep.mono L h1, Reps.mono L h2⟩
end
theorem Reps.length : ∀ {ds : List D} {vs : List V}, Reps K R H vs ds → vs.length = ds.length
  | [], _, h => by
    have e : _ = [] := h
    rw [e] <;> rfl
  | _ :: _, _, ⟨v, r, e, h1, h2⟩ => by rw [e, List.length_cons, List.length_cons, Reps.length h2]
theorem Reps.get : ∀ {ds : List D} {vs : List V} {i : Nat} {d : D}, Reps K R H vs ds → ds[i]? = some d → ∃ v, vs[i]? = some v ∧ Rep K R H v d
  | [], _, _, _, _, h => by cases h
  | _ :: _, _, 0, _, ⟨v, r, e, h1, h2⟩, h => by
    cases h
    exact ⟨v, by rw [e]; rfl, h1⟩
  | _ :: _, _, i + 1, d, ⟨v, r, e, h1, h2⟩, h => by
    obtain ⟨v', e1, r1⟩ := Reps.get (i := i) (d := d) h2 h
    exact ⟨v', by rw [e]; exact e1, r1⟩
theorem Reps.append : ∀ {ds es : List D} {vs ws : List V}, Reps K R H vs ds → Reps K R H ws es → Reps K R H (vs ++ ws) (ds ++ es)
  | [], _, _, _, h, q => by
    have e : _ = [] := h
    rw [e]
    exact q
  | _ :: _, _, _, _, ⟨v, r, e, h1, h2⟩, q => ⟨v, _, by rw [e]; rfl, h1, Reps.append h2 q⟩
theorem Reps.one {v : V} {d : D} (h : Rep K R H v d) : Reps K R H [v] [d] := ⟨v, [], rfl, h, rfl⟩
theorem Reps.drop : ∀ {ds : List D} {vs : List V} (n : Nat), Reps K R H vs ds → Reps K R H (vs.drop n) (ds.drop n)
  | _, _, 0, h => h
  | [], _, _ + 1, h => by
    have e : _ = [] := h
    rw [e]
    rfl
  | _ :: _, _, n + 1, ⟨v, r, e, h1, h2⟩ => by
    rw [e]
    exact Reps.drop n h2
theorem Reps.take : ∀ {ds : List D} {vs : List V} (n : Nat), Reps K R H vs ds → Reps K R H (vs.take n) (ds.take n)
  | _, _, 0, h => rfl
  | [], _, _ + 1, h => by
    have e : _ = [] := h
    rw [e]
    rfl
  | _ :: _, _, n + 1, ⟨v, r, e, h1, h2⟩ => by
    rw [e]
    exact ⟨v, _, rfl, h1, Reps.take n h2⟩
theorem Reps.set {v : V} {d : D} (h : Rep K R H v d) : ∀ {ds : List D} {vs : List V} (n : Nat), Reps K R H vs ds → Reps K R H (vs.set n v) (ds.set n d)
  | [], _, _, q => by
    have e : _ = [] := q
    rw [e]
    rfl
  | _ :: _, _, 0, ⟨w, r, e, h1, h2⟩ => ⟨v, r, by rw [e]; rfl, h, h2⟩
  | _ :: _, _, n + 1, ⟨w, r, e, h1, h2⟩ => ⟨w, _, by rw [e]; rfl, h1, Reps.set h n h2⟩
theorem Reps.rep {ds : List D} {vs : List V} (h : Reps K R H vs ds) : ∀ k : Nat, Reps K R H (List.replicate k vs).flatten (List.replicate k ds).flatten
  | 0 => rfl
  | k + 1 => by
    rw [List.replicate_succ, List.replicate_succ, List.flatten_cons, List.flatten_cons]
    exact Reps.append h (Reps.rep h k)
/-! ### Lo, Le -/
theorem Lo.refl : Lo K R H R H := ⟨List.prefix_refl _, fun _ _ h => h⟩
theorem Lo.trans (a : Lo K R H R' H') (b : Lo K R' H' R'' H'') : Lo K R H R'' H'' := ⟨a.ext.trans b.ext, fun _ _ h => b.tst _ _ (a.tst _ _ h)⟩
theorem Le.refl : Le K R H S R H S := ⟨Lo.refl, fun _ _ h _ => h, fun _ h n => absurd h n, fun _ xs h => ⟨xs, h⟩⟩
theorem Le.trans (a : Le K R H S R' H' S') (b : Le K R' H' S' R'' H'' S'') : Le K R H S R'' H'' S'' := by
  have key : ∀ x o, H x = some o → ¬ Mt R S x → ¬ Mt R' S' x := fun x o h n z => by
    have := a.nw x z n
    rw [h] at this
    cases this
  refine ⟨a.toLo.trans b.toLo, fun x o h n => b.fr x o (a.fr x o h n) (key x o h n), fun x h n => ?_, fun n xs h => let ⟨_, h1⟩ := a.kd n xs h; b.kd n _ h1⟩
  by_cases z : Mt R' S' x
  · exact a.nw x z n
  · have h1 := b.nw x h z
    cases q : H x with
    | none => rfl
    | some o =>
      have := a.fr x o q n
      rw [h1] at this
      cases this
/-! ### what the store's objects are -/
theorem AbsH.lst {n : Nat} {ds : List D} (A : AbsH K R H S) (h : S[n]? = some (.lst ds)) : ∃ a vs, R[n]? = some a ∧ H a = some (.lst vs) ∧ Reps K R H vs ds := by
  obtain ⟨a, e, q⟩ := A.ob n _ h
  obtain ⟨vs, h1, h2⟩ := q
  exact ⟨a, vs, e, h1, h2⟩
theorem AbsH.items {n : Nat} {ds : List D} (A : AbsH K R H S) (h : itemsAt S n = some ds) : ∃ a vs, R[n]? = some a ∧ SqL K H a vs ∧ Reps K R H vs ds := by
  unfold itemsAt at h
  split at h
  · rename_i xs e
    cases h
    obtain ⟨a, vs, e1, e2, e3⟩ := A.lst e
    exact ⟨a, vs, e1, SqL.of e2, e3⟩
  · rename_i xs e
    cases h
    obtain ⟨a, e1, vs, q, e3⟩ := A.ob n _ e
    refine ⟨a, vs, e1, ?_, e3⟩
    rcases q with ⟨o, q⟩ | q
    · exact .inl (.inr ⟨o, q⟩)
    · exact .inr q
  · cases h
/-- the object at n by its number -/
theorem rep_ref {n : Nat} {v : V} {a : Addr} (h : Rep K R H v (.ref n)) (e : R[n]? = some a) : v = .ref a := by
  obtain ⟨b, e1, e2⟩ := h
  rw [e] at e1
  cases e1
  exact e2
/-! ### new objects -/
theorem sqT_upd {p : Addr} {o : HO} (hp : H p = none) {a : Addr} {xs : List V} (h : SqT K H a xs) : SqT K (upd H p o) a xs := by
  rcases h with (h | ⟨u, h⟩) | h
  · exact .inl (.inl (by rw [upd_ne (ne_of_none h hp)]; exact h))
  · exact .inl (.inr ⟨u, by rw [upd_ne (ne_of_none h hp)]; exact h⟩)
  · exact .inr h
theorem RepO.mono {a : Addr} {o : Ob} (L : Lo K R H R' H') (k : ∀ u, H a = some u → H' a = some u) (h : RepO K R H a o) : RepO K R' H' a o := by
  cases o with
  | lst ds =>
    obtain ⟨vs, h1, h2⟩ := h
    exact ⟨vs, k _ h1, h2.mono L⟩
  | rdl ds =>
    obtain ⟨vs, h1, h2⟩ := h
    refine ⟨vs, ?_, h2.mono L⟩
    rcases h1 with ⟨o, q⟩ | q
    · exact .inl ⟨o, k _ q⟩
    · exact .inr q
theorem le_new {p : Addr} {o : HO} (hp : H p = none) : Le K R H S R (upd H p o) S :=
  ⟨⟨List.prefix_refl _, fun _ _ h => sqT_upd hp h⟩, fun a u h _ => by rw [upd_ne (ne_of_none h hp)]; exact h, fun _ h n => absurd h n, fun _ xs h => ⟨xs, h⟩⟩
theorem AbsH.new {p : Addr} {o : HO} (A : AbsH K R H S) (hp : H p = none) : AbsH K R (upd H p o) S :=
  ⟨A.len, A.nd, fun n u h => by
    obtain ⟨a, e, q⟩ := A.ob n u h
    exact ⟨a, e, q.mono (le_new (S := S) hp).toLo fun x z => by rw [upd_ne (ne_of_none z hp)]; exact z⟩⟩
theorem rep_tup_new {p : Addr} {vs : List V} {ds : List D} (hp : H p = none) (h : Reps K R H vs ds) : Rep K R (upd H p (.tup vs)) (.ref p) (.tup ds) :=
  ⟨p, vs, rfl, SqT.of upd_same, h.mono (le_new (K := K) (R := R) (S := []) hp).toLo⟩
theorem reg_old {p : Addr} {n : Nat} {a : Addr} (e : (R ++ [p])[n]? = some a) : (n < R.length ∧ R[n]? = some a) ∨ (n = R.length ∧ a = p) := by
  by_cases z : n < R.length
  · rw [List.getElem?_append_left z] at e
    exact .inl ⟨z, e⟩
  · rw [List.getElem?_append_right (by omega)] at e
    by_cases z2 : n - R.length = 0
    · rw [z2] at e
      exact .inr ⟨by omega, (Option.some.inj e).symm⟩
    · rw [List.getElem?_eq_none (by simp; omega)] at e
      cases e
/-- an object that stands gets a number -/
theorem AbsH.reg {p : Addr} {vs : List V} {ds : List D} (A : AbsH K R H S) (hp : H p = some (.lst vs)) (hn : ¬ Mt R S p) (h : Reps K R H vs ds) : AbsH K (R ++ [p]) H (S ++ [.lst ds]) := by
  have L : Lo K R H (R ++ [p]) H := ⟨List.prefix_append _ _, fun _ _ h => h⟩
  refine ⟨by simp [A.len], fun n m a xs ys e1 e2 s1 s2 => ?_, fun n o s => ?_⟩
  · rcases reg_old e1 with ⟨z1, q1⟩ | ⟨z1, q1⟩ <;> rcases reg_old e2 with ⟨z2, q2⟩ | ⟨z2, q2⟩
    · rw [List.getElem?_append_left (by rw [← A.len]; exact z1)] at s1
      rw [List.getElem?_append_left (by rw [← A.len]; exact z2)] at s2
      exact A.nd n m a xs ys q1 q2 s1 s2
    · rw [List.getElem?_append_left (by rw [← A.len]; exact z1)] at s1
      subst q2
      exact absurd ⟨n, xs, q1, s1⟩ hn
    · rw [List.getElem?_append_left (by rw [← A.len]; exact z2)] at s2
      subst q1
      exact absurd ⟨m, ys, q2, s2⟩ hn
    · omega
  · by_cases z : n < S.length
    · rw [List.getElem?_append_left z] at s
      obtain ⟨a, e, q⟩ := A.ob n o s
      exact ⟨a, by rw [List.getElem?_append_left (by rw [A.len]; exact z)]; exact e, q.mono L fun _ x => x⟩
    · have z2 : n = S.length := by
        have := (List.getElem?_eq_some_iff.mp s).1
        simp at this
        omega
      subst z2
      rw [List.getElem?_append_right (Nat.le_refl _), Nat.sub_self] at s
      cases s
      refine ⟨p, ?_, vs, hp, h.mono L⟩
      rw [← A.len, List.getElem?_append_right (Nat.le_refl _), Nat.sub_self]
      rfl
theorem AbsH.mt (A : AbsH K R H S) {a : Addr} (h : Mt R S a) : ∃ vs, H a = some (.lst vs) := by
  obtain ⟨n, xs, e, s⟩ := h
  obtain ⟨b, vs, e1, e2, _⟩ := A.lst s
  rw [e] at e1
  cases e1
  exact ⟨vs, e2⟩
theorem AbsH.not_mt (A : AbsH K R H S) {a : Addr} (h : H a = none) : ¬ Mt R S a := fun z => by
  obtain ⟨vs, e⟩ := A.mt z
  rw [h] at e
  cases e
/-- what is free behind was free ahead -/
theorem Le.free (L : Le K R H S R' H' S') (A : AbsH K R' H' S') {p : Addr} (h : H' p = none) : H p = none := by
  cases q : H p with
  | none => rfl
  | some o =>
    exfalso
    by_cases z : Mt R S p
    · obtain ⟨n, xs, e, s⟩ := z
      obtain ⟨ys, s'⟩ := L.kd n xs s
      refine A.not_mt h ⟨n, ys, ?_, s'⟩
      obtain ⟨t, rfl⟩ := L.ext
      rw [List.getElem?_append_left (List.getElem?_eq_some_iff.mp e).1]
      exact e
    · have := L.fr p o q z
      rw [h] at this
      cases this
theorem Le.adopt (L : Le K R H S R' H' S') (A : AbsH K R' H' S') {p : Addr} {ds : List D} (hp : H p = none) : Le K R H S (R' ++ [p]) H' (S' ++ [.lst ds]) := by
  refine ⟨⟨L.ext.trans (List.prefix_append _ _), L.tst⟩, L.fr, fun a ⟨n, xs, e, s⟩ hn => ?_, fun n xs s => ?_⟩
  · rcases reg_old e with ⟨z, q⟩ | ⟨z, q⟩
    · rw [List.getElem?_append_left (by rw [← A.len]; exact z)] at s
      exact L.nw a ⟨n, xs, q, s⟩ hn
    · rw [q]
      exact hp
  · obtain ⟨ys, h⟩ := L.kd n xs s
    exact ⟨ys, by rw [List.getElem?_append_left (List.getElem?_eq_some_iff.mp h).1]; exact h⟩
theorem AbsH.alloc {p : Addr} {vs : List V} {ds : List D} (A : AbsH K R H S) (hp : H p = none) (h : Reps K R H vs ds) : AbsH K (R ++ [p]) (upd H p (.lst vs)) (S ++ [.lst ds]) :=
  (A.new hp).reg upd_same (A.not_mt hp) (h.mono (le_new (K := K) (R := R) (S := []) hp).toLo)
theorem le_reg {p : Addr} {o : HO} {ds : List D} (A : AbsH K R H S) (hp : H p = none) : Le K R H S (R ++ [p]) (upd H p o) (S ++ [.lst ds]) :=
  (le_new hp).adopt (A.new hp) hp
theorem rep_new {p : Addr} {H1 : Hp} (A : AbsH K R H S) : Rep K (R ++ [p]) H1 (.ref p) (.ref S.length) :=
  ⟨p, by rw [← A.len, List.getElem?_append_right (Nat.le_refl _), Nat.sub_self]; rfl, rfl⟩
/-! ### a list is written -/
theorem le_write {n : Nat} {a : Addr} {vs ws : List V} {ds es : List D} (s : S[n]? = some (.lst ds)) (e : R[n]? = some a) (h : H a = some (.lst vs)) : Le K R H S R (upd H a (.lst ws)) (S.set n (.lst es)) := by
  refine ⟨⟨List.prefix_refl _, fun b xs q => ?_⟩, fun b o q hb => ?_, fun b ⟨m, xs, e1, s1⟩ hn => ?_, fun m xs s1 => ?_⟩
  · rcases q with (q | ⟨u, q⟩) | q
    · exact .inl (.inl (by rw [upd_ne (ne_of q h (by intro z; cases z))]; exact q))
    · exact .inl (.inr ⟨u, by rw [upd_ne (ne_of q h (by intro z; cases z))]; exact q⟩)
    · exact .inr q
  · rw [upd_ne (fun z => hb (by rw [z]; exact ⟨n, ds, e, s⟩))]
    exact q
  · exfalso
    by_cases hm : n = m
    · subst hm
      exact hn ⟨n, ds, e1, s⟩
    · rw [List.getElem?_set_ne hm] at s1
      exact hn ⟨m, xs, e1, s1⟩
  · by_cases hm : n = m
    · subst hm
      exact ⟨es, List.getElem?_set_self (List.getElem?_eq_some_iff.mp s1).1⟩
    · exact ⟨xs, by rw [List.getElem?_set_ne hm]; exact s1⟩
theorem AbsH.write {n : Nat} {a : Addr} {vs ws : List V} {ds es : List D} (A : AbsH K R H S) (s : S[n]? = some (.lst ds)) (e : R[n]? = some a) (h : H a = some (.lst vs)) (q : Reps K R H ws es) :
    AbsH K R (upd H a (.lst ws)) (S.set n (.lst es)) := by
  have L : Lo K R H R (upd H a (.lst ws)) := (le_write (es := es) s e h).toLo
  have hn : n < S.length := (List.getElem?_eq_some_iff.mp s).1
  have was : ∀ (m : Nat) (ys : List D), (S.set n (.lst es))[m]? = some (.lst ys) → ∃ zs, S[m]? = some (.lst zs) := fun m ys z => by
    by_cases hm : n = m
    · subst hm
      exact ⟨ds, s⟩
    · rw [List.getElem?_set_ne hm] at z
      exact ⟨ys, z⟩
  refine ⟨by simp [A.len], fun m k b xs ys e1 e2 s1 s2 => ?_, fun m o z => ?_⟩
  · obtain ⟨_, t1⟩ := was _ _ s1
    obtain ⟨_, t2⟩ := was _ _ s2
    exact A.nd m k b _ _ e1 e2 t1 t2
  · by_cases hm : n = m
    · subst hm
      rw [List.getElem?_set_self hn] at z
      cases z
      exact ⟨a, e, ws, upd_same, q.mono L⟩
    · rw [List.getElem?_set_ne hm] at z
      obtain ⟨b, e1, q1⟩ := A.ob m o z
      by_cases hb : b = a
      · subst hb
        cases o with
        | lst xs => exact absurd (A.nd n m b _ _ e e1 s z) hm
        | rdl xs =>
          obtain ⟨us, q2, q3⟩ := q1
          refine ⟨b, e1, us, ?_, q3.mono L⟩
          rcases q2 with ⟨o, q2⟩ | q2
          · rw [h] at q2
            cases q2
          · exact .inr q2
      · exact ⟨b, e1, q1.mono L fun u hu => by rw [upd_ne hb]; exact hu⟩
end
end M

/-! M3: readings by data, operations by data. -/
namespace M
open PySem PySem.Spec PyProof.Rows L2
section
variable {K : PySem.W.Frag} {R R' R'' : List Addr} {H H' H'' : Hp} {S : Sto} {e : Ev} {σ : L2.St}
theorem getv_set : ∀ {e : Ev} {i j : Nat} {o : Option D} {d : D}, getv (setv e i o) j = some d → (j = i ∧ o = some d ∧ i < e.length) ∨ (j ≠ i ∧ getv e j = some d)
  | [], _, _, _, _, h => by cases h
  | x :: r, 0, 0, o, d, h => by
    have h' : o = some d := h
    exact .inl ⟨rfl, h', Nat.succ_pos _⟩
  | x :: r, 0, j + 1, o, d, h => .inr ⟨by omega, h⟩
  | x :: r, i + 1, 0, o, d, h => .inr ⟨by omega, h⟩
  | x :: r, i + 1, j + 1, o, d, h => by
    have h' : getv (setv r i o) j = some d := h
    rcases getv_set h' with ⟨a, b, c⟩ | ⟨a, b⟩
    · exact .inl ⟨by omega, b, by simp; omega⟩
    · exact .inr ⟨by omega, b⟩
theorem setv_len : ∀ {e : Ev} {i : Nat} {o : Option D}, (setv e i o).length = e.length
  | [], _, _ => rfl
  | _ :: _, 0, _ => rfl
  | _ :: r, i + 1, o => by
    show (setv r i o).length + 1 = r.length + 1
    rw [setv_len]
theorem Abs.mono (A : Abs K R σ H e S) {S' : Sto} (L : Lo K R H R' H') (B : AbsH K R' H' S') : Abs K R' σ H' e S' :=
  ⟨B, A.len, fun i d h => let ⟨v, h1, h2⟩ := A.st i d h; ⟨v, h1, h2.mono L⟩⟩
theorem Abs.set {i : Nat} {v : V} {d : D} (A : Abs K R σ H e S) (r : Rep K R H v d) : Abs K R (σ.set i (some v)) H (setv e i (some d)) S := by
  refine ⟨A.h, by rw [List.length_set, setv_len]; exact A.len, fun j d' h => ?_⟩
  rcases getv_set h with ⟨rfl, q, l⟩ | ⟨n, q⟩
  · cases q
    exact ⟨v, List.getElem?_set_self (by rw [A.len]; exact l), r⟩
  · obtain ⟨w, h1, h2⟩ := A.st j d' q
    exact ⟨w, by rw [List.getElem?_set_ne (Ne.symm n)]; exact h1, h2⟩
theorem Abs.clear {i : Nat} (A : Abs K R σ H e S) : Abs K R (σ.set i none) H (setv e i none) S := by
  refine ⟨A.h, by rw [List.length_set, setv_len]; exact A.len, fun j d' h => ?_⟩
  rcases getv_set h with ⟨rfl, q, l⟩ | ⟨n, q⟩
  · cases q
  · obtain ⟨w, h1, h2⟩ := A.st j d' q
    exact ⟨w, by rw [List.getElem?_set_ne (Ne.symm n)]; exact h1, h2⟩
theorem Abs.wipe (A : Abs K R σ H e S) : ∀ own : List Nat, Abs K R (L2.wipe σ own) H (wipev own e) S
  | [] => A
  | i :: is => (A.wipe is).clear
end

section
variable (K : PySem.W.Frag)
def tD (f : Ev → Sto → Option (D × Sto)) : TE := fun σ H Q => ∃ R e S d S', Abs K R σ H e S ∧ f e S = some (d, S') ∧
  ∀ R' H' v, Le K R H S R' H' S' → AbsH K R' H' S' → Rep K R' H' v d → Q v H'
def tDT (f : Ev → Sto → Option (Bool × Sto)) : TT := fun σ H Q => ∃ R e S d S', Abs K R σ H e S ∧ f e S = some (d, S') ∧
  ∀ R' H', Le K R H S R' H' S' → AbsH K R' H' S' → Q d H'
def tDA (f : Ev → Sto → Option (List D × Sto)) : TA := fun σ H Q => ∃ R e S d S', Abs K R σ H e S ∧ f e S = some (d, S') ∧
  ∀ R' H' vs, Le K R H S R' H' S' → AbsH K R' H' S' → Reps K R' H' vs d → Q vs H'
def tDO (f : Ev → Sto → Option (Option Int × Sto)) : TO := fun σ H Q => ∃ R e S d S', Abs K R σ H e S ∧ f e S = some (d, S') ∧
  ∀ R' H', Le K R H S R' H' S' → AbsH K R' H' S' → Q d H'
/-- a list that nothing holds yet -/
def tDL (f : Ev → Sto → Option (List D × Sto)) : TE := fun σ H Q => ∃ R e S d S', Abs K R σ H e S ∧ f e S = some (d, S') ∧
  ∀ R' H' p vs, Le K R H S R' H' S' → AbsH K R' H' S' → ¬ Mt R' S' p → H p = none → H' p = some (.lst vs) → Reps K R' H' vs d → Q (.ref p) H'
def Walk (R₀ : List Addr) (H₀ : Hp) (q : Sq) (J : It) : Prop := ∀ (i : Nat) (R : List Addr) (H : Hp) (S : Sto), Lo K R₀ H₀ R H → AbsH K R H S → okS S q.src →
  (q.ds.length ≤ i → J.stop i H) ∧ ∀ d, q.ds[i]? = some d → J.go i H ∧ ∀ x H', J.yld i H x H' → Le K R H S R H' S ∧ AbsH K R H' S ∧ Rep K R H' x d
def tDI (f : Ev → Sto → Option (Sq × Sto)) : TI := fun σ H Q => ∃ R e S q S', Abs K R σ H e S ∧ f e S = some (q, S') ∧
  ∀ R' H' J, Le K R H S R' H' S' → AbsH K R' H' S' → Walk K R' H' q J → Q J H'
def EndsOk (R : List Addr) (H : Hp) (S : Sto) (D : Ends) : Out → Prop
  | .nx e' S' => ∀ R' σ' H', Le K R H S R' H' S' → Abs K R' σ' H' e' S' → D.nx σ' H'
  | .ret d S' => ∀ R' H' v, Le K R H S R' H' S' → AbsH K R' H' S' → Rep K R' H' v d → D.rt v H'
  | .brk e' S' => ∀ R' σ' H', Le K R H S R' H' S' → Abs K R' σ' H' e' S' → D.bk σ' H'
  | .cnt e' S' => ∀ R' σ' H', Le K R H S R' H' S' → Abs K R' σ' H' e' S' → D.ct σ' H'
def tDS (g : Ev → Sto → Option Out) : TS := fun D σ H => ∃ R e S o, Abs K R σ H e S ∧ g e S = some o ∧ EndsOk K R H S D o
/-- operations by data -/
def rD1 (g : D → Sto → Option (D × Sto)) : V → Hp → VK → Prop := fun x H Q => ∃ R S d1 d S', AbsH K R H S ∧ Rep K R H x d1 ∧ g d1 S = some (d, S') ∧
  ∀ R' H' v, Le K R H S R' H' S' → AbsH K R' H' S' → Rep K R' H' v d → Q v H'
def rD2 (g : D → D → Sto → Option (D × Sto)) : R2 := fun x y H Q => ∃ R S d1 d2 d S', AbsH K R H S ∧ Rep K R H x d1 ∧ Rep K R H y d2 ∧ g d1 d2 S = some (d, S') ∧
  ∀ R' H' v, Le K R H S R' H' S' → AbsH K R' H' S' → Rep K R' H' v d → Q v H'
def rDs (g : List D → Sto → Option (D × Sto)) : List V → Hp → VK → Prop := fun xs H Q => ∃ R S ds d S', AbsH K R H S ∧ Reps K R H xs ds ∧ g ds S = some (d, S') ∧
  ∀ R' H' v, Le K R H S R' H' S' → AbsH K R' H' S' → Rep K R' H' v d → Q v H'
/-- a def's promise by data -/
def spD (F : Fn) : Sp := fun vs H Q _ => rDs K F vs H Q
end
theorem EndsOk.mono {K : PySem.W.Frag} {R R' : List Addr} {H H' : Hp} {S S' : Sto} {D : Ends} {o : Out} (L : Le K R H S R' H' S') (h : EndsOk K R H S D o) : EndsOk K R' H' S' D o := by
  cases o with
  | nx e S => exact fun R2 σ2 H2 l a => h R2 σ2 H2 (L.trans l) a
  | ret d S => exact fun R2 H2 v l a r => h R2 H2 v (L.trans l) a r
  | brk e S => exact fun R2 σ2 H2 l a => h R2 σ2 H2 (L.trans l) a
  | cnt e S => exact fun R2 σ2 H2 l a => h R2 σ2 H2 (L.trans l) a

section
variable {X : Cx}
theorem PE.imp {e : Expr} {t t' : TE} (h : PE X e t) (m : ∀ σ H Q, t' σ H Q → t σ H Q) : PE X e t' := ⟨fun pins s σ H Q I q => h.run pins s σ H Q I (m σ H Q q)⟩
theorem PT.imp {e : Expr} {t t' : TT} (h : PT X e t) (m : ∀ σ H Q, t' σ H Q → t σ H Q) : PT X e t' := ⟨fun pins s σ H Q I q => h.run pins s σ H Q I (m σ H Q q)⟩
theorem PW.imp {e : Expr} {t t' : TT} (h : PW X e t) (m : ∀ σ H Q, t' σ H Q → t σ H Q) : PW X e t' := ⟨fun wh pins s σ H Q I q => h.run wh pins s σ H Q I (m σ H Q q)⟩
theorem PA.imp {e : List Expr} {t t' : TA} (h : PA X e t) (m : ∀ σ H Q, t' σ H Q → t σ H Q) : PA X e t' := ⟨fun pos pins s σ H Q I q => h.run pos pins s σ H Q I (m σ H Q q)⟩
theorem PO.imp {e : Option Expr} {t t' : TO} (h : PO X e t) (m : ∀ σ H Q, t' σ H Q → t σ H Q) : PO X e t' := ⟨fun pins s σ H Q I q => h.run pins s σ H Q I (m σ H Q q)⟩
theorem PI.imp {tg e : Expr} {t t' : TI} (h : PI X tg e t) (m : ∀ σ H Q, t' σ H Q → t σ H Q) : PI X tg e t' := ⟨fun pins s σ H Q I q => h.run pins s σ H Q I (m σ H Q q)⟩
theorem PS.imp {e : Stmt} {t t' : TS} (h : PS X e t) (m : ∀ D σ H, t' D σ H → t D σ H) : PS X e t' := ⟨fun pins s σ H D I q => h.run pins s σ H D I (m D σ H q)⟩
theorem PSs.imp {e : List Stmt} {t t' : TS} (h : PSs X e t) (m : ∀ D σ H, t' D σ H → t D σ H) : PSs X e t' := ⟨fun pins s σ H D I q => h.run pins s σ H D I (m D σ H q)⟩
end

/-! ### operators -/
section
variable {X : Cx}
theorem lim_line : LIM < sizeLine := by rw [sizeLine_eq]; decide
/-- a value without objects -/
theorem fin_flat {K : PySem.W.Frag} {R : List Addr} {H : Hp} {S : Sto} {Q : VK} {v : V} {d : D} (A : AbsH K R H S) (q : ∀ R' H' v, Le K R H S R' H' S → AbsH K R' H' S → Rep K R' H' v d → Q v H') (r : Rep K R H v d) : Q v H :=
  q R H v Le.refl A r
theorem op_addD : OpR X (binaryOp .Add) (rD2 X.K (binD .add)) := by
  intro pins s σ H x y v u Q I rx ry ⟨R, S, d1, d2, d, S', A, r1, r2, hg, q⟩
  cases d1 with
  | int i =>
    cases d2 with
    | int j =>
      cases r1; cases r2; cases hg
      exact op_add pins s σ H _ _ v u Q I rx ry ⟨i, j, rfl, rfl, fin_flat A q rfl⟩
    | _ => cases hg
  | str i =>
    cases d2 with
    | str j =>
      simp only [binD] at hg
      split at hg
      · rename_i hl
        cases hg
        cases r1; cases r2
        exact op_add_str pins s σ H _ _ v u Q I rx ry ⟨i, j, rfl, rfl, Nat.le_trans hl (Nat.le_of_lt lim_line), fin_flat A q rfl⟩
      · cases hg
    | _ => cases hg
  | tup as =>
    cases d2 with
    | tup bs =>
      simp only [binD] at hg
      split at hg
      · rename_i hl
        cases hg
        obtain ⟨a, xs, rfl, h1, q1⟩ := r1
        obtain ⟨b, ys, rfl, h2, q2⟩ := r2
        refine op_catA pins s σ H _ _ v u Q I rx ry ⟨a, b, xs, ys, rfl, rfl, h1, h2, ?_, fun hx => ?_, fun hx hy => ?_, fun _ _ p hp => ?_⟩
        · rw [q1.length, q2.length]
          exact Nat.le_trans hl (Nat.le_of_lt lim_line)
        · subst hx
          have e : as = [] := List.eq_nil_of_length_eq_zero (by rw [← q1.length]; rfl)
          subst e
          exact q R H _ Le.refl A ⟨b, ys, rfl, h2, q2⟩
        · subst hy
          have e : bs = [] := List.eq_nil_of_length_eq_zero (by rw [← q2.length]; rfl)
          subst e
          exact q R H _ Le.refl A ⟨a, xs, rfl, h1, by rw [List.append_nil]; exact q1⟩
        · exact q R _ _ (le_new hp) (A.new hp) (rep_tup_new hp (q1.append q2))
      · cases hg
    | _ => cases hg
  | ref n =>
    cases d2 with
    | ref m =>
      simp only [binD] at hg
      split at hg
      · rename_i as bs e1 e2
        split at hg
        · rename_i hl
          cases hg
          obtain ⟨a, xs, w1, h1, q1⟩ := A.lst e1
          obtain ⟨b, ys, w2, h2, q2⟩ := A.lst e2
          obtain rfl := rep_ref r1 w1
          obtain rfl := rep_ref r2 w2
          refine op_cat pins s σ H _ _ v u Q I rx ry ⟨a, b, xs, ys, rfl, rfl, h1, h2, ?_, fun p hp => ?_⟩
          · rw [q1.length, q2.length]
            exact Nat.le_trans hl (Nat.le_of_lt lim_line)
          · exact q _ _ _ (le_reg A hp) (A.alloc hp (q1.append q2)) (rep_new A)
        · cases hg
      · cases hg
    | _ => cases hg
  | _ => cases d2 <;> cases hg
theorem tuple_mulS (l : Addr) (items : Array Value) (n : Nat) (dd : Option Addr) (sl : Array (Option Value)) (x : Int) (u : Tok) (c0 : (decide (x < -(2 ^ 63)) || decide (x ≥ 2 ^ 63)) = false) (c1 : (items.isEmpty || x == 1) = true) :
    Meets (Builtin.«tuple.__mul__» ⟨[.ref l, .int x u], []⟩) (fun _ R s => s.heap.get? l = some { cls := .type "tuple", dict := dd, data := .seq items n, slots := sl } ∧
      R (.ok (.ret (Value.ref l))) { s with toks := s.toks }) :=
  .of_wp fun prog w A R s h => by
    obtain ⟨hp, g, d, tk, os⟩ := s
    obtain ⟨hl, h⟩ := h
    have f1 := AutoSeq1.idx_int
    wp_walk using wpAny_loadPart' hl
    repeat (first
      | (refine wpAny_ite_false (decide_eq_false (by rw [c0]; exact Bool.false_ne_true)) ?_; wp_walk using wpAny_loadPart' hl)
      | (refine wpAny_ite_true (decide_eq_true c1) ?_; wp_walk using wpAny_loadPart' hl))
    exact ⟨_, rfl, h⟩
theorem tuple_mulZ (l : Addr) (items : Array Value) (n : Nat) (dd : Option Addr) (sl : Array (Option Value)) (x : Int) (u : Tok) (c0 : (decide (x < -(2 ^ 63)) || decide (x ≥ 2 ^ 63)) = false) (c1 : (items.isEmpty || x == 1) = false) (c2 : (decide (x ≤ 0) || items.isEmpty) = true) :
    Meets (Builtin.«tuple.__mul__» ⟨[.ref l, .int x u], []⟩) (fun _ R s => s.heap.get? l = some { cls := .type "tuple", dict := dd, data := .seq items n, slots := sl } ∧
      R (.ok (.ret (Value.ref s.heap.objs.size))) { s with heap := s.heap.push { cls := Value.type "tuple", data := Data.seq #[] }, toks := s.toks }) :=
  .of_wp fun prog w A R s h => by
    obtain ⟨hp, g, d, tk, os⟩ := s
    obtain ⟨hl, h⟩ := h
    have f1 := AutoSeq1.idx_int
    wp_walk using wpAny_loadPart' hl
    repeat (first
      | (refine wpAny_ite_false (decide_eq_false (by rw [c0]; exact Bool.false_ne_true)) ?_; wp_walk using wpAny_loadPart' hl)
      | (refine wpAny_ite_false (decide_eq_false (by rw [c1]; exact Bool.false_ne_true)) ?_; wp_walk using wpAny_loadPart' hl)
      | (refine wpAny_ite_true (decide_eq_true c2) ?_; wp_walk using wpAny_loadPart' hl))
    exact ⟨_, rfl, h⟩
theorem op_repW : OpR X (binaryOp .Mult) (fun x y H Q => ∃ l k xs, x = .ref l ∧ y = .int k ∧ SqT X.K H l xs ∧ xs ≠ [] ∧ 2 ≤ k ∧ repOk xs.length k ∧ ∀ p, H p = none → Q (.ref p) (upd H p (.tup (List.replicate k.toNat xs).flatten))) := by
  intro pins s σ H x y v u Q I rx ry ⟨l, k, xs, ex, ey, hT, hne, h1, ⟨b1, b2, b3, b4⟩, q⟩
  subst ex ey
  cases rx
  obtain ⟨t, rfl⟩ := ry
  obtain ⟨its, r, ⟨⟨cls, dd, data, sl⟩, ho, hc, n, hd⟩, hs⟩ := I.tuple hT
  simp only at hc hd
  subst hc hd
  have le : its.length = xs.length := r.length.symm
  have sz : its.toArray.size = xs.length := by rw [List.size_toArray, le]
  have emp : its.toArray.isEmpty = false := by
    cases r with
    | nil => exact absurd rfl hne
    | cons a b => rfl
  have fl : (List.replicate k.toNat its).flatten.length ≤ sizeLine := by
    rw [PyProof.Rows.lm_len_rep_flat, le, sizeLine_eq, Nat.mul_comm]
    omega
  have pr : ((its.toArray.size : Nat) : Int) * k ≤ 1000000 := by
    rw [sz]
    have e : ((xs.length * k.toNat : Nat) : Int) = (xs.length : Int) * k := by
      rw [Int.natCast_mul, Int.toNat_of_nonneg b2]
    rw [← e]
    exact Int.ofNat_le.mpr b4
  have w0 : (decide (k < -(2 ^ 63)) || decide (k ≥ 2 ^ 63)) = false := by
    rw [Bool.or_eq_false_iff]
    exact ⟨decide_eq_false (by omega), decide_eq_false (by omega)⟩
  have w1 : (its.toArray.isEmpty || k == 1) = false := by
    rw [emp]
    exact beq_eq_false_iff_ne.mpr (show k ≠ 1 by omega)
  have w2 : (decide (k ≤ 0) || its.toArray.isEmpty) = false := by
    rw [emp, decide_eq_false (show ¬ k ≤ 0 by omega)]
    rfl
  have w4 : Builtin.Tuple.tupleTooMany (((its.toArray.size : Nat) : Int) * k) = false := by
    unfold Builtin.Tuple.tupleTooMany
    rw [sizeLine_eq]
    apply decide_eq_false
    omega
  refine wpAny_binaryOp_repeat_ref (T := "tuple") (U := "int") (by decide) ⟨_, ho, rfl⟩ (fun s' => typeIs_int s' k t) noFill_tuple_mul F.fills_int_mul F.slot_int_rmul repeat_tuple F.slot_int_index.lookup (call_meets F.slot_int_rmul (typeIs_int s k t) F.entry_int_rmul (F.args_int_rmul_2 _ _) (int_rmul_tuple k t l its.toArray n dd sl) ⟨ho, rfl, ⟨_, ho, rfl⟩, call_meets F.slot_tuple_mul ⟨_, ho, rfl⟩ F.entry_tuple_mul (F.args_tuple_mul_2 _ _) (tuple_mulW l its.toArray n dd sl k t w0 w1 w2 (by omega) w4 (by rw [size_rep, List.size_toArray]; exact fl)) ⟨ho, ?_⟩⟩)
  rw [size_rep]
  refine ⟨.ref s.heap.objs.size, _, I.laid (t' := s.toks) (o := .tup (List.replicate k.toNat xs).flatten) (fun b ob q => Heap.get?_push_of_some _ q) (Nat.le_refl _) ⟨?_, _, r.rep k.toNat, IsTup.new _ _⟩, rfl, q _ (I.hok.fresh (Nat.le_refl _))⟩
  rw [PyProof.Rows.lm_len_rep_flat, sizeLine_eq, Nat.mul_comm]
  omega
theorem op_repA : OpR X (binaryOp .Mult) (fun x y H Q => ∃ l k xs, x = .ref l ∧ y = .int k ∧ SqT X.K H l xs ∧ repOk xs.length k ∧ ((xs = [] ∨ k = 1) → Q (.ref l) H) ∧ (¬ (xs = [] ∨ k = 1) → ∀ p, H p = none → Q (.ref p) (upd H p (.tup (List.replicate k.toNat xs).flatten)))) := by
  intro pins s σ H x y v u Q I rx ry ⟨l, k, xs, ex, ey, hT, hz, q1, q2⟩
  have h0 := hz.2.1
  have h1 := hz.2.2.1
  by_cases hk : xs = [] ∨ k = 1
  · subst ex ey
    cases rx
    obtain ⟨t, rfl⟩ := ry
    obtain ⟨its, r, ⟨⟨cls, dd, data, sl⟩, ho, hc, n, hd⟩, hs⟩ := I.tuple hT
    simp only at hc hd
    subst hc hd
    have c0 : (decide (k < -(2 ^ 63)) || decide (k ≥ 2 ^ 63)) = false := by
      rw [decide_eq_false (by omega), decide_eq_false (by omega)] <;> rfl
    have c1 : (its.toArray.isEmpty || k == 1) = true := by
      rcases hk with z | z
      · subst z
        cases r
        rfl
      · subst z
        simp
    refine wpAny_binaryOp_repeat_ref (T := "tuple") (U := "int") (by decide) ⟨_, ho, rfl⟩ (fun s' => typeIs_int s' k t) noFill_tuple_mul F.fills_int_mul F.slot_int_rmul repeat_tuple F.slot_int_index.lookup
      (call_meets F.slot_int_rmul (typeIs_int s k t) F.entry_int_rmul (F.args_int_rmul_2 _ _) (int_rmul_tuple k t l its.toArray n dd sl)
        ⟨ho, rfl, ⟨_, ho, rfl⟩, call_meets F.slot_tuple_mul ⟨_, ho, rfl⟩ F.entry_tuple_mul (F.args_tuple_mul_2 _ _) (tuple_mulS l its.toArray n dd sl k t c0 c1) ⟨ho, ?_⟩⟩)
    exact ⟨.ref l, H, I.tok _, rfl, q1 hk⟩
  · by_cases hk0 : k = 0
    · subst ex ey
      cases rx
      obtain ⟨t, rfl⟩ := ry
      obtain ⟨its, r, ⟨⟨cls, dd, data, sl⟩, ho, hc, n, hd⟩, hs⟩ := I.tuple hT
      simp only at hc hd
      subst hc hd
      have c0 : (decide (k < -(2 ^ 63)) || decide (k ≥ 2 ^ 63)) = false := by
        rw [decide_eq_false (by omega), decide_eq_false (by omega)] <;> rfl
      have hx : xs ≠ [] := fun z => hk (.inl z)
      have c1 : (its.toArray.isEmpty || k == 1) = false := by
        cases r with
        | nil => exact absurd rfl hx
        | cons a b => subst hk0; rfl
      have c2 : (decide (k ≤ 0) || its.toArray.isEmpty) = true := by
        subst hk0
        rfl
      refine wpAny_binaryOp_repeat_ref (T := "tuple") (U := "int") (by decide) ⟨_, ho, rfl⟩ (fun s' => typeIs_int s' k t) noFill_tuple_mul F.fills_int_mul F.slot_int_rmul repeat_tuple F.slot_int_index.lookup
        (call_meets F.slot_int_rmul (typeIs_int s k t) F.entry_int_rmul (F.args_int_rmul_2 _ _) (int_rmul_tuple k t l its.toArray n dd sl)
          ⟨ho, rfl, ⟨_, ho, rfl⟩, call_meets F.slot_tuple_mul ⟨_, ho, rfl⟩ F.entry_tuple_mul (F.args_tuple_mul_2 _ _) (tuple_mulZ l its.toArray n dd sl k t c0 c1 c2) ⟨ho, ?_⟩⟩)
      have q3 := q2 hk _ (I.hok.fresh (Nat.le_refl _))
      subst hk0
      refine ⟨.ref s.heap.objs.size, _, I.laid (t' := s.toks) (o := .tup []) (fun b ob q => Heap.get?_push_of_some _ q) (Nat.le_refl _) ?_, rfl, q3⟩
      exact ⟨Nat.zero_le _, _, .nil, IsTup.new _ _⟩
    · exact op_repW pins s σ H x y v u Q I rx ry ⟨l, k, xs, ex, ey, hT, fun z => hk (.inl z), by omega, hz, q2 hk⟩
theorem op_mulD : OpR X (binaryOp .Mult) (rD2 X.K (binD .mul)) := by
  intro pins s σ H x y v u Q I rx ry ⟨R, S, d1, d2, d, S', A, r1, r2, hg, q⟩
  cases d1 with
  | int i =>
    cases d2 with
    | int j =>
      simp only [binD] at hg
      split at hg
      · rename_i hs
        cases hg
        cases r1; cases r2
        exact op_mul pins s σ H _ _ v u Q I rx ry ⟨i, j, rfl, rfl, hs, fin_flat A q rfl⟩
      · cases hg
    | _ => cases hg
  | tup as =>
    cases d2 with
    | int k =>
      simp only [binD] at hg
      split at hg
      · rename_i hs
        cases hg
        obtain ⟨a, xs, rfl, h1, q1⟩ := r1
        cases r2
        refine op_repA pins s σ H _ _ v u Q I rx ry ⟨a, k, xs, rfl, rfl, h1, by rw [q1.length]; exact hs, fun hk => ?_, fun _ p hp => ?_⟩
        · refine q R H _ Le.refl A ⟨a, xs, rfl, h1, ?_⟩
          rcases hk with z | z
          · subst z
            have e : as = [] := List.eq_nil_of_length_eq_zero (by rw [← q1.length]; rfl)
            subst e
            have : (List.replicate k.toNat ([] : List D)).flatten = [] := by
              simp
            rw [this]
            rfl
          · subst z
            have : (List.replicate (1 : Int).toNat as).flatten = as := by
              show ([as] : List (List D)).flatten = as
              simp
            rw [this]
            exact q1
        · exact q R _ _ (le_new hp) (A.new hp) (rep_tup_new hp (q1.rep _))
      · cases hg
    | _ => cases hg
  | _ => cases d2 <;> cases hg
/-- an operation on ints -/
theorem op_intD {op : Bop} {f : Value → Value → Sem Value} {C : Int → Int → Prop} {g : Int → Int → Int} (ho : OpR X f (rI C fun i j => .int (g i j)))
    (hb : ∀ d1 d2 S d S', binD op d1 d2 S = some (d, S') → ∃ i j, d1 = .int i ∧ d2 = .int j ∧ C i j ∧ d = .int (g i j) ∧ S' = S) : OpR X f (rD2 X.K (binD op)) := by
  intro pins s σ H x y v u Q I rx ry ⟨R, S, d1, d2, d, S', A, r1, r2, hg, q⟩
  obtain ⟨i, j, rfl, rfl, c, rfl, rfl⟩ := hb _ _ _ _ _ hg
  cases r1; cases r2
  exact ho pins s σ H _ _ v u Q I rx ry ⟨i, j, rfl, rfl, c, fin_flat A q rfl⟩
theorem OpR.i0 {f : Value → Value → Sem Value} {g : Int → Int → V} (h : OpR X f (rI0 g)) : OpR X f (rI (fun _ _ => True) g) := fun pins s σ H x y v u Q I rx ry ⟨i, j, e1, e2, _, q⟩ => h pins s σ H x y v u Q I rx ry ⟨i, j, e1, e2, q⟩
theorem op_subD : OpR X (binaryOp .Sub) (rD2 X.K (binD .sub)) := op_intD (C := fun _ _ => True) (OpR.i0 op_sub) fun d1 d2 S d S' h => by
  cases d1 <;> cases d2 <;> simp only [binD] at h <;> first | (cases h; done) | (cases h; exact ⟨_, _, rfl, rfl, trivial, rfl, rfl⟩)
theorem op_bandD : OpR X (binaryOp .BitAnd) (rD2 X.K (binD .band)) := op_intD (C := fun _ _ => True) (OpR.i0 op_and) fun d1 d2 S d S' h => by
  cases d1 <;> cases d2 <;> simp only [binD] at h <;> first | (cases h; done) | (cases h; exact ⟨_, _, rfl, rfl, trivial, rfl, rfl⟩)
theorem op_fdivD : OpR X (binaryOp .FloorDiv) (rD2 X.K (binD .fdiv)) := op_intD op_fdiv fun d1 d2 S d S' h => by
  cases d1 <;> cases d2 <;> simp only [binD] at h <;> first | (cases h; done) | (split at h <;> first | (cases h; done) | (rename_i c; cases h; exact ⟨_, _, rfl, rfl, c, rfl, rfl⟩))
theorem op_modD : OpR X (binaryOp .Mod) (rD2 X.K (binD .mod)) := op_intD op_mod fun d1 d2 S d S' h => by
  cases d1 <;> cases d2 <;> simp only [binD] at h <;> first | (cases h; done) | (split at h <;> first | (cases h; done) | (rename_i c; cases h; exact ⟨_, _, rfl, rfl, c, rfl, rfl⟩))
theorem op_powD : OpR X (binaryOp .Pow) (rD2 X.K (binD .pow)) := op_intD op_pow fun d1 d2 S d S' h => by
  cases d1 <;> cases d2 <;> simp only [binD] at h <;> first | (cases h; done) | (split at h <;> first | (cases h; done) | (rename_i c; cases h; exact ⟨_, _, rfl, rfl, c, rfl, rfl⟩))
theorem op_shrD : OpR X (binaryOp .RShift) (rD2 X.K (binD .shr)) := op_intD op_shr fun d1 d2 S d S' h => by
  cases d1 <;> cases d2 <;> simp only [binD] at h <;> first | (cases h; done) | (split at h <;> first | (cases h; done) | (rename_i c; cases h; exact ⟨_, _, rfl, rfl, c, rfl, rfl⟩))
def bopO : Bop → Operator
  | .add => .Add | .sub => .Sub | .mul => .Mult | .fdiv => .FloorDiv | .mod => .Mod | .pow => .Pow | .band => .BitAnd | .shr => .RShift
theorem op_binD (o : Bop) : OpR X (binaryOp (bopO o)) (rD2 X.K (binD o)) := by
  cases o with
  | add => exact op_addD
  | sub => exact op_subD
  | mul => exact op_mulD
  | fdiv => exact op_fdivD
  | mod => exact op_modD
  | pow => exact op_powD
  | band => exact op_bandD
  | shr => exact op_shrD

/-! ### comparisons -/
theorem pds_dp {K : PySem.W.Frag} {R : List Addr} {H : Hp} {S : Sto} {k : Nat} (ih : ∀ d p v, pd S k d = some p → Rep K R H v d → Dp K H v p) : ∀ {xs : List D} {ps : List PyData} {vs : List V}, xs.mapM (pd S k) = some ps → Reps K R H vs xs → DpAll K H vs ps
  | [], ps, vs, h, r => by
    have e : vs = [] := r
    subst e
    cases (show some [] = some ps from h)
    exact .nil
  | x :: xs, ps, vs, h, r => by
    obtain ⟨v, w, rfl, r1, r2⟩ := r
    rw [List.mapM_cons] at h
    cases e1 : pd S k x with
    | none => rw [e1] at h; cases h
    | some p =>
      cases e2 : xs.mapM (pd S k) with
      | none => rw [e1, e2] at h; cases h
      | some qs =>
        rw [e1, e2] at h
        cases (show some (p :: qs) = some ps from h)
        exact .cons (ih x p v e1 r1) (pds_dp ih e2 r2)
theorem pd_dp {K : PySem.W.Frag} {R : List Addr} {H : Hp} {S : Sto} (A : AbsH K R H S) : ∀ (k : Nat) (d : D) (p : PyData) (v : V), pd S k d = some p → Rep K R H v d → Dp K H v p
  | 0, _, _, _, h, _ => by cases h
  | k + 1, .non, _, _, h, r => by cases h; cases r; exact .non
  | k + 1, .bl b, _, _, h, r => by cases h; cases r; exact .bl b
  | k + 1, .int i, _, _, h, r => by cases h; cases r; exact .int i
  | k + 1, .str x, _, _, h, r => by cases h; cases r; exact .str x
  | k + 1, .tup xs, p, v, h, r => by
    obtain ⟨a, vs, rfl, hs, hr⟩ := r
    have h' : (xs.mapM (pd S k)).map PyData.tuple = some p := h
    cases e : xs.mapM (pd S k) with
    | none => rw [e] at h'; cases h'
    | some ps =>
      rw [e] at h'
      cases h'
      exact .tup hs (pds_dp (fun d p v => pd_dp A k d p v) e hr)
  | k + 1, .ref n, p, v, h, r => by
    have h' : (match itemsAt S n with | some xs => (xs.mapM (pd S k)).map PyData.list | none => none) = some p := h
    split at h'
    · rename_i xs hi
      cases e : xs.mapM (pd S k) with
      | none => rw [e] at h'; cases h'
      | some ps =>
        rw [e] at h'
        cases h'
        obtain ⟨a, vs, e1, hs, hr⟩ := A.items hi
        obtain rfl := rep_ref r e1
        exact .lst hs (pds_dp (fun d p v => pd_dp A k d p v) e hr)
    · cases h'
theorem shp_ok {p : PyData} (h : shp p) : SeqAt.shaped p = true := by
  unfold SeqAt.shaped
  rw [h.1, decide_eq_true h.2] <;> rfl
def copO : Cop → CmpOp
  | .lt => .Lt | .le => .LtE | .gt => .Gt | .ge => .GtE | .eq => .Eq | .ne => .NotEq | .isn => .Is | .nisn => .IsNot | .inn => .In | .nin => .NotIn
def cmpV (o : Cop) (x y : D) (S : Sto) : Option (D × Sto) := (cmpD o x y S).map fun k => (.bl k, S)
theorem eqf_V {K : PySem.W.Frag} {R : List Addr} {H : Hp} {d : D} {x : V} (f : flatI d = true) (r : Rep K R H x d) : ∀ {ds : List D} {xs : List V}, ds.all flatI = true → Reps K R H xs ds → flatV x = true ∧ xs.all flatV = true ∧ inV x xs = ds.any (eqf d)
  | [], xs, _, h => by
    have e : xs = [] := h
    subst e
    cases d <;> first | (cases f; done) | skip
    cases r
    exact ⟨rfl, rfl, rfl⟩
  | c :: ds, xs, g, h => by
    obtain ⟨v, w, rfl, r1, r2⟩ := h
    rw [List.all_cons, Bool.and_eq_true] at g
    obtain ⟨q1, q2, q3⟩ := eqf_V f r g.2 r2
    cases d <;> first | (cases f; done) | skip
    cases c <;> first | (cases g.1; done) | skip
    rename_i i j
    cases r
    cases r1
    refine ⟨rfl, by rw [List.all_cons, q2]; rfl, ?_⟩
    show ((V.int j :: w).any fun y => eqV y (.int i)) = ((D.int j :: ds).any (eqf (.int i)))
    rw [List.any_cons, List.any_cons]
    have q3' : (w.any fun y => eqV y (.int i)) = ds.any (eqf (.int i)) := q3
    rw [q3']
    show (j == i || _) = (i == j || _)
    rw [Bool.beq_comm]
theorem reads_at {h : Heap} : ∀ {vs : List Value} {ds : List PyData} {as : List Addr}, ReadsAll h vs ds as → vs.length = ds.length ∧ ∀ (j : Nat) (h1 : j < vs.length) (h2 : j < ds.length), ∃ bs, Reads h vs[j] ds[j] bs
  | _, _, _, .nil => ⟨rfl, fun j h1 => absurd h1 (Nat.not_lt_zero j)⟩
  | _, _, _, .cons r rs => by
    obtain ⟨e, q⟩ := reads_at rs
    refine ⟨by rw [List.length_cons, List.length_cons, e], fun j h1 h2 => ?_⟩
    cases j with
    | zero => exact ⟨_, r⟩
    | succ j => exact q j (Nat.lt_of_succ_lt_succ h1) (Nat.lt_of_succ_lt_succ h2)
theorem lex_shift (e r : Nat → Bool) (z : Bool) : ∀ k i, Ob.lexAt e r z (i + 1) k = Ob.lexAt (fun j => e (j + 1)) (fun j => r (j + 1)) z i k
  | 0, i => rfl
  | k + 1, i => by
    rw [Ob.lexAt_succ, Ob.lexAt_succ, lex_shift e r z k (i + 1)]
theorem geL_lex {f : PyData → PyData → Option Bool} : ∀ {xs ys : List PyData} {g : Bool}, geL f xs ys = some g →
    (∀ j (h1 : j < xs.length) (h2 : j < ys.length), (f xs[j] ys[j]).isSome = true) ∧ Ob.lexAt (fun j => PyData.eqv (xs.getD j .none) (ys.getD j .none)) (fun j => (f (xs.getD j .none) (ys.getD j .none)).getD false) (decide (xs.length ≥ ys.length)) 0 (min xs.length ys.length) = g
  | xs, [], g, h => by
    have e : geL f xs [] = some true := by cases xs <;> rfl
    rw [e] at h
    cases h
    refine ⟨fun j _ h2 => absurd h2 (Nat.not_lt_zero j), ?_⟩
    rw [List.length_nil, Nat.min_zero]
    exact decide_eq_true (Nat.zero_le _)
  | [], y :: ys, g, h => by
    cases h
    refine ⟨fun j h1 => absurd h1 (Nat.not_lt_zero j), ?_⟩
    rw [List.length_nil, Nat.zero_min]
    exact decide_eq_false (by rw [List.length_cons]; omega)
  | x :: xs, y :: ys, g, h => by
    have h' : (match f x y, geL f xs ys with | some g, some r => some (if PyData.eqv x y = true then r else g) | _, _ => none) = some g := h
    split at h'
    · rename_i g1 r1 e1 e2
      cases h'
      obtain ⟨q1, q2⟩ := geL_lex e2
      refine ⟨fun j h1 h2 => ?_, ?_⟩
      · cases j with
        | zero =>
          show (f x y).isSome = true
          rw [e1]
          rfl
        | succ j => exact q1 j (Nat.lt_of_succ_lt_succ h1) (Nat.lt_of_succ_lt_succ h2)
      · have em : min (x :: xs).length (y :: ys).length = min xs.length ys.length + 1 := by simp only [List.length_cons]; omega
        have ed : decide ((x :: xs).length ≥ (y :: ys).length) = decide (xs.length ≥ ys.length) := by
          rw [List.length_cons, List.length_cons]
          exact decide_eq_decide.mpr ⟨fun z => Nat.le_of_succ_le_succ z, fun z => Nat.succ_le_succ z⟩
        rw [em, ed, Ob.lexAt_succ, lex_shift]
        show (if PyData.eqv x y = true then Ob.lexAt (fun j => PyData.eqv (xs.getD j .none) (ys.getD j .none)) (fun j => (f (xs.getD j .none) (ys.getD j .none)).getD false) (decide (xs.length ≥ ys.length)) 0 (min xs.length ys.length) else (f x y).getD false) = _
        rw [q2, e1]
        rfl
    · cases h'
theorem lay_at : ∀ {xs : List PyData} (j : Nat) (h : j < xs.length), PyData.canLayAll0 xs = true → xs[j].canLay0 = true
  | x :: xs, 0, _, c => (Bool.and_eq_true_iff.mp (show (x.canLay0 && PyData.canLayAll0 xs) = true from c)).1
  | x :: xs, j + 1, h, c => lay_at j (Nat.lt_of_succ_lt_succ h) (Bool.and_eq_true_iff.mp (show (x.canLay0 && PyData.canLayAll0 xs) = true from c)).2
theorem dep_at : ∀ {xs : List PyData} (j : Nat) (h : j < xs.length), xs[j].depth ≤ PyData.depthAll xs
  | x :: xs, 0, _ => Nat.le_max_left x.depth (PyData.depthAll xs)
  | x :: xs, j + 1, h => Nat.le_trans (dep_at j (Nat.lt_of_succ_lt_succ h)) (Nat.le_max_right x.depth (PyData.depthAll xs))
theorem rcGe : ∀ (n : Nat) (da db : PyData) (A : Around) (s : Shared) (a b : Value) (as bs : List Addr) (g : Bool), Reads s.heap a da as → Reads s.heap b db bs → da.canLay0 = true → db.canLay0 = true → A.units + da.depth < cLine → A.units < cLine → geP n da db = some g → Ob.RcOp .GtE A s a b g
  | 0, _, _, _, _, _, _, _, _, _, _, _, _, _, _, _, h => by cases h
  | n + 1, da, db, A, s, a, b, as, bs, g, ra, rb, ca, cb, hu, hu0, h => by
    cases ra with
    | int i t =>
      cases rb with
      | int j u =>
        cases h
        exact Ob.RcOp.ge_int i j t u
      | _ => cases h
    | @tuple a' o vs m xs as' k1 k2 k3 k4 =>
      cases rb with
      | @tuple b' o2 ws m2 ys bs' j1 j2 j3 j4 =>
        have h' : geL (geP n) xs ys = some g := h
        obtain ⟨q1, q2⟩ := geL_lex h'
        obtain ⟨l1, r1⟩ := reads_at k4
        obtain ⟨l2, r2⟩ := reads_at j4
        have ca' : PyData.canLayAll0 xs = true := ca
        have cb' : PyData.canLayAll0 ys = true := cb
        have hd : A.units + (PyData.depthAll xs + 1) < cLine := hu
        have s1 : vs.size = xs.length := by rw [← l1, Array.length_toList]
        have s2 : ws.size = ys.length := by rw [← l2, Array.length_toList]
        have R := Ob.RcOp.tuples_ge (A := A) (s := s) (l := a') (b := b') (items := vs) (items2 := ws) (e := fun j => PyData.eqv (xs.getD j .none) (ys.getD j .none)) (r := fun j => (geP n (xs.getD j .none) (ys.getD j .none)).getD false) ⟨o, k1, k2, m, k3⟩ ⟨o2, j1, j2, m2, j3⟩ hu0 (fun j h1 h2 => by
          have x1 : j < xs.length := by omega
          have y1 : j < ys.length := by omega
          obtain ⟨c1, p1⟩ := r1 j (by rw [Array.length_toList]; exact h1) x1
          obtain ⟨c2, p2⟩ := r2 j (by rw [Array.length_toList]; exact h2) y1
          have d1 := dep_at j x1
          rw [List.getD_eq_getElem?_getD, List.getD_eq_getElem?_getD, List.getElem?_eq_getElem x1, List.getElem?_eq_getElem y1]
          exact SeqAt.eqAt_reads _ _ A.in1 s _ _ _ _ p1 p2 (lay_at j x1 ca') (lay_at j y1 cb') (by
            have : min xs[j].depth ys[j].depth ≤ xs[j].depth := Nat.min_le_left _ _
            show A.units + 1 + min xs[j].depth ys[j].depth < cLine
            omega)) (fun j h1 h2 _ => by
          have x1 : j < xs.length := by omega
          have y1 : j < ys.length := by omega
          obtain ⟨c1, p1⟩ := r1 j (by rw [Array.length_toList]; exact h1) x1
          obtain ⟨c2, p2⟩ := r2 j (by rw [Array.length_toList]; exact h2) y1
          have d1 := dep_at j x1
          rw [List.getD_eq_getElem?_getD, List.getD_eq_getElem?_getD, List.getElem?_eq_getElem x1, List.getElem?_eq_getElem y1]
          show Ob.RcOp .GtE A.in1 s _ _ ((geP n xs[j] ys[j]).getD false)
          have q := q1 j x1 y1
          cases e : geP n xs[j] ys[j] with
          | none => rw [e] at q; cases q
          | some z =>
            exact rcGe n _ _ A.in1 s _ _ _ _ z p1 p2 (lay_at j x1 ca') (lay_at j y1 cb') (by show A.units + 1 + xs[j].depth < cLine; omega) (by show A.units + 1 < cLine; omega) e)
        rw [s1, s2, q2] at R
        exact R
      | _ => cases h
    | _ => cases h
theorem op_cmpD (o : Cop) (hu : X.A.units + 65 < cLine) : OpR X (compareOp (copO o)) (rD2 X.K (cmpV o)) := by
  intro pins s σ H x y v u Q I rx ry ⟨R, S, d1, d2, d, S', A, r1, r2, hg, q⟩
  unfold cmpV at hg
  cases e : cmpD o d1 d2 S with
  | none => rw [e] at hg; cases hg
  | some k =>
    rw [e] at hg
    cases hg
    have hI : ∀ {p : Int → Int → Bool} {op : CmpOp}, OpR X (compareOp op) (rI0 fun i j => .bl (p i j)) → (∃ i j, d1 = .int i ∧ d2 = .int j ∧ k = p i j) → wpAny (model X.prog X.w) X.A (compareOp op v u) (EP X pins σ Q) X.xe s := by
      rintro p op ho ⟨i, j, rfl, rfl, rfl⟩
      cases r1; cases r2
      exact ho pins s σ H _ _ v u Q I rx ry ⟨i, j, rfl, rfl, fin_flat A q rfl⟩
    have hE : ∀ {b : Bool}, eqD S d1 d2 = some b → ∃ d e, Dp X.K H x d ∧ Dp X.K H y e ∧ SeqAt.shaped d = true ∧ SeqAt.shaped e = true ∧ PyData.eqv d e = b := fun {b} h => by
      unfold eqD at h
      split at h
      · rename_i p1 p2 e1 e2
        split at h
        · rename_i c
          cases h
          exact ⟨p1, p2, pd_dp A 64 d1 p1 x e1 r1, pd_dp A 64 d2 p2 y e2 r2, shp_ok c.1, shp_ok c.2, rfl⟩
        · cases h
      · cases h
    have hM : ∀ {b : Bool}, memD d1 d2 S = some b → wpAny (model X.prog X.w) X.A (compareOp .In v u) (EP X pins σ (fun z H1 => z = .bl b ∧ H1 = H)) X.xe s ∧ wpAny (model X.prog X.w) X.A (compareOp .NotIn v u) (EP X pins σ (fun z H1 => z = .bl (!b) ∧ H1 = H)) X.xe s := fun {b} h => by
      cases d2 with
      | tup ys =>
        simp only [memD] at h
        split at h
        · rename_i c
          cases h
          obtain ⟨a, xs, rfl, hs, hr⟩ := r2
          obtain ⟨f1, f2, f3⟩ := eqf_V c.1 r1 c.2 hr
          refine ⟨op_in_seq pins s σ H _ _ v u _ I rx ry ⟨a, xs, rfl, .inr hs, f1, f2, ?_⟩, op_notIn_seq pins s σ H _ _ v u _ I rx ry ⟨a, xs, rfl, .inr hs, f1, f2, ?_⟩⟩
          · rw [if_neg Bool.false_ne_true, f3]
            exact ⟨rfl, rfl⟩
          · rw [if_pos rfl, f3]
            exact ⟨rfl, rfl⟩
        · cases h
      | ref n =>
        simp only [memD] at h
        split at h
        · rename_i p qs e1 e2
          split at h
          · rename_i c
            cases h
            refine ⟨op_inD hu pins s σ H _ _ v u _ I rx ry ⟨p, qs, pd_dp A 64 d1 p x e1 r1, pd_dp A 64 _ _ y e2 r2, shp_ok c.1, shp_ok c.2, ⟨rfl, rfl⟩⟩, op_notInD hu pins s σ H _ _ v u _ I rx ry ⟨p, qs, pd_dp A 64 d1 p x e1 r1, pd_dp A 64 _ _ y e2 r2, shp_ok c.1, shp_ok c.2, ⟨rfl, rfl⟩⟩⟩
          · cases h
        · cases h
      | _ => cases h
    cases o with
    | lt => refine hI (p := fun i j => decide (i < j)) op_lt ?_; cases d1 <;> cases d2 <;> simp only [cmpD] at e <;> first | (cases e; done) | (cases e; exact ⟨_, _, rfl, rfl, rfl⟩)
    | le => refine hI (p := fun i j => decide (i ≤ j)) op_le ?_; cases d1 <;> cases d2 <;> simp only [cmpD] at e <;> first | (cases e; done) | (cases e; exact ⟨_, _, rfl, rfl, rfl⟩)
    | gt => refine hI (p := fun i j => decide (j < i)) op_gt ?_; cases d1 <;> cases d2 <;> simp only [cmpD] at e <;> first | (cases e; done) | (cases e; exact ⟨_, _, rfl, rfl, rfl⟩)
    | ge =>
      have hG : geD S d1 d2 = some k → wpAny (model X.prog X.w) X.A (compareOp .GtE v u) (EP X pins σ Q) X.xe s := fun h => by
        unfold geD at h
        split at h
        · rename_i p1 p2 e1 e2
          split at h
          · rename_i c
            obtain ⟨as, t1⟩ := Dp.reads I p1 x v (pd_dp A 64 d1 p1 x e1 r1) rx
            obtain ⟨bs, t2⟩ := Dp.reads I p2 y u (pd_dp A 64 d2 p2 y e2 r2) ry
            have dp := c.1.2
            have R := rcGe 8 p1 p2 X.A s v u as bs k t1 t2 c.1.1 c.2.1 (by omega) (by omega) h
            exact R X.prog X.w X.xe (EP X pins σ Q) ⟨.bl k, H, I, rfl, fin_flat A q rfl⟩
          · cases h
        · cases h
      cases d1 <;> cases d2 <;> simp only [cmpD] at e <;> first | (cases e; done) | exact hG e | (refine hI (p := fun i j => decide (j ≤ i)) op_ge ?_; cases e; exact ⟨_, _, rfl, rfl, rfl⟩)
    | eq =>
      have e' : eqD S d1 d2 = some k := by cases d1 <;> cases d2 <;> exact e
      obtain ⟨a, b, h1, h2, h3, h4, h5⟩ := hE e'
      exact op_eqD (by omega) pins s σ H x y v u Q I rx ry ⟨a, b, h1, h2, h3, h4, by rw [h5]; exact fin_flat A q rfl⟩
    | ne =>
      have e' : (eqD S d1 d2).map (!·) = some k := by cases d1 <;> cases d2 <;> exact e
      cases e2 : eqD S d1 d2 with
      | none => rw [e2] at e'; cases e'
      | some b =>
        rw [e2] at e'
        cases e'
        obtain ⟨a, b, h1, h2, h3, h4, h5⟩ := hE e2
        exact op_neD (by omega) pins s σ H x y v u Q I rx ry ⟨a, b, h1, h2, h3, h4, by rw [h5]; exact fin_flat A q rfl⟩
    | isn =>
      cases d2 with
      | non =>
        cases r2
        refine op_isN pins s σ H x _ v u Q I rx ry ⟨rfl, ?_⟩
        have ek : decide (x = .non) = k := by
          cases d1 <;> cases e <;> first
            | (cases r1; rfl)
            | (obtain ⟨a, vs, rfl, _⟩ := r1; rfl)
            | (obtain ⟨a, _, rfl⟩ := r1; rfl)
        rw [ek]
        exact fin_flat A q rfl
      | _ => cases d1 <;> cases e
    | nisn =>
      cases d2 with
      | non =>
        cases r2
        refine op_notN pins s σ H x _ v u Q I rx ry ⟨rfl, ?_⟩
        have ek : (!decide (x = .non)) = k := by
          cases d1 <;> cases e <;> first
            | (cases r1; rfl)
            | (obtain ⟨a, vs, rfl, _⟩ := r1; rfl)
            | (obtain ⟨a, _, rfl⟩ := r1; rfl)
        rw [ek]
        exact fin_flat A q rfl
      | _ => cases d1 <;> cases e
    | inn =>
      have e' : memD d1 d2 S = some k := by cases d1 <;> cases d2 <;> exact e
      refine thn (hM e').1 fun z s' ⟨w, H1, I1, rw1, ez, eh⟩ => ?_
      subst ez eh
      exact ⟨_, _, I1, rw1, fin_flat A q rfl⟩
    | nin =>
      have e' : (memD d1 d2 S).map (!·) = some k := by cases d1 <;> cases d2 <;> exact e
      cases e2 : memD d1 d2 S with
      | none => rw [e2] at e'; cases e'
      | some b =>
        rw [e2] at e'
        cases e'
        refine thn (hM e2).2 fun z s' ⟨w, H1, I1, rw1, ez, eh⟩ => ?_
        subst ez eh
        exact ⟨_, _, I1, rw1, fin_flat A q rfl⟩
end
end M

/-! M4: texts against the intermediate form: the look, and the rules by data. -/
namespace M
open PySem PySem.Spec PyProof.Rows L2

def visB (sc : Scope) (x : Str) : Bool := match sc.names.lookup x with
  | some .local | some .cell | some .free => true
  | _ => false
def locB (sc : Scope) (x : Str) : Bool := match sc.names.lookup x with
  | some .local | some .cell => true
  | _ => false
def glB (sc : Scope) (x : Str) : Bool := match sc.names.lookup x with
  | some .globalImplicit => true
  | _ => false
def biS : Bi → Str
  | .len => "len" | .min => "min" | .max => "max" | .int => "int" | .list => "list" | .tuple => "tuple" | .sum => "sum"
def biN : Bi → Nat
  | .len => 1 | .min => 2 | .max => 2 | .int => 1 | .list => 1 | .tuple => 1 | .sum => 1
def tyS : Ty → Str
  | .list => "list" | .tuple => "tuple" | .bool => "bool" | .str => "str" | .int => "int"
def biAll : List Str := ["len", "min", "max", "int", "list", "tuple", "range", "enumerate", "isinstance", "bool", "str", "sum"]
def opB : Operator → Operator → Bool
  | .Add, .Add | .Sub, .Sub | .Mult, .Mult | .FloorDiv, .FloorDiv | .Mod, .Mod | .Pow, .Pow | .BitAnd, .BitAnd | .RShift, .RShift => true
  | _, _ => false
def cpB : CmpOp → CmpOp → Bool
  | .Lt, .Lt | .LtE, .LtE | .Gt, .Gt | .GtE, .GtE | .Eq, .Eq | .NotEq, .NotEq | .Is, .Is | .IsNot, .IsNot | .In, .In | .NotIn, .NotIn => true
  | _, _ => false
theorem opB_eq {a b : Operator} (h : opB a b = true) : a = b := by cases a <;> cases b <;> first | rfl | cases h
theorem cpB_eq {a b : CmpOp} (h : cpB a b = true) : a = b := by cases a <;> cases b <;> first | rfl | cases h
/-- what the look asks of a text -/
structure Ck where
  e : Scope → Expr → Bool
  a : Scope → List Expr → Bool
  o : Scope → Option Expr → Bool
  i : Scope → Expr → Expr → Bool
  l : Scope → Expr → Bool
  c : Scope → List Expr → Bool
def Ck.no : Ck := ⟨fun _ _ => false, fun _ _ => false, fun _ _ => false, fun _ _ _ => false, fun _ _ => false, fun _ _ => false⟩
def Ck.val (e : Scope → Expr → Bool) : Ck := { Ck.no with e := e, o := fun sc x => (match x with | some x => e sc x | none => false), c := fun sc xs => (match xs with | [x] => e sc x | _ => false) }
def nameB (N : List Str) (sc : Scope) (i : Nat) (x : Str) : Bool := N[i]? == some x && !(x == "__debug__") && !(x == "__classdict__")
def tgB (N : List Str) (sc : Scope) : Nat → Expr → Bool
  | i, .Name x _ => nameB N sc i x && locB sc x
  | _, _ => false
def tgsB (N : List Str) (sc : Scope) : List Nat → List Expr → Bool
  | [], [] => true
  | i :: is, e :: es => tgB N sc i e && tgsB N sc is es
  | _, _ => false
def ckT (N : List Str) (sc : Scope) : Tg → Expr → Bool
  | .nm i, e => tgB N sc i e
  | .tp is, .Tuple es _ _ => tgsB N sc is es
  | _, _ => false
def tgIn (own : List Nat) : Tg → Bool
  | .nm i => own.contains i
  | .tp is => is.all own.contains
def isTup : Expr → Bool
  | .Tuple .. => true
  | _ => false
def ck (N cn : List Str) : E → Ck
  | .var i => .val fun sc e => match e with
    | .Name x _ => nameB N sc i x && visB sc x
    | _ => false
  | .int i => .val fun _ e => match e with
    | .Constant (.int j) _ _ => i == j
    | _ => false
  | .bl b => .val fun _ e => match e with
    | .Constant (.bool c) _ _ => b == c
    | _ => false
  | .non => .val fun _ e => match e with
    | .Constant .none _ _ => true
    | _ => false
  | .str x => .val fun _ e => match e with
    | .Constant (.str y) _ _ => x == y
    | _ => false
  | .bin o a b => .val fun sc e => match e with
    | .BinOp l op r _ => opB op (bopO o) && (ck N cn a).e sc l && (ck N cn b).e sc r
    | _ => false
  | .neg a => .val fun sc e => match e with
    | .UnaryOp .USub x _ => (ck N cn a).e sc x
    | _ => false
  | .cmp o a b => .val fun sc e => match e with
    | .Compare l [op] [r] _ => cpB op (copO o) && !behindInMarks op r && (ck N cn a).e sc l && (ck N cn b).e sc r
    | _ => false
  | .chn o p a b c => .val fun sc e => match e with
    | .Compare l [op, op'] [m, r] _ => cpB op (copO o) && cpB op' (copO p) && !lastMarks [op, op'] [m, r] && (ck N cn a).e sc l && (ck N cn b).e sc m && (ck N cn c).e sc r
    | _ => false
  | .boo k as => .val fun sc e => match e with
    | .BoolOp .And es _ => k && !es.isEmpty && (ck N cn as).a sc es
    | .BoolOp .Or es _ => !k && !es.isEmpty && (ck N cn as).a sc es
    | _ => false
  | .not a => .val fun sc e => match e with
    | .UnaryOp .Not x _ => (ck N cn a).e sc x
    | _ => false
  | .ite c a b => { Ck.no with e := fun sc e => match e with
    | .IfExp t x y _ => (ck N cn c).e sc t && (ck N cn a).e sc x && (ck N cn b).e sc y
    | _ => false }
  | .tup as => .val fun sc e => match e with
    | .Tuple es _ _ => (ck N cn as).a sc es
    | _ => false
  | .idx a b => .val fun sc e => match e with
    | .Subscript o i _ => (ck N cn a).e sc o && (ck N cn b).e sc i
    | _ => false
  | .slc a lo hi => .val fun sc e => match e with
    | .Subscript o (.Slice l u none _) _ => (ck N cn a).e sc o && (ck N cn lo).o sc l && (ck N cn hi).o sc u
    | _ => false
  | .call j as => .val fun sc e => match e with
    | .Call (.Name f _) es [] _ => cn[j]? == some f && glB sc f && !(f == "__debug__") && !es.isEmpty && (ck N cn as).a sc es
    | _ => false
  | .bi b as => .val fun sc e => match e with
    | .Call (.Name f _) es [] _ => f == biS b && glB sc f && es.length == biN b && (ck N cn as).a sc es
    | _ => false
  | .isi a t => .val fun sc e => match e with
    | .Call (.Name f _) [x, .Name y _] [] _ => f == "isinstance" && glB sc f && y == tyS t && glB sc y && (ck N cn a).e sc x
    | _ => false
  | .lst l => .val fun sc e => (ck N cn l).l sc e
  | .tupL l => .val fun sc e => match e with
    | .Call (.Name f _) [x] [] _ => f == "tuple" && glB sc f && (ck N cn l).l sc x
    | _ => false
  | .nilL neg l => .val fun sc e => match e with
    | .Compare x [.Eq] [.List [] _] _ => !neg && (ck N cn l).l sc x
    | .Compare x [.NotEq] [.List [] _] _ => neg && (ck N cn l).l sc x
    | _ => false
  | .app o a => .val fun sc e => match e with
    | .Call (.Attribute x m ap) [y] [] cp => m == "append" && ap.endLine == cp.line && (ck N cn o).e sc x && (ck N cn a).e sc y
    | _ => false
  | .extL o l => .val fun sc e => match e with
    | .Call (.Attribute x m ap) [y] [] cp => m == "extend" && ap.endLine == cp.line && (ck N cn o).e sc x && (ck N cn l).l sc y
    | _ => false
  | .disp as => { Ck.no with l := fun sc e => match e with
    | .List es _ => (ck N cn as).a sc es
    | _ => false }
  | .comp own tg it c elt => { Ck.no with l := fun sc e => match e with
    | .ListComp el [⟨t, i, ifs, 0⟩] csc _ => blkC N sc csc (own.map fun i => (N.getD i "", i)) && ckT N csc tg t && tgIn own tg && (ck N cn it).i sc t i && (ck N cn c).c csc ifs && (ck N cn elt).e csc el
    | _ => false }
  | .nil => { Ck.no with a := fun _ es => es.isEmpty, o := fun _ x => x.isNone, c := fun _ xs => xs.isEmpty }
  | .cons a as => { Ck.no with a := fun sc es => match es with
    | x :: xs => (ck N cn a).e sc x && (ck N cn as).a sc xs
    | [] => false }
  | .seq a => { Ck.no with i := fun sc _ e => (ck N cn a).e sc e }
  | .rng1 a => { Ck.no with i := fun sc _ e => match e with
    | .Call (.Name f _) [x] [] _ => f == "range" && glB sc f && (ck N cn a).e sc x
    | _ => false }
  | .rng2 a b => { Ck.no with i := fun sc _ e => match e with
    | .Call (.Name f _) [x, y] [] _ => f == "range" && glB sc f && (ck N cn a).e sc x && (ck N cn b).e sc y
    | _ => false }
  | .enm a => { Ck.no with i := fun sc t e => match e with
    | .Call (.Name f _) [x] [] _ => f == "enumerate" && glB sc f && isTup t && (ck N cn a).e sc x
    | _ => false }

/-- what holds where a text runs -/
structure Kx (X : Cx) (N cn : List Str) (T : List Fn) (sc : Scope) : Prop where
  hN : X.N = N
  nd : N.Nodup
  calm : X.calm = true
  xe : X.xe = fun _ _ => False
  hu : X.A.units + 65 < cLine
  vis : ∀ x, visB sc x = true → Vis X.env.scope x
  loc : ∀ x, locB sc x = true → Loc X.env.scope x ∧ (X.fn x = true ∨ X.env.scope.names.lookup x = some .local)
  gl : ∀ x, glB sc x = true → Gl X x
  fr : ∀ x, sc.names.lookup x = some .cell ∨ sc.names.lookup x = some .free → X.env.scope.names.lookup x = some .cell ∨ X.env.scope.names.lookup x = some .free
  bi : ∀ x, x ∈ biAll → X.mg x = none
  tab : ∀ (j : Nat) (x : Str) (F : Fn), cn[j]? = some x → T[j]? = some F → ∃ k f fd ps, X.mg x = some (.ref f) ∧ PySem.W.keepIn X.K (.ref f) = true ∧ Binds X.K fd ps [] ∧
    FnOk X.prog X.w X.K X.mg X.base CX0 k f fd ps (spD X.K F) ∧ Room k X.A
end M

/-! M5: the rules by data, construct by construct. -/
namespace M
open PySem PySem.Spec PyProof.Rows L2
section
variable {X : Cx} {N cn : List Str} {T : List Fn} {sc : Scope}
abbrev VF := Ev → Sto → Option (D × Sto)
abbrev TF := Ev → Sto → Option (Bool × Sto)
/-! ### one part, two parts, three parts -/
theorem tD1 {K : PySem.W.Frag} {fa : VF} {g : D → Sto → Option (D × Sto)} {r : V → Hp → VK → Prop} (hr : ∀ x H Q, rD1 K g x H Q → r x H Q) {σ : L2.St} {H : Hp} {Q : VK} (h : tD K (fun e S => bnd (fa e S) g) σ H Q) :
    tD K fa σ H fun x H1 => r x H1 Q := by
  obtain ⟨R, e, S, d, S', A, h, q⟩ := h
  obtain ⟨x, S1, h1, h2⟩ := bnd_eq h
  exact ⟨R, e, S, x, S1, A, h1, fun R1 H1 v L1 A1 r1 => hr _ _ _ ⟨R1, S1, x, d, S', A1, r1, h2, fun R2 H2 w L2 A2 r2 => q R2 H2 w (L1.trans L2) A2 r2⟩⟩
theorem tD2 {K : PySem.W.Frag} {fa fb : VF} {g : D → D → Sto → Option (D × Sto)} {r : R2} (hr : ∀ x y H Q, rD2 K g x y H Q → r x y H Q) {σ : L2.St} {H : Hp} {Q : VK} (h : tD K (fun e S => bnd (fa e S) fun x S => bnd (fb e S) fun y S => g x y S) σ H Q) :
    tOp r (tD K fa) (tD K fb) σ H Q := by
  obtain ⟨R, e, S, d, S', A, h, q⟩ := h
  obtain ⟨x, S1, h1, h2⟩ := bnd_eq h
  obtain ⟨y, S2, h3, h4⟩ := bnd_eq h2
  exact ⟨R, e, S, x, S1, A, h1, fun R1 H1 v L1 A1 r1 => ⟨R1, e, S1, y, S2, A.mono L1.toLo A1, h3, fun R2 H2 w L2 A2 r2 => hr _ _ _ _ ⟨R2, S2, x, y, d, S', A2, r1.mono L2.toLo, r2, h4,
    fun R3 H3 u L3 A3 r3 => q R3 H3 u ((L1.trans L2).trans L3) A3 r3⟩⟩⟩
theorem tDs {K : PySem.W.Frag} {fa : Ev → Sto → Option (List D × Sto)} {g : List D → Sto → Option (D × Sto)} {r : List V → Hp → VK → Prop} (hr : ∀ x H Q, rDs K g x H Q → r x H Q) {σ : L2.St} {H : Hp} {Q : VK} (h : tD K (fun e S => bnd (fa e S) g) σ H Q) :
    tDA K fa σ H fun x H1 => r x H1 Q := by
  obtain ⟨R, e, S, d, S', A, h, q⟩ := h
  obtain ⟨x, S1, h1, h2⟩ := bnd_eq h
  exact ⟨R, e, S, x, S1, A, h1, fun R1 H1 v L1 A1 r1 => hr _ _ _ ⟨R1, S1, x, d, S', A1, r1, h2, fun R2 H2 w L2 A2 r2 => q R2 H2 w (L1.trans L2) A2 r2⟩⟩

theorem tDsB {K : PySem.W.Frag} {fa : Ev → Sto → Option (List D × Sto)} {g : List D → Sto → Option (D × Sto)} {r : List V → Hp → VK → Prop} (hr : ∀ x H Q, rDs K g x H Q → r x H Q) {σ : L2.St} {H : Hp} {Q : VK} (h : tD K (fun e S => bnd (fa e S) g) σ H Q) :
    tCB r (tDA K fa) σ H Q := tDs hr h
/-! ### never -/
theorem pt_no {e : Expr} : PT X e (tDT X.K fun _ _ => none) := ⟨fun _ _ _ _ _ _ ⟨_, _, _, _, _, _, h, _⟩ => by cases h⟩
theorem po_no {e : Option Expr} : PO X e (tDO X.K fun _ _ => none) := ⟨fun _ _ _ _ _ _ ⟨_, _, _, _, _, _, h, _⟩ => by cases h⟩

/-! ### small expressions -/
theorem pe_c {e : Expr} {v : V} {d : D} (h : PE X e (tC v)) (r : ∀ R H, Rep X.K R H v d) : PE X e (tD X.K fun _ S => some (d, S)) :=
  PE.imp h fun σ H Q ⟨R, e, S, d', S', A, h, q⟩ => by
    cases h
    exact q R H v Le.refl A.h (r R H)
theorem pe_vr (k : Kx X N cn T sc) {i : Nat} {x : Str} {pos : Pos} (h1 : nameB N sc i x = true) (h2 : visB sc x = true) : PE X (.Name x pos) (tD X.K fun e S => (getv e i).map (·, S)) := by
  unfold nameB at h1
  rw [Bool.and_eq_true, Bool.and_eq_true] at h1
  refine PE.imp (pe_var (i := i) (by rw [k.hN]; exact eq_of_beq h1.1.1) (k.vis x h2) (by simpa using h1.1.2) (by simpa using h1.2)) fun σ H Q ⟨R, e, S, d, S', A, h, q⟩ => ?_
  replace h : (getv e i).map (·, S) = some (d, S') := h
  cases e1 : getv e i with
  | none => rw [e1] at h; cases h
  | some d' =>
    rw [e1] at h
    cases h
    obtain ⟨v, e2, r⟩ := A.st i _ e1
    exact ⟨v, e2, q R H v Le.refl A.h r⟩
/-- a value as a test -/
theorem truV_of {K : PySem.W.Frag} {R : List Addr} {H : Hp} {S : Sto} {d : D} {v : V} {b : Bool} (A : AbsH K R H S) (r : Rep K R H v d) (h : truD S d = some b) : TruV K v H b := by
  cases d with
  | non => cases r; cases h; rfl
  | bl k => cases r; cases h; rfl
  | int i => cases r; cases h; rfl
  | str x => cases h
  | tup xs =>
    cases h
    obtain ⟨a, vs, rfl, hs, hr⟩ := r
    refine .inr (.inl ⟨vs, hs, ?_⟩)
    have := hr.length
    cases vs <;> cases xs <;> first | rfl | cases this
  | ref n =>
    simp only [truD] at h
    split at h
    · rename_i xs hi
      cases h
      obtain ⟨a, vs, e1, hs, hr⟩ := A.items hi
      obtain rfl := rep_ref r e1
      refine .inl ⟨vs, hs, ?_⟩
      have := hr.length
      cases vs <;> cases xs <;> first | rfl | cases this
    · cases h
theorem tst_of {K : PySem.W.Frag} {v : VF} {σ : L2.St} {H : Hp} {Q : Bool → Hp → Prop} (h : tDT K (tstF v) σ H Q) : tD K v σ H fun x H1 => ∃ k, TruV K x H1 k ∧ Q k H1 := by
  obtain ⟨R, e, S, d, S', A, h, q⟩ := h
  obtain ⟨x, S1, h1, h2⟩ := bnd_eq h
  refine ⟨R, e, S, x, S1, A, h1, fun R1 H1 w L1 A1 r1 => ?_⟩
  replace h2 : (truD S1 x).map (·, S1) = some (d, S') := h2
  cases e2 : truD S1 x with
  | none => rw [e2] at h2; cases h2
  | some b =>
    rw [e2] at h2
    cases h2
    exact ⟨d, truV_of A1 r1 e2, q R1 H1 L1 A1⟩
theorem tst_bl {K : PySem.W.Frag} {v : VF} (hb : ∀ e S d S', v e S = some (d, S') → ∃ k, d = .bl k) {σ : L2.St} {H : Hp} {Q : Bool → Hp → Prop} (h : tDT K (tstF v) σ H Q) : tD K v σ H fun x H1 => ∃ k, x = .bl k ∧ Q k H1 := by
  obtain ⟨R, e, S, d, S', A, h, q⟩ := h
  obtain ⟨x, S1, h1, h2⟩ := bnd_eq h
  obtain ⟨k, rfl⟩ := hb _ _ _ _ h1
  cases h2
  refine ⟨R, e, S, _, S', A, h1, fun R1 H1 w L1 A1 r1 => ?_⟩
  cases r1
  exact ⟨_, rfl, q R1 H1 L1 A1⟩
theorem pt_tst {e : Expr} {v : VF} (h : PE X e (tD X.K v)) (he : ∀ whole, isTrue e X.env whole = (do let v ← whole; standAt e.pos; holding [v] (truthy v))) : PT X e (tDT X.K (tstF v)) :=
  PT.imp (pt_truth h he) fun σ H Q q => tst_of q
theorem po_val {e : Expr} {v : VF} (h : PE X e (tD X.K v)) : PO X (some e) (tDO X.K (prtF v)) := by
  refine PO.imp (po_some h) fun σ H Q ⟨R, e, S, d, S', A, h, q⟩ => ?_
  obtain ⟨x, S1, h1, h2⟩ := bnd_eq h
  refine ⟨R, e, S, x, S1, A, h1, fun R1 H1 w L1 A1 r1 => ?_⟩
  cases x with
  | int i =>
    cases h2
    cases r1
    exact ⟨i, rfl, q R1 H1 L1 A1⟩
  | _ => cases h2

/-! ### arguments -/
theorem pa_nilD : PA X [] (tDA X.K fun _ S => some ([], S)) := PA.imp pa_nil fun σ H Q ⟨R, e, S, d, S', A, h, q⟩ => by
  cases h
  exact q R H [] Le.refl A.h rfl
theorem pa_consD {e : Expr} {es : List Expr} {fa : VF} {fr : Ev → Sto → Option (List D × Sto)} (h1 : PE X e (tD X.K fa)) (h2 : PA X es (tDA X.K fr)) (hs : starEach (e :: es) X.env = (false, eval e X.env) :: starEach es X.env) :
    PA X (e :: es) (tDA X.K fun e S => bnd (fa e S) fun x S => bnd (fr e S) fun xs S => some (x :: xs, S)) := by
  refine PA.imp (pa_cons h1 h2 hs) fun σ H Q ⟨R, e, S, d, S', A, h, q⟩ => ?_
  obtain ⟨x, S1, h1, h2⟩ := bnd_eq h
  obtain ⟨y, S2, h3, h4⟩ := bnd_eq h2
  replace h4 : some (x :: y, S2) = some (d, S') := h4
  cases h4
  exact ⟨R, e, S, x, S1, A, h1, fun R1 H1 v L1 A1 r1 => ⟨R1, e, S1, y, S', A.mono L1.toLo A1, h3, fun R2 H2 vs L2 A2 r2 => q R2 H2 (v :: vs) (L1.trans L2) A2 ⟨v, vs, rfl, r1.mono L2.toLo, r2⟩⟩⟩
/-! ### tuples, lists -/
theorem pe_tupD {es : List Expr} {k : Nat} {pos : Pos} {fa : Ev → Sto → Option (List D × Sto)} (h : PA X es (tDA X.K fa)) : PE X (.Tuple es k pos) (tD X.K fun e S => bnd (fa e S) fun ds S => if ds.length ≤ LIM then some (.tup ds, S) else none) := by
  refine PE.imp (pe_tup h) fun σ H Q q => tDs (r := fun xs H Q => xs.length ≤ sizeLine ∧ ∀ p, H p = none → Q (.ref p) (upd H p (.tup xs))) (fun xs H Q ⟨R, S, ds, d, S', A, r, h, q⟩ => ?_) q
  replace h : (if ds.length ≤ LIM then some (D.tup ds, S) else none) = some (d, S') := h
  split at h
  · rename_i hl
    cases h
    exact ⟨by rw [r.length]; exact Nat.le_trans hl (Nat.le_of_lt lim_line), fun p hp => q R _ _ (le_new hp) (A.new hp) (rep_tup_new hp r)⟩
  · cases h
theorem pe_dispD {es : List Expr} {pos : Pos} {fa : Ev → Sto → Option (List D × Sto)} (h : PA X es (tDA X.K fa)) : PE X (.List es pos) (tDL X.K fun e S => bnd (fa e S) fun ds S => if ds.length ≤ LIM then some (ds, S) else none) := by
  refine PE.imp (pe_lst h) fun σ H Q ⟨R, e, S, d, S', A, h, q⟩ => ?_
  obtain ⟨x, S1, h1, h2⟩ := bnd_eq h
  replace h2 : (if x.length ≤ LIM then some (x, S1) else none) = some (d, S') := h2
  split at h2
  · rename_i hl
    cases h2
    refine ⟨R, e, S, _, _, A, h1, fun R1 H1 vs L1 A1 r1 => ⟨by rw [r1.length]; exact Nat.le_trans hl (Nat.le_of_lt lim_line), fun p hp => ?_⟩⟩
    exact q R1 _ p vs (L1.trans (le_new hp)) (A1.new hp) (A1.not_mt hp) (L1.free A1 hp) upd_same (r1.mono (le_new (K := X.K) (R := R1) (S := []) hp).toLo)
  · cases h2
/-- a list gets its number -/
theorem pe_lstD {e : Expr} {fl : Ev → Sto → Option (List D × Sto)} (h : PE X e (tDL X.K fl)) : PE X e (tD X.K fun e S => bnd (fl e S) fun ds S => some (.ref S.length, S ++ [.lst ds])) := by
  refine PE.imp h fun σ H Q ⟨R, e, S, d, S', A, h, q⟩ => ?_
  obtain ⟨x, S1, h1, h2⟩ := bnd_eq h
  cases h2
  exact ⟨R, e, S, x, S1, A, h1, fun R1 H1 p vs L1 A1 n1 f1 e1 r1 => q _ H1 _ (L1.adopt A1 f1) (A1.reg e1 n1 r1) (rep_new A1)⟩
/-! ### places -/
theorem atI_rep {K : PySem.W.Frag} {R : List Addr} {H : Hp} {ds : List D} {vs : List V} {i : Int} {d : D} (r : Reps K R H vs ds) (h : atI ds i = some d) : ∃ v, atI vs i = some v ∧ Rep K R H v d := by
  unfold atI at h ⊢
  rw [r.length]
  cases e : ixN ds.length i with
  | none => rw [e] at h; cases h
  | some j =>
    rw [e] at h
    obtain ⟨v, e1, r1⟩ := r.get (i := j) (d := d) h
    exact ⟨v, e1, r1⟩
theorem ix_D {x y : V} {H : Hp} {Q : VK} (hq : rD2 X.K idxD x y H Q) : rIx X.K x y H Q := by
  obtain ⟨R, S, d1, d2, d, S', A, r1, r2, hg, q⟩ := hq
  cases d2 with
  | int i =>
    simp only [idxD] at hg
    split at hg
    · rename_i xs hx
      cases e : atI xs i with
      | none => rw [e] at hg; cases hg
      | some z =>
        rw [e] at hg
        cases hg
        cases r2
        cases d1 with
        | tup ds =>
          cases hx
          obtain ⟨a, vs, rfl, hs, hr⟩ := r1
          obtain ⟨w, e1, rw1⟩ := atI_rep hr e
          exact .inr (.inl ⟨a, vs, i, w, rfl, rfl, hs, e1, q R H w Le.refl A rw1⟩)
        | ref n =>
          obtain ⟨a, vs, e0, hs, hr⟩ := A.items hx
          obtain rfl := rep_ref r1 e0
          obtain ⟨w, e1, rw1⟩ := atI_rep hr e
          exact .inl ⟨a, vs, i, w, rfl, rfl, hs, e1, q R H w Le.refl A rw1⟩
        | _ => cases hx
    · cases hg
  | _ => cases hg
theorem cut_rep {K : PySem.W.Frag} {R : List Addr} {H : Hp} {ds : List D} {vs : List V} (r : Reps K R H vs ds) (lo hi : Option Int) : Reps K R H (cutV vs lo hi) (cut ds lo hi) := by
  unfold cutV cut
  rw [r.length]
  exact (r.drop _).take _
theorem cut_whole {ds : List D} {lo hi : Option Int} (h : HT.sIx ds.length 0 lo = 0 ∧ HT.sIx ds.length ds.length hi = ds.length) : cut ds lo hi = ds := by
  unfold cut
  rw [h.1, h.2]
  simp
theorem pe_slcD {e : Expr} {lo hi : Option Expr} {p2 pos : Pos} {fa : VF} {fl fh : Ev → Sto → Option (Option Int × Sto)} (h1 : PE X e (tD X.K fa)) (h2 : PO X lo (tDO X.K fl)) (h3 : PO X hi (tDO X.K fh)) :
    PE X (.Subscript e (.Slice lo hi none p2) pos) (tD X.K fun e S => bnd (fa e S) fun x S => bnd (fl e S) fun l S => bnd (fh e S) fun h S => slcD x l h S) := by
  refine PE.imp (pe_slice (sl_tupA.or sl_list) h1 h2 h3) fun σ H Q ⟨R, e, S, d, S', A, h, q⟩ => ?_
  obtain ⟨x, S1, g1, h⟩ := bnd_eq h
  obtain ⟨l, S2, g2, h⟩ := bnd_eq h
  obtain ⟨u, S3, g3, h⟩ := bnd_eq h
  refine ⟨R, e, S, x, S1, A, g1, fun R1 H1 v L1 A1 r1 => ⟨R1, e, S1, l, S2, A.mono L1.toLo A1, g2, fun R2 H2 L2 A2 => ⟨R2, e, S2, u, S3, (A.mono L1.toLo A1).mono L2.toLo A2, g3, fun R3 H3 L3 A3 => ?_⟩⟩⟩
  have r3 := (r1.mono L2.toLo).mono L3.toLo
  have L := (L1.trans L2).trans L3
  cases x with
  | tup ds =>
    cases h
    obtain ⟨a, vs, rfl, hs, hr⟩ := r3
    refine .inl ⟨a, vs, rfl, hs, fun hw => ?_, fun _ p hp => ?_⟩
    · rw [hr.length] at hw
      refine q R3 H3 _ L A3 ⟨a, vs, rfl, hs, ?_⟩
      rw [cut_whole hw]
      exact hr
    · exact q R3 _ _ (L.trans (le_new hp)) (A3.new hp) (rep_tup_new hp (cut_rep hr l u))
  | ref n =>
    replace h : (match itemsAt S3 n with | some xs => some (D.ref S3.length, S3 ++ [Ob.lst (cut xs l u)]) | none => none) = some (d, S') := h
    split at h
    · rename_i xs hx
      cases h
      obtain ⟨a, vs, e0, hs, hr⟩ := A3.items hx
      obtain rfl := rep_ref r3 e0
      exact .inr ⟨a, vs, rfl, hs, fun p hp => q _ _ _ (L.trans (le_reg A3 hp)) (A3.alloc hp (cut_rep hr l u)) (rep_new A3)⟩
    · cases h
  | _ => cases h
/-! ### calls -/
theorem pe_callD (k : Kx X N cn T sc) {j : Nat} {f : Str} {p pos : Pos} {e : Expr} {es : List Expr} {fa : Ev → Sto → Option (List D × Sto)} (h1 : cn[j]? = some f) (h2 : glB sc f = true) (h3 : (f == ("__debug__" : Str)) = false) (ha : PA X (e :: es) (tDA X.K fa))
    (he : starEach (e :: es) X.env = (false, eval e X.env) :: starEach es X.env) (hpl : (backTo pos (starEach es X.env)).any (·.1) = false) :
    PE X (.Call (.Name f p) (e :: es) [] pos) (tD X.K fun e S => bnd (fa e S) fun ds S => match T[j]? with
      | some F => F ds S
      | none => none) := by
  cases hT : T[j]? with
  | none =>
    refine ⟨fun pins s σ H Q I ⟨R, e, S, d, S', A, h, q⟩ => ?_⟩
    obtain ⟨x, S1, g1, h⟩ := bnd_eq h
    cases h
  | some F =>
    obtain ⟨kk, a, fd, ps, hm, hk, hb, hF, hr⟩ := k.tab j f F h1 hT
    refine PE.imp (pe_call (dvs := []) (ds := []) hF hr (k.gl f h2) hm hk hb .nil pass0 ha h3 he hpl) fun σ H Q q => ?_
    refine tDs (g := F) (fun xs H Q q => ?_) q
    show rDs X.K F (xs ++ []) H Q
    rw [List.append_nil]
    exact q
theorem ints_rep {K : PySem.W.Frag} {R : List Addr} {H : Hp} : ∀ {ds : List D} {ns : List Int} {vs : List V}, intsOf ds = some ns → Reps K R H vs ds → vs = ns.map V.int
  | [], ns, vs, h, r => by
    cases h
    cases r
    rfl
  | d :: ds, ns, vs, h, ⟨v, w, e, r1, r2⟩ => by
    subst e
    cases d with
    | int i =>
      have h' : (intsOf ds).map (i :: ·) = some ns := h
      obtain ⟨ms, hm, rfl⟩ := Option.map_eq_some_iff.mp h'
      cases r1
      rw [ints_rep hm r2]
      rfl
    | _ => cases h
theorem pe_biD (k : Kx X N cn T sc) (b : Bi) {p pos : Pos} {e : Expr} {es : List Expr} {fa : Ev → Sto → Option (List D × Sto)} (h2 : glB sc (biS b) = true) (ha : PA X (e :: es) (tDA X.K fa))
    (he : starEach (e :: es) X.env = (false, eval e X.env) :: starEach es X.env) (hpl : (backTo pos (starEach es X.env)).any (·.1) = false) :
    PE X (.Call (.Name (biS b) p) (e :: es) [] pos) (tD X.K fun e S => bnd (fa e S) fun ds S => biD b ds S) := by
  have hm : X.mg (biS b) = none := k.bi _ (by cases b <;> decide +kernel)
  cases b with
  | len =>
    refine PE.imp (pe_callB (id := "len") call_len (k.gl _ h2) hm PySem.boot_len ha (by decide +kernel) (by decide +kernel) he hpl) fun σ H Q q => tDsB (g := biD .len) (fun xs H Q ⟨R, S, ds, d, S', A, r, h, q⟩ => ?_) q
    match ds, h with
    | [x], h =>
      obtain ⟨v, w, rfl, r1, r2⟩ := r
      cases r2
      simp only [biD] at h
      split at h
      · rename_i ys hx
        cases h
        refine ⟨v, ys.length, rfl, ?_, fin_flat A q rfl⟩
        cases x with
        | tup ds =>
          cases hx
          obtain ⟨a, vs, rfl, hs, hr⟩ := r1
          exact .inr ⟨vs, hs, hr.length.symm⟩
        | ref n =>
          obtain ⟨a, vs, e0, hs, hr⟩ := A.items hx
          obtain rfl := rep_ref r1 e0
          exact .inl ⟨vs, hs, hr.length.symm⟩
        | _ => cases hx
      · cases h
  | min =>
    refine PE.imp (pe_callB (id := "min") (call_min2 k.calm) (k.gl _ h2) hm boot_min ha (by decide +kernel) (by decide +kernel) he hpl) fun σ H Q q => tDsB (g := biD .min) (fun xs H Q ⟨R, S, ds, d, S', A, r, h, q⟩ => ?_) q
    match ds, h with
    | [.int i, .int j], h =>
      obtain ⟨v, w, rfl, r1, v2, w2, rfl, r2, r3⟩ := r
      cases r1; cases r2; cases r3
      cases h
      exact ⟨i, j, rfl, fin_flat A q rfl⟩
  | max =>
    refine PE.imp (pe_callB (id := "max") (call_max2 k.calm) (k.gl _ h2) hm boot_max ha (by decide +kernel) (by decide +kernel) he hpl) fun σ H Q q => tDsB (g := biD .max) (fun xs H Q ⟨R, S, ds, d, S', A, r, h, q⟩ => ?_) q
    match ds, h with
    | [.int i, .int j], h =>
      obtain ⟨v, w, rfl, r1, v2, w2, rfl, r2, r3⟩ := r
      cases r1; cases r2; cases r3
      cases h
      exact ⟨i, j, rfl, fin_flat A q rfl⟩
  | int =>
    refine PE.imp (pe_callTy (T := "int") call_int1 (k.gl _ h2) hm PyProof.Rows.boot_int ha (by decide +kernel) (by decide +kernel) he hpl) fun σ H Q q => tDsB (g := biD .int) (fun xs H Q ⟨R, S, ds, d, S', A, r, h, q⟩ => ?_) q
    match ds, h with
    | [.int i], h =>
      obtain ⟨v, w, rfl, r1, r2⟩ := r
      cases r1; cases r2
      cases h
      exact .inl ⟨i, rfl, fin_flat A q rfl⟩
    | [.bl i], h =>
      obtain ⟨v, w, rfl, r1, r2⟩ := r
      cases r1; cases r2
      cases h
      exact .inr ⟨i, rfl, fin_flat A q rfl⟩
  | list =>
    refine PE.imp (pe_callTy (T := "list") call_list_of (k.gl _ h2) hm PyProof.Rows.boot_list ha (by decide +kernel) (by decide +kernel) he hpl) fun σ H Q q => tDsB (g := biD .list) (fun xs H Q ⟨R, S, ds, d, S', A, r, h, q⟩ => ?_) q
    match ds, h with
    | [x], h =>
      obtain ⟨v, w, rfl, r1, r2⟩ := r
      cases r2
      simp only [biD] at h
      split at h
      · rename_i ys hx
        cases h
        cases x with
        | tup ds =>
          cases hx
          obtain ⟨a, vs, rfl, hs, hr⟩ := r1
          exact ⟨a, vs, rfl, .inr hs, fun p hp => q _ _ _ (le_reg A hp) (A.alloc hp hr) (rep_new A)⟩
        | ref n =>
          obtain ⟨a, vs, e0, hs, hr⟩ := A.items hx
          obtain rfl := rep_ref r1 e0
          exact ⟨a, vs, rfl, .inl hs, fun p hp => q _ _ _ (le_reg A hp) (A.alloc hp hr) (rep_new A)⟩
        | _ => cases hx
      · cases h
  | tuple =>
    refine PE.imp (pe_callTy (T := "tuple") call_tuple_of (k.gl _ h2) hm PyProof.Rows.boot_tuple ha (by decide +kernel) (by decide +kernel) he hpl) fun σ H Q q => tDsB (g := biD .tuple) (fun xs H Q ⟨R, S, ds, d, S', A, r, h, q⟩ => ?_) q
    match ds, h with
    | [x], h =>
      obtain ⟨v, w, rfl, r1, r2⟩ := r
      cases r2
      simp only [biD] at h
      split at h
      · rename_i ys hx
        cases h
        cases x with
        | tup ds =>
          cases hx
          obtain ⟨a, vs, rfl, hs, hr⟩ := r1
          exact ⟨a, vs, rfl, .inr ⟨hs, q R H _ Le.refl A ⟨a, vs, rfl, hs, hr⟩⟩⟩
        | ref n =>
          obtain ⟨a, vs, e0, hs, hr⟩ := A.items hx
          obtain rfl := rep_ref r1 e0
          exact ⟨a, vs, rfl, .inl ⟨hs, fun p hp => q _ _ _ (le_new hp) (A.new hp) (rep_tup_new hp hr)⟩⟩
        | _ => cases hx
      · cases h
  | sum =>
    refine PE.imp (pe_callB (id := "sum") (cr_sum k.calm) (k.gl _ h2) hm boot_sum ha (by decide +kernel) (by decide +kernel) he hpl) fun σ H Q q => tDsB (g := biD .sum) (fun xs H Q ⟨R, S, ds, d, S', A, r, h, q⟩ => ?_) q
    match ds, h with
    | [.ref n], h =>
      obtain ⟨v, w, rfl, r1, r2⟩ := r
      cases r2
      simp only [biD] at h
      split at h
      · rename_i ys hx
        split at h
        · rename_i ns hn
          cases h
          obtain ⟨a, vs, e0, hs, hr⟩ := A.items hx
          obtain rfl := rep_ref r1 e0
          have ev : vs = ns.map V.int := ints_rep hn hr
          exact ⟨a, ns, rfl, by rw [← ev]; exact hs, fin_flat A q rfl⟩
        · cases h
      · cases h
end
end M

/-! M6: append, lists made and dropped, isinstance, walks, comprehensions. -/
namespace M
open PySem PySem.Spec PyProof.Rows L2
section
variable {X : Cx} {N cn : List Str} {T : List Fn} {sc : Scope}
/-- o.append(e) -/
theorem tyV_list {K : PySem.W.Frag} {R : List Addr} {H : Hp} {S : Sto} {n : Nat} {v : V} (A : AbsH K R H S) (r : Rep K R H v (.ref n)) : tyV K "list" v H := by
  obtain ⟨a, e, rfl⟩ := r
  have hn : n < S.length := by rw [← A.len]; exact (List.getElem?_eq_some_iff.mp e).1
  obtain ⟨b, e1, q⟩ := A.ob n S[n] (List.getElem?_eq_getElem hn)
  rw [e] at e1
  cases e1
  generalize S[n] = o at q
  cases o with
  | lst ds =>
    obtain ⟨vs, h1, h2⟩ := q
    exact .inl ⟨rfl, vs, SqL.of h1⟩
  | rdl ds =>
    obtain ⟨vs, h1, h2⟩ := q
    refine .inl ⟨rfl, vs, ?_⟩
    rcases h1 with ⟨o, q⟩ | q
    · exact .inl (.inr ⟨o, q⟩)
    · exact .inr q
theorem pe_appD {o e : Expr} {ap cp : Pos} {fo fa : VF} (h1 : PE X o (tD X.K fo)) (h2 : PE X e (tD X.K fa)) (hb : attributeBase o "append" X.env (eval o X.env) = eval o X.env) (hl : (ap.endLine == cp.line) = true)
    (hs : starEach [e] X.env = (false, eval e X.env) :: starEach [] X.env) : PE X (.Call (.Attribute o "append" ap) [e] [] cp) (tD X.K fun e S => bnd (fo e S) fun x S => bnd (fa e S) fun y S => appD x y S) := by
  refine PE.imp (pe_bm PySem.F.plainAttrs_list PySem.F.slot_list_append PySem.F.type_list_append mt_append h1 (pa_cons h2 pa_nil hs) hb (by rw [hs]; rfl) hl hs (by rfl)) fun σ H Q ⟨R, e, S, d, S', A, h, q⟩ => ?_
  obtain ⟨x, S1, g1, h⟩ := bnd_eq h
  obtain ⟨y, S2, g2, h⟩ := bnd_eq h
  refine ⟨R, e, S, x, S1, A, g1, fun R1 H1 v L1 A1 r1 => ?_⟩
  cases x with
  | ref n =>
    refine ⟨tyV_list A1 r1, R1, e, S1, y, S2, A.mono L1.toLo A1, g2, fun R2 H2 w L2 A2 r2 => ?_⟩
    simp only [appD] at h
    split at h
    · rename_i xs hx
      split at h
      · rename_i hl
        cases h
        obtain ⟨a, vs, e0, hH, hr⟩ := A2.lst hx
        obtain rfl := rep_ref (r1.mono L2.toLo) e0
        refine ⟨a, vs, w, rfl, rfl, hH, by rw [hr.length]; exact Nat.lt_trans hl lim_line, ?_⟩
        exact q R2 _ .non ((L1.trans L2).trans (le_write hx e0 hH)) (A2.write hx e0 hH (hr.append (Reps.one r2))) rfl
      · cases h
    · cases h
  | _ => cases h
theorem pe_extD {o e : Expr} {ap cp : Pos} {fo : VF} {fl : Ev → Sto → Option (List D × Sto)} (h1 : PE X o (tD X.K fo)) (h2 : PE X e (tDL X.K fl)) (hb : attributeBase o "extend" X.env (eval o X.env) = eval o X.env) (hl : (ap.endLine == cp.line) = true)
    (hs : starEach [e] X.env = (false, eval e X.env) :: starEach [] X.env) : PE X (.Call (.Attribute o "extend" ap) [e] [] cp) (tD X.K fun e S => bnd (fo e S) fun x S => bnd (fl e S) fun ys S => extD x ys S) := by
  refine PE.imp (pe_bm PySem.F.plainAttrs_list PySem.F.slot_list_extend PySem.F.type_list_extend mt_extend h1 (pa_cons h2 pa_nil hs) hb (by rw [hs]; rfl) hl hs (by rfl)) fun σ H Q ⟨R, e, S, d, S', A, h, q⟩ => ?_
  obtain ⟨x, S1, g1, h⟩ := bnd_eq h
  obtain ⟨y, S2, g2, h⟩ := bnd_eq h
  refine ⟨R, e, S, x, S1, A, g1, fun R1 H1 v L1 A1 r1 => ?_⟩
  cases x with
  | ref n =>
    refine ⟨tyV_list A1 r1, R1, e, S1, y, S2, A.mono L1.toLo A1, g2, fun R2 H2 p ws L2 A2 n2 f2 e2 r2 => ?_⟩
    simp only [extD] at h
    split at h
    · rename_i xs hx
      split at h
      · rename_i hl
        cases h
        obtain ⟨a, vs, e0, hH, hr⟩ := A2.lst hx
        obtain rfl := rep_ref (r1.mono L2.toLo) e0
        refine ⟨a, p, vs, ws, rfl, rfl, hH, e2, by rw [hr.length, r2.length]; exact Nat.le_trans hl (Nat.le_of_lt lim_line), ?_⟩
        exact q R2 _ .non ((L1.trans L2).trans (le_write hx e0 hH)) (A2.write hx e0 hH (hr.append r2)) rfl
      · cases h
    · cases h
  | _ => cases h
/-- tuple([..]) -/
theorem pe_tupLD (k : Kx X N cn T sc) {e : Expr} {p pos : Pos} {fl : Ev → Sto → Option (List D × Sto)} (h2 : glB sc "tuple" = true) (h : PE X e (tDL X.K fl)) (hs : starEach [e] X.env = (false, eval e X.env) :: starEach [] X.env) :
    PE X (.Call (.Name "tuple" p) [e] [] pos) (tD X.K fun e S => bnd (fl e S) fun ds S => some (.tup ds, S)) := by
  refine PE.imp (pe_callTy (T := "tuple") call_tuple_of (k.gl _ h2) (k.bi _ (by decide +kernel)) PyProof.Rows.boot_tuple (pa_cons h pa_nil hs) (by decide +kernel) (by decide +kernel) hs (by rfl)) fun σ H Q ⟨R, e, S, d, S', A, h, q⟩ => ?_
  obtain ⟨x, S1, g1, h⟩ := bnd_eq h
  cases h
  refine ⟨R, e, S, x, _, A, g1, fun R1 H1 p vs L1 A1 n1 f1 e1 r1 => ⟨p, vs, rfl, .inl ⟨SqL.of e1, fun l hl => ?_⟩⟩⟩
  exact q R1 _ _ (L1.trans (le_new hl)) (A1.new hl) (rep_tup_new hl r1)
/-- [..] == [] -/
theorem eqv_nil (ps : List PyData) : PyData.eqv (.list ps) (.list []) = ps.isEmpty := by
  cases ps <;> rfl
theorem mapM_empty {S : Sto} {k : Nat} {x : List D} {ps : List PyData} (hm : x.mapM (pd S k) = some ps) : ps.isEmpty = x.isEmpty := by
  cases x with
  | nil => cases (show some [] = some ps from hm); rfl
  | cons a b =>
    rw [List.mapM_cons] at hm
    cases ea : pd S k a with
    | none => rw [ea] at hm; cases hm
    | some p1 =>
      cases eb : b.mapM (pd S k) with
      | none => rw [ea, eb] at hm; cases hm
      | some p2 =>
        rw [ea, eb] at hm
        cases (show some (p1 :: p2) = some ps from hm)
        rfl
theorem pe_nilD (k : Kx X N cn T sc) {x : Expr} {p1 pos : Pos} {fl : Ev → Sto → Option (List D × Sto)} {neg : Bool} (h : PE X x (tDL X.K fl)) :
    PE X (.Compare x [if neg = true then .NotEq else .Eq] [.List [] p1] pos) (tD X.K fun e S => bnd (fl e S) (nilD neg)) ∧
    PT X (.Compare x [if neg = true then .NotEq else .Eq] [.List [] p1] pos) (tDT X.K (tstF fun e S => bnd (fl e S) (nilD neg))) := by
  have hu := k.hu
  have emp : SeqAt.shaped (.list []) = true := by decide +kernel
  have main : ∀ {σ : L2.St} {H : Hp} {Q : VK}, tD X.K (fun e S => bnd (fl e S) (nilD neg)) σ H Q → tOp (if neg = true then rNeD X.K else rEqD X.K) (tDL X.K fl) (tLst tNil) σ H Q := fun {σ H Q} h => by
    obtain ⟨R, e, S, d, S', A, h, q⟩ := h
    obtain ⟨x, S1, g1, h⟩ := bnd_eq h
    unfold nilD at h
    split at h
    · rename_i hk
      cases h
      obtain ⟨ps, hm, hsh⟩ := hk
      refine ⟨R, e, S, x, _, A, g1, fun R1 H1 p vs L1 A1 n1 f1 e1 r1 => ⟨Nat.zero_le _, fun p2 hp => ?_⟩⟩
      have A2 := A1.new (o := .lst []) hp
      have hd : Dp X.K (upd H1 p2 (.lst [])) (.ref p) (.list ps) := .lst (SqL.of (by rw [upd_ne (ne_of_none e1 hp)]; exact e1)) (pds_dp (fun d p v => pd_dp A2 63 d p v) hm (r1.mono (le_new (K := X.K) (R := R1) (S := []) hp).toLo))
      have fin := fun b => q R1 (upd H1 p2 (.lst [])) (.bl b) (L1.trans (le_new hp)) A2
      by_cases hn : neg = true
      · rw [if_pos hn] at fin ⊢
        refine ⟨.list ps, .list [], hd, .lst (SqL.of upd_same) .nil, shp_ok hsh, emp, fin _ ?_⟩
        rw [eqv_nil, mapM_empty hm]
        rfl
      · rw [if_neg hn] at fin ⊢
        refine ⟨.list ps, .list [], hd, .lst (SqL.of upd_same) .nil, shp_ok hsh, emp, fin _ ?_⟩
        rw [eqv_nil, mapM_empty hm]
        rfl
    · cases h
  have opr : OpR X (compareOp (if neg = true then .NotEq else .Eq)) (if neg = true then rNeD X.K else rEqD X.K) := by
    cases neg with
    | true => exact op_neD (by omega)
    | false => exact op_eqD (by omega)
  have mk : behindInMarks (if neg = true then CmpOp.NotEq else .Eq) (.List [] p1) = false := by rfl
  refine ⟨PE.imp (pe_cmpR opr h (pe_lst pa_nil) mk) fun σ H Q q => main q, PT.imp (pt_cmpR opr h (pe_lst pa_nil) mk) fun σ H Q q => main (tst_bl (fun e S d S' hh => ?_) q)⟩
  obtain ⟨x, S1, g1, hh⟩ := bnd_eq hh
  unfold nilD at hh
  split at hh
  · cases hh; exact ⟨_, rfl⟩
  · cases hh
/-! ### isinstance -/
def tyT : Ty → String
  | .list => "list" | .tuple => "tuple" | .bool => "bool" | .str => "str" | .int => "int"
theorem pe_isiD (k : Kx X N cn T sc) {x : Expr} {p py pos : Pos} {fa : VF} (t : Ty) (h1 : glB sc "isinstance" = true) (h2 : glB sc (tyS t) = true) (ha : PE X x (tD X.K fa)) (hs : starEach [x, .Name (tyS t) py] X.env = (false, eval x X.env) :: starEach [.Name (tyS t) py] X.env) :
    PE X (.Call (.Name "isinstance" p) [x, .Name (tyS t) py] [] pos) (tD X.K fun e S => bnd (fa e S) fun x S => (isiD t x S).map fun k => (.bl k, S)) := by
  have hb : PE X (.Name (tyS t) py) (tC (.ty (tyT t))) := pe_bltn (k.gl _ h2) (k.bi _ (by cases t <;> decide +kernel)) (u := .type (tyT t)) (by cases t <;> decide +kernel) rfl (by cases t <;> decide +kernel) (by cases t <;> decide +kernel)
  refine PE.imp (pe_callB (id := "isinstance") call_isi (k.gl _ h1) (k.bi _ (by decide +kernel)) boot_isinstance (pa_cons ha (pa_cons hb pa_nil (by rfl)) hs) (by decide +kernel) (by decide +kernel) hs (by rfl)) fun σ H Q ⟨R, e, S, d, S', A, h, q⟩ => ?_
  obtain ⟨x, S1, g1, h⟩ := bnd_eq h
  refine ⟨R, e, S, x, S1, A, g1, fun R1 H1 v L1 A1 r1 => ?_⟩
  have fin : ∀ {T1 : String} {b : Bool}, TyX X.K H1 v (.type T1) → kitB T1 (tyT t) = some b → isiD t x S1 = some b → rIsi X.K ([v] ++ [.ty (tyT t)]) H1 Q := fun {T1 b} ty kb ib => by
    replace h : (isiD t x S1).map (fun k => (D.bl k, S1)) = some (d, S') := h
    rw [ib] at h
    cases h
    exact ⟨v, _, _, _, b, rfl, .ty _, ty, kit_ty kb, q R1 H1 _ L1 A1 rfl⟩
  show rIsi X.K ([v] ++ [.ty (tyT t)]) H1 Q
  cases x with
  | non => cases r1; exact fin (.base .non) (b := false) (by cases t <;> decide +kernel) rfl
  | bl b => cases r1; exact fin (.base (.bl b)) (b := t == .bool || t == .int) (by cases t <;> decide +kernel) rfl
  | int i => cases r1; exact fin (.base (.int i)) (b := t == .int) (by cases t <;> decide +kernel) rfl
  | str i => cases r1; exact fin (.base (.str i)) (b := t == .str) (by cases t <;> decide +kernel) rfl
  | tup ds =>
    obtain ⟨a, vs, rfl, hs, hr⟩ := r1
    have ty : TyX X.K H1 (.ref a) (.type "tuple") := by
      rcases hs with (z | ⟨o, z⟩) | ⟨o, its, n, z, c, _⟩
      · exact .base (.tup z)
      · exact .fTuple z
      · exact .kTuple z c
    exact fin ty (b := t == .tuple) (by cases t <;> decide +kernel) rfl
  | ref n =>
    have ts : tyV X.K "list" v H1 := tyV_list A1 r1
    obtain ⟨a, e0, rfl⟩ := r1
    have ty : TyX X.K H1 (.ref a) (.type "list") := by
      rcases ts with ⟨_, xs, (z | ⟨o, z⟩) | ⟨o, its, n, z, c, _⟩⟩ | ⟨z, _⟩ | ⟨z, _⟩ | ⟨z, _⟩
      · exact .base (.lst z)
      · exact .base (.frz z)
      · exact .kList z c
      · exact absurd z (by decide)
      · exact absurd z (by decide)
      · exact absurd z (by decide)
    have hn : n < S1.length := by rw [← A1.len]; exact (List.getElem?_eq_some_iff.mp e0).1
    refine fin ty (b := t == .list) (by cases t <;> decide +kernel) ?_
    show (match S1[n]? with | some _ => some (t == Ty.list) | none => none) = _
    rw [List.getElem?_eq_getElem hn]
end
end M

/-! M7: walks, comprehensions. -/
namespace M
open PySem PySem.Spec PyProof.Rows L2
section
variable {X : Cx} {N cn : List Str} {T : List Fn} {sc : Scope} {K : PySem.W.Frag}
/-! ### walks -/
/-- a list or a tuple -/
def iSq (K : PySem.W.Frag) (tl : TE) : TI := fun σ H R => tl σ H fun x H1 => ∃ a, x = .ref a ∧ (((∃ xs, SqL K H1 a xs) ∧ R (Itl K a) H1) ∨ ((∃ xs, SqT K H1 a xs) ∧ R (Itt K a) H1))
theorem pi_sq {tg l : Expr} {tl : TE} (hl : PE X l tl) : PI X tg l (iSq X.K tl) := by
  refine ⟨fun pins s σ H R I h => ?_⟩
  refine thn (hl.run pins s σ H _ I h) fun v s1 ⟨x, H1, I1, r1, q1⟩ => ?_
  obtain ⟨a, e, q1⟩ := q1
  subst e
  cases r1
  rcases q1 with ⟨⟨xs, hq⟩, q⟩ | ⟨⟨xs, hq⟩, q⟩
  · obtain ⟨its, rv, p, hz⟩ := I1.list hq
    refine wpAny_pyIter_list p.isList ?_
    refine ⟨s1.heap.objs.size, [s1.heap.objs.size], _, _, H1, rfl, I1.kept (t' := s1.toks) fun b o e => Heap.get?_push_of_some _ e, turn_list a _, ⟨_, Heap.get?_push_size _ rfl, rfl, rfl⟩, fun b hb => ?_, q⟩
    have e : b = s1.heap.objs.size := by simpa using hb
    subst e
    exact I1.fpOk (Nat.le_refl _) (I1.hok.fresh (Nat.le_refl _))
  · obtain ⟨its, rv, p, hz⟩ := I1.tuple hq
    refine wpAny_pyIter_tuple (show s1.heap.IsTuple a its.toArray from p) ?_
    refine ⟨s1.heap.objs.size, [s1.heap.objs.size], _, _, H1, rfl, I1.kept (t' := s1.toks) fun b o e => Heap.get?_push_of_some _ e, turn_tuple a _, ⟨_, Heap.get?_push_size _ rfl, rfl, rfl⟩, fun b hb => ?_, q⟩
    have e : b = s1.heap.objs.size := by simpa using hb
    subst e
    exact I1.fpOk (Nat.le_refl _) (I1.hok.fresh (Nat.le_refl _))
theorem get_none {ds : List D} {i : Nat} (h : ds.length ≤ i) : ds[i]? = none := List.getElem?_eq_none h
theorem walk_list {R₀ : List Addr} {H₀ : Hp} {n : Nat} {a : Addr} {xs : List D} (e : R₀[n]? = some a) : Walk K R₀ H₀ ⟨xs, some (n, xs)⟩ (Itl K a) := by
  intro i R H S L A ok
  have ok' : itemsAt S n = some xs := ok
  obtain ⟨b, vs, e1, hs, hr⟩ := A.items ok'
  have e2 : R[n]? = some a := by
    obtain ⟨t, rfl⟩ := L.ext
    rw [List.getElem?_append_left (List.getElem?_eq_some_iff.mp e).1]
    exact e
  rw [e2] at e1
  cases e1
  refine ⟨fun hl => ⟨vs, hs, by rw [hr.length]; exact hl⟩, fun d hd => ?_⟩
  obtain ⟨v, hv, rv⟩ := hr.get hd
  refine ⟨⟨vs, v, hs, hv⟩, fun x H' ⟨e3, y⟩ => ?_⟩
  subst e3
  have e4 := y vs hs
  rw [hv] at e4
  cases e4
  exact ⟨Le.refl, A, rv⟩
theorem walk_tup {R₀ : List Addr} {H₀ : Hp} {a : Addr} {xs : List D} {vs : List V} (hs : SqT K H₀ a vs) (hr : Reps K R₀ H₀ vs xs) : Walk K R₀ H₀ ⟨xs, none⟩ (Itt K a) := by
  intro i R H S L A ok
  have hs' := L.tst _ _ hs
  have hr' := hr.mono L
  refine ⟨fun hl => ⟨vs, hs', by rw [hr'.length]; exact hl⟩, fun d hd => ?_⟩
  obtain ⟨v, hv, rv⟩ := hr'.get hd
  refine ⟨⟨vs, v, hs', hv⟩, fun x H' ⟨e3, y⟩ => ?_⟩
  subst e3
  have e4 := y vs hs'
  rw [hv] at e4
  cases e4
  exact ⟨Le.refl, A, rv⟩
theorem rng_get {i : Int} {n k : Nat} {d : D} (h : (rng i n)[k]? = some d) : k < n ∧ d = .int (i + k) := by
  unfold rng at h
  rw [List.getElem?_map] at h
  cases e : (List.range n)[k]? with
  | none => rw [e] at h; cases h
  | some m =>
    rw [e] at h
    have hk := (List.getElem?_eq_some_iff.mp e).1
    rw [List.length_range] at hk
    rw [List.getElem?_range hk] at e
    cases e
    cases h
    exact ⟨hk, rfl⟩
theorem rng_len {i : Int} {n : Nat} : (rng i n).length = n := by
  unfold rng
  rw [List.length_map, List.length_range]
theorem walk_rng {R₀ : List Addr} {H₀ : Hp} {lo : Int} {n : Nat} : Walk K R₀ H₀ ⟨rng lo n, none⟩ (Itr lo n) := by
  intro i R H S L A ok
  refine ⟨fun hl => by rw [rng_len] at hl; exact hl, fun d hd => ?_⟩
  obtain ⟨h1, rfl⟩ := rng_get hd
  refine ⟨h1, fun x H' ⟨e, y⟩ => ?_⟩
  subst e y
  exact ⟨Le.refl, A, rfl⟩
theorem enm_get : ∀ {xs : List D} {k i : Nat} {d : D}, (enmFrom k xs)[i]? = some d → ∃ x, xs[i]? = some x ∧ d = .tup [.int ((k + i : Nat) : Int), x]
  | [], _, _, _, h => by cases h
  | x :: r, k, 0, d, h => by
    cases h
    exact ⟨x, rfl, rfl⟩
  | x :: r, k, i + 1, d, h => by
    obtain ⟨y, e1, e2⟩ := enm_get (xs := r) (k := k + 1) (i := i) h
    refine ⟨y, e1, ?_⟩
    rw [e2]
    have : k + 1 + i = k + (i + 1) := by omega
    rw [this]
theorem enm_len : ∀ {xs : List D} {k : Nat}, (enmFrom k xs).length = xs.length
  | [], _ => rfl
  | _ :: r, k => by
    show (enmFrom (k + 1) r).length + 1 = r.length + 1
    rw [enm_len]
/-! ### walks of texts -/
theorem pi_seqD {tg e : Expr} {fa : VF} (h : PE X e (tD X.K fa)) : PI X tg e (tDI X.K fun e S => bnd (fa e S) seqD) := by
  refine PI.imp (pi_sq h) fun σ H Q ⟨R, e, S, d, S', A, h, q⟩ => ?_
  obtain ⟨x, S1, g1, h⟩ := bnd_eq h
  refine ⟨R, e, S, x, S1, A, g1, fun R1 H1 v L1 A1 r1 => ?_⟩
  cases x with
  | tup ds =>
    cases h
    obtain ⟨a, vs, rfl, hs, hr⟩ := r1
    exact ⟨a, rfl, .inr ⟨⟨vs, hs⟩, q R1 H1 _ L1 A1 (walk_tup hs hr)⟩⟩
  | ref n =>
    replace h : (match itemsAt S1 n with | some xs => some ((⟨xs, some (n, xs)⟩ : Sq), S1) | none => none) = some (d, S') := h
    split at h
    · rename_i xs hx
      cases h
      obtain ⟨a, vs, e0, hs, hr⟩ := A1.items hx
      obtain rfl := rep_ref r1 e0
      exact ⟨a, rfl, .inl ⟨⟨vs, hs⟩, q R1 H1 _ L1 A1 (walk_list e0)⟩⟩
    · cases h
  | _ => cases h
theorem pi_rng1D (k : Kx X N cn T sc) {tg x : Expr} {p pos : Pos} {fa : VF} (h1 : glB sc "range" = true) (h : PE X x (tD X.K fa)) (hs : starEach [x] X.env = (false, eval x X.env) :: starEach [] X.env) :
    PI X tg (.Call (.Name "range" p) [x] [] pos) (tDI X.K fun e S => bnd (fa e S) fun y S => rngD (.int 0) y S) := by
  refine PI.imp (pi_range1 (k.gl _ h1) (k.bi _ (by decide +kernel)) (pa_cons h pa_nil hs) hs) fun σ H Q ⟨R, e, S, d, S', A, h, q⟩ => ?_
  obtain ⟨x, S1, g1, h⟩ := bnd_eq h
  refine ⟨R, e, S, x, S1, A, g1, fun R1 H1 v L1 A1 r1 => ?_⟩
  cases x with
  | int j =>
    replace h : (if lim62 0 ∧ lim62 j then some ((⟨rng 0 (j - 0).toNat, none⟩ : Sq), S1) else none) = some (d, S') := h
    split at h
    · rename_i hl
      cases h
      cases r1
      refine ⟨j, rfl, hl.2.1, hl.2.2, ?_⟩
      have := q R1 H1 (Itr 0 (j - 0).toNat) L1 A1 walk_rng
      rw [Int.sub_zero] at this
      exact this
    · cases h
  | _ => cases h
theorem pi_rng2D (k : Kx X N cn T sc) {tg x y : Expr} {p pos : Pos} {fa fb : VF} (h1 : glB sc "range" = true) (h : PE X x (tD X.K fa)) (h' : PE X y (tD X.K fb)) (hs : starEach [x, y] X.env = (false, eval x X.env) :: starEach [y] X.env) (hs' : starEach [y] X.env = (false, eval y X.env) :: starEach [] X.env) :
    PI X tg (.Call (.Name "range" p) [x, y] [] pos) (tDI X.K fun e S => bnd (fa e S) fun x S => bnd (fb e S) fun y S => rngD x y S) := by
  refine PI.imp (pi_range2 (k.gl _ h1) (k.bi _ (by decide +kernel)) (pa_cons h (pa_cons h' pa_nil hs') hs) (by rw [hs, hs'] <;> rfl) hs') fun σ H Q ⟨R, e, S, d, S', A, h, q⟩ => ?_
  obtain ⟨x, S1, g1, h⟩ := bnd_eq h
  obtain ⟨y, S2, g2, h⟩ := bnd_eq h
  refine ⟨R, e, S, x, S1, A, g1, fun R1 H1 v L1 A1 r1 => ⟨R1, e, S1, y, S2, A.mono L1.toLo A1, g2, fun R2 H2 w L2 A2 r2 => ?_⟩⟩
  cases x with
  | int i =>
    cases y with
    | int j =>
      replace h : (if lim62 i ∧ lim62 j then some ((⟨rng i (j - i).toNat, none⟩ : Sq), S2) else none) = some (d, S') := h
      split at h
      · rename_i hl
        cases h
        cases r1
        cases r2
        exact ⟨i, j, rfl, ⟨hl.1.1, hl.1.2, hl.2.1, hl.2.2⟩, q R2 H2 _ (L1.trans L2) A2 walk_rng⟩
      · cases h
    | _ => cases h
  | _ => cases h
theorem walk_enm {R₀ : List Addr} {H₀ : Hp} {n : Nat} {a : Addr} {xs : List D} (e : R₀[n]? = some a) : Walk K R₀ H₀ ⟨enmFrom 0 xs, some (n, xs)⟩ (Ite K a) := by
  intro i R H S L A ok
  have ok' : itemsAt S n = some xs := ok
  obtain ⟨b, vs, e1, hs, hr⟩ := A.items ok'
  have e2 : R[n]? = some a := by
    obtain ⟨t, rfl⟩ := L.ext
    rw [List.getElem?_append_left (List.getElem?_eq_some_iff.mp e).1]
    exact e
  rw [e2] at e1
  cases e1
  refine ⟨fun hl => ⟨vs, hs, by rw [hr.length]; rw [enm_len] at hl; exact hl⟩, fun d hd => ?_⟩
  obtain ⟨x, hx, rfl⟩ := enm_get hd
  obtain ⟨v, hv, rv⟩ := hr.get hx
  refine ⟨⟨vs, v, hs, hv⟩, fun z H' ⟨p, y, e3, e4, e5, e6⟩ => ?_⟩
  subst e3 e5
  have e7 := e6 vs hs
  rw [hv] at e7
  cases e7
  refine ⟨le_new e4, A.new e4, rep_tup_new e4 ⟨_, _, rfl, ?_, Reps.one rv⟩⟩
  show V.int ((i : Nat) : Int) = V.int (((0 + i : Nat) : Nat) : Int)
  rw [Nat.zero_add]
theorem pi_enmD (k : Kx X N cn T sc) {x : Expr} {elts : List Expr} {kk : Nat} {tpos p pos : Pos} {fa : VF} (h1 : glB sc "enumerate" = true) (h : PE X x (tD X.K fa)) (hs : starEach [x] X.env = (false, eval x X.env) :: starEach [] X.env) :
    PI X (.Tuple elts kk tpos) (.Call (.Name "enumerate" p) [x] [] pos) (tDI X.K fun e S => bnd (fa e S) enmD) := by
  refine PI.imp (pi_enum (k.gl _ h1) (k.bi _ (by decide +kernel)) (pa_cons h pa_nil hs) hs) fun σ H Q ⟨R, e, S, d, S', A, h, q⟩ => ?_
  obtain ⟨x, S1, g1, h⟩ := bnd_eq h
  refine ⟨R, e, S, x, S1, A, g1, fun R1 H1 v L1 A1 r1 => ?_⟩
  cases x with
  | ref n =>
    replace h : (match itemsAt S1 n with | some xs => some ((⟨enmFrom 0 xs, some (n, xs)⟩ : Sq), S1) | none => none) = some (d, S') := h
    split at h
    · rename_i xs hx
      cases h
      obtain ⟨a, vs, e0, hs, hr⟩ := A1.items hx
      obtain rfl := rep_ref r1 e0
      exact ⟨a, vs, rfl, hs, q R1 H1 _ L1 A1 (walk_enm e0)⟩
    · cases h
  | _ => cases h

/-! ### targets -/
def gNames : List Nat → TGs
  | [] => gNil
  | i :: is => gCons (gName i) (gNames is)
def gTg (K : PySem.W.Frag) : Tg → TG
  | .nm i => gName i
  | .tp is => gTup K is.length (gNames is)
theorem gNames_ok {R : List Addr} {H : Hp} {S : Sto} : ∀ {is : List Nat} {ds : List D} {vs : List V} {e : Ev} {σ : L2.St} {Q : L2.St → Hp → Prop}, Abs K R σ H e S → Reps K R H vs ds → is.length = ds.length →
    (∀ σ', Abs K R σ' H (setvs is ds e) S → Q σ' H) → gNames is vs σ H Q
  | [], [], vs, e, σ, Q, A, r, _, q => ⟨r, q σ A⟩
  | i :: is, d :: ds, vs, e, σ, Q, A, ⟨v, w, e1, r1, r2⟩, hl, q => ⟨v, w, e1, gNames_ok (A.set r1) r2 (Nat.succ.inj hl) q⟩
  | [], _ :: _, _, _, _, _, _, _, hl, _ => by cases hl
  | _ :: _, [], _, _, _, _, _, _, hl, _ => by cases hl
theorem gTg_ok {R : List Addr} {H : Hp} {S : Sto} {g : Tg} {d : D} {v : V} {e e' : Ev} {σ : L2.St} {Q : L2.St → Hp → Prop} (A : Abs K R σ H e S) (r : Rep K R H v d) (h : asg g d e = some e') (q : ∀ σ', Abs K R σ' H e' S → Q σ' H) : gTg K g v σ H Q := by
  cases g with
  | nm i =>
    cases h
    exact q _ (A.set r)
  | tp is =>
    cases d with
    | tup ds =>
      replace h : (if is.length = ds.length then some (setvs is ds e) else none) = some e' := h
      split at h
      · rename_i hl
        cases h
        obtain ⟨a, vs, rfl, hs, hr⟩ := r
        exact ⟨a, vs, rfl, hs, by rw [hr.length]; exact hl.symm, gNames_ok A hr hl q⟩
      · cases h
    | _ => cases h
theorem tgs_ok (k : Kx X N cn T sc) : ∀ {is : List Nat} {es : List Expr}, tgsB N sc is es = true → PGs X es (gNames is) ∧ (assignEach es X.env).length = is.length ∧ (assignEach es X.env).findIdx? (·.1) = none
  | [], [], _ => ⟨pgs_nil, rfl, rfl⟩
  | i :: is, .Name x p :: es, h => by
    have h' : (tgB N sc i (.Name x p) && tgsB N sc is es) = true := h
    rw [Bool.and_eq_true] at h'
    obtain ⟨h1, h2⟩ := h'
    have h1' : (nameB N sc i x && locB sc x) = true := h1
    unfold nameB at h1'
    simp only [Bool.and_eq_true] at h1'
    obtain ⟨⟨⟨e1, _⟩, _⟩, e2⟩ := h1'
    obtain ⟨g, l, f⟩ := tgs_ok k h2
    obtain ⟨lc, hf⟩ := k.loc x e2
    refine ⟨pgs_cons (pg_name (i := i) (by rw [k.hN]; exact k.nd) (by rw [k.hN]; exact eq_of_beq e1) lc hf) g (by rfl), ?_, ?_⟩
    · show (assignEach es X.env).length + 1 = is.length + 1
      rw [l]
    · show List.findIdx? _ ((false, assign (.Name x p) X.env) :: assignEach es X.env) = none
      rw [List.findIdx?_cons, f]
      rfl
  | [], _ :: _, h => by cases h
  | _ :: _, [], h => by cases h
  | i :: is, .BoolOp .. :: es, h => by cases h
  | i :: is, .NamedExpr .. :: es, h => by cases h
  | i :: is, .BinOp .. :: es, h => by cases h
  | i :: is, .UnaryOp .. :: es, h => by cases h
  | i :: is, .Lambda .. :: es, h => by cases h
  | i :: is, .IfExp .. :: es, h => by cases h
  | i :: is, .Dict .. :: es, h => by cases h
  | i :: is, .Set .. :: es, h => by cases h
  | i :: is, .ListComp .. :: es, h => by cases h
  | i :: is, .SetComp .. :: es, h => by cases h
  | i :: is, .DictComp .. :: es, h => by cases h
  | i :: is, .GeneratorExp .. :: es, h => by cases h
  | i :: is, .Await .. :: es, h => by cases h
  | i :: is, .Yield .. :: es, h => by cases h
  | i :: is, .YieldFrom .. :: es, h => by cases h
  | i :: is, .Compare .. :: es, h => by cases h
  | i :: is, .Call .. :: es, h => by cases h
  | i :: is, .FormattedValue .. :: es, h => by cases h
  | i :: is, .JoinedStr .. :: es, h => by cases h
  | i :: is, .Constant .. :: es, h => by cases h
  | i :: is, .Attribute .. :: es, h => by cases h
  | i :: is, .Subscript .. :: es, h => by cases h
  | i :: is, .Starred .. :: es, h => by cases h
  | i :: is, .List .. :: es, h => by cases h
  | i :: is, .Tuple .. :: es, h => by cases h
  | i :: is, .Slice .. :: es, h => by cases h
theorem tg_ok (k : Kx X N cn T sc) {g : Tg} {e : Expr} (h : ckT N sc g e = true) : PG X e (gTg X.K g) := by
  cases g with
  | nm i =>
    cases e <;> first | (cases h; done) | skip
    rename_i x p
    have h1' : (nameB N sc i x && locB sc x) = true := h
    unfold nameB at h1'
    simp only [Bool.and_eq_true] at h1'
    obtain ⟨⟨⟨e1, _⟩, _⟩, e2⟩ := h1'
    obtain ⟨lc, hf⟩ := k.loc x e2
    exact pg_name (i := i) (by rw [k.hN]; exact k.nd) (by rw [k.hN]; exact eq_of_beq e1) lc hf
  | tp is =>
    cases e <;> first | (cases h; done) | skip
    rename_i es kk p
    obtain ⟨g, l, f⟩ := tgs_ok k (show tgsB N sc is es = true from h)
    exact pg_tup k.calm g l f
end
end M

/-! M8: comprehensions, loops. -/
namespace M
open PySem PySem.Spec PyProof.Rows L2
section
variable {X : Cx} {N cn : List Str} {T : List Fn} {sc : Scope} {K : PySem.W.Frag}
theorem wipe_at {σ : L2.St} {j : Nat} : ∀ {vs : List Nat}, j ∈ vs → j < σ.length → (wipe σ vs)[j]? = some none
  | v :: vs, h, hl => by
    show ((wipe σ vs).set v none)[j]? = some none
    by_cases e : v = j
    · subst e
      exact List.getElem?_set_self (by rw [wipe_length]; exact hl)
    · rw [List.getElem?_set_ne e]
      exact wipe_at ((List.mem_cons.mp h).resolve_left fun z => e z.symm) hl
theorem wipe_set {σ : L2.St} {i : Nat} {x : Option V} {vs : List Nat} (h : i ∈ vs) : wipe (σ.set i x) vs = wipe σ vs := by
  apply List.ext_getElem?
  intro j
  by_cases hj : j ∈ vs
  · by_cases hl : j < σ.length
    · rw [wipe_at hj (by rw [List.length_set]; exact hl), wipe_at hj hl]
    · rw [List.getElem?_eq_none (by rw [wipe_length, List.length_set]; omega), List.getElem?_eq_none (by rw [wipe_length]; omega)]
  · rw [wipe_out hj, wipe_out hj, List.getElem?_set_ne (fun z => hj (by rw [← z]; exact h))]
theorem wipe_wipe {σ : L2.St} {vs : List Nat} : wipe (wipe σ vs) vs = wipe σ vs := by
  apply List.ext_getElem?
  intro j
  by_cases hj : j ∈ vs
  · by_cases hl : j < σ.length
    · rw [wipe_at hj (by rw [wipe_length]; exact hl), wipe_at hj hl]
    · rw [List.getElem?_eq_none (by rw [wipe_length, wipe_length]; omega), List.getElem?_eq_none (by rw [wipe_length]; omega)]
  · rw [wipe_out hj]
theorem gNames_w {own : List Nat} {H : Hp} : ∀ {is : List Nat} {vs : List V} {σ : L2.St} {Q : L2.St → Hp → Prop}, (∀ i ∈ is, i ∈ own) → gNames is vs σ H Q → gNames is vs σ H fun σ' H' => wipe σ' own = wipe σ own ∧ Q σ' H'
  | [], vs, σ, Q, _, ⟨e, q⟩ => ⟨e, rfl, q⟩
  | i :: is, vs, σ, Q, hi, ⟨v, r, e, q⟩ => by
    refine ⟨v, r, e, ?_⟩
    have h := gNames_w (own := own) (fun j hj => hi j (List.mem_cons_of_mem _ hj)) q
    rw [wipe_set (hi i List.mem_cons_self)] at h
    exact h
theorem gTg_w {own : List Nat} {H : Hp} {g : Tg} {v : V} {σ : L2.St} {Q : L2.St → Hp → Prop} (hi : tgIn own g = true) (h : gTg K g v σ H Q) : gTg K g v σ H fun σ' H' => wipe σ' own = wipe σ own ∧ Q σ' H' := by
  cases g with
  | nm i =>
    have h' : Q (σ.set i (some v)) H := h
    exact ⟨wipe_set (List.contains_iff_mem.mp hi), h'⟩
  | tp is =>
    obtain ⟨a, xs, e, hs, hl, q⟩ := h
    exact ⟨a, xs, e, hs, hl, gNames_w (fun i hm => List.contains_iff_mem.mp (List.all_eq_true.mp hi i hm)) q⟩

theorem gNames_mono {H : Hp} : ∀ {is : List Nat} {vs : List V} {σ : L2.St} {Q Q' : L2.St → Hp → Prop}, (∀ σ' H', Q σ' H' → Q' σ' H') → gNames is vs σ H Q → gNames is vs σ H Q'
  | [], _, _, _, _, m, ⟨e, q⟩ => ⟨e, m _ _ q⟩
  | _ :: _, _, _, _, _, m, ⟨v, r, e, q⟩ => ⟨v, r, e, gNames_mono m q⟩
theorem gTg_mono {H : Hp} {g : Tg} {v : V} {σ : L2.St} {Q Q' : L2.St → Hp → Prop} (m : ∀ σ' H', Q σ' H' → Q' σ' H') (h : gTg K g v σ H Q) : gTg K g v σ H Q' := by
  cases g with
  | nm i => exact m _ _ h
  | tp is =>
    obtain ⟨a, xs, e, hs, hl, q⟩ := h
    exact ⟨a, xs, e, hs, hl, gNames_mono m q⟩
/-! ### the list that a comprehension fills -/
section
variable {R Rb : List Addr} {H Hb : Hp} {S Sb : Sto} {p : Addr} {vs ws : List V}
theorem lo_touch (h : H p = some (.lst vs)) : Lo K R H R (upd H p (.lst ws)) := by
  refine ⟨List.prefix_refl _, fun b xs q => ?_⟩
  rcases q with (q | ⟨u, q⟩) | q
  · exact .inl (.inl (by rw [upd_ne (ne_of q h (by intro z; cases z))]; exact q))
  · exact .inl (.inr ⟨u, by rw [upd_ne (ne_of q h (by intro z; cases z))]; exact q⟩)
  · exact .inr q
theorem Le.touch (L : Le K Rb Hb Sb R H S) (hb : Hb p = none) (h : H p = some (.lst vs)) : Le K Rb Hb Sb R (upd H p (.lst ws)) S :=
  ⟨L.toLo.trans (lo_touch h), fun a o e n => by rw [upd_ne (ne_of_none e hb)]; exact L.fr a o e n, L.nw, L.kd⟩
theorem AbsH.touch (A : AbsH K R H S) (hn : ¬ Mt R S p) (h : H p = some (.lst vs)) : AbsH K R (upd H p (.lst ws)) S := by
  have L : Lo K R H R (upd H p (.lst ws)) := lo_touch h
  refine ⟨A.len, A.nd, fun n o s => ?_⟩
  obtain ⟨a, e, q⟩ := A.ob n o s
  refine ⟨a, e, ?_⟩
  cases o with
  | lst ds =>
    obtain ⟨us, h1, h2⟩ := q
    refine ⟨us, ?_, h2.mono L⟩
    rw [upd_ne (fun z => hn ⟨n, ds, by rw [← z]; exact e, s⟩)]
    exact h1
  | rdl ds =>
    obtain ⟨us, h1, h2⟩ := q
    refine ⟨us, ?_, h2.mono L⟩
    rcases h1 with ⟨o, h1⟩ | h1
    · exact .inl ⟨o, by rw [upd_ne (ne_of h1 h (by intro z; cases z))]; exact h1⟩
    · exact .inr h1
theorem Le.not_mt {R' : List Addr} {H' : Hp} {S' : Sto} {o : HO} (L : Le K R H S R' H' S') (hn : ¬ Mt R S p) (h : H p = some o) : ¬ Mt R' S' p := fun z => by
  have := L.nw p z hn
  rw [h] at this
  cases this
end
theorem drop_step {α : Type} {l : List α} {i : Nat} {d : α} {r : List α} (h : l.drop i = d :: r) : l[i]? = some d ∧ l.drop (i + 1) = r := by
  have h1 : l[i]? = some d := by
    have : (l.drop i)[0]? = some d := by rw [h]; rfl
    rw [List.getElem?_drop] at this
    exact this
  refine ⟨h1, ?_⟩
  rw [← List.drop_drop, h]
  rfl
theorem drop_end {α : Type} {l : List α} {i : Nat} (h : l.drop i = []) : l.length ≤ i := by
  exact List.drop_eq_nil_iff.mp h
theorem comp_core {own : List Nat} {tg : Tg} {fi : Ev → Sto → Option (Sq × Sto)} {c : TF} {elt : VF} (hi : tgIn own tg = true) {σ : L2.St} {H : Hp} {Q : VK}
    (h : tDL K (fun e S => bnd (fi e S) fun q S => compD (turnF own tg c elt e) (fun S => okS S q.src) q.ds [] S) σ H Q) : tLc (tDI K fi) (gTg K tg) (tDT K c) (tD K elt) own σ H Q := by
  obtain ⟨R, e, S, d, S', A, h, q⟩ := h
  obtain ⟨w, S1, g1, h⟩ := bnd_eq h
  refine ⟨R, e, S, w, S1, A, g1, fun R1 H1 J L1 A1 wk D0 hD => ?_⟩
  have hD0 : H D0 = none := L1.free A1 hD
  refine ⟨fun i m Hc => ∃ Rc Sc acc accD, m = w.ds.length - i ∧ i ≤ w.ds.length ∧ AbsH K Rc Hc Sc ∧ Le K R H S Rc Hc Sc ∧ Lo K R1 H1 Rc Hc ∧ ¬ Mt Rc Sc D0 ∧ Hc D0 = some (.lst acc) ∧ Reps K Rc Hc acc accD ∧
    compD (turnF own tg c elt e) (fun S => okS S w.src) (w.ds.drop i) accD Sc = some (d, S'), ⟨_, R1, S1, [], [], rfl, Nat.zero_le _, A1.new hD, L1.trans (le_new hD), (le_new (S := S1) hD).toLo, A1.not_mt hD, upd_same, rfl, h⟩, ?_⟩
  rintro i m Hc ⟨Rc, Sc, acc, accD, rfl, hle, Ac, Lc, Loc, nm, hacc, racc, hc⟩
  cases hdr : w.ds.drop i with
  | nil =>
    rw [hdr] at hc
    unfold compD at hc
    split at hc
    · rename_i ok
      cases hc
      exact .inl ⟨(wk i Rc Hc _ Loc Ac ok).1 (drop_end hdr), q Rc Hc D0 acc Lc Ac nm hD0 hacc racc⟩
    · cases hc
  | cons x rest =>
    obtain ⟨hx, hrest⟩ := drop_step hdr
    have hil : i < w.ds.length := (List.getElem?_eq_some_iff.mp hx).1
    rw [hdr] at hc
    unfold compD at hc
    split at hc
    · rename_i ok
      obtain ⟨go, yl⟩ := (wk i Rc Hc Sc Loc Ac ok).2 x hx
      refine .inr ⟨go, fun Hn => ∃ Rc Sc acc accD, AbsH K Rc Hn Sc ∧ Le K R H S Rc Hn Sc ∧ Lo K R1 H1 Rc Hn ∧ ¬ Mt Rc Sc D0 ∧ Hn D0 = some (.lst acc) ∧ Reps K Rc Hn acc accD ∧
        compD (turnF own tg c elt e) (fun S => okS S w.src) rest accD Sc = some (d, S'), fun Hn ⟨Rn, Sn, an, aD, z1, z2, z3, z4, z5, z6, z7⟩ => ⟨w.ds.length - (i + 1), by omega, Rn, Sn, an, aD, rfl, hil, z1, z2, z3, z4, z5, z6, by rw [hrest]; exact z7⟩, fun xv Hy y => ?_⟩
      obtain ⟨Ly, Ay, ry⟩ := yl xv Hy y
      have nmy := Ly.not_mt nm hacc
      have hacy := Ly.fr _ _ hacc nm
      have ray := racc.mono Ly.toLo
      have Lcy := Lc.trans Ly
      have Loy := Loc.trans Ly.toLo
      have Awy : Abs K Rc (wipe σ own) Hy (wipev own e) Sc := (A.mono Lcy.toLo Ay).wipe own
      split at hc
      · rename_i yv S2 ht
        split at hc
        · rename_i hlim
          unfold turnF at ht
          split at ht
          · cases ht
          · rename_i e' he'
            obtain ⟨k, S3, gc, ht⟩ := bnd_eq ht
            have hkt : k = true := by
              cases k with
              | true => rfl
              | false => rw [if_neg Bool.false_ne_true] at ht; cases ht
            subst hkt
            rw [if_pos rfl] at ht
            obtain ⟨y', S4, ge, ht⟩ := bnd_eq ht
            cases ht
            refine gTg_mono ?_ (gTg_w hi (gTg_ok (Q := fun σ' H' => H' = Hy ∧ Abs K Rc σ' Hy e' Sc) Awy ry he' fun σ' Aσ => ⟨rfl, Aσ⟩))
            rintro σ' _ ⟨hw, rfl, Aσ⟩
            refine ⟨hw.trans wipe_wipe, Rc, e', Sc, true, S3, Aσ, gc, fun R3 H3 L3 A3 => ?_⟩
            refine iteT ?_
            refine ⟨R3, e', S3, _, _, Aσ.mono L3.toLo A3, ge, fun R4 H4 yv' L4 A4 r4 => ?_⟩
            have nm3 := L3.not_mt nmy hacy
            have hac3 := L3.fr _ _ hacy nmy
            have nm4 := L4.not_mt nm3 hac3
            have hac4 := L4.fr _ _ hac3 nm3
            have L34 := L3.trans L4
            refine ⟨acc, hac4, by rw [racc.length]; exact Nat.lt_trans hlim lim_line, R4, _, acc ++ [yv'], _, A4.touch nm4 hac4, (Lcy.trans L34).touch hD0 hac4, (Loy.trans L34.toLo).trans (lo_touch hac4), nm4, upd_same, ?_, hc⟩
            exact ((ray.mono L34.toLo).append (Reps.one r4)).mono (lo_touch hac4)
        · cases hc
      · rename_i S2 ht
        unfold turnF at ht
        split at ht
        · cases ht
        · rename_i e' he'
          obtain ⟨k, S3, gc, ht⟩ := bnd_eq ht
          have hkt : k = false := by
            cases k with
            | false => rfl
            | true =>
              rw [if_pos rfl] at ht
              obtain ⟨y', S4, ge, ht⟩ := bnd_eq ht
              cases ht
          subst hkt
          rw [if_neg Bool.false_ne_true] at ht
          cases ht
          refine gTg_mono ?_ (gTg_w hi (gTg_ok (Q := fun σ' H' => H' = Hy ∧ Abs K Rc σ' Hy e' Sc) Awy ry he' fun σ' Aσ => ⟨rfl, Aσ⟩))
          rintro σ' _ ⟨hw, rfl, Aσ⟩
          refine ⟨hw.trans wipe_wipe, Rc, e', Sc, false, _, Aσ, gc, fun R3 H3 L3 A3 => ?_⟩
          refine iteF ?_
          exact ⟨R3, _, acc, accD, A3, Lcy.trans L3, Loy.trans L3.toLo, L3.not_mt nmy hacy, L3.fr _ _ hacy nmy, ray.mono L3.toLo, hc⟩
      · cases hc
    · cases hc
/-! ### for -/
theorem for_core {g : Tg} {fi : Ev → Sto → Option (Sq × Sto)} {b : Ev → Sto → Option Out} {D : Ends} {σ : L2.St} {H : Hp}
    (h : tDS K (fun e S => bnd (fi e S) fun q S => forD (bodyF g b) (fun S => okS S q.src) q.ds e S) D σ H) : tFor (tDI K fi) (gTg K g) (tDS K b) D σ H := by
  obtain ⟨R, e, S, o, A, h, q⟩ := h
  obtain ⟨w, S1, g1, h⟩ := bnd_eq h
  refine ⟨R, e, S, w, S1, A, g1, fun R1 H1 J L1 A1 wk => ?_⟩
  refine ⟨fun i m σc Hc => ∃ Rc ec Sc, m = w.ds.length - i ∧ i ≤ w.ds.length ∧ Abs K Rc σc Hc ec Sc ∧ Le K R H S Rc Hc Sc ∧ Lo K R1 H1 Rc Hc ∧ forD (bodyF g b) (fun S => okS S w.src) (w.ds.drop i) ec Sc = some o, ⟨_, R1, e, S1, rfl, Nat.zero_le _, A.mono L1.toLo A1, L1, Lo.refl, h⟩, ?_⟩
  rintro i m σc Hc ⟨Rc, ec, Sc, rfl, hle, Ac, Lc, Loc, hc⟩
  cases hdr : w.ds.drop i with
  | nil =>
    rw [hdr] at hc
    unfold forD at hc
    split at hc
    · rename_i ok
      cases hc
      exact .inl ⟨(wk i Rc Hc _ Loc Ac.h ok).1 (drop_end hdr), q Rc σc Hc Lc Ac⟩
    · cases hc
  | cons x rest =>
    obtain ⟨hx, hrest⟩ := drop_step hdr
    have hil : i < w.ds.length := (List.getElem?_eq_some_iff.mp hx).1
    rw [hdr] at hc
    unfold forD at hc
    split at hc
    · rename_i ok
      obtain ⟨go, yl⟩ := (wk i Rc Hc Sc Loc Ac.h ok).2 x hx
      refine .inr ⟨go, fun σn Hn => ∃ Rn en Sn, Abs K Rn σn Hn en Sn ∧ Le K R H S Rn Hn Sn ∧ Lo K R1 H1 Rn Hn ∧ forD (bodyF g b) (fun S => okS S w.src) rest en Sn = some o,
        fun σn Hn ⟨Rn, en, Sn, z1, z2, z3, z4⟩ => ⟨w.ds.length - (i + 1), by omega, Rn, en, Sn, rfl, hil, z1, z2, z3, by rw [hrest]; exact z4⟩, fun xv Hy y => ?_⟩
      obtain ⟨Ly, Ay, ry⟩ := yl xv Hy y
      have Aσy := Ac.mono Ly.toLo Ay
      cases he : asg g x ec with
      | none =>
        simp only [bodyF, he] at hc
        cases hc
      | some e' =>
        simp only [bodyF, he] at hc
        refine gTg_ok Aσy ry he fun σ' Aσ => ?_
        cases hb : b e' Sc with
        | none =>
          rw [hb] at hc
          cases hc
        | some r =>
          refine ⟨Rc, e', Sc, r, Aσ, hb, ?_⟩
          rw [hb] at hc
          cases r with
          | nx e2 S2 => exact fun R3 σ3 H3 L3 A3 => ⟨R3, e2, S2, A3, (Lc.trans Ly).trans L3, (Loc.trans Ly.toLo).trans L3.toLo, hc⟩
          | cnt e2 S2 => exact fun R3 σ3 H3 L3 A3 => ⟨R3, e2, S2, A3, (Lc.trans Ly).trans L3, (Loc.trans Ly.toLo).trans L3.toLo, hc⟩
          | brk e2 S2 =>
            cases hc
            exact fun R3 σ3 H3 L3 A3 => q R3 σ3 H3 ((Lc.trans Ly).trans L3) A3
          | ret d2 S2 =>
            cases hc
            exact fun R3 H3 v L3 A3 r3 => q R3 H3 v ((Lc.trans Ly).trans L3) A3 r3
    · cases hc
/-! ### while -/
theorem while_core {c : TF} {b : Ev → Sto → Option Out} {D : Ends} {σ : L2.St} {H : Hp} (h : tDS K (wh c b) D σ H) : tWhile (tDT K c) (tDS K b) D σ H := by
  obtain ⟨R, e, S, o, A, h, q⟩ := h
  obtain ⟨n, hn⟩ := of_wh h
  refine ⟨fun m σc Hc => ∃ Rc ec Sc, Abs K Rc σc Hc ec Sc ∧ Le K R H S Rc Hc Sc ∧ whN c b m ec Sc = some o, ⟨n, R, e, S, A, Le.refl, hn⟩, ?_⟩
  rintro m σc Hc ⟨Rc, ec, Sc, Ac, Lc, hm⟩
  cases m with
  | zero => cases hm
  | succ m =>
    unfold whN at hm
    split at hm
    · rename_i S2 hc
      refine ⟨Rc, ec, Sc, true, S2, Ac, hc, fun R2 H2 L2 A2 => ?_⟩
      refine iteT ?_
      refine ⟨fun σn Hn => ∃ Rn en Sn, Abs K Rn σn Hn en Sn ∧ Le K R H S Rn Hn Sn ∧ whN c b m en Sn = some o, fun σn Hn z => ⟨m, Nat.lt_succ_self m, z⟩, ?_⟩
      cases hb : b ec S2 with
      | none => rw [hb] at hm; cases hm
      | some r =>
        rw [hb] at hm
        refine ⟨R2, ec, S2, r, Ac.mono L2.toLo A2, hb, ?_⟩
        cases r with
        | nx e2 S3 => exact fun R3 σ3 H3 L3 A3 => ⟨R3, e2, S3, A3, (Lc.trans L2).trans L3, hm⟩
        | cnt e2 S3 => exact fun R3 σ3 H3 L3 A3 => ⟨R3, e2, S3, A3, (Lc.trans L2).trans L3, hm⟩
        | brk e2 S3 =>
          cases hm
          exact fun R3 σ3 H3 L3 A3 => q R3 σ3 H3 ((Lc.trans L2).trans L3) A3
        | ret d2 S3 =>
          cases hm
          exact fun R3 H3 v L3 A3 r3 => q R3 H3 v ((Lc.trans L2).trans L3) A3 r3
    · rename_i S2 hc
      cases hm
      refine ⟨Rc, _, Sc, false, _, Ac, hc, fun R2 H2 L2 A2 => ?_⟩
      refine iteF ?_
      exact q R2 σc H2 (Lc.trans L2) (Ac.mono L2.toLo A2)
    · cases hm
end
end M

/-! M9: whatever passes the look does what the intermediate form means. -/
namespace M
open PySem PySem.Spec PyProof.Rows L2
section
variable {N cn : List Str}
/-! ### what the look shuts out -/
theorem no_star {ir : E} {sc : Scope} {v : Expr} {p : Pos} : (ck N cn ir).e sc (.Starred v p) = false := by
  cases ir <;> first | rfl | (rename_i l; cases l <;> rfl)
theorem no_set {ir : E} {sc : Scope} {v : List Expr} {k : Nat} {p : Pos} : (ck N cn ir).e sc (.Set v k p) = false := by
  cases ir <;> first | rfl | (rename_i l; cases l <;> rfl)
theorem no_slice {ir : E} {sc : Scope} {a b c : Option Expr} {p : Pos} : (ck N cn ir).e sc (.Slice a b c p) = false := by
  cases ir <;> first | rfl | (rename_i l; cases l <;> rfl)
theorem no_starL {ir : E} {sc : Scope} {v : Expr} {p : Pos} : (ck N cn ir).l sc (.Starred v p) = false := by
  cases ir <;> rfl
theorem no_call0 {ir : E} {sc : Scope} {f : Expr} {p : Pos} : (ck N cn ir).e sc (.Call f [] [] p) = false := by
  cases ir <;> first | rfl | (rename_i l; cases l <;> rfl) | (cases f <;> rfl) | skip
  · rename_i j as
    cases f <;> first | rfl | skip
    show (_ && _ && _ && false && _) = false
    rw [Bool.and_false, Bool.false_and]
  · rename_i b as
    cases f <;> first | rfl | skip
    cases b <;> (show (_ && _ && false && _) = false; rw [Bool.and_false, Bool.false_and])
theorem star_of {ir : E} {sc : Scope} {e : Expr} {es : List Expr} {env : Env} (h : (ck N cn ir).e sc e = true) : starEach (e :: es) env = (false, eval e env) :: starEach es env := by
  cases e <;> first | rfl | skip
  rw [no_star] at h
  cases h
theorem star_ofL {ir : E} {sc : Scope} {e : Expr} {es : List Expr} {env : Env} (h : (ck N cn ir).l sc e = true) : starEach (e :: es) env = (false, eval e env) :: starEach es env := by
  cases e <;> first | rfl | skip
  rw [no_starL] at h
  cases h
theorem plain_of : ∀ {ir : E} {sc : Scope} {es : List Expr} {env : Env} {pos : Pos}, (ck N cn ir).a sc es = true → (backTo pos (starEach es env)).any (·.1) = false
  | .nil, sc, es, env, pos, h => by
    cases es with
    | nil => rfl
    | cons a b => cases h
  | .cons a as, sc, es, env, pos, h => by
    cases es with
    | nil => cases h
    | cons x xs =>
      have h' : ((ck N cn a).e sc x && (ck N cn as).a sc xs) = true := h
      rw [Bool.and_eq_true] at h'
      rw [star_of h'.1]
      have ih := plain_of (env := env) (pos := pos) h'.2
      unfold backTo at ih ⊢
      rw [List.map_cons, List.any_cons, ih]
      rfl
  | .var _, _, _, _, _, h | .int _, _, _, _, _, h | .bl _, _, _, _, _, h | .non, _, _, _, _, h | .str _, _, _, _, _, h | .bin _ _ _, _, _, _, _, h | .neg _, _, _, _, _, h | .cmp _ _ _, _, _, _, _, h
  | .chn _ _ _ _ _, _, _, _, _, h | .boo _ _, _, _, _, _, h | .not _, _, _, _, _, h | .ite _ _ _, _, _, _, _, h | .tup _, _, _, _, _, h | .idx _ _, _, _, _, _, h | .slc _ _ _, _, _, _, _, h
  | .call _ _, _, _, _, _, h | .bi _ _, _, _, _, _, h | .isi _ _, _, _, _, _, h | .lst _, _, _, _, _, h | .tupL _, _, _, _, _, h | .nilL _ _, _, _, _, _, h | .app _ _, _, _, _, _, h | .extL _ _, _, _, _, _, h
  | .disp _, _, _, _, _, h | .comp _ _ _ _ _, _, _, _, _, h | .seq _, _, _, _, _, h | .rng1 _, _, _, _, _, h | .rng2 _ _, _, _, _, _, h | .enm _, _, _, _, _, h => by cases h
theorem abase_of {ir : E} {sc : Scope} {o : Expr} {m : Str} {env : Env} {w : Sem Value} (h : (ck N cn ir).e sc o = true) : attributeBase o m env w = w := by
  unfold attributeBase
  split
  · rename_i id p pos
    rw [no_call0] at h
    cases h
  · rfl
theorem plainIx_of {ir : E} {sc : Scope} {e : Expr} (h : (ck N cn ir).e sc e = true) : PlainIx e := by
  intro o i
  cases e <;> first | rfl | skip
  rw [no_slice] at h
  cases h
theorem fold_of {ir : E} {sc : Scope} {e : Expr} {env : Env} (h : (ck N cn ir).e sc e = true) : ∀ x, foldedSetIterable e env x = pure x := by
  intro x
  cases e <;> first | rfl | skip
  rw [no_set] at h
  cases h
theorem foldI_of {ir : E} {sc : Scope} {t e : Expr} {env : Env} (h : (ck N cn ir).i sc t e = true) : ∀ x, foldedSetIterable e env x = pure x := by
  intro x
  cases e <;> first | rfl | skip
  cases ir <;> first | (cases h; done) | skip
  rename_i a
  have h' : (ck N cn a).e sc _ = true := h
  rw [no_set] at h'
  cases h'

structure Ok (X : Cx) (T : List Fn) (sc : Scope) (ir : E) : Prop where
  e : ∀ e, (ck N cn ir).e sc e = true → PE X e (tD X.K (sem T ir).v) ∧ PT X e (tDT X.K (sem T ir).t)
  o : ∀ x, (ck N cn ir).o sc x = true → PO X x (tDO X.K (sem T ir).o)
  a : ∀ es, (ck N cn ir).a sc es = true → PA X es (tDA X.K (sem T ir).a)
  bo : ∀ es, (ck N cn ir).a sc es = true → es ≠ [] → ∀ pos, PE X (.BoolOp .And es pos) (tD X.K ((sem T ir).vb true)) ∧ PE X (.BoolOp .Or es pos) (tD X.K ((sem T ir).vb false)) ∧
    PW X (.BoolOp .And es pos) (tDT X.K ((sem T ir).tb true)) ∧ PW X (.BoolOp .Or es pos) (tDT X.K ((sem T ir).tb false))
  i : ∀ t e, (ck N cn ir).i sc t e = true → PI X t e (tDI X.K (sem T ir).i)
  l : ∀ e, (ck N cn ir).l sc e = true → PE X e (tDL X.K (sem T ir).a)
  c : ∀ xs, (ck N cn ir).c sc xs = true → PTs X xs (tDT X.K (sem T ir).t)
variable {X : Cx} {T : List Fn} {sc : Scope}
theorem pts_noD {xs : List Expr} {f : TF} (h : PTs X xs (tDT X.K f)) : True := trivial
/-- an expression by its value -/
theorem Ok.val {ir : E} {g : Scope → Expr → Bool} {v : VF} (hc : ck N cn ir = .val g) (hs : sem T ir = .val v) (he : ∀ e, g sc e = true → PE X e (tD X.K v) ∧ PT X e (tDT X.K (tstF v))) : Ok (N := N) (cn := cn) X T sc ir := by
  refine ⟨fun e h => ?_, fun x h => ?_, fun es h => ?_, fun es h => ?_, fun t e h => ?_, fun e h => ?_, fun xs h => ?_⟩
  · rw [hc] at h
    rw [hs]
    exact he e h
  · rw [hc] at h
    rw [hs]
    cases x with
    | none => cases h
    | some x => exact po_val (he x h).1
  · rw [hc] at h; cases h
  · rw [hc] at h; cases h
  · rw [hc] at h; cases h
  · rw [hc] at h; cases h
  · rw [hc] at h
    rw [hs]
    match xs, h with
    | [x], h => exact pts_one (he x h).2
/-- by its value, where the test is the value's truth -/
theorem Ok.val' {ir : E} {g : Scope → Expr → Bool} {v : VF} (hc : ck N cn ir = .val g) (hs : sem T ir = .val v) (he : ∀ e, g sc e = true → PE X e (tD X.K v) ∧ ∀ whole, isTrue e X.env whole = (do let v ← whole; standAt e.pos; holding [v] (truthy v))) : Ok (N := N) (cn := cn) X T sc ir :=
  Ok.val hc hs fun e h => ⟨(he e h).1, pt_tst (he e h).1 (he e h).2⟩

/-! ### the names of a comprehension's block -/
theorem look_free {sc : Scope} : ∀ {names : List (Str × NameKind)} {x : Str}, names.lookup x = some .free →
    (names.map fun (n, k) => if (k == NameKind.free && sc.kind == .function && sc.names.lookup n == some .cell) then (n, NameKind.cell) else (n, k)).lookup x = some .cell ∨
    (names.map fun (n, k) => if (k == NameKind.free && sc.kind == .function && sc.names.lookup n == some .cell) then (n, NameKind.cell) else (n, k)).lookup x = some .free
  | [], _, h => by cases h
  | (n, k) :: r, x, h => by
    have ih := @look_free sc r x
    show List.lookup x ((if (k == NameKind.free && sc.kind == .function && sc.names.lookup n == some .cell) = true then (n, NameKind.cell) else (n, k)) :: r.map _) = some .cell ∨
      List.lookup x ((if (k == NameKind.free && sc.kind == .function && sc.names.lookup n == some .cell) = true then (n, NameKind.cell) else (n, k)) :: r.map _) = some .free
    cases hx : x == n with
    | true =>
      rw [List.lookup_cons, hx] at h
      cases h
      by_cases hc : (NameKind.free == NameKind.free && sc.kind == .function && sc.names.lookup n == some .cell) = true
      · rw [if_pos hc]
        simp only [List.lookup_cons, hx]
        exact .inl trivial
      · rw [if_neg hc]
        simp only [List.lookup_cons, hx]
        exact .inr trivial
    | false =>
      rw [List.lookup_cons, hx] at h
      by_cases hc : (k == NameKind.free && sc.kind == .function && sc.names.lookup n == some .cell) = true
      · rw [if_pos hc]
        simp only [List.lookup_cons, hx]
        exact ih h
      · rw [if_neg hc]
        simp only [List.lookup_cons, hx]
        exact ih h
theorem Kx.blk (k : Kx X N cn T sc) (csc : Scope) (s : Shared) (H : Hp) (C : Addr) (cl : List (Str × Addr)) (fp : List Addr) : Kx (X.blk s H csc (compEnvC csc cl C X.env) fp) N cn T csc := by
  have keep : ∀ {x : Str} {kd : NameKind}, kd ≠ .free → csc.names.lookup x = some kd → (compEnvC csc cl C X.env).scope.names.lookup x = some kd := fun hk h => lookup_relS_keep (sc := X.env.scope) hk h
  have free : ∀ {x : Str}, csc.names.lookup x = some .free → (compEnvC csc cl C X.env).scope.names.lookup x = some .cell ∨ (compEnvC csc cl C X.env).scope.names.lookup x = some .free := fun h => look_free (sc := X.env.scope) h
  refine ⟨k.hN, k.nd, k.calm, rfl, k.hu, fun x h => ?_, fun x h => ?_, fun x h => ?_, fun x h => ?_, k.bi, k.tab⟩
  · unfold visB at h
    split at h
    · rename_i e
      exact .inl (keep (by decide) e)
    · rename_i e
      exact .inr (.inl (keep (by decide) e))
    · rename_i e
      exact .inr (free e)
    · cases h
  · unfold locB at h
    split at h
    · rename_i e
      exact ⟨.inl (keep (by decide) e), .inr (keep (by decide) e)⟩
    · rename_i e
      refine ⟨.inr (keep (by decide) e), .inl ?_⟩
      show (csc.names.lookup x == some .cell) = true
      rw [e]
      rfl
    · cases h
  · unfold glB at h
    split at h
    · rename_i e
      exact keep (by decide) e
    · cases h
  · rcases h with e | e
    · exact .inl (keep (by decide) e)
    · exact free e
theorem blk_of (k : Kx X N cn T sc) {csc : Scope} {own : List Nat} (h : blkC N sc csc (own.map fun i => (N.getD i "", i)) = true) : BlkOk X.N X.env.scope csc (own.map fun i => (N.getD i "", i)) := by
  have b := blkOk_by h
  refine ⟨b.kind, b.uniq, by rw [k.hN]; exact b.ix, fun y hy e => k.fr _ (b.free y hy e), by rw [k.hN]; exact b.own⟩
theorem own_map (own : List Nat) : (own.map fun i => (N.getD i "", i)).map (·.2) = own := by
  rw [List.map_map]
  conv => rhs; rw [← List.map_id own]
  rfl
end
end M

/-! M10: the induction over expressions. -/
namespace M
open PySem PySem.Spec PyProof.Rows L2
section
variable {N cn : List Str} {T : List Fn}
theorem and2 {a b : Bool} (h : (a && b) = true) : a = true ∧ b = true := by rw [Bool.and_eq_true] at h; exact h
theorem and3 {a b c : Bool} (h : (a && b && c) = true) : a = true ∧ b = true ∧ c = true := by simp only [Bool.and_eq_true] at h; exact ⟨h.1.1, h.1.2, h.2⟩
theorem and4 {a b c d : Bool} (h : (a && b && c && d) = true) : a = true ∧ b = true ∧ c = true ∧ d = true := by simp only [Bool.and_eq_true] at h; exact ⟨h.1.1.1, h.1.1.2, h.1.2, h.2⟩
theorem and5 {a b c d e : Bool} (h : (a && b && c && d && e) = true) : a = true ∧ b = true ∧ c = true ∧ d = true ∧ e = true := by simp only [Bool.and_eq_true] at h; exact ⟨h.1.1.1.1, h.1.1.1.2, h.1.1.2, h.1.2, h.2⟩
theorem and6 {a b c d e f : Bool} (h : (a && b && c && d && e && f) = true) : a = true ∧ b = true ∧ c = true ∧ d = true ∧ e = true ∧ f = true := by simp only [Bool.and_eq_true] at h; exact ⟨h.1.1.1.1.1, h.1.1.1.1.2, h.1.1.1.2, h.1.1.2, h.1.2, h.2⟩
theorem bnot {a : Bool} (h : (!a) = true) : a = false := by cases a <;> first | rfl | cases h
variable {X : Cx} {sc : Scope}
theorem cmpV_bl {o : Cop} {fa fb : VF} {e : Ev} {S : Sto} {d : D} {S' : Sto} (h : (fun e S => bnd (fa e S) fun x S => bnd (fb e S) fun y S => (cmpD o x y S).map fun k => (D.bl k, S)) e S = some (d, S')) : ∃ k, d = .bl k := by
  obtain ⟨x, S1, _, h⟩ := bnd_eq h
  obtain ⟨y, S2, _, h⟩ := bnd_eq h
  cases e : cmpD o x y S2 with
  | none => rw [e] at h; cases h
  | some k => rw [e] at h; cases h; exact ⟨k, rfl⟩
def chnF (o p : Cop) (fa fb fc : VF) : VF := fun e S => bnd (fa e S) fun x S => bnd (fb e S) fun y S => match cmpD o x y S with
    | some true => bnd (fc e S) fun z S => (cmpD p y z S).map fun k => (.bl k, S)
    | some false => some (.bl false, S)
    | none => none
theorem chn_core {o p : Cop} {fa fb fc : VF} {K : PySem.W.Frag} {σ : L2.St} {H : Hp} {Q : VK} (h : tD K (chnF o p fa fb fc) σ H Q) :
    tChain (rD2 K (cmpV o)) (rD2 K (cmpV p)) (tD K fa) (tD K fb) (tD K fc) σ H Q := by
  obtain ⟨R, e, S, d, S', A, h, q⟩ := h
  obtain ⟨x, S1, g1, h⟩ := bnd_eq h
  obtain ⟨y, S2, g2, h⟩ := bnd_eq h
  refine ⟨R, e, S, x, S1, A, g1, fun R1 H1 v L1 A1 r1 => ⟨R1, e, S1, y, S2, A.mono L1.toLo A1, g2, fun R2 H2 w L2 A2 r2 => ?_⟩⟩
  split at h
  · rename_i hc
    obtain ⟨z, S3, g3, h⟩ := bnd_eq h
    refine ⟨R2, S2, x, y, .bl true, S2, A2, r1.mono L2.toLo, r2, by unfold cmpV; rw [hc]; rfl, fun R3 H3 u L3 A3 r3 => ?_⟩
    cases r3
    refine ⟨true, rfl, iteT ⟨R3, e, S2, z, S3, ((A.mono L1.toLo A1).mono L2.toLo A2).mono L3.toLo A3, g3, fun R4 H4 t L4 A4 r4 => ?_⟩⟩
    refine ⟨R4, S3, y, z, d, S', A4, (r2.mono L3.toLo).mono L4.toLo, r4, h, fun R5 H5 t2 L5 A5 r5 => q R5 H5 t2 ((((L1.trans L2).trans L3).trans L4).trans L5) A5 r5⟩
  · rename_i hc
    cases h
    refine ⟨R2, _, x, y, .bl false, _, A2, r1.mono L2.toLo, r2, by unfold cmpV; rw [hc]; rfl, fun R3 H3 u L3 A3 r3 => ?_⟩
    cases r3
    exact ⟨false, rfl, iteF (q R3 H3 _ ((L1.trans L2).trans L3) A3 rfl)⟩
  · cases h
theorem chn_bl {o p : Cop} {fa fb fc : VF} {e : Ev} {S : Sto} {d : D} {S' : Sto} (h : chnF o p fa fb fc e S = some (d, S')) : ∃ k, d = .bl k := by
  obtain ⟨x, S1, _, h⟩ := bnd_eq h
  obtain ⟨y, S2, _, h⟩ := bnd_eq h
  split at h
  · obtain ⟨z, S3, _, h⟩ := bnd_eq h
    cases e : cmpD p y z S3 with
    | none => rw [e] at h; cases h
    | some k => rw [e] at h; cases h; exact ⟨k, rfl⟩
  · cases h; exact ⟨_, rfl⟩
  · cases h
/-! ### not, if, and, or -/
def notF (fa : VF) : VF := fun e S => bnd (fa e S) fun x S => match x with
  | .bl k => some (.bl (!k), S)
  | _ => none
theorem not_core {fa : VF} {K : PySem.W.Frag} {σ : L2.St} {H : Hp} {Q : VK} (h : tD K (notF fa) σ H Q) : tNotV (tD K fa) σ H Q := by
  obtain ⟨R, e, S, d, S', A, h, q⟩ := h
  obtain ⟨x, S1, g1, h⟩ := bnd_eq h
  refine ⟨R, e, S, x, S1, A, g1, fun R1 H1 v L1 A1 r1 => ?_⟩
  cases x with
  | bl k =>
    cases h
    cases r1
    exact ⟨k, rfl, q R1 H1 _ L1 A1 rfl⟩
  | _ => cases h
theorem notT_core {fa : TF} {K : PySem.W.Frag} {σ : L2.St} {H : Hp} {Q : Bool → Hp → Prop} (h : tDT K (fun e S => bnd (fa e S) fun k S => some (!k, S)) σ H Q) : tNot (tDT K fa) σ H Q := by
  obtain ⟨R, e, S, d, S', A, h, q⟩ := h
  obtain ⟨x, S1, g1, h⟩ := bnd_eq h
  cases h
  exact ⟨R, e, S, x, _, A, g1, fun R1 H1 L1 A1 => q R1 H1 L1 A1⟩
theorem ite_core {fc : TF} {fa fb : VF} {K : PySem.W.Frag} {σ : L2.St} {H : Hp} {Q : VK} (h : tD K (fun e S => bnd (fc e S) fun k S => if k = true then fa e S else fb e S) σ H Q) : tIf (tDT K fc) (tD K fa) (tD K fb) σ H Q := by
  obtain ⟨R, e, S, d, S', A, h, q⟩ := h
  obtain ⟨x, S1, g1, h⟩ := bnd_eq h
  refine ⟨R, e, S, x, S1, A, g1, fun R1 H1 L1 A1 => ?_⟩
  cases x with
  | true => exact iteT ⟨R1, e, S1, d, S', A.mono L1.toLo A1, h, fun R2 H2 v L2 A2 r2 => q R2 H2 v (L1.trans L2) A2 r2⟩
  | false => exact iteF ⟨R1, e, S1, d, S', A.mono L1.toLo A1, h, fun R2 H2 v L2 A2 r2 => q R2 H2 v (L1.trans L2) A2 r2⟩
def andF (k : Bool) (fa fb : VF) : VF := fun e S => bnd (fa e S) fun x S => match x with
  | .bl b => if b = k then fb e S else some (.bl b, S)
  | _ => none
theorem and_core {fa fb : VF} {K : PySem.W.Frag} {σ : L2.St} {H : Hp} {Q : VK} (h : tD K (andF true fa fb) σ H Q) : tAndV (tD K fa) (tD K fb) σ H Q := by
  obtain ⟨R, e, S, d, S', A, h, q⟩ := h
  obtain ⟨x, S1, g1, h⟩ := bnd_eq h
  refine ⟨R, e, S, x, S1, A, g1, fun R1 H1 v L1 A1 r1 => ?_⟩
  cases x with
  | bl k =>
    cases r1
    refine ⟨k, rfl, ?_⟩
    cases k with
    | true => exact iteT ⟨R1, e, S1, d, S', A.mono L1.toLo A1, h, fun R2 H2 v L2 A2 r2 => q R2 H2 v (L1.trans L2) A2 r2⟩
    | false =>
      cases h
      exact iteF (q R1 H1 _ L1 A1 rfl)
  | _ => cases h
theorem or_core {fa fb : VF} {K : PySem.W.Frag} {σ : L2.St} {H : Hp} {Q : VK} (h : tD K (andF false fa fb) σ H Q) : tOrV (tD K fa) (tD K fb) σ H Q := by
  obtain ⟨R, e, S, d, S', A, h, q⟩ := h
  obtain ⟨x, S1, g1, h⟩ := bnd_eq h
  refine ⟨R, e, S, x, S1, A, g1, fun R1 H1 v L1 A1 r1 => ?_⟩
  cases x with
  | bl k =>
    cases r1
    refine ⟨k, rfl, ?_⟩
    cases k with
    | false => exact iteF ⟨R1, e, S1, d, S', A.mono L1.toLo A1, h, fun R2 H2 v L2 A2 r2 => q R2 H2 v (L1.trans L2) A2 r2⟩
    | true =>
      cases h
      exact iteT (q R1 H1 _ L1 A1 rfl)
  | _ => cases h
def andT (k : Bool) (fa fb : TF) : TF := fun e S => bnd (fa e S) fun b S => if b = k then fb e S else some (b, S)
theorem andT_core {fa fb : TF} {K : PySem.W.Frag} {σ : L2.St} {H : Hp} {Q : Bool → Hp → Prop} (h : tDT K (andT true fa fb) σ H Q) : tAnd (tDT K fa) (tDT K fb) σ H Q := by
  obtain ⟨R, e, S, d, S', A, h, q⟩ := h
  obtain ⟨x, S1, g1, h⟩ := bnd_eq h
  refine ⟨R, e, S, x, S1, A, g1, fun R1 H1 L1 A1 => ?_⟩
  cases x with
  | true => exact iteT ⟨R1, e, S1, d, S', A.mono L1.toLo A1, h, fun R2 H2 L2 A2 => q R2 H2 (L1.trans L2) A2⟩
  | false =>
    cases h
    exact iteF (q R1 H1 L1 A1)
theorem orT_core {fa fb : TF} {K : PySem.W.Frag} {σ : L2.St} {H : Hp} {Q : Bool → Hp → Prop} (h : tDT K (andT false fa fb) σ H Q) : tOr (tDT K fa) (tDT K fb) σ H Q := by
  obtain ⟨R, e, S, d, S', A, h, q⟩ := h
  obtain ⟨x, S1, g1, h⟩ := bnd_eq h
  refine ⟨R, e, S, x, S1, A, g1, fun R1 H1 L1 A1 => ?_⟩
  cases x with
  | false => exact iteF ⟨R1, e, S1, d, S', A.mono L1.toLo A1, h, fun R2 H2 L2 A2 => q R2 H2 (L1.trans L2) A2⟩
  | true =>
    cases h
    exact iteT (q R1 H1 L1 A1)
theorem neg_core {fa : VF} {K : PySem.W.Frag} {σ : L2.St} {H : Hp} {Q : VK} (h : tD K (fun e S => bnd (fa e S) fun x S => match x with | .int i => some (.int (-i), S) | _ => none) σ H Q) : tUn (rU fun i => .int (-i)) (tD K fa) σ H Q := by
  obtain ⟨R, e, S, d, S', A, h, q⟩ := h
  obtain ⟨x, S1, g1, h⟩ := bnd_eq h
  refine ⟨R, e, S, x, S1, A, g1, fun R1 H1 v L1 A1 r1 => ?_⟩
  cases x with
  | int i =>
    cases h
    cases r1
    exact ⟨i, rfl, q R1 H1 _ L1 A1 rfl⟩
  | _ => cases h
end
end M

/-! M11: the induction over expressions. -/
namespace M
open PySem PySem.Spec PyProof.Rows L2
section
variable {N cn : List Str} {T : List Fn}
theorem lastB {op op' : CmpOp} {m r : Expr} (h : (!lastMarks [op, op'] [m, r]) = true) : lastMarks [op, op'] [m, r] = false := bnot h
theorem ok_all : ∀ (ir : E) (X : Cx) (sc : Scope), Kx X N cn T sc → Ok (N := N) (cn := cn) X T sc ir := by
  intro ir
  induction ir with
  | var i =>
    intro X sc k
    refine Ok.val' rfl rfl fun e h => ?_
    cases e <;> first | (cases h; done) | skip
    exact ⟨pe_vr k (and2 h).1 (and2 h).2, fun _ => rfl⟩
  | int i =>
    intro X sc k
    refine Ok.val' rfl rfl fun e h => ?_
    cases e <;> first | (cases h; done) | skip
    rename_i c kk pos
    cases c <;> first | (cases h; done) | skip
    cases eq_of_beq h
    exact ⟨pe_c pe_int fun _ _ => rfl, fun _ => rfl⟩
  | bl i =>
    intro X sc k
    refine Ok.val' rfl rfl fun e h => ?_
    cases e <;> first | (cases h; done) | skip
    rename_i c kk pos
    cases c <;> first | (cases h; done) | skip
    cases eq_of_beq h
    exact ⟨pe_c pe_bl fun _ _ => rfl, fun _ => rfl⟩
  | non =>
    intro X sc k
    refine Ok.val' rfl rfl fun e h => ?_
    cases e <;> first | (cases h; done) | skip
    rename_i c kk pos
    cases c <;> first | (cases h; done) | skip
    exact ⟨pe_c pe_non fun _ _ => rfl, fun _ => rfl⟩
  | str i =>
    intro X sc k
    refine Ok.val' rfl rfl fun e h => ?_
    cases e <;> first | (cases h; done) | skip
    rename_i c kk pos
    cases c <;> first | (cases h; done) | skip
    cases eq_of_beq h
    exact ⟨pe_c pe_str fun _ _ => rfl, fun _ => rfl⟩
  | bin o a b iha ihb =>
    intro X sc k
    refine Ok.val' rfl rfl fun e h => ?_
    cases e <;> first | (cases h; done) | skip
    obtain ⟨h1, h2, h3⟩ := and3 h
    obtain rfl := opB_eq h1
    exact ⟨PE.imp (pe_op (op_binD o) (((iha X sc k).e _ h2).1) (((ihb X sc k).e _ h3).1)) fun σ H Q q => tD2 (fun _ _ _ _ z => z) q, fun _ => rfl⟩
  | neg a iha =>
    intro X sc k
    refine Ok.val' rfl rfl fun e h => ?_
    cases e <;> first | (cases h; done) | skip
    rename_i op x pos
    cases op <;> first | (cases h; done) | skip
    exact ⟨PE.imp (pe_un un_neg ((iha X sc k).e _ h).1) fun σ H Q q => neg_core q, fun _ => rfl⟩
  | cmp o a b iha ihb =>
    intro X sc k
    refine Ok.val rfl rfl fun e h => ?_
    cases e <;> first | (cases h; done) | skip
    rename_i l ops rs pos
    match ops, rs, h with
    | [op], [r], h =>
      obtain ⟨h1, h2, h3, h4⟩ := and4 h
      obtain rfl := cpB_eq h1
      have A := ((iha X sc k).e _ h3).1
      have B := ((ihb X sc k).e _ h4).1
      exact ⟨PE.imp (pe_cmpR (op_cmpD o k.hu) A B (bnot h2)) fun σ H Q q => tD2 (g := cmpV o) (fun _ _ _ _ z => z) q,
        PT.imp (pt_cmpR (op_cmpD o k.hu) A B (bnot h2)) fun σ H Q q => tD2 (g := cmpV o) (fun _ _ _ _ z => z) (tst_bl (fun e S d S' hh => cmpV_bl hh) q)⟩
  | chn o p a b c iha ihb ihc =>
    intro X sc k
    refine Ok.val rfl rfl fun e h => ?_
    cases e <;> first | (cases h; done) | skip
    rename_i l ops rs pos
    match ops, rs, h with
    | [op, op'], [m, r], h =>
      obtain ⟨h1, h2, h3, h4, h5, h6⟩ := and6 h
      obtain rfl := cpB_eq h1
      obtain rfl := cpB_eq h2
      have A := ((iha X sc k).e _ h4).1
      have B := ((ihb X sc k).e _ h5).1
      have C := ((ihc X sc k).e _ h6).1
      exact ⟨PE.imp (pe_chain (op_cmpD o k.hu) (op_cmpD p k.hu) A B C (lastB h3)) fun σ H Q q => chn_core (o := o) (p := p) q,
        PT.imp (pt_chain (op_cmpD o k.hu) (op_cmpD p k.hu) A B C (lastB h3)) fun σ H Q q => chn_core (o := o) (p := p) (tst_bl (fun e S d S' hh => chn_bl (o := o) (p := p) hh) q)⟩
  | boo b as ih =>
    intro X sc k
    have main : ∀ e, ((ck N cn (.boo b as)).e sc e) = true → PE X e (tD X.K (sem T (.boo b as)).v) ∧ PT X e (tDT X.K (sem T (.boo b as)).t) := fun e h => by
      cases e <;> first | (cases h; done) | skip
      rename_i op es pos
      cases op with
      | And =>
        obtain ⟨h1, h2, h3⟩ := and3 h
        have hb : b = true := h1
        subst hb
        have ne : es ≠ [] := fun z => by rw [z] at h2; cases h2
        have q := (ih X sc k).bo es h3 ne pos
        exact ⟨q.1, q.2.2.1.pt⟩
      | Or =>
        obtain ⟨h1, h2, h3⟩ := and3 h
        have hb : b = false := bnot h1
        subst hb
        have ne : es ≠ [] := fun z => by rw [z] at h2; cases h2
        have q := (ih X sc k).bo es h3 ne pos
        exact ⟨q.2.1, q.2.2.2.pt⟩
    refine ⟨main, fun x h => ?_, fun es h => ?_, fun es h => ?_, fun t e h => ?_, fun e h => ?_, fun xs h => ?_⟩
    · exact po_no
    · cases h
    · cases h
    · cases h
    · cases h
    · match xs, h with
      | [x], h => exact pts_one (main x h).2
  | not a ih =>
    intro X sc k
    have main : ∀ e, ((ck N cn (.not a)).e sc e) = true → PE X e (tD X.K (sem T (.not a)).v) ∧ PT X e (tDT X.K (sem T (.not a)).t) := fun e h => by
      cases e <;> first | (cases h; done) | skip
      rename_i op x pos
      cases op <;> first | (cases h; done) | skip
      have A := (ih X sc k).e _ h
      exact ⟨PE.imp (pe_not A.1) fun σ H Q q => not_core q, PT.imp (pt_not A.2) fun σ H Q q => notT_core q⟩
    refine ⟨main, fun x h => ?_, fun es h => ?_, fun es h => ?_, fun t e h => ?_, fun e h => ?_, fun xs h => ?_⟩
    · exact po_no
    · cases h
    · cases h
    · cases h
    · cases h
    · match xs, h with
      | [x], h => exact pts_one (main x h).2
  | ite c a b ihc iha ihb =>
    intro X sc k
    refine ⟨fun e h => ?_, fun x h => ?_, fun es h => ?_, fun es h => ?_, fun t e h => ?_, fun e h => ?_, fun xs h => ?_⟩
    · cases e <;> first | (cases h; done) | skip
      obtain ⟨h1, h2, h3⟩ := and3 h
      exact ⟨PE.imp (pe_ifExp ((ihc X sc k).e _ h1).2 ((iha X sc k).e _ h2).1 ((ihb X sc k).e _ h3).1) fun σ H Q q => ite_core q, pt_no⟩
    all_goals cases h
  | tup as ih =>
    intro X sc k
    refine Ok.val' rfl rfl fun e h => ?_
    cases e <;> first | (cases h; done) | skip
    exact ⟨pe_tupD ((ih X sc k).a _ h), fun _ => rfl⟩
  | idx a b iha ihb =>
    intro X sc k
    refine Ok.val' rfl rfl fun e h => ?_
    cases e <;> first | (cases h; done) | skip
    obtain ⟨h1, h2⟩ := and2 h
    exact ⟨PE.imp (pe_ix ix_seq ((iha X sc k).e _ h1).1 ((ihb X sc k).e _ h2).1 (plainIx_of h2)) fun σ H Q q => tD2 (g := idxD) (fun _ _ _ _ z => ix_D z) q, fun _ => rfl⟩
  | slc a lo hi iha ihl ihh =>
    intro X sc k
    refine Ok.val' rfl rfl fun e h => ?_
    cases e <;> first | (cases h; done) | skip
    rename_i o s pos
    cases s <;> first | (cases h; done) | skip
    rename_i l u st p2
    cases st <;> first | (cases h; done) | skip
    obtain ⟨h1, h2, h3⟩ := and3 h
    exact ⟨pe_slcD ((iha X sc k).e _ h1).1 ((ihl X sc k).o _ h2) ((ihh X sc k).o _ h3), fun _ => rfl⟩
  | call j as ih =>
    intro X sc k
    refine Ok.val' rfl rfl fun e h => ?_
    cases e <;> first | (cases h; done) | skip
    rename_i f es kws pos
    cases f <;> first | (cases h; done) | skip
    cases kws <;> first | (cases h; done) | skip
    obtain ⟨h1, h2, h3, h4, h5⟩ := and5 h
    cases es with
    | nil => cases h4
    | cons x xs =>
      have st : starEach (x :: xs) X.env = (false, eval x X.env) :: starEach xs X.env ∧ ∀ pos, (backTo pos (starEach xs X.env)).any (·.1) = false := by
        cases as <;> first | (cases h5; done) | skip
        exact ⟨star_of (and2 h5).1, fun pos => plain_of (and2 h5).2⟩
      exact ⟨pe_callD k (eq_of_beq h1) h2 (bnot h3) ((ih X sc k).a _ h5) st.1 (st.2 _), fun _ => rfl⟩
  | bi b as ih =>
    intro X sc k
    refine Ok.val' rfl rfl fun e h => ?_
    cases e <;> first | (cases h; done) | skip
    rename_i f es kws pos
    cases f <;> first | (cases h; done) | skip
    cases kws <;> first | (cases h; done) | skip
    obtain ⟨h1, h2, h3, h4⟩ := and4 h
    cases eq_of_beq h1
    cases es with
    | nil => cases b <;> cases h3
    | cons x xs =>
      have st : starEach (x :: xs) X.env = (false, eval x X.env) :: starEach xs X.env ∧ ∀ pos, (backTo pos (starEach xs X.env)).any (·.1) = false := by
        cases as <;> first | (cases h4; done) | skip
        exact ⟨star_of (and2 h4).1, fun pos => plain_of (and2 h4).2⟩
      exact ⟨pe_biD k b h2 ((ih X sc k).a _ h4) st.1 (st.2 _), fun _ => rfl⟩
  | isi a t ih =>
    intro X sc k
    refine Ok.val' rfl rfl fun e h => ?_
    cases e <;> first | (cases h; done) | skip
    rename_i f es kws pos
    cases f <;> first | (cases h; done) | skip
    match es, kws, h with
    | [x, .Name y py], [], h =>
      obtain ⟨h1, h2, h3, h4, h5⟩ := and5 h
      cases eq_of_beq h1
      cases eq_of_beq h3
      exact ⟨pe_isiD k t h2 h4 ((ih X sc k).e _ h5).1 (star_of h5), fun _ => rfl⟩
  | lst l ih =>
    intro X sc k
    refine Ok.val rfl rfl fun e h => ?_
    have A := pe_lstD ((ih X sc k).l e h)
    refine ⟨A, ?_⟩
    cases l <;> first | (cases h; done) | skip
    · cases e <;> first | (cases h; done) | skip
      exact pt_tst A fun _ => rfl
    · cases e <;> first | (cases h; done) | skip
      exact pt_tst A fun _ => rfl
  | tupL l ih =>
    intro X sc k
    refine Ok.val' rfl rfl fun e h => ?_
    cases e <;> first | (cases h; done) | skip
    rename_i f es kws pos
    cases f <;> first | (cases h; done) | skip
    match es, kws, h with
    | [x], [], h =>
      obtain ⟨h1, h2, h3⟩ := and3 h
      cases eq_of_beq h1
      exact ⟨pe_tupLD k h2 ((ih X sc k).l _ h3) (star_ofL h3), fun _ => rfl⟩
  | nilL neg l ih =>
    intro X sc k
    refine Ok.val rfl rfl fun e h => ?_
    cases e <;> first | (cases h; done) | skip
    rename_i x ops rs pos
    match ops, rs, h with
    | [.Eq], [.List [] p1], h =>
      obtain ⟨h1, h2⟩ := and2 h
      have hn : neg = false := bnot h1
      subst hn
      exact pe_nilD (neg := false) k ((ih X sc k).l _ h2)
    | [.NotEq], [.List [] p1], h =>
      obtain ⟨h1, h2⟩ := and2 h
      have hn : neg = true := h1
      subst hn
      exact pe_nilD (neg := true) k ((ih X sc k).l _ h2)
  | app o a iho iha =>
    intro X sc k
    refine Ok.val' rfl rfl fun e h => ?_
    cases e <;> first | (cases h; done) | skip
    rename_i f es kws pos
    cases f <;> first | (cases h; done) | skip
    match es, kws, h with
    | [y], [], h =>
      obtain ⟨h1, h2, h3, h4⟩ := and4 h
      cases eq_of_beq h1
      exact ⟨pe_appD ((iho X sc k).e _ h3).1 ((iha X sc k).e _ h4).1 (abase_of h3) h2 (star_of h4), fun _ => rfl⟩
  | extL o l iho ihl =>
    intro X sc k
    refine Ok.val' rfl rfl fun e h => ?_
    cases e <;> first | (cases h; done) | skip
    rename_i f es kws pos
    cases f <;> first | (cases h; done) | skip
    match es, kws, h with
    | [y], [], h =>
      obtain ⟨h1, h2, h3, h4⟩ := and4 h
      cases eq_of_beq h1
      exact ⟨pe_extD ((iho X sc k).e _ h3).1 ((ihl X sc k).l _ h4) (abase_of h3) h2 (star_ofL h4), fun _ => rfl⟩
  | disp as ih =>
    intro X sc k
    refine ⟨fun e h => ?_, fun x h => ?_, fun es h => ?_, fun es h => ?_, fun t e h => ?_, fun e h => ?_, fun xs h => ?_⟩
    · cases h
    · cases h
    · cases h
    · cases h
    · cases h
    · cases e <;> first | (cases h; done) | skip
      exact pe_dispD ((ih X sc k).a _ h)
    · cases h
  | comp own tg it c elt ihi ihc ihe =>
    intro X sc k
    refine ⟨fun e h => ?_, fun x h => ?_, fun es h => ?_, fun es h => ?_, fun t e h => ?_, fun e h => ?_, fun xs h => ?_⟩
    · cases h
    · cases h
    · cases h
    · cases h
    · cases h
    · cases e <;> first | (cases h; done) | skip
      rename_i el gs csc pos
      match gs, h with
      | [⟨t, i, ifs, 0⟩], h =>
        obtain ⟨h1, h2, h3, h4, h5, h6⟩ := and6 h
        have P := pe_lc (own := own.map fun i => (N.getD i "", i)) k.calm (by rw [k.hN]; exact k.nd) ((ihi X sc k).i _ _ h4) (blk_of k h1) (fun s H C cl fp => tg_ok (k.blk csc s H C cl fp) h2)
          (fun s H C cl fp => (ihc _ _ (k.blk csc s H C cl fp)).c _ h5) (fun s H C cl fp => ((ihe _ _ (k.blk csc s H C cl fp)).e _ h6).1) (foldI_of h4) (elt := el) (pos := pos) (g := gTg X.K tg) (tt := tDT X.K (sem T c).t) (te := tD X.K (sem T elt).v)
        rw [own_map] at P
        exact PE.imp P fun σ H Q q => comp_core h3 q
    · cases h
  | nil =>
    intro X sc k
    refine ⟨fun e h => ?_, fun x h => ?_, fun es h => ?_, fun es h => ?_, fun t e h => ?_, fun e h => ?_, fun xs h => ?_⟩
    · cases h
    · cases x with
      | some x => cases h
      | none =>
        exact PO.imp po_none fun σ H Q ⟨R, e, S, d, S', A, h, q⟩ => by
          cases h
          exact q R H Le.refl A.h
    · cases es with
      | nil => exact pa_nilD
      | cons a b => cases h
    · cases es with
      | nil => intro z; exact absurd rfl z
      | cons a b => cases h
    · cases h
    · cases h
    · cases xs with
      | nil => exact ⟨fun pins s σ H Q I ⟨R, e, S, d, S', A, h, q⟩ => by
          cases h
          exact pts_nil.run pins s σ H Q I (q R H Le.refl A.h)⟩
      | cons a b => cases h
  | cons a as iha ihas =>
    intro X sc k
    refine ⟨fun e h => ?_, fun x h => ?_, fun es h => ?_, fun es h => ?_, fun t e h => ?_, fun e h => ?_, fun xs h => ?_⟩
    · cases h
    · cases h
    · cases es with
      | nil => cases h
      | cons x xs =>
        obtain ⟨h1, h2⟩ := and2 h
        exact pa_consD ((iha X sc k).e _ h1).1 ((ihas X sc k).a _ h2) (star_of h1)
    · intro ne pos
      cases es with
      | nil => cases h
      | cons x xs =>
        obtain ⟨h1, h2⟩ := and2 h
        have A := (iha X sc k).e _ h1
        cases as with
        | nil =>
          cases xs with
          | cons y ys => cases h2
          | nil => exact ⟨pe_one A.1, pe_one A.1, pw_and1 A.2, pw_or1 A.2⟩
        | cons b bs =>
          cases xs with
          | nil => cases h2
          | cons y ys =>
            have B := (ihas X sc k).bo _ h2 (fun z => nomatch z) pos
            exact ⟨PE.imp (pe_and A.1 B.1) fun σ H Q q => and_core q, PE.imp (pe_or A.1 B.2.1) fun σ H Q q => or_core q,
              PW.imp (pw_and A.2 B.2.2.1) fun σ H Q q => andT_core q, PW.imp (pw_or A.2 B.2.2.2) fun σ H Q q => orT_core q⟩
        | _ => cases h2
    · cases h
    · cases h
    · cases h
  | seq a ih =>
    intro X sc k
    refine ⟨fun e h => ?_, fun x h => ?_, fun es h => ?_, fun es h => ?_, fun t e h => ?_, fun e h => ?_, fun xs h => ?_⟩
    · cases h
    · cases h
    · cases h
    · cases h
    · exact pi_seqD ((ih X sc k).e _ h).1
    · cases h
    · cases h
  | rng1 a ih =>
    intro X sc k
    refine ⟨fun e h => ?_, fun x h => ?_, fun es h => ?_, fun es h => ?_, fun t e h => ?_, fun e h => ?_, fun xs h => ?_⟩
    · cases h
    · cases h
    · cases h
    · cases h
    · cases e <;> first | (cases h; done) | skip
      rename_i f es kws pos
      cases f <;> first | (cases h; done) | skip
      match es, kws, h with
      | [x], [], h =>
        obtain ⟨h1, h2, h3⟩ := and3 h
        cases eq_of_beq h1
        exact pi_rng1D k h2 ((ih X sc k).e _ h3).1 (star_of h3)
    · cases h
    · cases h
  | rng2 a b iha ihb =>
    intro X sc k
    refine ⟨fun e h => ?_, fun x h => ?_, fun es h => ?_, fun es h => ?_, fun t e h => ?_, fun e h => ?_, fun xs h => ?_⟩
    · cases h
    · cases h
    · cases h
    · cases h
    · cases e <;> first | (cases h; done) | skip
      rename_i f es kws pos
      cases f <;> first | (cases h; done) | skip
      match es, kws, h with
      | [x, y], [], h =>
        obtain ⟨h1, h2, h3, h4⟩ := and4 h
        cases eq_of_beq h1
        exact pi_rng2D k h2 ((iha X sc k).e _ h3).1 ((ihb X sc k).e _ h4).1 (star_of h3) (star_of h4)
    · cases h
    · cases h
  | enm a ih =>
    intro X sc k
    refine ⟨fun e h => ?_, fun x h => ?_, fun es h => ?_, fun es h => ?_, fun t e h => ?_, fun e h => ?_, fun xs h => ?_⟩
    · cases h
    · cases h
    · cases h
    · cases h
    · cases e <;> first | (cases h; done) | skip
      rename_i f es kws pos
      cases f <;> first | (cases h; done) | skip
      match es, kws, h with
      | [x], [], h =>
        obtain ⟨h1, h2, h3, h4⟩ := and4 h
        cases eq_of_beq h1
        cases t <;> first | (cases h3; done) | skip
        exact pi_enmD k h2 ((ih X sc k).e _ h4).1 (star_of h4)
    · cases h
    · cases h
end
end M

/-! M12: statements, defs. -/
namespace M
open PySem PySem.Spec PyProof.Rows L2
def notComp : Expr → Bool
  | .ListComp .. | .SetComp .. | .DictComp .. => false
  | _ => true
def isTupE : Expr → Bool
  | .Tuple .. => true
  | _ => false
/-- name = [..]: is the name's slot the list's place -/
def swB (sc : Scope) : Expr → Expr → Bool
  | .Name y py, .ListComp _ _ csc cp => (match sc.names.lookup y with
      | some .local => py.line == cp.line && !(csc.names.any fun (n, k) => n == y && (k == .local || k == .cell))
      | _ => false)
  | _, _ => false
/-- name = [..], the name a cell -/
def cellB (sc : Scope) : Expr → Bool
  | .Name y _ => (match sc.names.lookup y with
      | some .cell => true
      | _ => false)
  | _ => false
def starB : Expr → Bool
  | .Starred .. => true
  | _ => false
def parB (N : List Str) (sc : Scope) (i j : Nat) : List Expr → List Expr → Bool
  | [.Name x px, .Name y py], [a, b] => nameB N sc i x && nameB N sc j y && decide (sc.names.lookup x = some .local) && decide (sc.names.lookup y = some .local) && !(x == y) && px.line == py.line &&
      !([a, b].all (foldedForSure 8)) && !([a, b].all (constantsAlone 8)) && !starB a && !starB b
  | _, _ => false
structure CkS where
  s : Stmt → Bool
  b : List Stmt → Bool
def CkS.st (s : Stmt → Bool) : CkS := ⟨s, fun _ => false⟩
def augB : Bop → Bool
  | .add | .sub | .mul | .fdiv | .mod | .band => true
  | _ => false
def cks (N cn : List Str) (sc : Scope) : Stm → CkS
  | .nil => ⟨fun _ => false, fun b => b.isEmpty⟩
  | .cons a c => ⟨fun _ => false, fun b => match b with
    | s :: r => (cks N cn sc a).s s && (cks N cn sc c).b r
    | [] => false⟩
  | .pass => .st fun s => match s with
    | .Pass _ => true
    | _ => false
  | .brk => .st fun s => match s with
    | .Break _ => true
    | _ => false
  | .cnt => .st fun s => match s with
    | .Continue _ => true
    | _ => false
  | .retN => .st fun s => match s with
    | .Return none _ => true
    | _ => false
  | .ret x => .st fun s => match s with
    | .Return (some e) _ => (ck N cn x).e sc e
    | _ => false
  | .expr x => .st fun s => match s with
    | .Expr e _ => notComp e && (ck N cn x).e sc e
    | _ => false
  | .set g x => .st fun s => match s with
    | .Assign [t] e _ => ckT N sc g t && (ck N cn x).e sc e && (swB sc t e || ((notComp e || cellB sc t) && !(isTupE t && isTupE e)))
    | _ => false
  | .par i j a b => .st fun s => match s with
    | .Assign [.Tuple ts _ _] (.Tuple vs _ _) _ => parB N sc i j ts vs && (ck N cn (.cons a (.cons b .nil))).a sc vs
    | _ => false
  | .setI o i x => .st fun s => match s with
    | .Assign [.Subscript ov iv _] e _ => (ck N cn o).e sc ov && (ck N cn i).e sc iv && (ck N cn x).e sc e
    | _ => false
  | .aug i o x => .st fun s => match s with
    | .AugAssign t op e _ => tgB N sc i t && opB op (bopO o) && augB o && (ck N cn x).e sc e
    | _ => false
  | .ite c a b => .st fun s => match s with
    | .If t x y _ => (ck N cn c).e sc t && (cks N cn sc a).b x && (cks N cn sc b).b y
    | _ => false
  | .whl c b => .st fun s => match s with
    | .While t x [] _ => (ck N cn c).e sc t && (cks N cn sc b).b x
    | _ => false
  | .for_ g it b => .st fun s => match s with
    | .For t i x [] _ => ckT N sc g t && (ck N cn it).i sc t i && (cks N cn sc b).b x
    | _ => false
section
variable {X : Cx} {N cn : List Str} {T : List Fn} {sc : Scope}
theorem sw_no {e : Expr} (h : notComp e = true) (t : Option Expr) (l : Nat) (env : Env) : swapsWith e t l env = pure false := by
  cases e <;> first | rfl | cases h
theorem sw_sub {e ov iv : Expr} {p : Pos} {l : Nat} {env : Env} : swapsWith e (some (.Subscript ov iv p)) l env = pure false := by
  cases e <;> rfl
theorem sw_cell {t e : Expr} (h : cellB sc t = true) {env : Env} (he : env.scope = sc) (l : Nat) : swapsWith e (some t) l env = pure false := by
  cases t <;> first | (cases h; done) | skip
  rename_i y p
  have hk : env.kindOf y = some .cell := by
    show env.scope.names.lookup y = some .cell
    rw [he]
    simp only [cellB] at h
    split at h
    · assumption
    · cases h
  cases e <;> first | rfl | skip
  all_goals
    unfold swapsWith
    simp only [hk]
    rw [show (some NameKind.cell == some NameKind.local) = false from rfl, Bool.and_false, Bool.false_and, Bool.false_and]
theorem ss_no {t e : Expr} (h : (!(isTupE t && isTupE e)) = true) (ht : isTupE t = true ∨ ∃ x p, t = .Name x p) {env : Env} : swappedStores [t] e env = pure none := by
  cases t <;> first | (rcases ht with z | ⟨_, _, z⟩ <;> cases z; done) | skip
  · cases e <;> rfl
  · cases e <;> first | rfl | cases h
theorem seq_core {K : PySem.W.Frag} {f g : Ev → Sto → Option Out} {D : Ends} {σ : L2.St} {H : Hp} (h : tDS K (fun e S => seqO (f e S) g) D σ H) : tSeq (tDS K f) (tDS K g) D σ H := by
  obtain ⟨R, e, S, o, A, h, q⟩ := h
  cases hf : f e S with
  | none => simp only [hf] at h; cases h
  | some r =>
    replace h : seqO (f e S) g = some o := h
    rw [hf] at h
    refine ⟨R, e, S, r, A, hf, ?_⟩
    cases r with
    | nx e' S' => exact fun R' σ' H' L A' => ⟨R', e', S', o, A', h, q.mono L⟩
    | ret d S' => cases h; exact q
    | brk e' S' => cases h; exact q
    | cnt e' S' => cases h; exact q
theorem set_core {K : PySem.W.Frag} {v : VF} {g : Tg} {D : Ends} {σ : L2.St} {H : Hp} (h : tDS K (fun e S => bnd (v e S) fun d S => (asg g d e).map (.nx · S)) D σ H) : tAsg (tD K v) (gTg K g) D σ H := by
  obtain ⟨R, e, S, o, A, h, q⟩ := h
  obtain ⟨d, S1, g1, h⟩ := bnd_eq h
  refine ⟨R, e, S, d, S1, A, g1, fun R1 H1 v L1 A1 r1 => ?_⟩
  cases he : asg g d e with
  | none => rw [he] at h; cases h
  | some e' =>
    rw [he] at h
    cases h
    exact gTg_ok (A.mono L1.toLo A1) r1 he fun σ' A' => q R1 σ' H1 L1 A'
theorem aug_ip {o : Bop} (h : augB o = true) : PIp X (bopO o) (fun x y H Q => ∃ i j d S, x = .int i ∧ y = .int j ∧ binD o (.int i) (.int j) [] = some (.int d, S) ∧ Q (.int d) H) := by
  intro pins s σ H x y v u Q I rx ry ⟨i, j, d, S, ex, ey, hb, q⟩
  cases o <;> first | (cases h; done) | skip
  · cases hb; exact iop_add pins s σ H x y v u Q I rx ry ⟨i, j, ex, ey, q⟩
  · cases hb; exact iop_sub pins s σ H x y v u Q I rx ry ⟨i, j, ex, ey, q⟩
  · simp only [binD] at hb
    split at hb
    · rename_i c; cases hb; exact iop_mul pins s σ H x y v u Q I rx ry ⟨i, j, ex, ey, c, q⟩
    · cases hb
  · simp only [binD] at hb
    split at hb
    · rename_i c; cases hb; exact iop_fdiv pins s σ H x y v u Q I rx ry ⟨i, j, ex, ey, c, q⟩
    · cases hb
  · simp only [binD] at hb
    split at hb
    · rename_i c; cases hb; exact iop_mod pins s σ H x y v u Q I rx ry ⟨i, j, ex, ey, c, q⟩
    · cases hb
  · cases hb; exact iop_and pins s σ H x y v u Q I rx ry ⟨i, j, ex, ey, q⟩
theorem bin_int {o : Bop} (h : augB o = true) {i j : Int} {S S' : Sto} {z : D} (e : binD o (.int i) (.int j) S = some (z, S')) : ∃ d, z = .int d ∧ S' = S ∧ binD o (.int i) (.int j) [] = some (.int d, []) := by
  cases o <;> first | (cases h; done) | skip
  · cases e; exact ⟨_, rfl, rfl, rfl⟩
  · cases e; exact ⟨_, rfl, rfl, rfl⟩
  · simp only [binD] at e ⊢
    split at e
    · rename_i c; cases e; exact ⟨_, rfl, rfl, by rw [if_pos c]⟩
    · cases e
  · simp only [binD] at e ⊢
    split at e
    · rename_i c; cases e; exact ⟨_, rfl, rfl, by rw [if_pos c]⟩
    · cases e
  · simp only [binD] at e ⊢
    split at e
    · rename_i c; cases e; exact ⟨_, rfl, rfl, by rw [if_pos c]⟩
    · cases e
  · cases e; exact ⟨_, rfl, rfl, rfl⟩
def augF (i : Nat) (o : Bop) (x : VF) (e : Ev) (S : Sto) : Option Out := match getv e i with
    | some v => bnd (x e S) fun y S => match v, y with
      | .int _, .int _ => bnd (binD o v y S) fun z S => some (.nx (setv e i (some z)) S)
      | _, _ => none
    | none => none
theorem aug_core {K : PySem.W.Frag} {v : VF} {i : Nat} {o : Bop} (ho : augB o = true) {D : Ends} {σ : L2.St} {H : Hp} (h : tDS K (augF i o v) D σ H) :
    tAug i (tD K v) (fun x y H Q => ∃ i j d S, x = .int i ∧ y = .int j ∧ binD o (.int i) (.int j) [] = some (.int d, S) ∧ Q (.int d) H) D σ H := by
  obtain ⟨R, e, S, r, A, h, q⟩ := h
  unfold augF at h
  split at h
  · rename_i d hd
    obtain ⟨y, S1, g1, h⟩ := bnd_eq h
    obtain ⟨w, hw, rw1⟩ := A.st i d hd
    refine ⟨w, hw, R, e, S, y, S1, A, g1, fun R1 H1 v L1 A1 r1 => ?_⟩
    cases d with
    | int a =>
      cases y with
      | int b =>
        replace h : (bnd (binD o (.int a) (.int b) S1) fun z S => some (Out.nx (setv e i (some z)) S)) = some r := h
        obtain ⟨z, S2, g2, h⟩ := bnd_eq h
        cases h
        obtain ⟨d, rfl, rfl, hb⟩ := bin_int ho g2
        cases rw1
        cases r1
        exact ⟨a, b, d, _, rfl, rfl, hb, q R1 _ H1 L1 ((A.mono L1.toLo A1).set rfl)⟩
      | _ => cases h
    | _ => cases h
  · cases h
theorem setI_core {K : PySem.W.Frag} {vo vi vx : VF} {D : Ends} {σ : L2.St} {H : Hp} (h : tDS K (fun e S => bnd (vx e S) fun y S => bnd (vo e S) fun ov S => bnd (vi e S) fun iv S => (setID ov iv y S).map (.nx e ·)) D σ H) :
    tAsg (tD K vx) (gSub (tD K vo) (tD K vi) rSetL) D σ H := by
  obtain ⟨R, e, S, r, A, h, q⟩ := h
  obtain ⟨y, S1, g1, h⟩ := bnd_eq h
  obtain ⟨o, S2, g2, h⟩ := bnd_eq h
  obtain ⟨i, S3, g3, h⟩ := bnd_eq h
  refine ⟨R, e, S, y, S1, A, g1, fun R1 H1 v L1 A1 r1 => ⟨R1, e, S1, o, S2, A.mono L1.toLo A1, g2, fun R2 H2 w L2 A2 r2 => ⟨R2, e, S2, i, S3, (A.mono L1.toLo A1).mono L2.toLo A2, g3, fun R3 H3 u L3 A3 r3 => ?_⟩⟩⟩
  cases hs : setID o i y S3 with
  | none => rw [hs] at h; cases h
  | some S4 =>
    rw [hs] at h
    cases h
    cases o with
    | ref n =>
      cases i with
      | int k =>
        simp only [setID] at hs
        split at hs
        · rename_i xs hx
          split at hs
          · rename_i j hj
            cases hs
            obtain ⟨a, vs, e0, hH, hr⟩ := A3.lst hx
            obtain rfl := rep_ref (r2.mono L3.toLo) e0
            cases r3
            have L := ((L1.trans L2).trans L3).trans (le_write (es := xs.set j y) (ws := vs.set j v) hx e0 hH)
            refine ⟨a, vs, k, j, rfl, rfl, hH, by rw [hr.length]; exact hj, ?_⟩
            exact q R3 σ _ L (A.mono L.toLo (A3.write hx e0 hH (hr.set ((r1.mono L2.toLo).mono L3.toLo) j)))
          · cases hs
        · cases hs
      | _ => cases hs
    | _ => cases hs
theorem par_core {K : PySem.W.Frag} {fa fb : VF} {i j : Nat} {D : Ends} {σ : L2.St} {H : Hp} (h : tDS K (fun e S => bnd (fa e S) fun x S => bnd (fb e S) fun y S => some (.nx (setv (setv e i (some x)) j (some y)) S)) D σ H) :
    tPar i j (tDA K fun e S => bnd (fa e S) fun x S => bnd ((fun e S => bnd (fb e S) fun x S => bnd (some (([] : List M.D), S)) fun xs S => some (x :: xs, S)) e S) fun xs S => some (x :: xs, S)) D σ H := by
  obtain ⟨R, e, S, r, A, h, q⟩ := h
  obtain ⟨x, S1, g1, h⟩ := bnd_eq h
  obtain ⟨y, S2, g2, h⟩ := bnd_eq h
  cases h
  refine ⟨R, e, S, [x, y], S2, A, ?_, fun R1 H1 vs L1 A1 r1 => ?_⟩
  · show bnd (fa e S) _ = _
    rw [g1]
    show bnd (bnd (fb e S1) _) _ = _
    rw [g2]
    rfl
  · obtain ⟨v, w, rfl, r1, v2, w2, rfl, r2, r3⟩ := r1
    cases r3
    exact ⟨v, v2, rfl, q R1 _ H1 L1 (((A.mono L1.toLo A1).set r1).set r2)⟩
theorem swp_of {i j : Nat} {ts vs : List Expr} (h : parB N sc i j ts vs = true) {env : Env} (he : env.scope = sc) (hk : sc.kind = .function) {k1 k2 : Nat} {p1 p2 : Pos} :
    ∃ x px y py a b, ts = [.Name x px, .Name y py] ∧ vs = [a, b] ∧ N[i]? = some x ∧ N[j]? = some y ∧ x ≠ y ∧ sc.names.lookup x = some .local ∧ sc.names.lookup y = some .local ∧
      swappedStores [.Tuple ts k1 p1] (.Tuple vs k2 p2) env = pure (some [x, y]) := by
  unfold parB at h
  split at h
  · rename_i x px y py a b
    simp only [Bool.and_eq_true, decide_eq_true_eq] at h
    obtain ⟨⟨⟨⟨⟨⟨⟨⟨⟨h1, h2⟩, h3⟩, h4⟩, h5⟩, h6⟩, h7⟩, h8⟩, h9⟩, h10⟩ := h
    unfold nameB at h1 h2
    simp only [Bool.and_eq_true] at h1 h2
    have hx : env.kindOf x = some .local := by show env.scope.names.lookup x = _; rw [he]; exact h3
    have hy : env.kindOf y = some .local := by show env.scope.names.lookup y = _; rw [he]; exact h4
    have nxy : x ≠ y := fun z => by rw [z] at h5; simp at h5
    refine ⟨x, px, y, py, a, b, rfl, rfl, eq_of_beq h1.1.1, eq_of_beq h2.1.1, nxy, h3, h4, ?_⟩
    have hb : env.blockKind = .function := by unfold Env.blockKind; rw [he, hk]; rfl
    have hl : px.line = py.line := eq_of_beq h6
    have h7' : ([a, b].all (foldedForSure 8)) = false := bnot h7
    have h8' : ([a, b].all (constantsAlone 8)) = false := bnot h8
    have e1 : (px.line == px.line) = true := beq_self_eq_true _
    have e2 : (py.line == px.line) = true := by rw [hl]; exact beq_self_eq_true _
    have e3 : (y == x) = false := beq_eq_false_iff_ne.mpr (Ne.symm nxy)
    have e4 : (x == y) = false := beq_eq_false_iff_ne.mpr nxy
    unfold swappedStores
    have e5 : (Expr.Name x px).pos.line = py.line := hl
    simp [hb, hx, hy, e5, List.filterMap_cons, h7', h8', List.eraseDups, List.eraseDupsBy, List.eraseDupsBy.loop, e3, hl]
    intro z
    exfalso
    rcases z with z | z
    · cases a <;> first | (cases z; done) | (cases h9; done)
    · cases b <;> first | (cases z; done) | (cases h10; done)
  · cases h

structure OkS (X : Cx) (T : List Fn) (sc : Scope) (st : Stm) : Prop where
  s : ∀ s, (cks N cn sc st).s s = true → PS X s (tDS X.K (exec T st))
  b : ∀ b, (cks N cn sc st).b b = true → PSs X b (tDS X.K (exec T st))
theorem OkS.st {st : Stm} {g : Stmt → Bool} (hc : cks N cn sc st = .st g) (h : ∀ s, g s = true → PS X s (tDS X.K (exec T st))) : OkS (N := N) (cn := cn) X T sc st :=
  ⟨fun s q => h s (by rw [hc] at q; exact q), fun b q => (by rw [hc] at q; cases q)⟩
theorem never_of (k : Kx X N cn T sc) : PassesOwn (model X.prog X.w) X.A X.env X.xe := by
  rw [k.xe]
  exact PassesOwn.never
theorem ok_stm (k : Kx X N cn T sc) (hsc : X.env.scope = sc) (hk : sc.kind = .function) : ∀ st : Stm, OkS (N := N) (cn := cn) X T sc st := by
  intro st
  induction st with
  | nil =>
    refine ⟨fun s h => (by cases h), fun b h => ?_⟩
    cases b with
    | cons a c => cases h
    | nil =>
      exact PSs.imp pss_nil fun D σ H ⟨R, e, S, o, A, h, q⟩ => by
        cases h
        exact q R σ H Le.refl A
  | cons a c iha ihc =>
    refine ⟨fun s h => (by cases h), fun b h => ?_⟩
    cases b with
    | nil => cases h
    | cons s r =>
      obtain ⟨h1, h2⟩ := and2 h
      exact PSs.imp (pss_cons (iha.s _ h1) (ihc.b _ h2)) fun D σ H q => seq_core q
  | pass =>
    refine OkS.st rfl fun s h => ?_
    cases s <;> first | (cases h; done) | skip
    exact PS.imp ps_pass fun D σ H ⟨R, e, S, o, A, h, q⟩ => by
        cases h
        exact q R σ H Le.refl A
  | brk =>
    refine OkS.st rfl fun s h => ?_
    cases s <;> first | (cases h; done) | skip
    exact PS.imp ps_break fun D σ H ⟨R, e, S, o, A, h, q⟩ => by
        cases h
        exact q R σ H Le.refl A
  | cnt =>
    refine OkS.st rfl fun s h => ?_
    cases s <;> first | (cases h; done) | skip
    exact PS.imp ps_continue fun D σ H ⟨R, e, S, o, A, h, q⟩ => by
        cases h
        exact q R σ H Le.refl A
  | retN =>
    refine OkS.st rfl fun s h => ?_
    cases s <;> first | (cases h; done) | skip
    rename_i v p
    cases v <;> first | (cases h; done) | skip
    exact PS.imp ps_retN fun D σ H ⟨R, e, S, o, A, h, q⟩ => by
        cases h
        exact q R H _ Le.refl A.h rfl
  | ret x =>
    refine OkS.st rfl fun s h => ?_
    cases s <;> first | (cases h; done) | skip
    rename_i v p
    cases v <;> first | (cases h; done) | skip
    exact PS.imp (ps_ret ((ok_all x X sc k).e _ h).1) fun D σ H ⟨R, e, S, o, A, h, q⟩ => by
        obtain ⟨d, S1, g1, h⟩ := bnd_eq h
        cases h
        exact ⟨R, e, S, d, _, A, g1, q⟩
  | expr x =>
    refine OkS.st rfl fun s h => ?_
    cases s <;> first | (cases h; done) | skip
    obtain ⟨h1, h2⟩ := and2 h
    exact PS.imp (ps_expr ((ok_all x X sc k).e _ h2).1 (sw_no h1 _ _ _)) fun D σ H ⟨R, e, S, o, A, h, q⟩ => by
        obtain ⟨d, S1, g1, h⟩ := bnd_eq h
        cases h
        exact ⟨R, e, S, d, _, A, g1, fun R1 H1 v L1 A1 r1 => q R1 σ H1 L1 (A.mono L1.toLo A1)⟩
  | set g x =>
    refine OkS.st rfl fun s h => ?_
    cases s <;> first | (cases h; done) | skip
    rename_i ts v pos
    match ts, h with
    | [t], h =>
      obtain ⟨h1, h2, h3⟩ := and3 h
      rw [Bool.or_eq_true] at h3
      have E := (ok_all x X sc k).e _ h2
      have G := tg_ok k h1
      rcases h3 with h3 | h3
      · -- name = [..]
        cases t <;> first | (cases h3; done) | skip
        rename_i y py
        obtain ⟨el, gs, csc, cp, rfl⟩ : ∃ el gs csc cp, v = .ListComp el gs csc cp := by
          cases v <;> first | (cases h3; done) | exact ⟨_, _, _, _, rfl⟩
        simp only [swB] at h3
        split at h3
        · rename_i hy
          obtain ⟨h4, h5⟩ := and2 h3
          cases g with
          | tp is => cases h1
          | nm i =>
            have h1' : (nameB N sc i y && locB sc y) = true := h1
            unfold nameB at h1'
            simp only [Bool.and_eq_true] at h1'
            have hi : X.N[i]? = some y := by rw [k.hN]; exact eq_of_beq h1'.1.1.1
            have hyl : X.env.scope.names.lookup y = some .local := by rw [hsc]; exact hy
            obtain ⟨l, rfl⟩ : ∃ l, x = .lst l := by
              cases x <;> first | (cases h2; done) | exact ⟨_, rfl⟩
            obtain ⟨own, tg, it, c, elt, rfl⟩ : ∃ own tg it c elt, l = .comp own tg it c elt := by
              cases l <;> first | (cases h2; done) | exact ⟨_, _, _, _, _, rfl⟩
            clear h
            match gs, h2, h5, h3, E with
            | [⟨t, i0, ifs, 0⟩], h2, h5, h3, E =>
              have h2' : ((ck N cn (.comp own tg it c elt)).l sc (.ListComp el [⟨t, i0, ifs, 0⟩] csc cp)) = true := h2
              obtain ⟨c1, c2, c3, c4, c5, c6⟩ := and6 h2'
              have P := ps_setLc (own := own.map fun i => (N.getD i "", i)) k.calm (by rw [k.hN]; exact k.nd) hi hyl (sw_true (l := pos.line) (by rw [hsc]; exact hk) hyl h4 (bnot h5)) ((ok_all it X sc k).i _ _ c4) (blk_of k c1)
                (fun s H C cl fp => tg_ok (k.blk csc s H C cl fp) c2) (fun s H C cl fp => (ok_all c _ _ (k.blk csc s H C cl fp)).c _ c5) (fun s H C cl fp => ((ok_all elt _ _ (k.blk csc s H C cl fp)).e _ c6).1) (foldI_of c4)
                (elt := el) (pos := cp) (spos := pos) (g := gTg X.K tg) (tt := tDT X.K (sem T c).t) (te := tD X.K (sem T elt).v)
              rw [own_map] at P
              refine PS.imp P fun D σ H q => ?_
              have q2 := set_core (g := .nm i) q
              -- the value as a new list
              obtain ⟨R, e, S, d, S', A, hh, qq⟩ := q2
              obtain ⟨ds, S1, g1, hh⟩ := bnd_eq hh
              cases hh
              refine comp_core c3 ⟨R, e, S, ds, S1, A, g1, fun R1 H1 p vs L1 A1 n1 f1 e1 r1 => ?_⟩
              exact qq _ H1 _ (L1.adopt A1 f1) (A1.reg e1 n1 r1) (rep_new A1)
        · cases h3
      · obtain ⟨h4, h5⟩ := and2 h3
        have hsw : swapsWithSole [t] v pos.line X.env = pure false := by
          rw [Bool.or_eq_true] at h4
          rcases h4 with h4 | h4
          · exact sw_no h4 _ _ _
          · exact sw_cell h4 hsc _
        have htt : isTupE t = true ∨ ∃ x p, t = .Name x p := by
          cases g with
          | nm i =>
            cases t <;> first | (cases h1; done) | skip
            exact .inr ⟨_, _, rfl⟩
          | tp is =>
            cases t <;> first | (cases h1; done) | skip
            exact .inl rfl
        have hst : (assignEach [t] X.env).map (·.2) = [assign t X.env] := by
          rcases htt with z | ⟨_, _, z⟩
          · cases t <;> first | (cases z; done) | rfl
          · subst z; rfl
        exact PS.imp (ps_asg E.1 G hsw (ss_no h5 htt) hst) fun D σ H q => set_core q
  | par i j a b =>
    refine OkS.st rfl fun s h => ?_
    cases s <;> first | (cases h; done) | skip
    rename_i ts v pos
    match ts, v, h with
    | [.Tuple ts k1 p1], .Tuple vs k2 p2, h =>
      obtain ⟨h1, h2⟩ := and2 h
      obtain ⟨x, px, y, py, ea, eb, rfl, rfl, n1, n2, nxy, l1, l2, hw⟩ := swp_of h1 hsc hk (k1 := k1) (k2 := k2) (p1 := p1) (p2 := p2)
      have hij : i ≠ j := fun z => by
        subst z
        rw [n1] at n2
        exact nxy (Option.some.inj n2)
      have P := (ok_all (.cons a (.cons b .nil)) X sc k).a _ h2
      exact PS.imp (ps_par k.calm (by rw [k.hN]; exact k.nd) (by rw [k.hN]; exact n1) (by rw [k.hN]; exact n2) hij (by rw [hsc]; exact l1) (by rw [hsc]; exact l2) P hw) fun D σ H q => par_core q
  | setI o i x =>
    refine OkS.st rfl fun s h => ?_
    cases s <;> first | (cases h; done) | skip
    rename_i ts v pos
    match ts, h with
    | [.Subscript ov iv p], h =>
      obtain ⟨h1, h2, h3⟩ := and3 h
      have hw : swappedStores [.Subscript ov iv p] v X.env = pure none := by cases v <;> rfl
      have ha : ∀ u, assign (.Subscript ov iv p) X.env u = (do
          let ov ← holding [u] (eval ov X.env)
          let iv ← holding [u, ov] (eval iv X.env)
          standAt p
          holding [u, ov, iv] (setItem ov iv u)
          release [u, ov, iv] []) := by
        intro u
        cases iv <;> first | rfl | (rw [no_slice] at h2; cases h2)
      exact PS.imp (ps_asg ((ok_all x X sc k).e _ h3).1 (pg_sub ((ok_all o X sc k).e _ h1).1 ((ok_all i X sc k).e _ h2).1 set_list ha) (show swapsWith v (some (.Subscript ov iv p)) pos.line X.env = pure false from sw_sub) hw (by rfl)) fun D σ H q => setI_core q
  | aug i o x =>
    refine OkS.st rfl fun s h => ?_
    cases s <;> first | (cases h; done) | skip
    rename_i t op v pos
    obtain ⟨h1, h2, h3, h4⟩ := and4 h
    obtain rfl := opB_eq h2
    cases t <;> first | (cases h1; done) | skip
    rename_i y p
    have h1' : (nameB N sc i y && locB sc y) = true := h1
    unfold nameB at h1'
    simp only [Bool.and_eq_true] at h1'
    obtain ⟨lc, hf⟩ := k.loc y h1'.2
    exact PS.imp (ps_aug (by rw [k.hN]; exact k.nd) (by rw [k.hN]; exact eq_of_beq h1'.1.1.1) lc ((ok_all x X sc k).e _ h4).1 (aug_ip h3) hf) fun D σ H q => aug_core h3 q
  | ite c a b iha ihb =>
    refine OkS.st rfl fun s h => ?_
    cases s <;> first | (cases h; done) | skip
    obtain ⟨h1, h2, h3⟩ := and3 h
    exact PS.imp (ps_if ((ok_all c X sc k).e _ h1).2 (iha.b _ h2) (ihb.b _ h3)) fun D σ H ⟨R, e, S, o, A, h, q⟩ => by
      obtain ⟨b, S1, g1, h⟩ := bnd_eq h
      refine ⟨R, e, S, b, S1, A, g1, fun R1 H1 L1 A1 => ?_⟩
      cases b with
      | true => exact iteT ⟨R1, e, S1, o, A.mono L1.toLo A1, h, q.mono L1⟩
      | false => exact iteF ⟨R1, e, S1, o, A.mono L1.toLo A1, h, q.mono L1⟩
  | whl c b ih =>
    refine OkS.st rfl fun s h => ?_
    cases s <;> first | (cases h; done) | skip
    rename_i t x els pos
    cases els <;> first | (cases h; done) | skip
    obtain ⟨h1, h2⟩ := and2 h
    exact PS.imp (ps_while (never_of k) ((ok_all c X sc k).e _ h1).2 (ih.b _ h2)) fun D σ H q => while_core q
  | for_ g it b ih =>
    refine OkS.st rfl fun s h => ?_
    cases s <;> first | (cases h; done) | skip
    rename_i t i x els pos
    cases els <;> first | (cases h; done) | skip
    obtain ⟨h1, h2, h3⟩ := and3 h
    exact PS.imp (ps_for (never_of k) k.calm ((ok_all it X sc k).i _ _ h2) (tg_ok k h1) (ih.b _ h3) (foldI_of h2)) fun D σ H q => for_core q
end
/-! ### defs -/
section
variable {P : Program} {w : World} {K : PySem.W.Frag} {mg : Str → Option Value} {base : Heap}
/-- what the callees of a def promise -/
def Tab (P : Program) (w : World) (K : PySem.W.Frag) (mg : Str → Option Value) (base : Heap) (k : Nat) (cn : List Str) (T : List Fn) : Prop :=
  ∀ (j : Nat) (x : Str) (F : Fn), cn[j]? = some x → T[j]? = some F → ∃ f fd ps, mg x = some (.ref f) ∧ PySem.W.keepIn K (.ref f) = true ∧ Binds K fd ps [] ∧ FnOk P w K mg base CX0 k f fd ps (spD K F)
theorem Rep.noRef_mono {R R' : List Addr} {H H' : Hp} (t : ∀ a xs, SqT K H a xs → SqT K H' a xs) : True := trivial
mutual
theorem rep_noRef {R R' : List Addr} {H : Hp} : ∀ {d : D} {v : V}, noRef d = true → Rep K R H v d → Rep K R' H v d
  | .non, _, _, h => h
  | .bl _, _, _, h => h
  | .int _, _, _, h => h
  | .str _, _, _, h => h
  | .tup ds, _, n, ⟨a, vs, e, hs, hr⟩ => ⟨a, vs, e, hs, reps_noRef (show noRefs ds = true from n) hr⟩
  | .ref _, _, n, _ => by cases n
theorem reps_noRef {R R' : List Addr} {H : Hp} : ∀ {ds : List D} {vs : List V}, noRefs ds = true → Reps K R H vs ds → Reps K R' H vs ds
  | [], _, _, h => h
  | d :: ds, _, n, ⟨v, r, e, h1, h2⟩ => by
    have n' : (noRef d && noRefs ds) = true := n
    rw [Bool.and_eq_true] at n'
    exact ⟨v, r, e, rep_noRef n'.1 h1, reps_noRef n'.2 h2⟩
end
mutual
/-- what was said with fewer numbers -/
theorem rep_back {R t : List Addr} {H H' : Hp} : ∀ {d : D} {v v' : V}, Rep K R H v d → Rep K (R ++ t) H' v' d → Rep K R H' v' d
  | .non, _, _, _, h => h
  | .bl _, _, _, _, h => h
  | .int _, _, _, _, h => h
  | .str _, _, _, _, h => h
  | .tup ds, _, _, ⟨_, _, _, _, hr⟩, ⟨a, vs, e, hs, hr'⟩ => ⟨a, vs, e, hs, reps_back hr hr'⟩
  | .ref n, _, _, ⟨a, e1, _⟩, ⟨b, e2, e3⟩ => ⟨b, by rw [List.getElem?_append_left (List.getElem?_eq_some_iff.mp e1).1] at e2; exact e2, e3⟩
theorem reps_back {R t : List Addr} {H H' : Hp} : ∀ {ds : List D} {vs vs' : List V}, Reps K R H vs ds → Reps K (R ++ t) H' vs' ds → Reps K R H' vs' ds
  | [], _, _, _, h => h
  | _ :: _, _, _, ⟨_, _, _, h1, h2⟩, ⟨v, r, e, g1, g2⟩ => ⟨v, r, e, rep_back h1 g1, reps_back h2 g2⟩
end
theorem repO_back {R t : List Addr} {H H' : Hp} {a b : Addr} {o : Ob} (h : RepO K R H a o) (g : RepO K (R ++ t) H' b o) : RepO K R H' b o := by
  cases o with
  | lst ds =>
    obtain ⟨vs, _, h2⟩ := h
    obtain ⟨ws, g1, g2⟩ := g
    exact ⟨ws, g1, reps_back h2 g2⟩
  | rdl ds =>
    obtain ⟨vs, _, h2⟩ := h
    obtain ⟨ws, g1, g2⟩ := g
    exact ⟨ws, g1, reps_back h2 g2⟩
/-- forgetting the new objects -/
theorem gc_ok {R R' : List Addr} {H H' : Hp} {S S' : Sto} {d : D} {v : V} (A : AbsH K R H S) (L : Le K R H S R' H' S') (A' : AbsH K R' H' S') (r : Rep K R' H' v d) (Q : VK)
    (q : ∀ R' H' v, Le K R H S R' H' (gcD S d S').2 → AbsH K R' H' (gcD S d S').2 → Rep K R' H' v (gcD S d S').1 → Q v H') : Q v H' := by
  unfold gcD at q
  by_cases c : S'.take S.length = S ∧ noRef d = true
  · simp only [if_pos c] at q
    obtain ⟨t, rfl⟩ := L.ext
    have hS : ∀ (n : Nat), n < S.length → S'[n]? = S[n]? := fun n hn => by
      have : (S'.take S.length)[n]? = S[n]? := by rw [c.1]
      rw [List.getElem?_take_of_lt hn] at this
      exact this
    have tA : AbsH K R H' S := by
      refine ⟨A.len, A.nd, fun n o s => ?_⟩
      have hn := (List.getElem?_eq_some_iff.mp s).1
      obtain ⟨a, e, h1⟩ := A.ob n o s
      obtain ⟨b, e2, h2⟩ := A'.ob n o (by rw [hS n hn]; exact s)
      rw [List.getElem?_append_left (by rw [A.len]; exact hn)] at e2
      exact ⟨b, e2, repO_back h1 h2⟩
    exact q R H' v ⟨⟨List.prefix_refl _, L.tst⟩, L.fr, fun a h n => absurd h n, fun n xs h => ⟨xs, h⟩⟩ tA (rep_noRef c.2 r)
  · simp only [if_neg c] at q
    exact q R' H' v L A' r
theorem start_abs {R : List Addr} {H : Hp} {S : Sto} {N : List Str} {vs : List V} {ds : List D} (A : AbsH K R H S) (r : Reps K R H vs ds) : Abs K R (L2.start N vs) H (ds.map some ++ List.replicate (N.length - ds.length) none) S := by
  have hl := r.length
  refine ⟨A, by unfold L2.start; simp [hl], fun i d h => ?_⟩
  have gv : ∀ {e : Ev} {i : Nat} {d : D}, getv e i = some d → e[i]? = some (some d) := fun {e} => by
    induction e with
    | nil => intro i d h; cases h
    | cons x r ih =>
      intro i d h
      cases i with
      | zero => exact congrArg some h
      | succ i => exact ih h
  have h2 := gv h
  by_cases hi : i < ds.length
  · rw [List.getElem?_append_left (by rw [List.length_map]; exact hi), List.getElem?_map] at h2
    cases e : ds[i]? with
    | none => rw [e] at h2; cases h2
    | some d' =>
      rw [e] at h2
      cases h2
      obtain ⟨v, e1, r1⟩ := r.get e
      refine ⟨v, ?_, r1⟩
      unfold L2.start
      rw [List.getElem?_append_left (by rw [List.length_map, hl]; exact hi), List.getElem?_map, e1]
      rfl
  · rw [List.getElem?_append_right (by rw [List.length_map]; omega), List.getElem?_replicate] at h2
    split at h2 <;> cases h2
/-- THE RULE for a def -/
theorem def_ok {x qual : Str} {st : Stmt} {f : Addr} {fd : FuncData} {N ps cn : List Str} {T : List Fn} {k : Nat} {b : Stm} (F : Fun K x qual st f fd) (S : FnScope N ps (defScope st)) (hc : (cks N cn (defScope st) b).b (defBody st) = true)
    (hps : ps.length ≤ N.length) (bi : ∀ x ∈ biAll, mg x = none) (tab : Tab P w K mg base k cn T) : FnOk P w K mg base CX0 (k + 1) f fd ps (spD K (fnD T N.length ps.length b)) := by
  have lens : ∀ ds S r, fnD T N.length ps.length b ds S = some r → ds.length = ps.length := fun ds S r h => by
    unfold fnD at h
    split at h
    · assumption
    · cases h
  refine F.ok S (fun vs H Q E h => ?_) (fun cdv A outer s H vs Q E hr h => ?_)
  · obtain ⟨R, S, ds, d, S', A, r, h, _⟩ := h
    rw [r.length]
    exact lens _ _ _ h
  · obtain ⟨R, S0, ds, d, S', Ab, r, h, q⟩ := h
    have kx : Kx (cxOf CX0 P w K mg base N qual (defScope st) f cdv A outer s H E).nox N cn T (defScope st) := by
      have hu : (A.deeper (envOfC qual (defScope st) s.heap.objs.size f cdv)).units + 65 < cLine := by
        have := hr.un
        omega
      refine ⟨rfl, S.nd, rfl, rfl, hu, fun x h => ?_, fun x h => ?_, fun x h => ?_, fun x h => h, bi, fun j x F h1 h2 => ?_⟩
      · unfold visB at h
        split at h
        · rename_i e; exact .inl e
        · rename_i e; exact .inr (.inl e)
        · rename_i e; exact .inr (.inr e)
        · cases h
      · unfold locB at h
        split at h
        · rename_i e; exact ⟨.inl e, .inl rfl⟩
        · rename_i e; exact ⟨.inr e, .inl rfl⟩
        · cases h
      · unfold glB at h
        split at h
        · rename_i e; exact e
        · cases h
      · obtain ⟨f', fd', ps', h3, h4, h5, h6⟩ := tab j x F h1 h2
        exact ⟨k, f', fd', ps', h3, h4, h5, h6, hr⟩
    refine ⟨_, (ok_stm kx rfl S.kind b).b _ hc, ?_⟩
    have hl := lens _ _ _ h
    unfold fnD at h
    rw [if_pos hl] at h
    rw [← hl] at h
    unfold endO at h
    split at h
    · rename_i d' S1 hx
      have e := Option.some.inj h
      exact ⟨R, _, S0, _, start_abs Ab r, hx, fun R' H' v L A' r' => gc_ok Ab L A' r' Q (by rw [e]; exact q)⟩
    · rename_i e' S1 hx
      have e := Option.some.inj h
      exact ⟨R, _, S0, _, start_abs Ab r, hx, fun R' σ' H' L A' => gc_ok Ab L A'.h (d := .non) (v := .non) rfl Q (by rw [e]; exact q)⟩
    · cases h
end
end M

/-! P1: reckoning with the meaning: the simp set, words and lassos. -/
namespace M
open PySem (Str PyData)
open L2 (atI ixN)
/-! ### small facts -/
theorem gc_same (S : Sto) (d : D) : gcD S d S = (d, S) := by
  unfold gcD
  split <;> rfl
theorem gc_app (S : Sto) (d : D) (g : Sto) (h : noRef d = true) : gcD S d (S ++ g) = (d, S) := by
  unfold gcD
  rw [if_pos]
  exact ⟨List.take_left, h⟩
abbrev iD (w : List Int) : List D := w.map D.int
abbrev W (w : List Int) : D := .tup (iD w)
abbrev Ls := List Int × List Int
abbrev La (l : Ls) : D := .tup [W l.1, W l.2]
theorem sIx_pos {n d : Nat} {c : Int} (h : 0 ≤ c) : HT.sIx n d (some c) = min c.toNat n := by
  show (if c < 0 then (c + (n : Int)).toNat else min c.toNat n) = _
  rw [if_neg (by omega)]
theorem sIx_neg {n d : Nat} {c : Int} (h : c < 0) : HT.sIx n d (some c) = (c + n).toNat := by
  show (if c < 0 then (c + (n : Int)).toNat else min c.toNat n) = _
  rw [if_pos h]
theorem cut_from (xs : List D) {c : Int} (h : 0 ≤ c) : cut xs (some c) none = xs.drop c.toNat := by
  unfold cut
  rw [sIx_pos h, HT.sIx_none]
  by_cases hc : c.toNat ≤ xs.length
  · rw [Nat.min_eq_left hc, List.take_of_length_le (by rw [List.length_drop]; omega)]
  · rw [Nat.min_eq_right (by omega), Nat.sub_self, List.take_zero, List.drop_eq_nil_of_le (by omega)]
theorem cut_to (xs : List D) {c : Int} (h : 0 ≤ c) : cut xs none (some c) = xs.take c.toNat := by
  unfold cut
  rw [sIx_pos h, HT.sIx_none, List.drop_zero, Nat.sub_zero]
  by_cases hc : c.toNat ≤ xs.length
  · rw [Nat.min_eq_left hc]
  · rw [Nat.min_eq_right (by omega), List.take_length, List.take_of_length_le (by omega)]
theorem cut_all (xs : List D) : cut xs none none = xs := by
  unfold cut
  rw [HT.sIx_none, HT.sIx_none]
  simp
theorem cut_last (xs : List D) : cut xs (some (-1)) none = xs.drop (xs.length - 1) := by
  unfold cut
  rw [sIx_neg (by decide), HT.sIx_none]
  have e : ((-1 : Int) + xs.length).toNat = xs.length - 1 := by omega
  rw [e, List.take_of_length_le (by rw [List.length_drop]; omega)]
theorem cut_but (xs : List D) : cut xs none (some (-1)) = xs.take (xs.length - 1) := by
  unfold cut
  rw [sIx_neg (by decide), HT.sIx_none]
  have e : ((-1 : Int) + xs.length).toNat = xs.length - 1 := by omega
  rw [e, List.drop_zero, Nat.sub_zero]
theorem at_pos {α : Type} {xs : List α} {i : Int} (h : 0 ≤ i) : atI xs i = xs[i.toNat]? := by
  unfold atI ixN
  rw [if_pos h]
  by_cases c : i < xs.length
  · rw [if_pos c]; rfl
  · rw [if_neg c, List.getElem?_eq_none (by omega)]; rfl
theorem at_neg1 {α : Type} {xs : List α} : atI xs (-1) = xs[xs.length - 1]? := by
  unfold atI ixN
  rw [if_neg (by decide)]
  by_cases c : -(xs.length : Int) ≤ -1
  · rw [if_pos c]
    show xs[((-1 : Int) + xs.length).toNat]? = _
    have e : ((-1 : Int) + xs.length).toNat = xs.length - 1 := by omega
    rw [e]
  · rw [if_neg c]
    have e : xs.length = 0 := by omega
    cases xs with
    | nil => rfl
    | cons a b => cases e
/-! ### one rule a step -/
section
variable {T : List Fn} {e : Ev} {S : Sto}
theorem seq_nx {k : Ev → Sto → Option Out} : seqO (some (.nx e S)) k = k e S := (rfl)
theorem seq_ret {k : Ev → Sto → Option Out} {d : D} : seqO (some (.ret d S)) k = some (.ret d S) := (rfl)
theorem seq_brk {k : Ev → Sto → Option Out} : seqO (some (.brk e S)) k = some (.brk e S) := (rfl)
theorem seq_cnt {k : Ev → Sto → Option Out} : seqO (some (.cnt e S)) k = some (.cnt e S) := (rfl)
theorem seq_none {k : Ev → Sto → Option Out} : seqO none k = none := (rfl)
theorem seq_bnd {α : Type} {m : Option (α × Sto)} {f : α → Sto → Option Out} {k : Ev → Sto → Option Out} : seqO (bnd m f) k = bnd m fun a S => seqO (f a S) k := by
  cases m <;> rfl
theorem seq_if {c : Prop} [Decidable c] {a b : Option Out} {k : Ev → Sto → Option Out} : seqO (if c then a else b) k = if c then seqO a k else seqO b k := by
  split <;> rfl
theorem x_nil : exec T .nil e S = some (.nx e S) := (rfl)
theorem x_cons {a b : Stm} : exec T (.cons a b) e S = seqO (exec T a e S) (exec T b) := (rfl)
theorem x_set {i : Nat} {x : E} : exec T (.set (.nm i) x) e S = bnd ((sem T x).v e S) fun d S => some (.nx (setv e i (some d)) S) := (rfl)
theorem x_setp {is : List Nat} {x : E} : exec T (.set (.tp is) x) e S = bnd ((sem T x).v e S) fun d S => (asg (.tp is) d e).map (.nx · S) := (rfl)
theorem x_ret {x : E} : exec T (.ret x) e S = bnd ((sem T x).v e S) fun d S => some (.ret d S) := (rfl)
theorem x_par {i j : Nat} {x y : E} : exec T (.par i j x y) e S = bnd ((sem T x).v e S) fun d S => bnd ((sem T y).v e S) fun d' S => some (.nx (setv (setv e i (some d)) j (some d')) S) := (rfl)
theorem x_expr {x : E} : exec T (.expr x) e S = bnd ((sem T x).v e S) fun _ S => some (.nx e S) := (rfl)
theorem x_setI {o i x : E} : exec T (.setI o i x) e S = bnd ((sem T x).v e S) fun y S => bnd ((sem T o).v e S) fun ov S => bnd ((sem T i).v e S) fun iv S => (setID ov iv y S).map (.nx e ·) := (rfl)
theorem x_aug {i : Nat} {o : Bop} {x : E} : exec T (.aug i o x) e S = match getv e i with
    | some v => bnd ((sem T x).v e S) fun y S => match v, y with
      | .int _, .int _ => bnd (binD o v y S) fun z S => some (.nx (setv e i (some z)) S)
      | _, _ => none
    | none => none := (rfl)
theorem x_ite {c : E} {a b : Stm} : exec T (.ite c a b) e S = bnd ((sem T c).t e S) fun k S => if k = true then exec T a e S else exec T b e S := (rfl)
theorem x_for {g : Tg} {it : E} {c : Stm} : exec T (.for_ g it c) e S = bnd ((sem T it).i e S) fun q S => forD (bodyF g (exec T c)) (fun S => okS S q.src) q.ds e S := (rfl)
theorem x_whl {c : E} {d : Stm} : exec T (.whl c d) e S = wh (sem T c).t (exec T d) e S := (rfl)
theorem x_brk : exec T .brk e S = some (.brk e S) := (rfl)
theorem x_cnt : exec T .cnt e S = some (.cnt e S) := (rfl)
theorem x_pass : exec T .pass e S = some (.nx e S) := (rfl)
theorem x_retN : exec T .retN e S = some (.ret .non S) := (rfl)

theorem v_var {i : Nat} : (sem T (.var i)).v e S = (getv e i).map (·, S) := (rfl)
theorem v_int {i : Int} : (sem T (.int i)).v e S = some (.int i, S) := (rfl)
theorem v_bl {i : Bool} : (sem T (.bl i)).v e S = some (.bl i, S) := (rfl)
theorem v_non : (sem T .non).v e S = some (.non, S) := (rfl)
theorem v_str {i : Str} : (sem T (.str i)).v e S = some (.str i, S) := (rfl)
theorem v_bin {o : Bop} {a b : E} : (sem T (.bin o a b)).v e S = bnd ((sem T a).v e S) fun x S => bnd ((sem T b).v e S) fun y S => binD o x y S := (rfl)
theorem v_neg {i : Int} : (sem T (.neg (.int i))).v e S = some (.int (-i), S) := (rfl)
theorem v_cmp {o : Cop} {a b : E} : (sem T (.cmp o a b)).v e S = bnd ((sem T a).v e S) fun x S => bnd ((sem T b).v e S) fun y S => (cmpD o x y S).map fun k => (.bl k, S) := (rfl)
theorem v_chn {o p : Cop} {a b c : E} : (sem T (.chn o p a b c)).v e S = bnd ((sem T a).v e S) fun x S => bnd ((sem T b).v e S) fun y S => match cmpD o x y S with
    | some true => bnd ((sem T c).v e S) fun z S => (cmpD p y z S).map fun k => (.bl k, S)
    | some false => some (.bl false, S)
    | none => none := (rfl)
theorem v_boo {k : Bool} {as : E} : (sem T (.boo k as)).v e S = (sem T as).vb k e S := (rfl)
theorem v_not {a : E} : (sem T (.not a)).v e S = bnd ((sem T a).v e S) fun x S => match x with | .bl k => some (.bl (!k), S) | _ => none := (rfl)
theorem v_ite {c a b : E} : (sem T (.ite c a b)).v e S = bnd ((sem T c).t e S) fun k S => if k = true then (sem T a).v e S else (sem T b).v e S := (rfl)
theorem v_tup {as : E} : (sem T (.tup as)).v e S = bnd ((sem T as).a e S) fun ds S => if ds.length ≤ LIM then some (.tup ds, S) else none := (rfl)
theorem v_tup0 : (sem T (.tup .nil)).v e S = some (.tup [], S) := (rfl)
theorem v_tup1 {a : E} : (sem T (.tup (.cons a .nil))).v e S = bnd ((sem T a).v e S) fun x S => some (.tup [x], S) := by
  rw [v_tup]
  show bnd (bnd ((sem T a).v e S) fun x S => some ([x], S)) _ = _
  cases (sem T a).v e S <;> rfl
theorem v_tup2 {a b : E} : (sem T (.tup (.cons a (.cons b .nil)))).v e S = bnd ((sem T a).v e S) fun x S => bnd ((sem T b).v e S) fun y S => some (.tup [x, y], S) := by
  rw [v_tup]
  show bnd (bnd ((sem T a).v e S) fun x S => bnd (bnd ((sem T b).v e S) fun x S => some ([x], S)) fun xs S => some (x :: xs, S)) _ = _
  cases (sem T a).v e S with
  | none => rfl
  | some p =>
    obtain ⟨x, S1⟩ := p
    show bnd (bnd (bnd ((sem T b).v e S1) fun x S => some ([x], S)) fun xs S => some (x :: xs, S)) _ = bnd ((sem T b).v e S1) fun y S => some (D.tup [x, y], S)
    cases (sem T b).v e S1 <;> rfl
theorem v_idx {a b : E} : (sem T (.idx a b)).v e S = bnd ((sem T a).v e S) fun x S => bnd ((sem T b).v e S) fun y S => idxD x y S := (rfl)
theorem v_slc {a lo hi : E} : (sem T (.slc a lo hi)).v e S = bnd ((sem T a).v e S) fun x S => bnd ((sem T lo).o e S) fun l S => bnd ((sem T hi).o e S) fun h S => slcD x l h S := (rfl)
theorem v_call {j : Nat} {as : E} : (sem T (.call j as)).v e S = bnd ((sem T as).a e S) fun ds S => match T[j]? with
    | some F => F ds S
    | none => none := (rfl)
theorem v_bi {b : Bi} {as : E} : (sem T (.bi b as)).v e S = bnd ((sem T as).a e S) fun ds S => biD b ds S := (rfl)
theorem v_isi {a : E} {t : Ty} : (sem T (.isi a t)).v e S = bnd ((sem T a).v e S) fun x S => (isiD t x S).map fun k => (.bl k, S) := (rfl)
theorem v_lst {l : E} : (sem T (.lst l)).v e S = bnd ((sem T l).a e S) fun ds S => some (.ref S.length, S ++ [.lst ds]) := (rfl)
theorem v_tupL {l : E} : (sem T (.tupL l)).v e S = bnd ((sem T l).a e S) fun ds S => some (.tup ds, S) := (rfl)
theorem v_nilL {neg : Bool} {l : E} : (sem T (.nilL neg l)).v e S = bnd ((sem T l).a e S) (nilD neg) := (rfl)
theorem v_app {o a : E} : (sem T (.app o a)).v e S = bnd ((sem T o).v e S) fun x S => bnd ((sem T a).v e S) fun y S => appD x y S := (rfl)
theorem v_ext {o l : E} : (sem T (.extL o l)).v e S = bnd ((sem T o).v e S) fun x S => bnd ((sem T l).a e S) fun ys S => extD x ys S := (rfl)
theorem a_nil : (sem T .nil).a e S = some ([], S) := (rfl)
theorem a_cons {a as : E} : (sem T (.cons a as)).a e S = bnd ((sem T a).v e S) fun x S => bnd ((sem T as).a e S) fun xs S => some (x :: xs, S) := (rfl)
theorem a_disp {as : E} : (sem T (.disp as)).a e S = bnd ((sem T as).a e S) fun ds S => if ds.length ≤ LIM then some (ds, S) else none := (rfl)
theorem a_disp1 {a : E} : (sem T (.disp (.cons a .nil))).a e S = bnd ((sem T a).v e S) fun x S => some ([x], S) := by
  rw [a_disp, a_cons]
  cases (sem T a).v e S <;> rfl
theorem a_disp2 {a b : E} : (sem T (.disp (.cons a (.cons b .nil)))).a e S = bnd ((sem T a).v e S) fun x S => bnd ((sem T b).v e S) fun y S => some ([x, y], S) := by
  rw [a_disp, a_cons]
  cases (sem T a).v e S with
  | none => rfl
  | some p =>
    obtain ⟨x, S1⟩ := p
    show bnd (bnd ((sem T (.cons b .nil)).a e S1) fun xs S => some (x :: xs, S)) _ = bnd ((sem T b).v e S1) fun y S => some ([x, y], S)
    rw [a_cons]
    cases (sem T b).v e S1 <;> rfl
theorem a_disp3 {a b c : E} : (sem T (.disp (.cons a (.cons b (.cons c .nil))))).a e S = bnd ((sem T a).v e S) fun x S => bnd ((sem T b).v e S) fun y S => bnd ((sem T c).v e S) fun z S => some ([x, y, z], S) := by
  rw [a_disp, a_cons]
  cases (sem T a).v e S with
  | none => rfl
  | some p =>
    obtain ⟨x, S1⟩ := p
    show bnd (bnd ((sem T (.cons b (.cons c .nil))).a e S1) fun xs S => some (x :: xs, S)) _ = bnd ((sem T b).v e S1) fun y S => bnd ((sem T c).v e S) fun z S => some ([x, y, z], S)
    rw [a_cons]
    cases (sem T b).v e S1 with
    | none => rfl
    | some p =>
      obtain ⟨y, S2⟩ := p
      show bnd (bnd (bnd ((sem T (.cons c .nil)).a e S2) fun xs S => some (y :: xs, S)) fun xs S => some (x :: xs, S)) _ = bnd ((sem T c).v e S2) fun z S => some ([x, y, z], S)
      rw [a_cons]
      cases (sem T c).v e S2 <;> rfl
theorem a_comp {own : List Nat} {tg : Tg} {it c elt : E} : (sem T (.comp own tg it c elt)).a e S = bnd ((sem T it).i e S) fun q S => compD (turnF own tg (sem T c).t (sem T elt).v e) (fun S => okS S q.src) q.ds [] S := (rfl)
theorem o_nil : (sem T .nil).o e S = some (none, S) := (rfl)
theorem o_var {i : Nat} : (sem T (.var i)).o e S = bnd ((getv e i).map (·, S)) fun x S => match x with | .int i => some (some i, S) | _ => none := (rfl)
theorem o_int {i : Int} : (sem T (.int i)).o e S = some (some i, S) := (rfl)
theorem o_neg {i : Int} : (sem T (.neg (.int i))).o e S = some (some (-i), S) := (rfl)
theorem o_bin {o : Bop} {a b : E} : (sem T (.bin o a b)).o e S = bnd ((sem T (.bin o a b)).v e S) fun x S => match x with | .int i => some (some i, S) | _ => none := (rfl)
theorem o_bi {b : Bi} {as : E} : (sem T (.bi b as)).o e S = bnd ((sem T (.bi b as)).v e S) fun x S => match x with | .int i => some (some i, S) | _ => none := (rfl)
theorem vb_one {k : Bool} {a : E} : (sem T (.cons a .nil)).vb k e S = (sem T a).v e S := (rfl)
theorem vb_more {k : Bool} {a b c : E} : (sem T (.cons a (.cons b c))).vb k e S = bnd ((sem T a).v e S) fun x S => match x with | .bl d => if d = k then (sem T (.cons b c)).vb k e S else some (.bl d, S) | _ => none := (rfl)
theorem tb_one {k : Bool} {a : E} : (sem T (.cons a .nil)).tb k e S = (sem T a).t e S := (rfl)
theorem tb_more {k : Bool} {a b c : E} : (sem T (.cons a (.cons b c))).tb k e S = bnd ((sem T a).t e S) fun d S => if d = k then (sem T (.cons b c)).tb k e S else some (d, S) := (rfl)
theorem t_nil : (sem T .nil).t e S = some (true, S) := (rfl)
theorem t_boo {k : Bool} {as : E} : (sem T (.boo k as)).t e S = (sem T as).tb k e S := (rfl)
theorem t_not {a : E} : (sem T (.not a)).t e S = bnd ((sem T a).t e S) fun k S => some (!k, S) := (rfl)
theorem t_cmp {o : Cop} {a b : E} : (sem T (.cmp o a b)).t e S = bnd ((sem T a).v e S) fun x S => bnd ((sem T b).v e S) fun y S => (cmpD o x y S).map (·, S) := by
  show bnd (bnd ((sem T a).v e S) fun x S => bnd ((sem T b).v e S) fun y S => (cmpD o x y S).map fun k => (D.bl k, S)) _ = _
  cases (sem T a).v e S with
  | none => rfl
  | some p =>
    obtain ⟨x, S1⟩ := p
    show bnd (bnd ((sem T b).v e S1) fun y S => (cmpD o x y S).map fun k => (D.bl k, S)) _ = bnd ((sem T b).v e S1) fun y S => (cmpD o x y S).map (·, S)
    cases (sem T b).v e S1 with
    | none => rfl
    | some q =>
      obtain ⟨y, S2⟩ := q
      show bnd ((cmpD o x y S2).map fun k => (D.bl k, S2)) _ = (cmpD o x y S2).map (·, S2)
      cases cmpD o x y S2 <;> rfl
theorem t_of {x : E} {v : Ev → Sto → Option (D × Sto)} (h : sem T x = .val v) : (sem T x).t e S = bnd ((sem T x).v e S) fun x S => (truD S x).map (·, S) := by
  rw [h]
  rfl
theorem t_chn {o p : Cop} {a b c : E} : (sem T (.chn o p a b c)).t e S = bnd ((sem T (.chn o p a b c)).v e S) fun x S => (truD S x).map (·, S) := (rfl)
theorem t_call {j : Nat} {as : E} : (sem T (.call j as)).t e S = bnd ((sem T (.call j as)).v e S) fun x S => (truD S x).map (·, S) := (rfl)
theorem t_isi {a : E} {t : Ty} : (sem T (.isi a t)).t e S = bnd ((sem T (.isi a t)).v e S) fun x S => (truD S x).map (·, S) := (rfl)
theorem t_nilL {neg : Bool} {l : E} : (sem T (.nilL neg l)).t e S = bnd ((sem T (.nilL neg l)).v e S) fun x S => (truD S x).map (·, S) := (rfl)
theorem t_var {i : Nat} : (sem T (.var i)).t e S = bnd ((getv e i).map (·, S)) fun x S => (truD S x).map (·, S) := (rfl)
theorem i_seq {a : E} : (sem T (.seq a)).i e S = bnd ((sem T a).v e S) seqD := (rfl)
theorem i_rng1 {a : E} : (sem T (.rng1 a)).i e S = bnd ((sem T a).v e S) fun y S => rngD (.int 0) y S := (rfl)
theorem i_rng2 {a b : E} : (sem T (.rng2 a b)).i e S = bnd ((sem T a).v e S) fun x S => bnd ((sem T b).v e S) fun y S => rngD x y S := (rfl)
theorem i_enm {a : E} : (sem T (.enm a)).i e S = bnd ((sem T a).v e S) enmD := (rfl)

theorem b_add {i j : Int} : binD .add (.int i) (.int j) S = some (.int (i + j), S) := (rfl)
theorem b_sub {i j : Int} : binD .sub (.int i) (.int j) S = some (.int (i - j), S) := (rfl)
theorem b_mul {i j : Int} : binD .mul (.int i) (.int j) S = if small i ∨ small j then some (.int (i * j), S) else none := (rfl)
theorem b_fdiv {i j : Int} : binD .fdiv (.int i) (.int j) S = if 0 < j ∧ j < 1073741824 then some (.int (i / j), S) else none := (rfl)
theorem b_mod {i j : Int} : binD .mod (.int i) (.int j) S = if 0 < j then some (.int (i % j), S) else none := (rfl)
theorem b_pow {i j : Int} : binD .pow (.int i) (.int j) S = if 0 ≤ j ∧ j ≤ 1000000 ∧ i.natAbs < 2 ^ 64 then some (.int (i ^ j.toNat), S) else none := (rfl)
theorem b_cat {a b : List D} : binD .add (.tup a) (.tup b) S = if a.length + b.length ≤ LIM then some (.tup (a ++ b), S) else none := (rfl)
theorem b_rep {a : List D} {k : Int} : binD .mul (.tup a) (.int k) S = if repOk a.length k then some (.tup (List.replicate k.toNat a).flatten, S) else none := (rfl)
theorem c_lt {i j : Int} : cmpD .lt (.int i) (.int j) S = some (decide (i < j)) := (rfl)
theorem c_le {i j : Int} : cmpD .le (.int i) (.int j) S = some (decide (i ≤ j)) := (rfl)
theorem c_gt {i j : Int} : cmpD .gt (.int i) (.int j) S = some (decide (j < i)) := (rfl)
theorem c_ge {i j : Int} : cmpD .ge (.int i) (.int j) S = some (decide (j ≤ i)) := (rfl)
theorem c_eq {x y : D} : cmpD .eq x y S = eqD S x y := by cases x <;> cases y <;> rfl
theorem c_ne {x y : D} : cmpD .ne x y S = (eqD S x y).map (!·) := by cases x <;> cases y <;> rfl
theorem c_isn {x : D} : cmpD .isn x .non S = some (match x with | .non => true | _ => false) := by cases x <;> rfl
theorem q_int {i j : Int} : eqD S (.int i) (.int j) = some (i == j) := by
  unfold eqD
  rfl
theorem len_tup {xs : List D} : biD .len [.tup xs] S = some (.int xs.length, S) := (rfl)
theorem len_ref {n : Nat} : biD .len [.ref n] S = match itemsAt S n with | some xs => some (.int xs.length, S) | none => none := (rfl)
theorem k_min {i j : Int} : biD .min [.int i, .int j] S = some (.int (if j < i then j else i), S) := (rfl)
theorem k_max {i j : Int} : biD .max [.int i, .int j] S = some (.int (if j > i then j else i), S) := (rfl)
theorem k_int {i : Int} : biD .int [.int i] S = some (.int i, S) := (rfl)
theorem k_tup {xs : List D} : biD .tuple [.tup xs] S = some (.tup xs, S) := (rfl)
theorem k_tupr {n : Nat} : biD .tuple [.ref n] S = match itemsAt S n with | some xs => some (.tup xs, S) | none => none := (rfl)
theorem k_lst {xs : List D} : biD .list [.tup xs] S = some (.ref S.length, S ++ [.lst xs]) := (rfl)
theorem ix_tup {xs : List D} {i : Int} : idxD (.tup xs) (.int i) S = (atI xs i).map (·, S) := (rfl)
theorem ix_ref {n : Nat} {i : Int} : idxD (.ref n) (.int i) S = match itemsAt S n with | some xs => (atI xs i).map (·, S) | none => none := (rfl)
theorem sl_tup {xs : List D} {lo hi : Option Int} : slcD (.tup xs) lo hi S = some (.tup (cut xs lo hi), S) := (rfl)
end
theorem end_ret {S S' : Sto} {d : D} : endO S (some (.ret d S')) = some (gcD S d S') := (rfl)
theorem end_nx {S S' : Sto} {e : Ev} : endO S (some (.nx e S')) = some (gcD S .non S') := (rfl)
theorem end_if {S : Sto} {c : Prop} [Decidable c] {a b : Option Out} : endO S (if c then a else b) = if c then endO S a else endO S b := by
  split <;> rfl
theorem end_none {S : Sto} : endO S none = none := (rfl)
theorem bnd_grd {α β : Type} {c : Prop} [Decidable c] {a : α} {S : Sto} {f : α → Sto → Option β} : bnd (if c then some (a, S) else none) f = if c then f a S else none := by
  split <;> rfl
theorem bnd_bnd {α β γ : Type} {m : Option (α × Sto)} {f : α → Sto → Option (β × Sto)} {g : β → Sto → Option γ} : bnd (bnd m f) g = bnd m fun a S => bnd (f a S) g := by
  cases m <;> rfl
theorem bnd_match {β : Type} {i : Int} {S : Sto} {f : Option Int → Sto → Option β} : bnd (match (D.int i) with | .int i => some (some i, S) | _ => none) f = f (some i) S := (rfl)
/-! ### loops -/
/-- every turn goes on -/
theorem for_inv {b : D → Ev → Sto → Option Out} {ok : Sto → Prop} (P : Nat → Ev → Sto → Prop) : ∀ {ds : List D} {k : Nat} {e : Ev} {S : Sto}, (∀ i d e S, ds[i]? = some d → P (k + i) e S → ok S ∧ ∃ e' S', b d e S = some (.nx e' S') ∧ P (k + i + 1) e' S') →
    (∀ e S, P (k + ds.length) e S → ok S) → P k e S → ∃ e' S', forD b ok ds e S = some (.nx e' S') ∧ P (k + ds.length) e' S'
  | [], k, e, S, _, hd, h0 => by
    refine ⟨e, S, ?_, h0⟩
    unfold forD
    rw [if_pos (hd e S h0)]
  | d :: ds, k, e, S, hs, hd, h0 => by
    obtain ⟨ok0, e1, S1, h1, p1⟩ := hs 0 d e S rfl h0
    have ee : k + (d :: ds).length = k + 1 + ds.length := by rw [List.length_cons]; omega
    rw [ee] at hd ⊢
    obtain ⟨e2, S2, h2, p2⟩ := for_inv P (ds := ds) (k := k + 1) (e := e1) (S := S1) (fun i d e S hi p => by
      have e3 : k + 1 + i = k + (i + 1) := by omega
      rw [e3] at p ⊢
      exact hs (i + 1) d e S hi p) hd p1
    refine ⟨e2, S2, ?_, p2⟩
    unfold forD
    rw [if_pos ok0, h1]
    exact h2
/-- the turns ahead of one that ends the loop -/
theorem for_stop {b : D → Ev → Sto → Option Out} {ok : Sto → Prop} {r : Option Out} (P : Nat → Ev → Sto → Prop) : ∀ {ds : List D} {k j : Nat} {e : Ev} {S : Sto}, (∀ i d e S, i < j → ds[i]? = some d → P (k + i) e S → ok S ∧ ∃ e' S', b d e S = some (.nx e' S') ∧ P (k + i + 1) e' S') →
    (∀ d e S, ds[j]? = some d → P (k + j) e S → ok S ∧ ((∃ e' S', b d e S = some (.brk e' S') ∧ r = some (.nx e' S')) ∨ (∃ v S', b d e S = some (.ret v S') ∧ r = some (.ret v S')))) → j < ds.length → P k e S → forD b ok ds e S = r
  | [], k, j, e, S, _, _, hj, _ => by cases hj
  | d :: ds, k, 0, e, S, _, hd, _, h0 => by
    obtain ⟨ok0, h⟩ := hd d e S rfl h0
    unfold forD
    rw [if_pos ok0]
    rcases h with ⟨e', S', h1, rfl⟩ | ⟨v, S', h1, rfl⟩ <;> rw [h1]
  | d :: ds, k, j + 1, e, S, hs, hd, hj, h0 => by
    obtain ⟨ok0, e1, S1, h1, p1⟩ := hs 0 d e S (Nat.succ_pos _) rfl h0
    unfold forD
    rw [if_pos ok0, h1]
    refine for_stop P (ds := ds) (k := k + 1) (j := j) (e := e1) (S := S1) (fun i d e S hij hi p => ?_) (fun d e S hi p => ?_) (Nat.lt_of_succ_lt_succ hj) p1
    · have e3 : k + 1 + i = k + (i + 1) := by omega
      rw [e3] at p ⊢
      exact hs (i + 1) d e S (Nat.succ_lt_succ hij) hi p
    · have e3 : k + 1 + j = k + (j + 1) := by omega
      rw [e3] at p
      exact hd d e S hi p
/-- a comprehension that keeps all -/
theorem comp_map {b : D → Sto → Option (Option D × Sto)} {ok : Sto → Prop} {α : Type} (f : α → D) (P : Nat → List α → Sto → Prop) : ∀ {ds : List D} {k : Nat} {acc : List α} {S : Sto}, (∀ i d acc S, ds[i]? = some d → P (k + i) acc S → ok S ∧ acc.length < LIM ∧ ∃ y S', b d S = some (some (f y), S') ∧ P (k + i + 1) (acc ++ [y]) S') →
    (∀ acc S, P (k + ds.length) acc S → ok S) → P k acc S → ∃ ys S', compD b ok ds (acc.map f) S = some (ys.map f, S') ∧ P (k + ds.length) ys S'
  | [], k, acc, S, _, hd, h0 => by
    refine ⟨acc, S, ?_, h0⟩
    unfold compD
    rw [if_pos (hd acc S h0)]
  | d :: ds, k, acc, S, hs, hd, h0 => by
    obtain ⟨ok0, hl, y, S1, h1, p1⟩ := hs 0 d acc S rfl h0
    have ee : k + (d :: ds).length = k + 1 + ds.length := by rw [List.length_cons]; omega
    rw [ee] at hd ⊢
    obtain ⟨ys, S2, h2, p2⟩ := comp_map f P (ds := ds) (k := k + 1) (acc := acc ++ [y]) (S := S1) (fun i d acc S hi p => by
      have e3 : k + 1 + i = k + (i + 1) := by omega
      rw [e3] at p ⊢
      exact hs (i + 1) d acc S hi p) hd p1
    refine ⟨ys, S2, ?_, p2⟩
    unfold compD
    rw [if_pos ok0, h1]
    show (if (acc.map f).length < LIM then compD b ok ds (acc.map f ++ [f y]) S1 else none) = _
    rw [List.length_map, if_pos hl]
    rw [List.map_append] at h2
    exact h2
/-- a comprehension that keeps nothing -/
theorem comp_none {b : D → Sto → Option (Option D × Sto)} {ok : Sto → Prop} {S : Sto} {acc : List D} (hok : ok S) : ∀ {ds : List D}, (∀ d ∈ ds, b d S = some (none, S)) → compD b ok ds acc S = some (acc, S)
  | [], _ => by
    unfold compD
    rw [if_pos hok]
  | d :: ds, h => by
    unfold compD
    rw [if_pos hok, h d List.mem_cons_self]
    exact comp_none hok fun d hd => h d (List.mem_cons_of_mem _ hd)
theorem nil_true {S : Sto} : nilD false [] S = some (.bl true, S) := by
  unfold nilD
  rw [if_pos]
  · rfl
  · exact ⟨[], rfl, by decide +kernel⟩
theorem rng_at {i : Int} {n k : Nat} (h : k < n) : (rng i n)[k]? = some (.int (i + k)) := by
  unfold rng
  rw [List.getElem?_map, List.getElem?_range h]
  rfl
theorem lim_ok {i : Int} (h : -1000000 ≤ i ∧ i ≤ 1000000) : lim62 i := by
  unfold lim62
  omega
end M

namespace M
/-- letter_at(lasso, place): lasso=0 place=1 beginning=2 loop=3; calls  -/
def ir_letter_at : Stm :=
  (.cons (.set (.tp [2, 3]) (.var 0))
    (.cons (.ite (.cmp .lt (.var 1) (.bi .len (.cons (.var 2) .nil))) (.cons (.ret (.idx (.var 2) (.var 1)))
    .nil) .nil)
    (.cons (.ret (.idx (.var 3) (.bin .mod (.bin .sub (.var 1) (.bi .len (.cons (.var 2) .nil))) (.bi .len (.cons (.var 3) .nil)))))
    .nil)))
/-- tail(lasso, count): lasso=0 count=1 beginning=2 loop=3 turn=4; calls  -/
def ir_tail : Stm :=
  (.cons (.set (.tp [2, 3]) (.var 0))
    (.cons (.ite (.cmp .le (.var 1) (.bi .len (.cons (.var 2) .nil))) (.cons (.ret (.tup (.cons (.slc (.var 2) (.var 1) .nil) (.cons (.var 3) .nil))))
    .nil) .nil)
    (.cons (.set (.nm 4) (.bin .mod (.bin .sub (.var 1) (.bi .len (.cons (.var 2) .nil))) (.bi .len (.cons (.var 3) .nil))))
    (.cons (.ret (.tup (.cons (.tup .nil) (.cons (.bin .add (.slc (.var 3) (.var 4) .nil) (.slc (.var 3) .nil (.var 4))) .nil))))
    .nil))))
/-- least_loop(loop): loop=0 length=1; calls  -/
def ir_least_loop_b1 : Stm :=
  (.cons (.ite (.boo true (.cons (.cmp .eq (.bin .mod (.bi .len (.cons (.var 0) .nil)) (.var 1)) (.int 0)) (.cons (.cmp .eq (.bin .mul (.slc (.var 0) .nil (.var 1)) (.bin .fdiv (.bi .len (.cons (.var 0) .nil)) (.var 1))) (.var 0)) .nil))) (.cons (.ret (.slc (.var 0) .nil (.var 1)))
    .nil) .nil)
    .nil)
def ir_least_loop : Stm :=
  (.cons (.for_ (.nm 1) (.rng2 (.int 1) (.bi .len (.cons (.var 0) .nil))) ir_least_loop_b1)
    (.cons (.ret (.var 0))
    .nil))
/-- least_lasso(lasso): lasso=0 beginning=1 loop=2; calls least_loop -/
def ir_least_lasso_e1 : E :=
  (.boo true (.cons (.cmp .ne (.var 1) (.tup .nil)) (.cons (.cmp .eq (.idx (.var 1) (.neg (.int 1))) (.idx (.var 2) (.neg (.int 1)))) .nil)))
def ir_least_lasso_b1 : Stm :=
  (.cons (.set (.nm 1) (.slc (.var 1) .nil (.neg (.int 1))))
    (.cons (.set (.nm 2) (.bin .add (.slc (.var 2) (.neg (.int 1)) .nil) (.slc (.var 2) .nil (.neg (.int 1)))))
    .nil))
def ir_least_lasso : Stm :=
  (.cons (.set (.tp [1, 2]) (.var 0))
    (.cons (.set (.nm 2) (.call 0 (.cons (.var 2) .nil)))
    (.cons (.whl ir_least_lasso_e1 ir_least_lasso_b1)
    (.cons (.ret (.tup (.cons (.var 1) (.cons (.var 2) .nil))))
    .nil))))
/-- _law_start(script): script=0 great=1 seed=2 place=3 cell=4 turn=5; calls  -/
def ir_law_start_b1 : Stm :=
  (.cons (.set (.nm 4) (.idx (.var 0) (.var 3)))
    (.cons (.ite (.boo true (.cons (.cmp .eq (.var 1) (.int 0)) (.cons (.cmp .ge (.var 4) (.bin .pow (.int 10) (.int 18))) .nil))) (.cons (.set (.nm 1) (.var 4))
    .nil) .nil)
    (.cons (.set (.nm 2) (.bin .mod (.bi .int (.cons (.bin .add (.bin .add (.bin .mul (.var 2) (.int 48271)) (.bin .mul (.var 4) (.bin .add (.bin .mul (.int 2) (.var 3)) (.int 3)))) (.var 3)) .nil)) (.int 2147483629)))
    .nil)))
def ir_law_start_b2 : Stm :=
  (.cons (.set (.nm 2) (.bin .mod (.bi .int (.cons (.bin .add (.bin .add (.bin .add (.bin .mul (.var 2) (.var 2)) (.bin .mul (.int 48271) (.var 2))) (.bin .mul (.int 91) (.var 5))) (.int 7)) .nil)) (.int 2147483629)))
    .nil)
def ir_law_start : Stm :=
  (.cons (.set (.nm 1) (.int 0))
    (.cons (.set (.nm 2) (.int 17))
    (.cons (.for_ (.nm 3) (.rng1 (.bi .min (.cons (.bi .len (.cons (.var 0) .nil)) (.cons (.int 63) .nil)))) ir_law_start_b1)
    (.cons (.for_ (.nm 5) (.rng1 (.int 3)) ir_law_start_b2)
    (.cons (.ret (.lst (.disp (.cons (.var 1) (.cons (.var 2) (.cons (.int 0) .nil))))))
    .nil)))))
/-- _law_take(state, m): state=0 m=1 x=2 cell=3; calls  -/
def ir_law_take : Stm :=
  (.cons (.ite (.cmp .gt (.idx (.var 0) (.int 0)) (.int 0)) (.cons (.set (.nm 2) (.bin .mod (.bi .int (.cons (.idx (.var 0) (.int 0)) .nil)) (.var 1)))
    (.cons (.setI (.var 0) (.int 0) (.bi .int (.cons (.bin .fdiv (.idx (.var 0) (.int 0)) (.var 1)) .nil)))
    (.cons (.ret (.var 2))
    .nil))) .nil)
    (.cons (.setI (.var 0) (.int 2) (.bin .add (.idx (.var 0) (.int 2)) (.int 1)))
    (.cons (.set (.nm 3) (.bin .mod (.bi .int (.cons (.bin .add (.bin .mul (.idx (.var 0) (.int 1)) (.int 48271)) (.bin .mul (.int 69621) (.idx (.var 0) (.int 2)))) .nil)) (.int 2147483647)))
    (.cons (.set (.nm 3) (.bin .mod (.bi .int (.cons (.bin .add (.bin .mul (.var 3) (.var 3)) (.bin .mul (.int 48271) (.bin .fdiv (.var 3) (.int 1000)))) .nil)) (.int 2147483629)))
    (.cons (.set (.nm 3) (.bin .mod (.bi .int (.cons (.bin .add (.bin .add (.bin .mul (.var 3) (.var 3)) (.bin .mul (.int 31) (.var 3))) (.idx (.var 0) (.int 2))) .nil)) (.int 2147483647)))
    (.cons (.ret (.bin .mod (.bi .int (.cons (.bin .fdiv (.var 3) (.int 7)) .nil)) (.var 1)))
    .nil))))))
/-- _law_same(told, due): told=0 due=1 k=2; calls _law_same -/
def ir_law_same_e1 : E :=
  (.not (.call 0 (.cons (.idx (.var 0) (.var 2)) (.cons (.idx (.var 1) (.var 2)) .nil))))
def ir_law_same : Stm :=
  (.cons (.ite (.boo false (.cons (.isi (.var 1) .list) (.cons (.isi (.var 1) .tuple) .nil))) (.cons (.ite (.boo false (.cons (.boo true (.cons (.isi (.var 1) .list) (.cons (.not (.isi (.var 0) .list)) .nil))) (.cons (.boo true (.cons (.isi (.var 1) .tuple) (.cons (.not (.isi (.var 0) .tuple)) .nil))) .nil))) (.cons (.ret (.bl false))
    .nil) .nil)
    (.cons (.ite (.cmp .ne (.bi .len (.cons (.var 0) .nil)) (.bi .len (.cons (.var 1) .nil))) (.cons (.ret (.bl false))
    .nil) .nil)
    (.cons (.ret (.nilL false (.comp [2] (.nm 2) (.rng1 (.bi .len (.cons (.var 1) .nil))) ir_law_same_e1 (.var 2))))
    .nil))) .nil)
    (.cons (.ite (.cmp .isn (.var 1) .non) (.cons (.ret (.cmp .isn (.var 0) .non))
    .nil) .nil)
    (.cons (.ite (.isi (.var 1) .bool) (.cons (.ret (.boo true (.cons (.isi (.var 0) .bool) (.cons (.cmp .eq (.var 0) (.var 1)) .nil))))
    .nil) .nil)
    (.cons (.ite (.isi (.var 1) .str) (.cons (.ret (.boo true (.cons (.isi (.var 0) .str) (.cons (.cmp .eq (.var 0) (.var 1)) .nil))))
    .nil) .nil)
    (.cons (.ret (.boo true (.cons (.isi (.var 0) .int) (.cons (.not (.isi (.var 0) .bool)) (.cons (.cmp .eq (.var 0) (.var 1)) .nil)))))
    .nil)))))
/-- _law_word(state, k, size): state=0 k=1 size=2 turn=3; calls _law_take -/
def ir_law_word_e1 : E :=
  (.call 0 (.cons (.var 0) (.cons (.var 1) .nil)))
def ir_law_word : Stm :=
  (.cons (.ret (.tupL (.comp [3] (.nm 3) (.rng1 (.var 2)) .nil ir_law_word_e1)))
    .nil)
/-- _law_lasso(state, k, most, turn): state=0 k=1 most=2 turn=3 first=4 loop=5 kind=6; calls _law_word _law_take -/
def ir_law_lasso : Stm :=
  (.cons (.set (.nm 4) (.call 0 (.cons (.var 0) (.cons (.var 1) (.cons (.call 1 (.cons (.var 0) (.cons (.bin .add (.var 2) (.int 1)) .nil))) .nil)))))
    (.cons (.set (.nm 5) (.call 0 (.cons (.var 0) (.cons (.var 1) (.cons (.bin .add (.int 1) (.call 1 (.cons (.var 0) (.cons (.var 3) .nil)))) .nil)))))
    (.cons (.set (.nm 6) (.call 1 (.cons (.var 0) (.cons (.int 6) .nil))))
    (.cons (.ite (.cmp .eq (.var 6) (.int 0)) (.cons (.set (.nm 5) (.bin .add (.var 5) (.var 5)))
    .nil) (.cons (.ite (.cmp .eq (.var 6) (.int 1)) (.cons (.set (.nm 4) (.bin .add (.var 4) (.var 5)))
    .nil) (.cons (.ite (.cmp .eq (.var 6) (.int 2)) (.cons (.set (.nm 4) (.bin .add (.var 4) (.slc (.var 5) (.int 1) .nil)))
    (.cons (.set (.nm 5) (.bin .add (.bin .add (.var 5) (.var 5)) (.var 5)))
    .nil)) .nil)
    .nil))
    .nil))
    (.cons (.ret (.tup (.cons (.var 4) (.cons (.var 5) .nil))))
    .nil)))))
/-- _law_other_lasso(state, lasso): state=0 lasso=1 first=2 loop=3 turn=4; calls _law_take -/
def ir_law_other_lasso_b1 : Stm :=
  (.cons (.set (.nm 2) (.bin .add (.var 2) (.slc (.var 3) .nil (.int 1))))
    (.cons (.set (.nm 3) (.bin .add (.slc (.var 3) (.int 1) .nil) (.slc (.var 3) .nil (.int 1))))
    .nil))
def ir_law_other_lasso : Stm :=
  (.cons (.set (.tp [2, 3]) (.var 1))
    (.cons (.for_ (.nm 4) (.rng1 (.call 0 (.cons (.var 0) (.cons (.int 4) .nil)))) ir_law_other_lasso_b1)
    (.cons (.ret (.tup (.cons (.var 2) (.cons (.bin .mul (.var 3) (.bin .add (.int 1) (.call 0 (.cons (.var 0) (.cons (.int 3) .nil))))) .nil))))
    .nil)))
/-- _law_at(lasso, place): lasso=0 place=1; calls  -/
def ir_law_at : Stm :=
  (.cons (.ite (.cmp .lt (.var 1) (.bi .len (.cons (.idx (.var 0) (.int 0)) .nil))) (.cons (.ret (.idx (.idx (.var 0) (.int 0)) (.var 1)))
    .nil) .nil)
    (.cons (.ret (.idx (.idx (.var 0) (.int 1)) (.bin .mod (.bi .int (.cons (.bin .sub (.var 1) (.bi .len (.cons (.idx (.var 0) (.int 0)) .nil))) .nil)) (.bi .len (.cons (.idx (.var 0) (.int 1)) .nil)))))
    .nil))
/-- _law_least(lasso): lasso=0 first=1 loop=2 size=3 turn=4; calls  -/
def ir_law_least_b1 : Stm :=
  (.cons (.ite (.boo true (.cons (.cmp .eq (.bin .mod (.bi .int (.cons (.bi .len (.cons (.var 2) .nil)) .nil)) (.var 3)) (.int 0)) (.cons (.cmp .eq (.bin .mul (.slc (.var 2) .nil (.var 3)) (.bin .fdiv (.bi .len (.cons (.var 2) .nil)) (.var 3))) (.var 2)) .nil))) (.cons (.set (.nm 2) (.slc (.var 2) .nil (.var 3)))
    (.cons .brk
    .nil)) .nil)
    .nil)
def ir_law_least_b2 : Stm :=
  (.cons (.ite (.boo false (.cons (.cmp .eq (.var 1) (.tup .nil)) (.cons (.cmp .ne (.idx (.var 1) (.neg (.int 1))) (.idx (.var 2) (.neg (.int 1)))) .nil))) (.cons .brk
    .nil) .nil)
    (.cons (.set (.nm 1) (.slc (.var 1) .nil (.neg (.int 1))))
    (.cons (.set (.nm 2) (.bin .add (.slc (.var 2) (.neg (.int 1)) .nil) (.slc (.var 2) .nil (.neg (.int 1)))))
    .nil)))
def ir_law_least : Stm :=
  (.cons (.set (.tp [1, 2]) (.var 0))
    (.cons (.for_ (.nm 3) (.rng2 (.int 1) (.bin .add (.bi .len (.cons (.var 2) .nil)) (.int 1))) ir_law_least_b1)
    (.cons (.for_ (.nm 4) (.rng1 (.bi .len (.cons (.idx (.var 0) (.int 0)) .nil))) ir_law_least_b2)
    (.cons (.ret (.tup (.cons (.var 1) (.cons (.var 2) .nil))))
    .nil))))
/-- _law_is_lasso(lasso, k): lasso=0 k=1 letter=2; calls  -/
def ir_law_is_lasso_b1 : Stm :=
  (.cons (.ite (.boo false (.cons (.not (.isi (.var 2) .int)) (.cons (.isi (.var 2) .bool) (.cons (.not (.chn .le .lt (.int 0) (.var 2) (.var 1))) .nil)))) (.cons (.ret (.bl false))
    .nil) .nil)
    .nil)
def ir_law_is_lasso : Stm :=
  (.cons (.ite (.boo false (.cons (.not (.isi (.var 0) .tuple)) (.cons (.cmp .ne (.bi .len (.cons (.var 0) .nil)) (.int 2)) (.cons (.not (.isi (.idx (.var 0) (.int 0)) .tuple)) (.cons (.not (.isi (.idx (.var 0) (.int 1)) .tuple)) .nil))))) (.cons (.ret (.bl false))
    .nil) .nil)
    (.cons (.ite (.cmp .eq (.idx (.var 0) (.int 1)) (.tup .nil)) (.cons (.ret (.bl false))
    .nil) .nil)
    (.cons (.for_ (.nm 2) (.seq (.bin .add (.idx (.var 0) (.int 0)) (.idx (.var 0) (.int 1)))) ir_law_is_lasso_b1)
    (.cons (.ret (.bl true))
    .nil))))
/-- _law_same_endless(one, two): one=0 two=1 length=2 at=3; calls _law_at -/
def ir_law_same_endless_e1 : E :=
  (.cmp .ne (.call 0 (.cons (.var 0) (.cons (.var 3) .nil))) (.call 0 (.cons (.var 1) (.cons (.var 3) .nil))))
def ir_law_same_endless : Stm :=
  (.cons (.set (.nm 2) (.bin .add (.bin .add (.bi .max (.cons (.bi .len (.cons (.idx (.var 0) (.int 0)) .nil)) (.cons (.bi .len (.cons (.idx (.var 1) (.int 0)) .nil)) .nil))) (.bi .len (.cons (.idx (.var 0) (.int 1)) .nil))) (.bi .len (.cons (.idx (.var 1) (.int 1)) .nil))))
    (.cons (.ret (.nilL false (.comp [3] (.nm 3) (.rng1 (.var 2)) ir_law_same_endless_e1 (.var 3))))
    .nil))
/-- joined(word, lasso): word=0 lasso=1; calls  -/
def ir_joined : Stm :=
  (.cons (.ret (.tup (.cons (.bin .add (.bi .tuple (.cons (.var 0) .nil)) (.idx (.var 1) (.int 0))) (.cons (.idx (.var 1) (.int 1)) .nil))))
    .nil)
/-- same_word(one, two): one=0 two=1; calls least_lasso -/
def ir_same_word : Stm :=
  (.cons (.ret (.cmp .eq (.call 0 (.cons (.var 0) .nil)) (.call 0 (.cons (.var 1) .nil))))
    .nil)
/-- first_difference(one, two): one=0 two=1 place=2; calls same_word letter_at -/
def ir_first_difference_e1 : E :=
  (.cmp .eq (.call 1 (.cons (.var 0) (.cons (.var 2) .nil))) (.call 1 (.cons (.var 1) (.cons (.var 2) .nil))))
def ir_first_difference_b1 : Stm :=
  (.cons (.aug 2 .add (.int 1))
    .nil)
def ir_first_difference : Stm :=
  (.cons (.ite (.call 0 (.cons (.var 0) (.cons (.var 1) .nil))) (.cons (.ret .non)
    .nil) .nil)
    (.cons (.set (.nm 2) (.int 0))
    (.cons (.whl ir_first_difference_e1 ir_first_difference_b1)
    (.cons (.ret (.var 2))
    .nil))))
/-- _law_first(one, two): one=0 two=1 at=2; calls _law_at -/
def ir_law_first_b1 : Stm :=
  (.cons (.ite (.cmp .ne (.call 0 (.cons (.var 0) (.cons (.var 2) .nil))) (.call 0 (.cons (.var 1) (.cons (.var 2) .nil)))) (.cons (.ret (.var 2))
    .nil) .nil)
    .nil)
def ir_law_first : Stm :=
  (.cons (.for_ (.nm 2) (.rng1 (.bin .add (.bin .add (.bi .max (.cons (.bi .len (.cons (.idx (.var 0) (.int 0)) .nil)) (.cons (.bi .len (.cons (.idx (.var 1) (.int 0)) .nil)) .nil))) (.bi .len (.cons (.idx (.var 0) (.int 1)) .nil))) (.bi .len (.cons (.idx (.var 1) (.int 1)) .nil)))) ir_law_first_b1)
    (.cons (.ret .non)
    .nil))
/-- _law_near(state, lasso, k): state=0 lasso=1 k=2 kind=3 loop=4 at=5 letter=6 changed=7; calls _law_take _law_other_lasso -/
def ir_law_near : Stm :=
  (.cons (.set (.nm 3) (.call 0 (.cons (.var 0) (.cons (.int 4) .nil))))
    (.cons (.ite (.cmp .eq (.var 3) (.int 0)) (.cons (.ret (.call 1 (.cons (.var 0) (.cons (.var 1) .nil))))
    .nil) .nil)
    (.cons (.set (.nm 4) (.bin .mul (.idx (.var 1) (.int 1)) (.bin .add (.int 1) (.call 0 (.cons (.var 0) (.cons (.int 12) .nil))))))
    (.cons (.set (.nm 5) (.ite (.cmp .eq (.var 3) (.int 1)) (.bin .sub (.bi .len (.cons (.var 4) .nil)) (.int 1)) (.call 0 (.cons (.var 0) (.cons (.bi .len (.cons (.var 4) .nil)) .nil)))))
    (.cons (.set (.nm 6) (.bin .mod (.bi .int (.cons (.bin .add (.bin .add (.idx (.var 4) (.var 5)) (.int 1)) (.call 0 (.cons (.var 0) (.cons (.bin .sub (.var 2) (.int 1)) .nil)))) .nil)) (.var 2)))
    (.cons (.set (.nm 7) (.bin .add (.bin .add (.slc (.var 4) .nil (.var 5)) (.tup (.cons (.var 6) .nil))) (.slc (.var 4) (.bin .add (.var 5) (.int 1)) .nil)))
    (.cons (.ite (.cmp .eq (.var 3) (.int 3)) (.cons (.ret (.tup (.cons (.bin .add (.idx (.var 1) (.int 0)) (.var 7)) (.cons (.idx (.var 1) (.int 1)) .nil))))
    .nil) .nil)
    (.cons (.ret (.tup (.cons (.idx (.var 1) (.int 0)) (.cons (.var 7) .nil))))
    .nil))))))))
/-- mapped(lasso, letters): lasso=0 letters=1 beginning=2 loop=3 letter=4; calls  -/
def ir_mapped_e1 : E :=
  (.idx (.var 1) (.var 4))
def ir_mapped_e2 : E :=
  (.idx (.var 1) (.var 4))
def ir_mapped : Stm :=
  (.cons (.set (.tp [2, 3]) (.var 0))
    (.cons (.ret (.tup (.cons (.tupL (.comp [4] (.nm 4) (.seq (.var 2)) .nil ir_mapped_e1)) (.cons (.tupL (.comp [4] (.nm 4) (.seq (.var 3)) .nil ir_mapped_e2)) .nil))))
    .nil))
/-- least_multiple(one, two): one=0 two=1 found=2; calls  -/
def ir_least_multiple_e1 : E :=
  (.cmp .ne (.bin .mod (.var 2) (.var 1)) (.int 0))
def ir_least_multiple_b1 : Stm :=
  (.cons (.aug 2 .add (.var 0))
    .nil)
def ir_least_multiple : Stm :=
  (.cons (.set (.nm 2) (.var 0))
    (.cons (.whl ir_least_multiple_e1 ir_least_multiple_b1)
    (.cons (.ret (.var 2))
    .nil)))
/-- zipped(one, two, letters): one=0 two=1 letters=2 start=3 turn=4 row=5 place=6; calls least_multiple letter_at -/
def ir_zipped_e1 : E :=
  (.bin .add (.call 1 (.cons (.var 0) (.cons (.var 6) .nil))) (.bin .mul (.var 2) (.call 1 (.cons (.var 1) (.cons (.var 6) .nil)))))
def ir_zipped : Stm :=
  (.cons (.set (.nm 3) (.bi .max (.cons (.bi .len (.cons (.idx (.var 0) (.int 0)) .nil)) (.cons (.bi .len (.cons (.idx (.var 1) (.int 0)) .nil)) .nil))))
    (.cons (.set (.nm 4) (.call 0 (.cons (.bi .len (.cons (.idx (.var 0) (.int 1)) .nil)) (.cons (.bi .len (.cons (.idx (.var 1) (.int 1)) .nil)) .nil))))
    (.cons (.set (.nm 5) (.lst (.comp [6] (.nm 6) (.rng1 (.bin .add (.var 3) (.var 4))) .nil ir_zipped_e1)))
    (.cons (.ret (.tup (.cons (.bi .tuple (.cons (.slc (.var 5) .nil (.var 3)) .nil)) (.cons (.bi .tuple (.cons (.slc (.var 5) (.var 3) .nil) .nil)) .nil))))
    .nil))))
/-- _law_pick(state, row): state=0 row=1; calls _law_take -/
def ir_law_pick : Stm :=
  (.cons (.ret (.idx (.var 1) (.call 0 (.cons (.var 0) (.cons (.bi .len (.cons (.var 1) .nil)) .nil)))))
    .nil)
/-- _law_multiple(one, two): one=0 two=1 turn=2; calls  -/
def ir_law_multiple_b1 : Stm :=
  (.cons (.ite (.cmp .eq (.bin .mod (.bi .int (.cons (.bin .mul (.var 0) (.var 2)) .nil)) (.var 1)) (.int 0)) (.cons (.ret (.bin .mul (.var 0) (.var 2)))
    .nil) .nil)
    .nil)
def ir_law_multiple : Stm :=
  (.cons (.for_ (.nm 2) (.rng2 (.int 1) (.bin .add (.var 1) (.int 1))) ir_law_multiple_b1)
    (.cons (.ret (.bin .mul (.var 0) (.var 1)))
    .nil))
/-- _law_zipped(one, two, weight): one=0 two=1 weight=2 start=3 turn=4 word=5 at=6; calls _law_multiple _law_at -/
def ir_law_zipped_e1 : E :=
  (.bin .add (.call 1 (.cons (.var 0) (.cons (.var 6) .nil))) (.bin .mul (.var 2) (.call 1 (.cons (.var 1) (.cons (.var 6) .nil)))))
def ir_law_zipped : Stm :=
  (.cons (.set (.nm 3) (.bi .max (.cons (.bi .len (.cons (.idx (.var 0) (.int 0)) .nil)) (.cons (.bi .len (.cons (.idx (.var 1) (.int 0)) .nil)) .nil))))
    (.cons (.set (.nm 4) (.call 0 (.cons (.bi .len (.cons (.idx (.var 0) (.int 1)) .nil)) (.cons (.bi .len (.cons (.idx (.var 1) (.int 1)) .nil)) .nil))))
    (.cons (.set (.nm 5) (.tupL (.comp [6] (.nm 6) (.rng1 (.bin .add (.var 3) (.var 4))) .nil ir_law_zipped_e1)))
    (.cons (.ret (.tup (.cons (.slc (.var 5) .nil (.var 3)) (.cons (.slc (.var 5) (.var 3) .nil) .nil))))
    .nil))))
end M

/-! P2: the law's draws. -/
namespace M
open PySem (Str PyData)
open L2 (atI ixN)
theorem gc_len {S S' : Sto} {d : D} (h : S'.length = S.length) : gcD S d S' = (d, S') := by
  unfold gcD
  split
  · rename_i c
    rw [← h, List.take_length] at c
    rw [c.1]
  · rfl
theorem gc_set {S : Sto} {d : D} {n : Nat} {o : Ob} : gcD S d (S.set n o) = (d, S.set n o) := gc_len (List.length_set)
theorem gc_ref {S S' : Sto} {n : Nat} : gcD S (.ref n) S' = (.ref n, S') := by
  unfold gcD
  rw [if_neg]
  exact fun h => Bool.noConfusion h.2
/-! ### _law_take -/
noncomputable def F_take : Fn := fnD [] 4 2 ir_law_take
/-- the state of the draws at h -/
def Drw (S : Sto) (h : Nat) : Prop := ∃ g s n : Int, S[h]? = some (.lst [.int g, .int s, .int n]) ∧ 0 ≤ g ∧ 0 ≤ s ∧ s < 2147483629 ∧ 0 ≤ n
theorem items_lst {S : Sto} {h : Nat} {xs : List D} (e : S[h]? = some (.lst xs)) : itemsAt S h = some xs := by
  unfold itemsAt
  rw [e]
theorem set_at {S : Sto} {h : Nat} {xs : List D} {o : Ob} (e : S[h]? = some o) : (S.set h (.lst xs))[h]? = some (.lst xs) :=
  List.getElem?_set_self (List.getElem?_eq_some_iff.mp e).1
theorem setID_at {S : Sto} {h : Nat} {xs : List D} {i : Int} {y : D} (e : S[h]? = some (.lst xs)) (h0 : 0 ≤ i) (h1 : i < xs.length) : setID (.ref h) (.int i) y S = some (S.set h (.lst (xs.set i.toNat y))) := by
  unfold setID
  simp only [e]
  unfold ixN
  rw [if_pos h0, if_pos h1]
theorem small_of {i : Int} (h : -1000000000000 ≤ i ∧ i ≤ 1000000000000) : small i := by
  unfold small
  omega
theorem at3_0 (a b c : D) : atI [a, b, c] 0 = some a := (rfl)
theorem at3_1 (a b c : D) : atI [a, b, c] 1 = some b := (rfl)
theorem at3_2 (a b c : D) : atI [a, b, c] 2 = some c := (rfl)
theorem at2_0 (a b : D) : atI [a, b] 0 = some a := (rfl)
theorem at2_1 (a b : D) : atI [a, b] 1 = some b := (rfl)
theorem take_ok {S : Sto} {h : Nat} {m : Int} (D0 : Drw S h) (h0 : 0 < m) (h1 : m < 1000000000) : ∃ (x : Int) (o : Ob), 0 ≤ x ∧ x < m ∧ F_take [.ref h, .int m] S = some (.int x, S.set h o) ∧ Drw (S.set h o) h := by
  obtain ⟨g, s, n, e, hg, hs0, hs1, hn⟩ := D0
  unfold F_take fnD ir_law_take
  have i0 := items_lst e
  have hm : m < 1073741824 := by omega
  by_cases c : 0 < g
  · have e1 : setID (.ref h) (.int 0) (.int (g / m)) S = some (S.set h (.lst [.int (g / m), .int s, .int n])) := setID_at e (by decide) (by simp)
    refine ⟨g % m, .lst [.int (g / m), .int s, .int n], Int.emod_nonneg g (by omega), Int.emod_lt_of_pos g h0, ?_, ⟨g / m, s, n, set_at e, Int.ediv_nonneg hg (by omega), hs0, hs1, hn⟩⟩
    simp only [x_nil, x_cons, x_set, x_setp, x_ret, x_par, x_expr, x_setI, x_aug, x_ite, x_for, x_whl, x_brk, x_cnt, x_pass, x_retN, seq_nx, seq_ret, seq_brk, seq_cnt, seq_none, seq_bnd, seq_if, v_var, v_int, v_bl, v_non, v_str, v_bin, v_neg, v_cmp, v_chn, v_boo, v_not, v_ite, v_tup0, v_tup1, v_tup2, v_idx, v_slc, v_call, v_bi, v_isi, v_lst, v_tupL, v_nilL, v_app, v_ext, a_nil, a_cons, a_disp1, a_disp2, a_disp3, a_comp, o_nil, o_var, o_int, o_neg, o_bin, o_bi, vb_one, vb_more, tb_one, tb_more, t_nil, t_boo, t_not, t_cmp, t_chn, t_call, t_isi, t_nilL, t_var, i_seq, i_rng1, i_rng2, i_enm, b_add, b_sub, b_mul, b_fdiv, b_mod, b_pow, b_cat, b_rep, c_lt, c_le, c_gt, c_ge, c_eq, c_ne, c_isn, q_int, len_tup, len_ref, k_min, k_max, k_int, k_tup, k_tupr, k_lst, ix_tup, ix_ref, sl_tup, end_ret, end_nx, end_if, end_none, bnd_grd, bnd_bnd, bnd_match, bnd_some, bnd_none, getv, setv, setvs, wipev, asg, Option.map_some, Option.map_none, List.length_cons, List.length_nil, List.getElem?_cons_zero, List.getElem?_cons_succ, if_true, truD, decide_eq_true_eq, List.replicate, List.map_cons, List.map_nil, List.cons_append, List.nil_append, ite_true, ite_false, if_false, decide_true, decide_false, and_self, true_and, and_true, true_or, or_true, or_self, reduceCtorEq, Bool.false_eq_true, Bool.true_eq_false, Bool.not_true, Bool.not_false, false_and, and_false, false_or, or_false, gc_same, Int.sub_zero, Int.toNat_natCast, Int.reduceToNat, okS, rngD, i0, at3_0, e1, c, h0, hm, gc_set]
  · have e1 : setID (.ref h) (.int 2) (.int (n + 1)) S = some (S.set h (.lst [.int g, .int s, .int (n + 1)])) := setID_at e (by decide) (by simp)
    have i1 := items_lst (set_at (xs := [.int g, .int s, .int (n + 1)]) e)
    have m1 : small s := small_of (by omega)
    have m2 : small 69621 := small_of (by omega)
    generalize hx1 : (s * 48271 + 69621 * (n + 1)) % 2147483647 = x1
    have b1 : 0 ≤ x1 ∧ x1 < 2147483647 := by rw [← hx1]; exact ⟨Int.emod_nonneg _ (by decide), Int.emod_lt_of_pos _ (by decide)⟩
    have m3 : small x1 := small_of (by omega)
    have m4 : small 48271 := small_of (by omega)
    generalize hx2 : (x1 * x1 + 48271 * (x1 / 1000)) % 2147483629 = x2
    have b2 : 0 ≤ x2 ∧ x2 < 2147483629 := by rw [← hx2]; exact ⟨Int.emod_nonneg _ (by decide), Int.emod_lt_of_pos _ (by decide)⟩
    have m5 : small x2 := small_of (by omega)
    have m6 : small 31 := small_of (by omega)
    generalize hx3 : (x2 * x2 + 31 * x2 + (n + 1)) % 2147483647 = x3
    refine ⟨(x3 / 7) % m, .lst [.int g, .int s, .int (n + 1)], Int.emod_nonneg _ (by omega), Int.emod_lt_of_pos _ h0, ?_, ⟨g, s, n + 1, set_at e, hg, hs0, hs1, by omega⟩⟩
    have p1 : (0 : Int) < 2147483647 := by decide
    have p2 : (0 : Int) < 2147483629 := by decide
    have p3 : (0 : Int) < 1000 ∧ (1000 : Int) < 1073741824 := by decide
    have p4 : (0 : Int) < 7 ∧ (7 : Int) < 1073741824 := by decide
    simp only [x_nil, x_cons, x_set, x_setp, x_ret, x_par, x_expr, x_setI, x_aug, x_ite, x_for, x_whl, x_brk, x_cnt, x_pass, x_retN, seq_nx, seq_ret, seq_brk, seq_cnt, seq_none, seq_bnd, seq_if, v_var, v_int, v_bl, v_non, v_str, v_bin, v_neg, v_cmp, v_chn, v_boo, v_not, v_ite, v_tup0, v_tup1, v_tup2, v_idx, v_slc, v_call, v_bi, v_isi, v_lst, v_tupL, v_nilL, v_app, v_ext, a_nil, a_cons, a_disp1, a_disp2, a_disp3, a_comp, o_nil, o_var, o_int, o_neg, o_bin, o_bi, vb_one, vb_more, tb_one, tb_more, t_nil, t_boo, t_not, t_cmp, t_chn, t_call, t_isi, t_nilL, t_var, i_seq, i_rng1, i_rng2, i_enm, b_add, b_sub, b_mul, b_fdiv, b_mod, b_pow, b_cat, b_rep, c_lt, c_le, c_gt, c_ge, c_eq, c_ne, c_isn, q_int, len_tup, len_ref, k_min, k_max, k_int, k_tup, k_tupr, k_lst, ix_tup, ix_ref, sl_tup, end_ret, end_nx, end_if, end_none, bnd_grd, bnd_bnd, bnd_match, bnd_some, bnd_none, getv, setv, setvs, wipev, asg, Option.map_some, Option.map_none, List.length_cons, List.length_nil, List.getElem?_cons_zero, List.getElem?_cons_succ, if_true, truD, decide_eq_true_eq, List.replicate, List.map_cons, List.map_nil, List.cons_append, List.nil_append, ite_true, ite_false, if_false, decide_true, decide_false, and_self, true_and, and_true, true_or, or_true, or_self, reduceCtorEq, Bool.false_eq_true, Bool.true_eq_false, Bool.not_true, Bool.not_false, false_and, and_false, false_or, or_false, gc_same, Int.sub_zero, Int.toNat_natCast, Int.reduceToNat, okS, rngD, i0, i1, at3_0, at3_1, at3_2, e1, c, h0, hm, m1, m2, m3, m4, m5, m6, hx1, hx2, hx3, p1, p2, p3, p4, gc_set]

/-! ### _law_start -/
noncomputable def F_start : Fn := fnD [] 6 1 ir_law_start
theorem getv_set_same {e : Ev} {i : Nat} {o : Option D} : True := trivial
theorem start_ok {S : Sto} {n : Nat} {ns : List Int} (hi : itemsAt S n = some (iD ns)) (hl : ns.length ≤ 63) : ∃ g s : Int, 0 ≤ g ∧ 0 ≤ s ∧ s < 2147483629 ∧ F_start [.ref n] S = some (.ref S.length, S ++ [.lst [.int g, .int s, .int 0]]) := by
  have hlen : ((iD ns).length : Int) = ns.length := by simp
  have lim0 : lim62 0 := lim_ok (by decide)
  have lim3 : lim62 3 := lim_ok (by decide)
  have limn : lim62 ns.length := lim_ok (by omega)
  have hmin : (if (63 : Int) < (ns.length : Int) then (63 : Int) else (ns.length : Int)) = ns.length := by rw [if_neg (by omega)]
  have p1 : (0 : Int) < 2147483629 := by decide
  have pw : (0 : Int) ≤ 18 ∧ (18 : Int) ≤ 1000000 ∧ (10 : Int).natAbs < 2 ^ 64 := by decide
  -- the first loop
  have loop1 := for_inv (b := bodyF (.nm 3) (exec [] ir_law_start_b1)) (ok := fun _ => True)
    (fun i e S' => S' = S ∧ ∃ (g s : Int) (a b c : Option D), e = [some (.ref n), some (.int g), some (.int s), a, b, c] ∧ 0 ≤ g ∧ 0 ≤ s ∧ s < 2147483629) (ds := rng 0 ns.length) (k := 0) (e := [some (.ref n), some (.int 0), some (.int 17), none, none, none]) (S := S)
    (fun i d e S' hd ⟨hS, g, s, a, b, c, he, hg, hs0, hs1⟩ => by
      refine ⟨trivial, ?_⟩
      obtain ⟨hi2, rfl⟩ := rng_get hd
      subst hS he
      have hget : atI (iD ns) (0 + (i : Int)) = some (.int (ns[i]'hi2)) := by
        rw [at_pos (by omega)]
        have : (0 + (i : Int)).toNat = i := by omega
        rw [this, List.getElem?_map, List.getElem?_eq_getElem hi2]
        rfl
      generalize ns[i]'hi2 = z at hget
      have m1 : small s := small_of (by omega)
      have m2 : small 2 := small_of (by omega)
      have m3 : small (2 * (0 + (i : Int)) + 3) := small_of (by omega)
      generalize hx : (s * 48271 + z * (2 * (0 + (i : Int)) + 3) + (0 + (i : Int))) % 2147483629 = x
      have bx : 0 ≤ x ∧ x < 2147483629 := by rw [← hx]; exact ⟨Int.emod_nonneg _ (by decide), Int.emod_lt_of_pos _ (by decide)⟩
      by_cases c1 : g = 0
      · subst c1
        by_cases c2 : (10 : Int) ^ 18 ≤ z
        · refine ⟨[some (.ref n), some (.int z), some (.int x), some (.int (0 + (i : Int))), some (.int z), c], _, ?_, rfl, z, x, _, _, _, rfl, ?_, bx.1, bx.2⟩
          · unfold bodyF ir_law_start_b1
            simp only [x_nil, x_cons, x_set, x_setp, x_ret, x_par, x_expr, x_setI, x_aug, x_ite, x_for, x_whl, x_brk, x_cnt, x_pass, x_retN, seq_nx, seq_ret, seq_brk, seq_cnt, seq_none, seq_bnd, seq_if, v_var, v_int, v_bl, v_non, v_str, v_bin, v_neg, v_cmp, v_chn, v_boo, v_not, v_ite, v_tup0, v_tup1, v_tup2, v_idx, v_slc, v_call, v_bi, v_isi, v_lst, v_tupL, v_nilL, v_app, v_ext, a_nil, a_cons, a_disp1, a_disp2, a_disp3, a_comp, o_nil, o_var, o_int, o_neg, o_bin, o_bi, vb_one, vb_more, tb_one, tb_more, t_nil, t_boo, t_not, t_cmp, t_chn, t_call, t_isi, t_nilL, t_var, i_seq, i_rng1, i_rng2, i_enm, b_add, b_sub, b_mul, b_fdiv, b_mod, b_pow, b_cat, b_rep, c_lt, c_le, c_gt, c_ge, c_eq, c_ne, c_isn, q_int, len_tup, len_ref, k_min, k_max, k_int, k_tup, k_tupr, k_lst, ix_tup, ix_ref, sl_tup, end_ret, end_nx, end_if, end_none, bnd_grd, bnd_bnd, bnd_match, bnd_some, bnd_none, getv, setv, setvs, wipev, asg, Option.map_some, Option.map_none, List.length_cons, List.length_nil, List.getElem?_cons_zero, List.getElem?_cons_succ, if_true, truD, decide_eq_true_eq, List.replicate, List.map_cons, List.map_nil, List.cons_append, List.nil_append, ite_true, ite_false, if_false, decide_true, decide_false, and_self, true_and, and_true, true_or, or_true, or_self, reduceCtorEq, Bool.false_eq_true, Bool.true_eq_false, Bool.not_true, Bool.not_false, false_and, and_false, false_or, or_false, gc_same, Int.sub_zero, Int.toNat_natCast, Int.reduceToNat, okS, rngD, hi, hget, pw, c2, m1, m2, m3, hx, p1, beq_self_eq_true]
          · have : (10 : Int) ^ 18 = 1000000000000000000 := by decide
            omega
        · refine ⟨[some (.ref n), some (.int 0), some (.int x), some (.int (0 + (i : Int))), some (.int z), c], _, ?_, rfl, 0, x, _, _, _, rfl, hg, bx.1, bx.2⟩
          unfold bodyF ir_law_start_b1
          simp only [x_nil, x_cons, x_set, x_setp, x_ret, x_par, x_expr, x_setI, x_aug, x_ite, x_for, x_whl, x_brk, x_cnt, x_pass, x_retN, seq_nx, seq_ret, seq_brk, seq_cnt, seq_none, seq_bnd, seq_if, v_var, v_int, v_bl, v_non, v_str, v_bin, v_neg, v_cmp, v_chn, v_boo, v_not, v_ite, v_tup0, v_tup1, v_tup2, v_idx, v_slc, v_call, v_bi, v_isi, v_lst, v_tupL, v_nilL, v_app, v_ext, a_nil, a_cons, a_disp1, a_disp2, a_disp3, a_comp, o_nil, o_var, o_int, o_neg, o_bin, o_bi, vb_one, vb_more, tb_one, tb_more, t_nil, t_boo, t_not, t_cmp, t_chn, t_call, t_isi, t_nilL, t_var, i_seq, i_rng1, i_rng2, i_enm, b_add, b_sub, b_mul, b_fdiv, b_mod, b_pow, b_cat, b_rep, c_lt, c_le, c_gt, c_ge, c_eq, c_ne, c_isn, q_int, len_tup, len_ref, k_min, k_max, k_int, k_tup, k_tupr, k_lst, ix_tup, ix_ref, sl_tup, end_ret, end_nx, end_if, end_none, bnd_grd, bnd_bnd, bnd_match, bnd_some, bnd_none, getv, setv, setvs, wipev, asg, Option.map_some, Option.map_none, List.length_cons, List.length_nil, List.getElem?_cons_zero, List.getElem?_cons_succ, if_true, truD, decide_eq_true_eq, List.replicate, List.map_cons, List.map_nil, List.cons_append, List.nil_append, ite_true, ite_false, if_false, decide_true, decide_false, and_self, true_and, and_true, true_or, or_true, or_self, reduceCtorEq, Bool.false_eq_true, Bool.true_eq_false, Bool.not_true, Bool.not_false, false_and, and_false, false_or, or_false, gc_same, Int.sub_zero, Int.toNat_natCast, Int.reduceToNat, okS, rngD, hi, hget, pw, c2, m1, m2, m3, hx, p1, beq_self_eq_true]
      · have c3 : (g == 0) = false := beq_eq_false_iff_ne.mpr c1
        refine ⟨[some (.ref n), some (.int g), some (.int x), some (.int (0 + (i : Int))), some (.int z), c], _, ?_, rfl, g, x, _, _, _, rfl, hg, bx.1, bx.2⟩
        unfold bodyF ir_law_start_b1
        simp only [x_nil, x_cons, x_set, x_setp, x_ret, x_par, x_expr, x_setI, x_aug, x_ite, x_for, x_whl, x_brk, x_cnt, x_pass, x_retN, seq_nx, seq_ret, seq_brk, seq_cnt, seq_none, seq_bnd, seq_if, v_var, v_int, v_bl, v_non, v_str, v_bin, v_neg, v_cmp, v_chn, v_boo, v_not, v_ite, v_tup0, v_tup1, v_tup2, v_idx, v_slc, v_call, v_bi, v_isi, v_lst, v_tupL, v_nilL, v_app, v_ext, a_nil, a_cons, a_disp1, a_disp2, a_disp3, a_comp, o_nil, o_var, o_int, o_neg, o_bin, o_bi, vb_one, vb_more, tb_one, tb_more, t_nil, t_boo, t_not, t_cmp, t_chn, t_call, t_isi, t_nilL, t_var, i_seq, i_rng1, i_rng2, i_enm, b_add, b_sub, b_mul, b_fdiv, b_mod, b_pow, b_cat, b_rep, c_lt, c_le, c_gt, c_ge, c_eq, c_ne, c_isn, q_int, len_tup, len_ref, k_min, k_max, k_int, k_tup, k_tupr, k_lst, ix_tup, ix_ref, sl_tup, end_ret, end_nx, end_if, end_none, bnd_grd, bnd_bnd, bnd_match, bnd_some, bnd_none, getv, setv, setvs, wipev, asg, Option.map_some, Option.map_none, List.length_cons, List.length_nil, List.getElem?_cons_zero, List.getElem?_cons_succ, if_true, truD, decide_eq_true_eq, List.replicate, List.map_cons, List.map_nil, List.cons_append, List.nil_append, ite_true, ite_false, if_false, decide_true, decide_false, and_self, true_and, and_true, true_or, or_true, or_self, reduceCtorEq, Bool.false_eq_true, Bool.true_eq_false, Bool.not_true, Bool.not_false, false_and, and_false, false_or, or_false, gc_same, Int.sub_zero, Int.toNat_natCast, Int.reduceToNat, okS, rngD, hi, hget, pw, c1, c3, m1, m2, m3, hx, p1])
    (fun _ _ _ => trivial) ⟨rfl, 0, 17, none, none, none, rfl, by decide, by decide, by decide⟩
  obtain ⟨e1, S1, hl1, rfl, g, s, a, b, c, rfl, hg, hs0, hs1⟩ := loop1
  have loop2 := for_inv (b := bodyF (.nm 5) (exec [] ir_law_start_b2)) (ok := fun _ => True)
    (fun i e S' => S' = S1 ∧ ∃ (s : Int) (a b c : Option D), e = [some (.ref n), some (.int g), some (.int s), a, b, c] ∧ 0 ≤ s ∧ s < 2147483629) (ds := rng 0 3) (k := 0) (e := [some (.ref n), some (.int g), some (.int s), a, b, c]) (S := S1)
    (fun i d e S' hd ⟨hS, s, a, b, c, he, hs0, hs1⟩ => by
      refine ⟨trivial, ?_⟩
      obtain ⟨hi2, rfl⟩ := rng_get hd
      subst hS he
      have m1 : small s := small_of (by omega)
      have m2 : small 48271 := small_of (by omega)
      have m3 : small 91 := small_of (by omega)
      generalize hx : (s * s + 48271 * s + 91 * (0 + (i : Int)) + 7) % 2147483629 = x
      have bx : 0 ≤ x ∧ x < 2147483629 := by rw [← hx]; exact ⟨Int.emod_nonneg _ (by decide), Int.emod_lt_of_pos _ (by decide)⟩
      refine ⟨[some (.ref n), some (.int g), some (.int x), a, b, some (.int (0 + (i : Int)))], _, ?_, rfl, x, _, _, _, rfl, bx.1, bx.2⟩
      unfold bodyF ir_law_start_b2
      simp only [x_nil, x_cons, x_set, x_setp, x_ret, x_par, x_expr, x_setI, x_aug, x_ite, x_for, x_whl, x_brk, x_cnt, x_pass, x_retN, seq_nx, seq_ret, seq_brk, seq_cnt, seq_none, seq_bnd, seq_if, v_var, v_int, v_bl, v_non, v_str, v_bin, v_neg, v_cmp, v_chn, v_boo, v_not, v_ite, v_tup0, v_tup1, v_tup2, v_idx, v_slc, v_call, v_bi, v_isi, v_lst, v_tupL, v_nilL, v_app, v_ext, a_nil, a_cons, a_disp1, a_disp2, a_disp3, a_comp, o_nil, o_var, o_int, o_neg, o_bin, o_bi, vb_one, vb_more, tb_one, tb_more, t_nil, t_boo, t_not, t_cmp, t_chn, t_call, t_isi, t_nilL, t_var, i_seq, i_rng1, i_rng2, i_enm, b_add, b_sub, b_mul, b_fdiv, b_mod, b_pow, b_cat, b_rep, c_lt, c_le, c_gt, c_ge, c_eq, c_ne, c_isn, q_int, len_tup, len_ref, k_min, k_max, k_int, k_tup, k_tupr, k_lst, ix_tup, ix_ref, sl_tup, end_ret, end_nx, end_if, end_none, bnd_grd, bnd_bnd, bnd_match, bnd_some, bnd_none, getv, setv, setvs, wipev, asg, Option.map_some, Option.map_none, List.length_cons, List.length_nil, List.getElem?_cons_zero, List.getElem?_cons_succ, if_true, truD, decide_eq_true_eq, List.replicate, List.map_cons, List.map_nil, List.cons_append, List.nil_append, ite_true, ite_false, if_false, decide_true, decide_false, and_self, true_and, and_true, true_or, or_true, or_self, reduceCtorEq, Bool.false_eq_true, Bool.true_eq_false, Bool.not_true, Bool.not_false, false_and, and_false, false_or, or_false, gc_same, Int.sub_zero, Int.toNat_natCast, Int.reduceToNat, okS, rngD, m1, m2, m3, hx, p1])
    (fun _ _ _ => trivial) ⟨rfl, s, a, b, c, rfl, hs0, hs1⟩
  obtain ⟨e2, S2, hl2, rfl, s2, a, b, c, rfl, hs0, hs1⟩ := loop2
  refine ⟨g, s2, hg, hs0, hs1, ?_⟩
  unfold F_start fnD ir_law_start
  have l3 : (3 : Int) - 0 = 3 := (rfl)
  simp only [x_nil, x_cons, x_set, x_setp, x_ret, x_par, x_expr, x_setI, x_aug, x_ite, x_for, x_whl, x_brk, x_cnt, x_pass, x_retN, seq_nx, seq_ret, seq_brk, seq_cnt, seq_none, seq_bnd, seq_if, v_var, v_int, v_bl, v_non, v_str, v_bin, v_neg, v_cmp, v_chn, v_boo, v_not, v_ite, v_tup0, v_tup1, v_tup2, v_idx, v_slc, v_call, v_bi, v_isi, v_lst, v_tupL, v_nilL, v_app, v_ext, a_nil, a_cons, a_disp1, a_disp2, a_disp3, a_comp, o_nil, o_var, o_int, o_neg, o_bin, o_bi, vb_one, vb_more, tb_one, tb_more, t_nil, t_boo, t_not, t_cmp, t_chn, t_call, t_isi, t_nilL, t_var, i_seq, i_rng1, i_rng2, i_enm, b_add, b_sub, b_mul, b_fdiv, b_mod, b_pow, b_cat, b_rep, c_lt, c_le, c_gt, c_ge, c_eq, c_ne, c_isn, q_int, len_tup, len_ref, k_min, k_max, k_int, k_tup, k_tupr, k_lst, ix_tup, ix_ref, sl_tup, end_ret, end_nx, end_if, end_none, bnd_grd, bnd_bnd, bnd_match, bnd_some, bnd_none, getv, setv, setvs, wipev, asg, Option.map_some, Option.map_none, List.length_cons, List.length_nil, List.getElem?_cons_zero, List.getElem?_cons_succ, if_true, truD, decide_eq_true_eq, List.replicate, List.map_cons, List.map_nil, List.cons_append, List.nil_append, ite_true, ite_false, if_false, decide_true, decide_false, and_self, true_and, and_true, true_or, or_true, or_self, reduceCtorEq, Bool.false_eq_true, Bool.true_eq_false, Bool.not_true, Bool.not_false, false_and, and_false, false_or, or_false, gc_same, Int.sub_zero, Int.toNat_natCast, Int.reduceToNat, okS, rngD, hi, hlen, rngD, lim0, lim3, limn, hmin, okS, hl1, hl2, gc_ref]
end M

/-! P3: drawn words and lassos, and what the law works out. -/
namespace M
open PySem (Str PyData)
open L2 (atI ixN)
theorem Drw.lt {S : Sto} {h : Nat} (d : Drw S h) : h < S.length := by
  obtain ⟨g, s, n, e, _⟩ := d
  exact (List.getElem?_eq_some_iff.mp e).1
theorem Drw.app {S t : Sto} {h : Nat} (d : Drw S h) : Drw (S ++ t) h := by
  obtain ⟨g, s, n, e, r⟩ := id d
  exact ⟨g, s, n, by rw [List.getElem?_append_left d.lt]; exact e, r⟩
theorem gc_word {S : Sto} {d : D} {h : Nat} {o : Ob} : gcD S d (S.set h o) = (d, S.set h o) := gc_set
/-- the letters of a word are below k -/
def Below (k : Int) (w : List Int) : Prop := ∀ x ∈ w, 0 ≤ x ∧ x < k
theorem Below.app {k : Int} {v w : List Int} (a : Below k v) (b : Below k w) : Below k (v ++ w) := fun x h => (List.mem_append.mp h).elim (a x) (b x)
theorem Below.sub {k : Int} {v w : List Int} (a : Below k v) (h : ∀ x ∈ w, x ∈ v) : Below k w := fun x hx => a x (h x hx)
theorem set_self {S : Sto} {h : Nat} {o : Ob} (e : S[h]? = some o) : S.set h o = S := by
  apply List.ext_getElem?
  intro j
  by_cases hj : h = j
  · subst hj
    rw [List.getElem?_set_self (List.getElem?_eq_some_iff.mp e).1, e]
  · rw [List.getElem?_set_ne hj]
theorem set_set' {S : Sto} {h : Nat} {o o' : Ob} : (S.set h o).set h o' = S.set h o' := List.set_set ..
noncomputable def F_word : Fn := fnD [F_take] 4 3 ir_law_word
theorem word_ok {S : Sto} {h : Nat} {k n : Int} (d : Drw S h) (k0 : 0 < k) (k1 : k < 1000000000) (n0 : 0 ≤ n) (n1 : n ≤ 1000) : ∃ (w : List Int) (o : Ob), (w.length : Int) = n ∧ Below k w ∧ F_word [.ref h, .int k, .int n] S = some (W w, S.set h o) ∧ Drw (S.set h o) h := by
  obtain ⟨o0, ho0⟩ : ∃ o0, S[h]? = some o0 := let ⟨g, s, n, e, _⟩ := d; ⟨_, e⟩
  have hs0 : S = S.set h o0 := (set_self ho0).symm
  have lim0 : lim62 0 := lim_ok (by decide)
  have limn : lim62 n := lim_ok (by omega)
  have main := comp_map (b := turnF [3] (.nm 3) (sem [F_take] .nil).t (sem [F_take] ir_law_word_e1).v [some (.ref h), some (.int k), some (.int n), none]) (ok := fun _ => True) D.int
    (fun i ys S' => ys.length = i ∧ Below k ys ∧ ∃ o, S' = S.set h o ∧ Drw S' h) (ds := rng 0 n.toNat) (k := 0) (acc := []) (S := S)
    (fun i d acc S' hd ⟨hl, hb, o, hS, hD⟩ => by
      obtain ⟨hi, rfl⟩ := rng_get hd
      obtain ⟨x, o', x0, x1, hx, hD'⟩ := take_ok hD k0 k1
      refine ⟨trivial, by unfold LIM; omega, x, S'.set h o', ?_, by simp [hl], ?_, o', by rw [hS, set_set'], hD'⟩
      · unfold turnF ir_law_word_e1
        simp only [x_nil, x_cons, x_set, x_setp, x_ret, x_par, x_expr, x_setI, x_aug, x_ite, x_for, x_whl, x_brk, x_cnt, x_pass, x_retN, seq_nx, seq_ret, seq_brk, seq_cnt, seq_none, seq_bnd, seq_if, v_var, v_int, v_bl, v_non, v_str, v_bin, v_neg, v_cmp, v_chn, v_boo, v_not, v_ite, v_tup0, v_tup1, v_tup2, v_idx, v_slc, v_call, v_bi, v_isi, v_lst, v_tupL, v_nilL, v_app, v_ext, a_nil, a_cons, a_disp1, a_disp2, a_disp3, a_comp, o_nil, o_var, o_int, o_neg, o_bin, o_bi, vb_one, vb_more, tb_one, tb_more, t_nil, t_boo, t_not, t_cmp, t_chn, t_call, t_isi, t_nilL, t_var, i_seq, i_rng1, i_rng2, i_enm, b_add, b_sub, b_mul, b_fdiv, b_mod, b_pow, b_cat, b_rep, c_lt, c_le, c_gt, c_ge, c_eq, c_ne, c_isn, q_int, len_tup, len_ref, k_min, k_max, k_int, k_tup, k_tupr, k_lst, ix_tup, ix_ref, sl_tup, end_ret, end_nx, end_if, end_none, bnd_grd, bnd_bnd, bnd_match, bnd_some, bnd_none, getv, setv, setvs, wipev, asg, Option.map_some, Option.map_none, List.length_cons, List.length_nil, List.getElem?_cons_zero, List.getElem?_cons_succ, if_true, truD, decide_eq_true_eq, List.replicate, List.map_cons, List.map_nil, List.cons_append, List.nil_append, ite_true, ite_false, if_false, decide_true, decide_false, and_self, true_and, and_true, true_or, or_true, or_self, reduceCtorEq, Bool.false_eq_true, Bool.true_eq_false, Bool.not_true, Bool.not_false, false_and, and_false, false_or, or_false, gc_same, Int.sub_zero, Int.toNat_natCast, Int.reduceToNat, okS, rngD, hx]
      · intro y hy
        rcases List.mem_append.mp hy with z | z
        · exact hb y z
        · rw [List.mem_singleton.mp z]
          exact ⟨x0, x1⟩)
    (fun _ _ _ => trivial) ⟨rfl, (fun _ h => absurd h List.not_mem_nil), o0, hs0, d⟩
  obtain ⟨w, S', hc, hl, hb, o, rfl, hD⟩ := main
  refine ⟨w, o, ?_, hb, ?_, hD⟩
  · rw [rng_len] at hl
    omega
  · unfold F_word fnD ir_law_word
    simp only [x_nil, x_cons, x_set, x_setp, x_ret, x_par, x_expr, x_setI, x_aug, x_ite, x_for, x_whl, x_brk, x_cnt, x_pass, x_retN, seq_nx, seq_ret, seq_brk, seq_cnt, seq_none, seq_bnd, seq_if, v_var, v_int, v_bl, v_non, v_str, v_bin, v_neg, v_cmp, v_chn, v_boo, v_not, v_ite, v_tup0, v_tup1, v_tup2, v_idx, v_slc, v_call, v_bi, v_isi, v_lst, v_tupL, v_nilL, v_app, v_ext, a_nil, a_cons, a_disp1, a_disp2, a_disp3, a_comp, o_nil, o_var, o_int, o_neg, o_bin, o_bi, vb_one, vb_more, tb_one, tb_more, t_nil, t_boo, t_not, t_cmp, t_chn, t_call, t_isi, t_nilL, t_var, i_seq, i_rng1, i_rng2, i_enm, b_add, b_sub, b_mul, b_fdiv, b_mod, b_pow, b_cat, b_rep, c_lt, c_le, c_gt, c_ge, c_eq, c_ne, c_isn, q_int, len_tup, len_ref, k_min, k_max, k_int, k_tup, k_tupr, k_lst, ix_tup, ix_ref, sl_tup, end_ret, end_nx, end_if, end_none, bnd_grd, bnd_bnd, bnd_match, bnd_some, bnd_none, getv, setv, setvs, wipev, asg, Option.map_some, Option.map_none, List.length_cons, List.length_nil, List.getElem?_cons_zero, List.getElem?_cons_succ, if_true, truD, decide_eq_true_eq, List.replicate, List.map_cons, List.map_nil, List.cons_append, List.nil_append, ite_true, ite_false, if_false, decide_true, decide_false, and_self, true_and, and_true, true_or, or_true, or_self, reduceCtorEq, Bool.false_eq_true, Bool.true_eq_false, Bool.not_true, Bool.not_false, false_and, and_false, false_or, or_false, gc_same, Int.sub_zero, Int.toNat_natCast, Int.reduceToNat, okS, rngD, lim0, limn]
    rw [List.map_nil] at hc
    simp only [x_nil, x_cons, x_set, x_setp, x_ret, x_par, x_expr, x_setI, x_aug, x_ite, x_for, x_whl, x_brk, x_cnt, x_pass, x_retN, seq_nx, seq_ret, seq_brk, seq_cnt, seq_none, seq_bnd, seq_if, v_var, v_int, v_bl, v_non, v_str, v_bin, v_neg, v_cmp, v_chn, v_boo, v_not, v_ite, v_tup0, v_tup1, v_tup2, v_idx, v_slc, v_call, v_bi, v_isi, v_lst, v_tupL, v_nilL, v_app, v_ext, a_nil, a_cons, a_disp1, a_disp2, a_disp3, a_comp, o_nil, o_var, o_int, o_neg, o_bin, o_bi, vb_one, vb_more, tb_one, tb_more, t_nil, t_boo, t_not, t_cmp, t_chn, t_call, t_isi, t_nilL, t_var, i_seq, i_rng1, i_rng2, i_enm, b_add, b_sub, b_mul, b_fdiv, b_mod, b_pow, b_cat, b_rep, c_lt, c_le, c_gt, c_ge, c_eq, c_ne, c_isn, q_int, len_tup, len_ref, k_min, k_max, k_int, k_tup, k_tupr, k_lst, ix_tup, ix_ref, sl_tup, end_ret, end_nx, end_if, end_none, bnd_grd, bnd_bnd, bnd_match, bnd_some, bnd_none, getv, setv, setvs, wipev, asg, Option.map_some, Option.map_none, List.length_cons, List.length_nil, List.getElem?_cons_zero, List.getElem?_cons_succ, if_true, truD, decide_eq_true_eq, List.replicate, List.map_cons, List.map_nil, List.cons_append, List.nil_append, ite_true, ite_false, if_false, decide_true, decide_false, and_self, true_and, and_true, true_or, or_true, or_self, reduceCtorEq, Bool.false_eq_true, Bool.true_eq_false, Bool.not_true, Bool.not_false, false_and, and_false, false_or, or_false, gc_same, Int.sub_zero, Int.toNat_natCast, Int.reduceToNat, okS, rngD, hc, gc_set]
end M

/-! P4: words compared; lassos drawn, their letters, their least lassos. -/
namespace M
open PySem (Str PyData)
open L2 (atI ixN)
/-! ### == of words -/
theorem pd_ints (S : Sto) (k : Nat) : ∀ w : List Int, (iD w).mapM (pd S (k + 1)) = some (w.map PyData.int)
  | [] => rfl
  | x :: r => by
    show ((D.int x) :: iD r).mapM (pd S (k + 1)) = _
    rw [List.mapM_cons, pd_ints S k r]
    rfl
theorem pd_W (S : Sto) (k : Nat) (w : List Int) : pd S (k + 2) (W w) = some (.tuple (w.map PyData.int)) := by
  show ((iD w).mapM (pd S (k + 1))).map PyData.tuple = _
  rw [pd_ints]
  rfl
theorem lay_ints : ∀ w : List Int, PyData.canLayAll0 (w.map PyData.int) = true
  | [] => rfl
  | x :: r => by
    show (PyData.canLay0 (.int x) && PyData.canLayAll0 (r.map PyData.int)) = true
    rw [lay_ints r]
    rfl
theorem dep_ints : ∀ w : List Int, PyData.depthAll (w.map PyData.int) = 0
  | [] => rfl
  | x :: r => by
    show max (PyData.depth (.int x)) (PyData.depthAll (r.map PyData.int)) = 0
    rw [dep_ints r]
    rfl
theorem shp_tup {ps : List PyData} (h1 : PyData.canLayAll0 ps = true) (h2 : PyData.depthAll ps ≤ 63) : shp (.tuple ps) := ⟨h1, by
  show PyData.depthAll ps + 1 ≤ 64
  omega⟩
theorem eqv_ints : ∀ v w : List Int, PyData.eqvAll (v.map PyData.int) (w.map PyData.int) = decide (v = w)
  | [], [] => by simp [PyData.eqvAll]
  | [], _ :: _ => by simp [PyData.eqvAll]
  | _ :: _, [] => by simp [PyData.eqvAll]
  | x :: v, y :: w => by
    show (PyData.eqv (.int x) (.int y) && PyData.eqvAll (v.map PyData.int) (w.map PyData.int)) = _
    rw [eqv_ints v w]
    show ((x == y) && _) = _
    by_cases h1 : x = y <;> by_cases h2 : v = w <;> simp [h1, h2]
theorem eqD_of {S : Sto} {x y : D} {p q : PyData} (h1 : pd S 64 x = some p) (h2 : pd S 64 y = some q) (s1 : shp p) (s2 : shp q) : eqD S x y = some (PyData.eqv p q) := by
  unfold eqD
  rw [h1, h2]
  exact if_pos ⟨s1, s2⟩
theorem q_W {S : Sto} {v w : List Int} : eqD S (W v) (W w) = some (decide (v = w)) := by
  rw [eqD_of (pd_W S 62 v) (pd_W S 62 w) (shp_tup (lay_ints v) (by rw [dep_ints]; decide)) (shp_tup (lay_ints w) (by rw [dep_ints]; decide))]
  exact congrArg some (eqv_ints v w)
theorem W_nil : D.tup [] = W [] := rfl
theorem q_W0 {S : Sto} {v : List Int} : eqD S (W v) (.tup []) = some (decide (v = [])) := q_W (w := [])
theorem W_app (v w : List Int) : iD v ++ iD w = iD (v ++ w) := (List.map_append ..).symm
theorem W_drop (v : List Int) (n : Nat) : (iD v).drop n = iD (v.drop n) := (List.map_drop ..).symm
theorem W_take (v : List Int) (n : Nat) : (iD v).take n = iD (v.take n) := (List.map_take ..).symm
theorem W_len (v : List Int) : (iD v).length = v.length := List.length_map ..
theorem W_rep (v : List Int) (n : Nat) : (List.replicate n (iD v)).flatten = iD (List.replicate n v).flatten := by
  induction n with
  | zero => rfl
  | succ n ih => rw [List.replicate_succ, List.replicate_succ, List.flatten_cons, List.flatten_cons, ih, W_app]
theorem W_at (v : List Int) (i : Nat) : (iD v)[i]? = (v[i]?).map D.int := List.getElem?_map ..
/-! ### _law_lasso -/
noncomputable def F_lasso : Fn := fnD [F_word, F_take] 7 4 ir_law_lasso
theorem lasso_ok {S : Sto} {h : Nat} {k most turn : Int} (d : Drw S h) (k0 : 0 < k) (k1 : k < 1000000000) (m0 : 0 ≤ most) (m1 : most ≤ 200) (t0 : 0 < turn) (t1 : turn ≤ 200) :
    ∃ (l : Ls) (o : Ob), l.2 ≠ [] ∧ Below k l.1 ∧ Below k l.2 ∧ (l.1.length : Int) ≤ most + turn ∧ (l.2.length : Int) ≤ 3 * turn ∧ F_lasso [.ref h, .int k, .int most, .int turn] S = some (La l, S.set h o) ∧ Drw (S.set h o) h := by
  obtain ⟨x1, o1, x10, x11, e1, d1⟩ := take_ok d (m := most + 1) (by omega) (by omega)
  obtain ⟨f, o2, fl, fb, e2, d2⟩ := word_ok d1 k0 k1 (n := x1) x10 (by omega)
  rw [set_set'] at e2 d2
  obtain ⟨x3, o3, x30, x31, e3, d3⟩ := take_ok d2 (m := turn) (by omega) (by omega)
  rw [set_set'] at e3 d3
  obtain ⟨l, o4, ll, lb, e4, d4⟩ := word_ok d3 k0 k1 (n := 1 + x3) (by omega) (by omega)
  rw [set_set'] at e4 d4
  obtain ⟨x5, o5, x50, x51, e5, d5⟩ := take_ok d4 (m := 6) (by omega) (by omega)
  rw [set_set'] at e5 d5
  have ln : l ≠ [] := fun z => by rw [z] at ll; simp at ll; omega
  have lf : (iD f).length + (iD l).length ≤ LIM := by rw [W_len, W_len]; unfold LIM; omega
  have lll : (iD l).length + (iD l).length ≤ LIM := by rw [W_len]; unfold LIM; omega
  by_cases c0 : x5 = 0
  · subst c0
    refine ⟨(f, l ++ l), o5, by simp [ln], fb, lb.app lb, ?_, ?_, ?_, d5⟩
    · simp only; omega
    · rw [List.length_append]; simp only [Int.natCast_add]; omega
    · unfold F_lasso fnD ir_law_lasso
      simp only [x_nil, x_cons, x_set, x_setp, x_ret, x_par, x_expr, x_setI, x_aug, x_ite, x_for, x_whl, x_brk, x_cnt, x_pass, x_retN, seq_nx, seq_ret, seq_brk, seq_cnt, seq_none, seq_bnd, seq_if, v_var, v_int, v_bl, v_non, v_str, v_bin, v_neg, v_cmp, v_chn, v_boo, v_not, v_ite, v_tup0, v_tup1, v_tup2, v_idx, v_slc, v_call, v_bi, v_isi, v_lst, v_tupL, v_nilL, v_app, v_ext, a_nil, a_cons, a_disp1, a_disp2, a_disp3, a_comp, o_nil, o_var, o_int, o_neg, o_bin, o_bi, vb_one, vb_more, tb_one, tb_more, t_nil, t_boo, t_not, t_cmp, t_chn, t_call, t_isi, t_nilL, t_var, i_seq, i_rng1, i_rng2, i_enm, b_add, b_sub, b_mul, b_fdiv, b_mod, b_pow, b_cat, b_rep, c_lt, c_le, c_gt, c_ge, c_eq, c_ne, c_isn, q_int, len_tup, len_ref, k_min, k_max, k_int, k_tup, k_tupr, k_lst, ix_tup, ix_ref, sl_tup, end_ret, end_nx, end_if, end_none, bnd_grd, bnd_bnd, bnd_match, bnd_some, bnd_none, getv, setv, setvs, wipev, asg, Option.map_some, Option.map_none, List.length_cons, List.length_nil, List.getElem?_cons_zero, List.getElem?_cons_succ, if_true, truD, decide_eq_true_eq, List.replicate, List.map_cons, List.map_nil, List.cons_append, List.nil_append, ite_true, ite_false, if_false, decide_true, decide_false, and_self, true_and, and_true, true_or, or_true, or_self, reduceCtorEq, Bool.false_eq_true, Bool.true_eq_false, Bool.not_true, Bool.not_false, false_and, and_false, false_or, or_false, gc_same, Int.sub_zero, Int.toNat_natCast, Int.reduceToNat, okS, rngD, e1, e2, e3, e4, e5, beq_self_eq_true, lll, W_app, gc_set]
  · have b0 : (x5 == 0) = false := beq_eq_false_iff_ne.mpr c0
    by_cases c1 : x5 = 1
    · subst c1
      refine ⟨(f ++ l, l), o5, ln, fb.app lb, lb, ?_, ?_, ?_, d5⟩
      · rw [List.length_append]; simp only [Int.natCast_add]; omega
      · simp only; omega
      · unfold F_lasso fnD ir_law_lasso
        simp only [x_nil, x_cons, x_set, x_setp, x_ret, x_par, x_expr, x_setI, x_aug, x_ite, x_for, x_whl, x_brk, x_cnt, x_pass, x_retN, seq_nx, seq_ret, seq_brk, seq_cnt, seq_none, seq_bnd, seq_if, v_var, v_int, v_bl, v_non, v_str, v_bin, v_neg, v_cmp, v_chn, v_boo, v_not, v_ite, v_tup0, v_tup1, v_tup2, v_idx, v_slc, v_call, v_bi, v_isi, v_lst, v_tupL, v_nilL, v_app, v_ext, a_nil, a_cons, a_disp1, a_disp2, a_disp3, a_comp, o_nil, o_var, o_int, o_neg, o_bin, o_bi, vb_one, vb_more, tb_one, tb_more, t_nil, t_boo, t_not, t_cmp, t_chn, t_call, t_isi, t_nilL, t_var, i_seq, i_rng1, i_rng2, i_enm, b_add, b_sub, b_mul, b_fdiv, b_mod, b_pow, b_cat, b_rep, c_lt, c_le, c_gt, c_ge, c_eq, c_ne, c_isn, q_int, len_tup, len_ref, k_min, k_max, k_int, k_tup, k_tupr, k_lst, ix_tup, ix_ref, sl_tup, end_ret, end_nx, end_if, end_none, bnd_grd, bnd_bnd, bnd_match, bnd_some, bnd_none, getv, setv, setvs, wipev, asg, Option.map_some, Option.map_none, List.length_cons, List.length_nil, List.getElem?_cons_zero, List.getElem?_cons_succ, if_true, truD, decide_eq_true_eq, List.replicate, List.map_cons, List.map_nil, List.cons_append, List.nil_append, ite_true, ite_false, if_false, decide_true, decide_false, and_self, true_and, and_true, true_or, or_true, or_self, reduceCtorEq, Bool.false_eq_true, Bool.true_eq_false, Bool.not_true, Bool.not_false, false_and, and_false, false_or, or_false, gc_same, Int.sub_zero, Int.toNat_natCast, Int.reduceToNat, okS, rngD, e1, e2, e3, e4, e5, b0, beq_self_eq_true, lf, W_app, gc_set]
    · have b1 : (x5 == 1) = false := beq_eq_false_iff_ne.mpr c1
      by_cases c2 : x5 = 2
      · subst c2
        have cu : cut (iD l) (some 1) none = iD (l.drop 1) := by rw [cut_from _ (by decide), W_drop]; rfl
        have lf2 : (iD f).length + (iD (l.drop 1)).length ≤ LIM := by rw [W_len, W_len, List.length_drop]; unfold LIM; omega
        have l3 : (iD (l ++ l)).length + (iD l).length ≤ LIM := by rw [W_len, W_len, List.length_append]; unfold LIM; omega
        refine ⟨(f ++ l.drop 1, l ++ l ++ l), o5, by simp [ln], fb.app (lb.sub fun x hx => List.mem_of_mem_drop hx), (lb.app lb).app lb, ?_, ?_, ?_, d5⟩
        · rw [List.length_append, List.length_drop]; simp only [Int.natCast_add]; omega
        · rw [List.length_append, List.length_append]; simp only [Int.natCast_add]; omega
        · unfold F_lasso fnD ir_law_lasso
          simp only [x_nil, x_cons, x_set, x_setp, x_ret, x_par, x_expr, x_setI, x_aug, x_ite, x_for, x_whl, x_brk, x_cnt, x_pass, x_retN, seq_nx, seq_ret, seq_brk, seq_cnt, seq_none, seq_bnd, seq_if, v_var, v_int, v_bl, v_non, v_str, v_bin, v_neg, v_cmp, v_chn, v_boo, v_not, v_ite, v_tup0, v_tup1, v_tup2, v_idx, v_slc, v_call, v_bi, v_isi, v_lst, v_tupL, v_nilL, v_app, v_ext, a_nil, a_cons, a_disp1, a_disp2, a_disp3, a_comp, o_nil, o_var, o_int, o_neg, o_bin, o_bi, vb_one, vb_more, tb_one, tb_more, t_nil, t_boo, t_not, t_cmp, t_chn, t_call, t_isi, t_nilL, t_var, i_seq, i_rng1, i_rng2, i_enm, b_add, b_sub, b_mul, b_fdiv, b_mod, b_pow, b_cat, b_rep, c_lt, c_le, c_gt, c_ge, c_eq, c_ne, c_isn, q_int, len_tup, len_ref, k_min, k_max, k_int, k_tup, k_tupr, k_lst, ix_tup, ix_ref, sl_tup, end_ret, end_nx, end_if, end_none, bnd_grd, bnd_bnd, bnd_match, bnd_some, bnd_none, getv, setv, setvs, wipev, asg, Option.map_some, Option.map_none, List.length_cons, List.length_nil, List.getElem?_cons_zero, List.getElem?_cons_succ, if_true, truD, decide_eq_true_eq, List.replicate, List.map_cons, List.map_nil, List.cons_append, List.nil_append, ite_true, ite_false, if_false, decide_true, decide_false, and_self, true_and, and_true, true_or, or_true, or_self, reduceCtorEq, Bool.false_eq_true, Bool.true_eq_false, Bool.not_true, Bool.not_false, false_and, and_false, false_or, or_false, gc_same, Int.sub_zero, Int.toNat_natCast, Int.reduceToNat, okS, rngD, e1, e2, e3, e4, e5, b0, b1, beq_self_eq_true, cu, lf2, lll, l3, W_app, gc_set]
      · have b2 : (x5 == 2) = false := beq_eq_false_iff_ne.mpr c2
        refine ⟨(f, l), o5, ln, fb, lb, ?_, ?_, ?_, d5⟩
        · simp only; omega
        · simp only; omega
        · unfold F_lasso fnD ir_law_lasso
          simp only [x_nil, x_cons, x_set, x_setp, x_ret, x_par, x_expr, x_setI, x_aug, x_ite, x_for, x_whl, x_brk, x_cnt, x_pass, x_retN, seq_nx, seq_ret, seq_brk, seq_cnt, seq_none, seq_bnd, seq_if, v_var, v_int, v_bl, v_non, v_str, v_bin, v_neg, v_cmp, v_chn, v_boo, v_not, v_ite, v_tup0, v_tup1, v_tup2, v_idx, v_slc, v_call, v_bi, v_isi, v_lst, v_tupL, v_nilL, v_app, v_ext, a_nil, a_cons, a_disp1, a_disp2, a_disp3, a_comp, o_nil, o_var, o_int, o_neg, o_bin, o_bi, vb_one, vb_more, tb_one, tb_more, t_nil, t_boo, t_not, t_cmp, t_chn, t_call, t_isi, t_nilL, t_var, i_seq, i_rng1, i_rng2, i_enm, b_add, b_sub, b_mul, b_fdiv, b_mod, b_pow, b_cat, b_rep, c_lt, c_le, c_gt, c_ge, c_eq, c_ne, c_isn, q_int, len_tup, len_ref, k_min, k_max, k_int, k_tup, k_tupr, k_lst, ix_tup, ix_ref, sl_tup, end_ret, end_nx, end_if, end_none, bnd_grd, bnd_bnd, bnd_match, bnd_some, bnd_none, getv, setv, setvs, wipev, asg, Option.map_some, Option.map_none, List.length_cons, List.length_nil, List.getElem?_cons_zero, List.getElem?_cons_succ, if_true, truD, decide_eq_true_eq, List.replicate, List.map_cons, List.map_nil, List.cons_append, List.nil_append, ite_true, ite_false, if_false, decide_true, decide_false, and_self, true_and, and_true, true_or, or_true, or_self, reduceCtorEq, Bool.false_eq_true, Bool.true_eq_false, Bool.not_true, Bool.not_false, false_and, and_false, false_or, or_false, gc_same, Int.sub_zero, Int.toNat_natCast, Int.reduceToNat, okS, rngD, e1, e2, e3, e4, e5, b0, b1, b2, gc_set]
end M

/-! P5: letters, tails, least lassos: what is worked out, and what the program does. -/
namespace M
open PySem (Str PyData)
open L2 (atI ixN)
/-! ### the mirrors -/
/-- the letter at a place -/
def lat (l : Ls) (p : Nat) : Int := if p < l.1.length then l.1.getD p 0 else l.2.getD ((p - l.1.length) % l.2.length) 0
def ltail (l : Ls) (c : Nat) : Ls := if c ≤ l.1.length then (l.1.drop c, l.2) else ([], l.2.drop ((c - l.1.length) % l.2.length) ++ l.2.take ((c - l.1.length) % l.2.length))
def isRep (w : List Int) (s : Nat) : Prop := w.length % s = 0 ∧ (List.replicate (w.length / s) (w.take s)).flatten = w
instance (w : List Int) (s : Nat) : Decidable (isRep w s) := inferInstanceAs (Decidable (_ ∧ _))
/-- the first size from s on (n sizes are looked at) by which the word repeats -/
def repFrom (w : List Int) : Nat → Nat → Option Nat
  | 0, _ => none
  | n + 1, s => if isRep w s then some s else repFrom w n (s + 1)
def lloop (w : List Int) : List Int := match repFrom w (w.length - 1) 1 with
  | some s => w.take s
  | none => w
def shift : Nat → Ls → Ls
  | 0, l => l
  | n + 1, (f, l) => if f ≠ [] ∧ f[f.length - 1]? = l[l.length - 1]? then shift n (f.take (f.length - 1), l.drop (l.length - 1) ++ l.take (l.length - 1)) else (f, l)
def lleast (l : Ls) : Ls := shift l.1.length (l.1, lloop l.2)
theorem repFrom_some {w : List Int} : ∀ {n s r : Nat}, repFrom w n s = some r → ∃ j, r = s + j ∧ j < n ∧ isRep w r ∧ ∀ i, i < j → ¬ isRep w (s + i)
  | 0, _, _, h => by cases h
  | n + 1, s, r, h => by
    unfold repFrom at h
    by_cases c : isRep w s
    · rw [if_pos c] at h
      cases h
      exact ⟨0, rfl, Nat.succ_pos _, c, fun i hi => absurd hi (Nat.not_lt_zero i)⟩
    · rw [if_neg c] at h
      obtain ⟨j, h1, h2, h3, h4⟩ := repFrom_some h
      refine ⟨j + 1, by omega, by omega, h3, fun i hi => ?_⟩
      cases i with
      | zero => exact c
      | succ i =>
        have := h4 i (by omega)
        rw [show s + (i + 1) = s + 1 + i by omega]
        exact this
theorem repFrom_none {w : List Int} : ∀ {n s : Nat}, repFrom w n s = none → ∀ i, i < n → ¬ isRep w (s + i)
  | 0, _, _, i, hi => absurd hi (Nat.not_lt_zero i)
  | n + 1, s, h, i, hi => by
    unfold repFrom at h
    by_cases c : isRep w s
    · rw [if_pos c] at h
      cases h
    · rw [if_neg c] at h
      cases i with
      | zero => exact c
      | succ i =>
        have := repFrom_none h i (by omega)
        rw [show s + (i + 1) = s + 1 + i by omega]
        exact this
theorem isRep_all {w : List Int} (h : w ≠ []) : isRep w w.length := by
  have : 0 < w.length := List.length_pos_iff.mpr h
  refine ⟨Nat.mod_self _, ?_⟩
  rw [Nat.div_self this, List.take_length]
  simp
theorem lloop_ne {w : List Int} (h : w ≠ []) : lloop w ≠ [] := by
  unfold lloop
  split
  · rename_i s e
    obtain ⟨j, rfl, hj, _⟩ := repFrom_some e
    have h0 : 0 < w.length := List.length_pos_iff.mpr h
    intro z
    have z2 : (w.take (1 + j)).length = 0 := by rw [z]; rfl
    rw [List.length_take] at z2
    omega
  · exact h
theorem lloop_mem {w : List Int} {x : Int} (h : x ∈ lloop w) : x ∈ w := by
  unfold lloop at h
  split at h
  · exact List.mem_of_mem_take h
  · exact h
theorem lloop_len (w : List Int) : (lloop w).length ≤ w.length := by
  unfold lloop
  split
  · rw [List.length_take]; omega
  · exact Nat.le_refl _
theorem natmod {a b n : Nat} (h : a ≤ b) : ((b : Int) - a) % n = (((b - a) % n : Nat) : Int) := by
  rw [← Int.natCast_sub h, ← Int.natCast_emod]
/-! ### letters -/
noncomputable def F_at : Fn := fnD [] 2 2 ir_law_at
theorem getD_at {w : List Int} {i : Nat} (h : i < w.length) : (iD w)[i]? = some (.int (w.getD i 0)) := by
  rw [W_at, List.getElem?_eq_getElem h, List.getD_eq_getElem?_getD, List.getElem?_eq_getElem h]
  rfl
theorem at_ok {S : Sto} {l : Ls} {p : Nat} (h : l.2 ≠ []) : F_at [La l, .int p] S = some (.int (lat l p), S) := by
  have hl : 0 < l.2.length := List.length_pos_iff.mpr h
  unfold F_at fnD ir_law_at
  by_cases c : p < l.1.length
  · have c' : (p : Int) < (iD l.1).length := by rw [W_len]; omega
    have e1 : atI (iD l.1) (p : Int) = some (.int (lat l p)) := by
      rw [at_pos (by omega), Int.toNat_natCast, getD_at c]
      unfold lat
      rw [if_pos c]
    simp only [x_nil, x_cons, x_set, x_setp, x_ret, x_par, x_expr, x_setI, x_aug, x_ite, x_for, x_whl, x_brk, x_cnt, x_pass, x_retN, seq_nx, seq_ret, seq_brk, seq_cnt, seq_none, seq_bnd, seq_if, v_var, v_int, v_bl, v_non, v_str, v_bin, v_neg, v_cmp, v_chn, v_boo, v_not, v_ite, v_tup0, v_tup1, v_tup2, v_idx, v_slc, v_call, v_bi, v_isi, v_lst, v_tupL, v_nilL, v_app, v_ext, a_nil, a_cons, a_disp1, a_disp2, a_disp3, a_comp, o_nil, o_var, o_int, o_neg, o_bin, o_bi, vb_one, vb_more, tb_one, tb_more, t_nil, t_boo, t_not, t_cmp, t_chn, t_call, t_isi, t_nilL, t_var, i_seq, i_rng1, i_rng2, i_enm, b_add, b_sub, b_mul, b_fdiv, b_mod, b_pow, b_cat, b_rep, c_lt, c_le, c_gt, c_ge, c_eq, c_ne, c_isn, q_int, len_tup, len_ref, k_min, k_max, k_int, k_tup, k_tupr, k_lst, ix_tup, ix_ref, sl_tup, end_ret, end_nx, end_if, end_none, bnd_grd, bnd_bnd, bnd_match, bnd_some, bnd_none, getv, setv, setvs, wipev, asg, Option.map_some, Option.map_none, List.length_cons, List.length_nil, List.getElem?_cons_zero, List.getElem?_cons_succ, if_true, truD, decide_eq_true_eq, List.replicate, List.map_cons, List.map_nil, List.cons_append, List.nil_append, ite_true, ite_false, if_false, decide_true, decide_false, and_self, true_and, and_true, true_or, or_true, or_self, reduceCtorEq, Bool.false_eq_true, Bool.true_eq_false, Bool.not_true, Bool.not_false, false_and, and_false, false_or, or_false, gc_same, Int.sub_zero, Int.toNat_natCast, Int.reduceToNat, okS, rngD, at2_0, c', e1]
  · have c' : ¬ (p : Int) < (iD l.1).length := by rw [W_len]; omega
    have e0 : (0 : Int) < (iD l.2).length := by rw [W_len]; omega
    have e1 : atI (iD l.2) (((p : Int) - (iD l.1).length) % (iD l.2).length) = some (.int (lat l p)) := by
      rw [W_len, W_len]
      rw [natmod (by omega), at_pos (by omega), Int.toNat_natCast, getD_at (Nat.mod_lt _ hl)]
      unfold lat
      rw [if_neg c]
    simp only [x_nil, x_cons, x_set, x_setp, x_ret, x_par, x_expr, x_setI, x_aug, x_ite, x_for, x_whl, x_brk, x_cnt, x_pass, x_retN, seq_nx, seq_ret, seq_brk, seq_cnt, seq_none, seq_bnd, seq_if, v_var, v_int, v_bl, v_non, v_str, v_bin, v_neg, v_cmp, v_chn, v_boo, v_not, v_ite, v_tup0, v_tup1, v_tup2, v_idx, v_slc, v_call, v_bi, v_isi, v_lst, v_tupL, v_nilL, v_app, v_ext, a_nil, a_cons, a_disp1, a_disp2, a_disp3, a_comp, o_nil, o_var, o_int, o_neg, o_bin, o_bi, vb_one, vb_more, tb_one, tb_more, t_nil, t_boo, t_not, t_cmp, t_chn, t_call, t_isi, t_nilL, t_var, i_seq, i_rng1, i_rng2, i_enm, b_add, b_sub, b_mul, b_fdiv, b_mod, b_pow, b_cat, b_rep, c_lt, c_le, c_gt, c_ge, c_eq, c_ne, c_isn, q_int, len_tup, len_ref, k_min, k_max, k_int, k_tup, k_tupr, k_lst, ix_tup, ix_ref, sl_tup, end_ret, end_nx, end_if, end_none, bnd_grd, bnd_bnd, bnd_match, bnd_some, bnd_none, getv, setv, setvs, wipev, asg, Option.map_some, Option.map_none, List.length_cons, List.length_nil, List.getElem?_cons_zero, List.getElem?_cons_succ, if_true, truD, decide_eq_true_eq, List.replicate, List.map_cons, List.map_nil, List.cons_append, List.nil_append, ite_true, ite_false, if_false, decide_true, decide_false, and_self, true_and, and_true, true_or, or_true, or_self, reduceCtorEq, Bool.false_eq_true, Bool.true_eq_false, Bool.not_true, Bool.not_false, false_and, and_false, false_or, or_false, gc_same, Int.sub_zero, Int.toNat_natCast, Int.reduceToNat, okS, rngD, at2_0, at2_1, c', e0, e1]
/-! ### tails -/
noncomputable def F_tail : Fn := fnD [] 5 2 ir_tail
theorem tail_ok {S : Sto} {l : Ls} {c : Nat} (h : l.2 ≠ []) (hl : l.2.length ≤ 10000) : F_tail [La l, .int c] S = some (La (ltail l c), S) := by
  have h0 : 0 < l.2.length := List.length_pos_iff.mpr h
  unfold F_tail fnD ir_tail
  by_cases hc : c ≤ l.1.length
  · have c' : (c : Int) ≤ (iD l.1).length := by rw [W_len]; omega
    have e1 : cut (iD l.1) (some (c : Int)) none = iD (l.1.drop c) := by rw [cut_from _ (by omega), Int.toNat_natCast, W_drop]
    have e2 : ltail l c = (l.1.drop c, l.2) := by unfold ltail; rw [if_pos hc]
    rw [e2]
    simp only [x_nil, x_cons, x_set, x_setp, x_ret, x_par, x_expr, x_setI, x_aug, x_ite, x_for, x_whl, x_brk, x_cnt, x_pass, x_retN, seq_nx, seq_ret, seq_brk, seq_cnt, seq_none, seq_bnd, seq_if, v_var, v_int, v_bl, v_non, v_str, v_bin, v_neg, v_cmp, v_chn, v_boo, v_not, v_ite, v_tup0, v_tup1, v_tup2, v_idx, v_slc, v_call, v_bi, v_isi, v_lst, v_tupL, v_nilL, v_app, v_ext, a_nil, a_cons, a_disp1, a_disp2, a_disp3, a_comp, o_nil, o_var, o_int, o_neg, o_bin, o_bi, vb_one, vb_more, tb_one, tb_more, t_nil, t_boo, t_not, t_cmp, t_chn, t_call, t_isi, t_nilL, t_var, i_seq, i_rng1, i_rng2, i_enm, b_add, b_sub, b_mul, b_fdiv, b_mod, b_pow, b_cat, b_rep, c_lt, c_le, c_gt, c_ge, c_eq, c_ne, c_isn, q_int, len_tup, len_ref, k_min, k_max, k_int, k_tup, k_tupr, k_lst, ix_tup, ix_ref, sl_tup, end_ret, end_nx, end_if, end_none, bnd_grd, bnd_bnd, bnd_match, bnd_some, bnd_none, getv, setv, setvs, wipev, asg, Option.map_some, Option.map_none, List.length_cons, List.length_nil, List.getElem?_cons_zero, List.getElem?_cons_succ, if_true, truD, decide_eq_true_eq, List.replicate, List.map_cons, List.map_nil, List.cons_append, List.nil_append, ite_true, ite_false, if_false, decide_true, decide_false, and_self, true_and, and_true, true_or, or_true, or_self, reduceCtorEq, Bool.false_eq_true, Bool.true_eq_false, Bool.not_true, Bool.not_false, false_and, and_false, false_or, or_false, gc_same, Int.sub_zero, Int.toNat_natCast, Int.reduceToNat, okS, rngD, c', e1]
  · have c' : ¬ (c : Int) ≤ (iD l.1).length := by rw [W_len]; omega
    have e0 : (0 : Int) < (iD l.2).length := by rw [W_len]; omega
    have e3 : ((c : Int) - (iD l.1).length) % (iD l.2).length = (((c - l.1.length) % l.2.length : Nat) : Int) := by rw [W_len, W_len, natmod (by omega)]
    have e4 : cut (iD l.2) (some (((c - l.1.length) % l.2.length : Nat) : Int)) none = iD (l.2.drop ((c - l.1.length) % l.2.length)) := by rw [cut_from _ (by omega), Int.toNat_natCast, W_drop]
    have e5 : cut (iD l.2) none (some (((c - l.1.length) % l.2.length : Nat) : Int)) = iD (l.2.take ((c - l.1.length) % l.2.length)) := by rw [cut_to _ (by omega), Int.toNat_natCast, W_take]
    have e6 : (iD (l.2.drop ((c - l.1.length) % l.2.length))).length + (iD (l.2.take ((c - l.1.length) % l.2.length))).length ≤ LIM := by
      rw [W_len, W_len, List.length_drop, List.length_take]
      unfold LIM
      omega
    have e2 : ltail l c = ([], l.2.drop ((c - l.1.length) % l.2.length) ++ l.2.take ((c - l.1.length) % l.2.length)) := by unfold ltail; rw [if_neg hc]
    rw [e2]
    simp only [x_nil, x_cons, x_set, x_setp, x_ret, x_par, x_expr, x_setI, x_aug, x_ite, x_for, x_whl, x_brk, x_cnt, x_pass, x_retN, seq_nx, seq_ret, seq_brk, seq_cnt, seq_none, seq_bnd, seq_if, v_var, v_int, v_bl, v_non, v_str, v_bin, v_neg, v_cmp, v_chn, v_boo, v_not, v_ite, v_tup0, v_tup1, v_tup2, v_idx, v_slc, v_call, v_bi, v_isi, v_lst, v_tupL, v_nilL, v_app, v_ext, a_nil, a_cons, a_disp1, a_disp2, a_disp3, a_comp, o_nil, o_var, o_int, o_neg, o_bin, o_bi, vb_one, vb_more, tb_one, tb_more, t_nil, t_boo, t_not, t_cmp, t_chn, t_call, t_isi, t_nilL, t_var, i_seq, i_rng1, i_rng2, i_enm, b_add, b_sub, b_mul, b_fdiv, b_mod, b_pow, b_cat, b_rep, c_lt, c_le, c_gt, c_ge, c_eq, c_ne, c_isn, q_int, len_tup, len_ref, k_min, k_max, k_int, k_tup, k_tupr, k_lst, ix_tup, ix_ref, sl_tup, end_ret, end_nx, end_if, end_none, bnd_grd, bnd_bnd, bnd_match, bnd_some, bnd_none, getv, setv, setvs, wipev, asg, Option.map_some, Option.map_none, List.length_cons, List.length_nil, List.getElem?_cons_zero, List.getElem?_cons_succ, if_true, truD, decide_eq_true_eq, List.replicate, List.map_cons, List.map_nil, List.cons_append, List.nil_append, ite_true, ite_false, if_false, decide_true, decide_false, and_self, true_and, and_true, true_or, or_true, or_self, reduceCtorEq, Bool.false_eq_true, Bool.true_eq_false, Bool.not_true, Bool.not_false, false_and, and_false, false_or, or_false, gc_same, Int.sub_zero, Int.toNat_natCast, Int.reduceToNat, okS, rngD, c', e0, e3, e4, e5, e6, W_app]
    rfl
/-! ### joined -/
noncomputable def F_joined : Fn := fnD [] 2 2 ir_joined
theorem joined_ok {S : Sto} {l : Ls} {d : D} {w : List Int} (hd : sq S d = some (iD w)) (hl : w.length + l.1.length ≤ LIM) : F_joined [d, La l] S = some (La (w ++ l.1, l.2), S) := by
  have e1 : biD .tuple [d] S = some (W w, S) := by
    show (match sq S d with | some xs => some (D.tup xs, S) | none => none) = _
    rw [hd]
  have e2 : (iD w).length + (iD l.1).length ≤ LIM := by rw [W_len, W_len]; exact hl
  unfold F_joined fnD ir_joined
  simp only [x_nil, x_cons, x_set, x_setp, x_ret, x_par, x_expr, x_setI, x_aug, x_ite, x_for, x_whl, x_brk, x_cnt, x_pass, x_retN, seq_nx, seq_ret, seq_brk, seq_cnt, seq_none, seq_bnd, seq_if, v_var, v_int, v_bl, v_non, v_str, v_bin, v_neg, v_cmp, v_chn, v_boo, v_not, v_ite, v_tup0, v_tup1, v_tup2, v_idx, v_slc, v_call, v_bi, v_isi, v_lst, v_tupL, v_nilL, v_app, v_ext, a_nil, a_cons, a_disp1, a_disp2, a_disp3, a_comp, o_nil, o_var, o_int, o_neg, o_bin, o_bi, vb_one, vb_more, tb_one, tb_more, t_nil, t_boo, t_not, t_cmp, t_chn, t_call, t_isi, t_nilL, t_var, i_seq, i_rng1, i_rng2, i_enm, b_add, b_sub, b_mul, b_fdiv, b_mod, b_pow, b_cat, b_rep, c_lt, c_le, c_gt, c_ge, c_eq, c_ne, c_isn, q_int, len_tup, len_ref, k_min, k_max, k_int, k_tup, k_tupr, k_lst, ix_tup, ix_ref, sl_tup, end_ret, end_nx, end_if, end_none, bnd_grd, bnd_bnd, bnd_match, bnd_some, bnd_none, getv, setv, setvs, wipev, asg, Option.map_some, Option.map_none, List.length_cons, List.length_nil, List.getElem?_cons_zero, List.getElem?_cons_succ, if_true, truD, decide_eq_true_eq, List.replicate, List.map_cons, List.map_nil, List.cons_append, List.nil_append, ite_true, ite_false, if_false, decide_true, decide_false, and_self, true_and, and_true, true_or, or_true, or_self, reduceCtorEq, Bool.false_eq_true, Bool.true_eq_false, Bool.not_true, Bool.not_false, false_and, and_false, false_or, or_false, gc_same, Int.sub_zero, Int.toNat_natCast, Int.reduceToNat, okS, rngD, e1, at2_0, at2_1, e2, W_app]
/-! ### least loops -/
theorem rep_test {S : Sto} {w : List Int} {s : Nat} (h0 : 0 < s) (hs : s ≤ w.length) (hl : w.length ≤ 10000) : cut (iD w) none (some (s : Int)) = iD (w.take s) ∧ ((iD w).length : Int) % s = ((w.length % s : Nat) : Int) ∧ ((iD w).length : Int) / s = ((w.length / s : Nat) : Int) ∧
    repOk (iD (w.take s)).length ((w.length / s : Nat) : Int) ∧ ((0 : Int) < s ∧ (s : Int) < 1073741824) := by
  have hq : w.length / s ≤ w.length := Nat.div_le_self _ _
  have hq1 : (0 : Int) ≤ ((w.length / s : Nat) : Int) := Int.natCast_nonneg _
  have hq2 : ((w.length / s : Nat) : Int) ≤ 10000 := Int.ofNat_le.mpr (Nat.le_trans hq hl)
  refine ⟨by rw [cut_to _ (by omega), Int.toNat_natCast, W_take], by rw [W_len]; exact (Int.natCast_emod _ _).symm, by rw [W_len]; exact (Int.natCast_ediv _ _).symm, ⟨by rw [W_len, List.length_take]; omega, hq1, hq2, by rw [W_len, List.length_take, Int.toNat_natCast]; have := Nat.mul_div_le w.length s; rw [Nat.min_eq_left hs]; omega⟩, by omega, by omega⟩
noncomputable def F_lloop : Fn := fnD [] 2 1 ir_least_loop
/-- one look at a size -/
theorem lloop_turn {S : Sto} {w : List Int} {s : Nat} {a : Option D} (h0 : 0 < s) (hs : s ≤ w.length) (hl : w.length ≤ 10000) :
    bodyF (.nm 1) (exec [] ir_least_loop_b1) (.int s) [some (W w), a] S = if isRep w s then some (.ret (W (w.take s)) S) else some (.nx [some (W w), some (.int s)] S) := by
  obtain ⟨e1, e2, e3, e4, e5, e6⟩ := rep_test (S := S) h0 hs hl
  unfold bodyF ir_least_loop_b1
  by_cases c1 : w.length % s = 0
  · have c1' : (((w.length % s : Nat) : Int) == 0) = true := by rw [c1]; rfl
    by_cases c2 : (List.replicate (w.length / s) (w.take s)).flatten = w
    · rw [if_pos ⟨c1, c2⟩]
      simp only [x_nil, x_cons, x_set, x_setp, x_ret, x_par, x_expr, x_setI, x_aug, x_ite, x_for, x_whl, x_brk, x_cnt, x_pass, x_retN, seq_nx, seq_ret, seq_brk, seq_cnt, seq_none, seq_bnd, seq_if, v_var, v_int, v_bl, v_non, v_str, v_bin, v_neg, v_cmp, v_chn, v_boo, v_not, v_ite, v_tup0, v_tup1, v_tup2, v_idx, v_slc, v_call, v_bi, v_isi, v_lst, v_tupL, v_nilL, v_app, v_ext, a_nil, a_cons, a_disp1, a_disp2, a_disp3, a_comp, o_nil, o_var, o_int, o_neg, o_bin, o_bi, vb_one, vb_more, tb_one, tb_more, t_nil, t_boo, t_not, t_cmp, t_chn, t_call, t_isi, t_nilL, t_var, i_seq, i_rng1, i_rng2, i_enm, b_add, b_sub, b_mul, b_fdiv, b_mod, b_pow, b_cat, b_rep, c_lt, c_le, c_gt, c_ge, c_eq, c_ne, c_isn, q_int, len_tup, len_ref, k_min, k_max, k_int, k_tup, k_tupr, k_lst, ix_tup, ix_ref, sl_tup, end_ret, end_nx, end_if, end_none, bnd_grd, bnd_bnd, bnd_match, bnd_some, bnd_none, getv, setv, setvs, wipev, asg, Option.map_some, Option.map_none, List.length_cons, List.length_nil, List.getElem?_cons_zero, List.getElem?_cons_succ, if_true, truD, decide_eq_true_eq, List.replicate, List.map_cons, List.map_nil, List.cons_append, List.nil_append, ite_true, ite_false, if_false, decide_true, decide_false, and_self, true_and, and_true, true_or, or_true, or_self, reduceCtorEq, Bool.false_eq_true, Bool.true_eq_false, Bool.not_true, Bool.not_false, false_and, and_false, false_or, or_false, gc_same, Int.sub_zero, Int.toNat_natCast, Int.reduceToNat, okS, rngD, e1, e2, e3, e4, e5, e6, c1', q_W, W_rep, c2]
    · rw [if_neg (fun z => c2 z.2)]
      simp only [x_nil, x_cons, x_set, x_setp, x_ret, x_par, x_expr, x_setI, x_aug, x_ite, x_for, x_whl, x_brk, x_cnt, x_pass, x_retN, seq_nx, seq_ret, seq_brk, seq_cnt, seq_none, seq_bnd, seq_if, v_var, v_int, v_bl, v_non, v_str, v_bin, v_neg, v_cmp, v_chn, v_boo, v_not, v_ite, v_tup0, v_tup1, v_tup2, v_idx, v_slc, v_call, v_bi, v_isi, v_lst, v_tupL, v_nilL, v_app, v_ext, a_nil, a_cons, a_disp1, a_disp2, a_disp3, a_comp, o_nil, o_var, o_int, o_neg, o_bin, o_bi, vb_one, vb_more, tb_one, tb_more, t_nil, t_boo, t_not, t_cmp, t_chn, t_call, t_isi, t_nilL, t_var, i_seq, i_rng1, i_rng2, i_enm, b_add, b_sub, b_mul, b_fdiv, b_mod, b_pow, b_cat, b_rep, c_lt, c_le, c_gt, c_ge, c_eq, c_ne, c_isn, q_int, len_tup, len_ref, k_min, k_max, k_int, k_tup, k_tupr, k_lst, ix_tup, ix_ref, sl_tup, end_ret, end_nx, end_if, end_none, bnd_grd, bnd_bnd, bnd_match, bnd_some, bnd_none, getv, setv, setvs, wipev, asg, Option.map_some, Option.map_none, List.length_cons, List.length_nil, List.getElem?_cons_zero, List.getElem?_cons_succ, if_true, truD, decide_eq_true_eq, List.replicate, List.map_cons, List.map_nil, List.cons_append, List.nil_append, ite_true, ite_false, if_false, decide_true, decide_false, and_self, true_and, and_true, true_or, or_true, or_self, reduceCtorEq, Bool.false_eq_true, Bool.true_eq_false, Bool.not_true, Bool.not_false, false_and, and_false, false_or, or_false, gc_same, Int.sub_zero, Int.toNat_natCast, Int.reduceToNat, okS, rngD, e1, e2, e3, e4, e5, e6, c1', q_W, W_rep, c2]
  · have c1' : (((w.length % s : Nat) : Int) == 0) = false := beq_eq_false_iff_ne.mpr (by omega)
    rw [if_neg (fun z => c1 z.1)]
    simp only [x_nil, x_cons, x_set, x_setp, x_ret, x_par, x_expr, x_setI, x_aug, x_ite, x_for, x_whl, x_brk, x_cnt, x_pass, x_retN, seq_nx, seq_ret, seq_brk, seq_cnt, seq_none, seq_bnd, seq_if, v_var, v_int, v_bl, v_non, v_str, v_bin, v_neg, v_cmp, v_chn, v_boo, v_not, v_ite, v_tup0, v_tup1, v_tup2, v_idx, v_slc, v_call, v_bi, v_isi, v_lst, v_tupL, v_nilL, v_app, v_ext, a_nil, a_cons, a_disp1, a_disp2, a_disp3, a_comp, o_nil, o_var, o_int, o_neg, o_bin, o_bi, vb_one, vb_more, tb_one, tb_more, t_nil, t_boo, t_not, t_cmp, t_chn, t_call, t_isi, t_nilL, t_var, i_seq, i_rng1, i_rng2, i_enm, b_add, b_sub, b_mul, b_fdiv, b_mod, b_pow, b_cat, b_rep, c_lt, c_le, c_gt, c_ge, c_eq, c_ne, c_isn, q_int, len_tup, len_ref, k_min, k_max, k_int, k_tup, k_tupr, k_lst, ix_tup, ix_ref, sl_tup, end_ret, end_nx, end_if, end_none, bnd_grd, bnd_bnd, bnd_match, bnd_some, bnd_none, getv, setv, setvs, wipev, asg, Option.map_some, Option.map_none, List.length_cons, List.length_nil, List.getElem?_cons_zero, List.getElem?_cons_succ, if_true, truD, decide_eq_true_eq, List.replicate, List.map_cons, List.map_nil, List.cons_append, List.nil_append, ite_true, ite_false, if_false, decide_true, decide_false, and_self, true_and, and_true, true_or, or_true, or_self, reduceCtorEq, Bool.false_eq_true, Bool.true_eq_false, Bool.not_true, Bool.not_false, false_and, and_false, false_or, or_false, gc_same, Int.sub_zero, Int.toNat_natCast, Int.reduceToNat, okS, rngD, e1, e2, e3, e4, e5, e6, c1', q_W]
theorem lloop_ok {S : Sto} {w : List Int} (h : w ≠ []) (hl : w.length ≤ 10000) : F_lloop [W w] S = some (W (lloop w), S) := by
  have h0 : 0 < w.length := List.length_pos_iff.mpr h
  have lim1 : lim62 1 := lim_ok (by decide)
  have limn : lim62 ((iD w).length : Int) := lim_ok (by rw [W_len]; omega)
  have en : (((iD w).length : Int) - 1).toNat = w.length - 1 := by rw [W_len]; omega
  have item : ∀ {i : Nat} {d : D}, (rng 1 (w.length - 1))[i]? = some d → i < w.length - 1 ∧ d = .int ((1 + i : Nat) : Int) := fun hd => by
    obtain ⟨h1, rfl⟩ := rng_get hd
    exact ⟨h1, rfl⟩
  unfold F_lloop fnD ir_least_loop
  cases e : repFrom w (w.length - 1) 1 with
  | none =>
    have hn := repFrom_none e
    obtain ⟨e', S', hf, rfl, a, rfl⟩ := for_inv (b := bodyF (.nm 1) (exec [] ir_least_loop_b1)) (ok := fun _ => True) (fun i e S' => S' = S ∧ ∃ a, e = [some (W w), a]) (ds := rng 1 (w.length - 1)) (k := 0) (e := [some (W w), none]) (S := S)
      (fun i d e S' hd ⟨hS, a, he⟩ => by
        obtain ⟨hi, rfl⟩ := item hd
        subst hS he
        refine ⟨trivial, [some (W w), some (.int ((1 + i : Nat) : Int))], _, ?_, rfl, _, rfl⟩
        rw [lloop_turn (by omega) (by omega) hl, if_neg (hn i hi)])
      (fun _ _ _ => trivial) ⟨rfl, none, rfl⟩
    have el : lloop w = w := by unfold lloop; rw [e]
    rw [el]
    simp only [x_nil, x_cons, x_set, x_setp, x_ret, x_par, x_expr, x_setI, x_aug, x_ite, x_for, x_whl, x_brk, x_cnt, x_pass, x_retN, seq_nx, seq_ret, seq_brk, seq_cnt, seq_none, seq_bnd, seq_if, v_var, v_int, v_bl, v_non, v_str, v_bin, v_neg, v_cmp, v_chn, v_boo, v_not, v_ite, v_tup0, v_tup1, v_tup2, v_idx, v_slc, v_call, v_bi, v_isi, v_lst, v_tupL, v_nilL, v_app, v_ext, a_nil, a_cons, a_disp1, a_disp2, a_disp3, a_comp, o_nil, o_var, o_int, o_neg, o_bin, o_bi, vb_one, vb_more, tb_one, tb_more, t_nil, t_boo, t_not, t_cmp, t_chn, t_call, t_isi, t_nilL, t_var, i_seq, i_rng1, i_rng2, i_enm, b_add, b_sub, b_mul, b_fdiv, b_mod, b_pow, b_cat, b_rep, c_lt, c_le, c_gt, c_ge, c_eq, c_ne, c_isn, q_int, len_tup, len_ref, k_min, k_max, k_int, k_tup, k_tupr, k_lst, ix_tup, ix_ref, sl_tup, end_ret, end_nx, end_if, end_none, bnd_grd, bnd_bnd, bnd_match, bnd_some, bnd_none, getv, setv, setvs, wipev, asg, Option.map_some, Option.map_none, List.length_cons, List.length_nil, List.getElem?_cons_zero, List.getElem?_cons_succ, if_true, truD, decide_eq_true_eq, List.replicate, List.map_cons, List.map_nil, List.cons_append, List.nil_append, ite_true, ite_false, if_false, decide_true, decide_false, and_self, true_and, and_true, true_or, or_true, or_self, reduceCtorEq, Bool.false_eq_true, Bool.true_eq_false, Bool.not_true, Bool.not_false, false_and, and_false, false_or, or_false, gc_same, Int.sub_zero, Int.toNat_natCast, Int.reduceToNat, okS, rngD, lim1, limn, en, hf]
  | some r =>
    obtain ⟨j, rfl, hj, hr, hb⟩ := repFrom_some e
    have hf := for_stop (b := bodyF (.nm 1) (exec [] ir_least_loop_b1)) (ok := fun _ => True) (r := some (.ret (W (w.take (1 + j))) S)) (fun i e S' => S' = S ∧ ∃ a, e = [some (W w), a]) (ds := rng 1 (w.length - 1)) (k := 0) (j := j) (e := [some (W w), none]) (S := S)
      (fun i d e S' hij hd ⟨hS, a, he⟩ => by
        obtain ⟨hi, rfl⟩ := item hd
        subst hS he
        refine ⟨trivial, [some (W w), some (.int ((1 + i : Nat) : Int))], _, ?_, rfl, _, rfl⟩
        rw [lloop_turn (by omega) (by omega) hl, if_neg (hb i hij)])
      (fun d e S' hd ⟨hS, a, he⟩ => by
        obtain ⟨hi, rfl⟩ := item hd
        subst hS he
        refine ⟨trivial, .inr ⟨W (w.take (1 + j)), _, ?_, rfl⟩⟩
        rw [lloop_turn (by omega) (by omega) hl, if_pos hr])
      (by rw [rng_len]; exact hj) ⟨rfl, none, rfl⟩
    have el : lloop w = w.take (1 + j) := by unfold lloop; rw [e]
    rw [el]
    simp only [x_nil, x_cons, x_set, x_setp, x_ret, x_par, x_expr, x_setI, x_aug, x_ite, x_for, x_whl, x_brk, x_cnt, x_pass, x_retN, seq_nx, seq_ret, seq_brk, seq_cnt, seq_none, seq_bnd, seq_if, v_var, v_int, v_bl, v_non, v_str, v_bin, v_neg, v_cmp, v_chn, v_boo, v_not, v_ite, v_tup0, v_tup1, v_tup2, v_idx, v_slc, v_call, v_bi, v_isi, v_lst, v_tupL, v_nilL, v_app, v_ext, a_nil, a_cons, a_disp1, a_disp2, a_disp3, a_comp, o_nil, o_var, o_int, o_neg, o_bin, o_bi, vb_one, vb_more, tb_one, tb_more, t_nil, t_boo, t_not, t_cmp, t_chn, t_call, t_isi, t_nilL, t_var, i_seq, i_rng1, i_rng2, i_enm, b_add, b_sub, b_mul, b_fdiv, b_mod, b_pow, b_cat, b_rep, c_lt, c_le, c_gt, c_ge, c_eq, c_ne, c_isn, q_int, len_tup, len_ref, k_min, k_max, k_int, k_tup, k_tupr, k_lst, ix_tup, ix_ref, sl_tup, end_ret, end_nx, end_if, end_none, bnd_grd, bnd_bnd, bnd_match, bnd_some, bnd_none, getv, setv, setvs, wipev, asg, Option.map_some, Option.map_none, List.length_cons, List.length_nil, List.getElem?_cons_zero, List.getElem?_cons_succ, if_true, truD, decide_eq_true_eq, List.replicate, List.map_cons, List.map_nil, List.cons_append, List.nil_append, ite_true, ite_false, if_false, decide_true, decide_false, and_self, true_and, and_true, true_or, or_true, or_self, reduceCtorEq, Bool.false_eq_true, Bool.true_eq_false, Bool.not_true, Bool.not_false, false_and, and_false, false_or, or_false, gc_same, Int.sub_zero, Int.toNat_natCast, Int.reduceToNat, okS, rngD, lim1, limn, en, hf]
/-! ### least lassos -/
noncomputable def F_lleast : Fn := fnD [F_lloop] 3 1 ir_least_lasso
theorem last_at {w : List Int} (h : w ≠ []) : ∃ x, atI (iD w) (-1) = some (.int x) ∧ w[w.length - 1]? = some x := by
  have h0 : 0 < w.length := List.length_pos_iff.mpr h
  refine ⟨w[w.length - 1], ?_, List.getElem?_eq_getElem (by omega)⟩
  rw [at_neg1, W_len, W_at, List.getElem?_eq_getElem (by omega)]
  rfl
theorem shift_turn {f l : List Int} (hl : l ≠ []) (hll : l.length ≤ 10000) : cut (iD f) none (some (-1)) = iD (f.take (f.length - 1)) ∧ cut (iD l) (some (-1)) none = iD (l.drop (l.length - 1)) ∧ cut (iD l) none (some (-1)) = iD (l.take (l.length - 1)) ∧
    (iD (l.drop (l.length - 1))).length + (iD (l.take (l.length - 1))).length ≤ LIM := by
  refine ⟨by rw [cut_but, W_len, W_take], by rw [cut_last, W_len, W_drop], by rw [cut_but, W_len, W_take], ?_⟩
  rw [W_len, W_len, List.length_drop, List.length_take]
  unfold LIM
  omega
theorem turn_ne {l : List Int} (hl : l ≠ []) : l.drop (l.length - 1) ++ l.take (l.length - 1) ≠ [] ∧ (l.drop (l.length - 1) ++ l.take (l.length - 1)).length = l.length := by
  have h0 : 0 < l.length := List.length_pos_iff.mpr hl
  have e : (l.drop (l.length - 1) ++ l.take (l.length - 1)).length = l.length := by
    rw [List.length_append, List.length_drop, List.length_take]
    omega
  refine ⟨fun z => ?_, e⟩
  rw [z] at e
  simp at e
  omega
theorem lleast_while {S : Sto} {a : Option D} : ∀ {n : Nat} {f l : List Int}, f.length = n → l ≠ [] → l.length ≤ 10000 → wh (sem [F_lloop] ir_least_lasso_e1).t (exec [F_lloop] ir_least_lasso_b1) [a, some (W f), some (W l)] S = some (.nx [a, some (W (shift n (f, l)).1), some (W (shift n (f, l)).2)] S)
  | 0, f, l, hn, hl, hll => by
    have hf : f = [] := List.eq_nil_of_length_eq_zero hn
    subst hf
    rw [wh_eq]
    have et : (sem [F_lloop] ir_least_lasso_e1).t [a, some (W []), some (W l)] S = some (false, S) := by
      unfold ir_least_lasso_e1
      simp only [x_nil, x_cons, x_set, x_setp, x_ret, x_par, x_expr, x_setI, x_aug, x_ite, x_for, x_whl, x_brk, x_cnt, x_pass, x_retN, seq_nx, seq_ret, seq_brk, seq_cnt, seq_none, seq_bnd, seq_if, v_var, v_int, v_bl, v_non, v_str, v_bin, v_neg, v_cmp, v_chn, v_boo, v_not, v_ite, v_tup0, v_tup1, v_tup2, v_idx, v_slc, v_call, v_bi, v_isi, v_lst, v_tupL, v_nilL, v_app, v_ext, a_nil, a_cons, a_disp1, a_disp2, a_disp3, a_comp, o_nil, o_var, o_int, o_neg, o_bin, o_bi, vb_one, vb_more, tb_one, tb_more, t_nil, t_boo, t_not, t_cmp, t_chn, t_call, t_isi, t_nilL, t_var, i_seq, i_rng1, i_rng2, i_enm, b_add, b_sub, b_mul, b_fdiv, b_mod, b_pow, b_cat, b_rep, c_lt, c_le, c_gt, c_ge, c_eq, c_ne, c_isn, q_int, len_tup, len_ref, k_min, k_max, k_int, k_tup, k_tupr, k_lst, ix_tup, ix_ref, sl_tup, end_ret, end_nx, end_if, end_none, bnd_grd, bnd_bnd, bnd_match, bnd_some, bnd_none, getv, setv, setvs, wipev, asg, Option.map_some, Option.map_none, List.length_cons, List.length_nil, List.getElem?_cons_zero, List.getElem?_cons_succ, if_true, truD, decide_eq_true_eq, List.replicate, List.map_cons, List.map_nil, List.cons_append, List.nil_append, ite_true, ite_false, if_false, decide_true, decide_false, and_self, true_and, and_true, true_or, or_true, or_self, reduceCtorEq, Bool.false_eq_true, Bool.true_eq_false, Bool.not_true, Bool.not_false, false_and, and_false, false_or, or_false, gc_same, Int.sub_zero, Int.toNat_natCast, Int.reduceToNat, okS, rngD, q_W0]
    rw [et]
    rfl
  | n + 1, f, l, hn, hl, hll => by
    have hf : f ≠ [] := fun z => by rw [z] at hn; cases hn
    obtain ⟨x, ex, fx⟩ := last_at hf
    obtain ⟨y, ey, fy⟩ := last_at hl
    obtain ⟨c1, c2, c3, c4⟩ := shift_turn (f := f) hl hll
    obtain ⟨n1, n2⟩ := turn_ne hl
    rw [wh_eq]
    by_cases c : x = y
    · have cb : (x == y) = true := by rw [c]; exact beq_self_eq_true y
      have et : (sem [F_lloop] ir_least_lasso_e1).t [a, some (W f), some (W l)] S = some (true, S) := by
        unfold ir_least_lasso_e1
        simp only [x_nil, x_cons, x_set, x_setp, x_ret, x_par, x_expr, x_setI, x_aug, x_ite, x_for, x_whl, x_brk, x_cnt, x_pass, x_retN, seq_nx, seq_ret, seq_brk, seq_cnt, seq_none, seq_bnd, seq_if, v_var, v_int, v_bl, v_non, v_str, v_bin, v_neg, v_cmp, v_chn, v_boo, v_not, v_ite, v_tup0, v_tup1, v_tup2, v_idx, v_slc, v_call, v_bi, v_isi, v_lst, v_tupL, v_nilL, v_app, v_ext, a_nil, a_cons, a_disp1, a_disp2, a_disp3, a_comp, o_nil, o_var, o_int, o_neg, o_bin, o_bi, vb_one, vb_more, tb_one, tb_more, t_nil, t_boo, t_not, t_cmp, t_chn, t_call, t_isi, t_nilL, t_var, i_seq, i_rng1, i_rng2, i_enm, b_add, b_sub, b_mul, b_fdiv, b_mod, b_pow, b_cat, b_rep, c_lt, c_le, c_gt, c_ge, c_eq, c_ne, c_isn, q_int, len_tup, len_ref, k_min, k_max, k_int, k_tup, k_tupr, k_lst, ix_tup, ix_ref, sl_tup, end_ret, end_nx, end_if, end_none, bnd_grd, bnd_bnd, bnd_match, bnd_some, bnd_none, getv, setv, setvs, wipev, asg, Option.map_some, Option.map_none, List.length_cons, List.length_nil, List.getElem?_cons_zero, List.getElem?_cons_succ, if_true, truD, decide_eq_true_eq, List.replicate, List.map_cons, List.map_nil, List.cons_append, List.nil_append, ite_true, ite_false, if_false, decide_true, decide_false, and_self, true_and, and_true, true_or, or_true, or_self, reduceCtorEq, Bool.false_eq_true, Bool.true_eq_false, Bool.not_true, Bool.not_false, false_and, and_false, false_or, or_false, gc_same, Int.sub_zero, Int.toNat_natCast, Int.reduceToNat, okS, rngD, q_W0, hf, ex, ey, cb]
      have eb : exec [F_lloop] ir_least_lasso_b1 [a, some (W f), some (W l)] S = some (.nx [a, some (W (f.take (f.length - 1))), some (W (l.drop (l.length - 1) ++ l.take (l.length - 1)))] S) := by
        unfold ir_least_lasso_b1
        simp only [x_nil, x_cons, x_set, x_setp, x_ret, x_par, x_expr, x_setI, x_aug, x_ite, x_for, x_whl, x_brk, x_cnt, x_pass, x_retN, seq_nx, seq_ret, seq_brk, seq_cnt, seq_none, seq_bnd, seq_if, v_var, v_int, v_bl, v_non, v_str, v_bin, v_neg, v_cmp, v_chn, v_boo, v_not, v_ite, v_tup0, v_tup1, v_tup2, v_idx, v_slc, v_call, v_bi, v_isi, v_lst, v_tupL, v_nilL, v_app, v_ext, a_nil, a_cons, a_disp1, a_disp2, a_disp3, a_comp, o_nil, o_var, o_int, o_neg, o_bin, o_bi, vb_one, vb_more, tb_one, tb_more, t_nil, t_boo, t_not, t_cmp, t_chn, t_call, t_isi, t_nilL, t_var, i_seq, i_rng1, i_rng2, i_enm, b_add, b_sub, b_mul, b_fdiv, b_mod, b_pow, b_cat, b_rep, c_lt, c_le, c_gt, c_ge, c_eq, c_ne, c_isn, q_int, len_tup, len_ref, k_min, k_max, k_int, k_tup, k_tupr, k_lst, ix_tup, ix_ref, sl_tup, end_ret, end_nx, end_if, end_none, bnd_grd, bnd_bnd, bnd_match, bnd_some, bnd_none, getv, setv, setvs, wipev, asg, Option.map_some, Option.map_none, List.length_cons, List.length_nil, List.getElem?_cons_zero, List.getElem?_cons_succ, if_true, truD, decide_eq_true_eq, List.replicate, List.map_cons, List.map_nil, List.cons_append, List.nil_append, ite_true, ite_false, if_false, decide_true, decide_false, and_self, true_and, and_true, true_or, or_true, or_self, reduceCtorEq, Bool.false_eq_true, Bool.true_eq_false, Bool.not_true, Bool.not_false, false_and, and_false, false_or, or_false, gc_same, Int.sub_zero, Int.toNat_natCast, Int.reduceToNat, okS, rngD, c1, c2, c3, c4, W_app]
      rw [et]
      simp only [eb]
      have es : shift (n + 1) (f, l) = shift n (f.take (f.length - 1), l.drop (l.length - 1) ++ l.take (l.length - 1)) := by
        show (if f ≠ [] ∧ f[f.length - 1]? = l[l.length - 1]? then _ else _) = _
        rw [if_pos ⟨hf, by rw [fx, fy, c]⟩]
      rw [es]
      exact lleast_while (by rw [List.length_take]; omega) n1 (by rw [n2]; exact hll)
    · have cb : (x == y) = false := beq_eq_false_iff_ne.mpr c
      have et : (sem [F_lloop] ir_least_lasso_e1).t [a, some (W f), some (W l)] S = some (false, S) := by
        unfold ir_least_lasso_e1
        simp only [x_nil, x_cons, x_set, x_setp, x_ret, x_par, x_expr, x_setI, x_aug, x_ite, x_for, x_whl, x_brk, x_cnt, x_pass, x_retN, seq_nx, seq_ret, seq_brk, seq_cnt, seq_none, seq_bnd, seq_if, v_var, v_int, v_bl, v_non, v_str, v_bin, v_neg, v_cmp, v_chn, v_boo, v_not, v_ite, v_tup0, v_tup1, v_tup2, v_idx, v_slc, v_call, v_bi, v_isi, v_lst, v_tupL, v_nilL, v_app, v_ext, a_nil, a_cons, a_disp1, a_disp2, a_disp3, a_comp, o_nil, o_var, o_int, o_neg, o_bin, o_bi, vb_one, vb_more, tb_one, tb_more, t_nil, t_boo, t_not, t_cmp, t_chn, t_call, t_isi, t_nilL, t_var, i_seq, i_rng1, i_rng2, i_enm, b_add, b_sub, b_mul, b_fdiv, b_mod, b_pow, b_cat, b_rep, c_lt, c_le, c_gt, c_ge, c_eq, c_ne, c_isn, q_int, len_tup, len_ref, k_min, k_max, k_int, k_tup, k_tupr, k_lst, ix_tup, ix_ref, sl_tup, end_ret, end_nx, end_if, end_none, bnd_grd, bnd_bnd, bnd_match, bnd_some, bnd_none, getv, setv, setvs, wipev, asg, Option.map_some, Option.map_none, List.length_cons, List.length_nil, List.getElem?_cons_zero, List.getElem?_cons_succ, if_true, truD, decide_eq_true_eq, List.replicate, List.map_cons, List.map_nil, List.cons_append, List.nil_append, ite_true, ite_false, if_false, decide_true, decide_false, and_self, true_and, and_true, true_or, or_true, or_self, reduceCtorEq, Bool.false_eq_true, Bool.true_eq_false, Bool.not_true, Bool.not_false, false_and, and_false, false_or, or_false, gc_same, Int.sub_zero, Int.toNat_natCast, Int.reduceToNat, okS, rngD, q_W0, hf, ex, ey, cb]
      rw [et]
      have es : shift (n + 1) (f, l) = (f, l) := by
        show (if f ≠ [] ∧ f[f.length - 1]? = l[l.length - 1]? then _ else _) = _
        rw [if_neg (fun z => c (by rw [fx, fy] at z; exact Option.some.inj z.2))]
      rw [es]
theorem lleast_ok {S : Sto} {l : Ls} (h : l.2 ≠ []) (hl : l.2.length ≤ 10000) : F_lleast [La l] S = some (La (lleast l), S) := by
  have e1 := lloop_ok (S := S) h hl
  have e2 := lleast_while (S := S) (a := some (La l)) (f := l.1) (l := lloop l.2) rfl (lloop_ne h) (Nat.le_trans (lloop_len _) hl)
  unfold F_lleast fnD ir_least_lasso
  simp only [x_nil, x_cons, x_set, x_setp, x_ret, x_par, x_expr, x_setI, x_aug, x_ite, x_for, x_whl, x_brk, x_cnt, x_pass, x_retN, seq_nx, seq_ret, seq_brk, seq_cnt, seq_none, seq_bnd, seq_if, v_var, v_int, v_bl, v_non, v_str, v_bin, v_neg, v_cmp, v_chn, v_boo, v_not, v_ite, v_tup0, v_tup1, v_tup2, v_idx, v_slc, v_call, v_bi, v_isi, v_lst, v_tupL, v_nilL, v_app, v_ext, a_nil, a_cons, a_disp1, a_disp2, a_disp3, a_comp, o_nil, o_var, o_int, o_neg, o_bin, o_bi, vb_one, vb_more, tb_one, tb_more, t_nil, t_boo, t_not, t_cmp, t_chn, t_call, t_isi, t_nilL, t_var, i_seq, i_rng1, i_rng2, i_enm, b_add, b_sub, b_mul, b_fdiv, b_mod, b_pow, b_cat, b_rep, c_lt, c_le, c_gt, c_ge, c_eq, c_ne, c_isn, q_int, len_tup, len_ref, k_min, k_max, k_int, k_tup, k_tupr, k_lst, ix_tup, ix_ref, sl_tup, end_ret, end_nx, end_if, end_none, bnd_grd, bnd_bnd, bnd_match, bnd_some, bnd_none, getv, setv, setvs, wipev, asg, Option.map_some, Option.map_none, List.length_cons, List.length_nil, List.getElem?_cons_zero, List.getElem?_cons_succ, if_true, truD, decide_eq_true_eq, List.replicate, List.map_cons, List.map_nil, List.cons_append, List.nil_append, ite_true, ite_false, if_false, decide_true, decide_false, and_self, true_and, and_true, true_or, or_true, or_self, reduceCtorEq, Bool.false_eq_true, Bool.true_eq_false, Bool.not_true, Bool.not_false, false_and, and_false, false_or, or_false, gc_same, Int.sub_zero, Int.toNat_natCast, Int.reduceToNat, okS, rngD, e1, e2]
  rfl
end M

/-! P6: the law's own least lassos; data that are the same; lassos that are well made; the plain law. -/
namespace M
open PySem (Str PyData)
open L2 (atI ixN)
/-! ### _law_least -/
theorem repFrom_succ {w : List Int} : ∀ {n s : Nat}, repFrom w (n + 1) s = match repFrom w n s with | some r => some r | none => if isRep w (s + n) then some (s + n) else none
  | 0, s => by
    unfold repFrom repFrom
    rfl
  | n + 1, s => by
    rw [repFrom]
    by_cases c : isRep w s
    · rw [if_pos c]
      conv => rhs; rw [repFrom, if_pos c]
    · rw [if_neg c, repFrom_succ]
      conv => rhs; rw [repFrom, if_neg c]
      rw [show s + 1 + n = s + (n + 1) by omega]
theorem repFrom_all {w : List Int} (h : w ≠ []) : ∃ r, repFrom w w.length 1 = some r ∧ w.take r = lloop w := by
  have h0 : 0 < w.length := List.length_pos_iff.mpr h
  have e : repFrom w w.length 1 = repFrom w ((w.length - 1) + 1) 1 := by rw [Nat.sub_add_cancel h0]
  rw [e, repFrom_succ]
  unfold lloop
  cases c : repFrom w (w.length - 1) 1 with
  | some r => exact ⟨r, rfl, rfl⟩
  | none =>
    refine ⟨1 + (w.length - 1), if_pos ?_, ?_⟩
    · rw [show 1 + (w.length - 1) = w.length by omega]
      exact isRep_all h
    · rw [show 1 + (w.length - 1) = w.length by omega, List.take_length]
noncomputable def F_least : Fn := fnD [] 5 1 ir_law_least
theorem least_turn {S : Sto} {w : List Int} {s : Nat} {x f a b : Option D} (h0 : 0 < s) (hs : s ≤ w.length) (hl : w.length ≤ 10000) :
    bodyF (.nm 3) (exec [] ir_law_least_b1) (.int s) [x, f, some (W w), a, b] S = if isRep w s then some (.brk [x, f, some (W (w.take s)), some (.int s), b] S) else some (.nx [x, f, some (W w), some (.int s), b] S) := by
  obtain ⟨e1, e2, e3, e4, e5, e6⟩ := rep_test (S := S) h0 hs hl
  unfold bodyF ir_law_least_b1
  by_cases c1 : w.length % s = 0
  · have c1' : (((w.length % s : Nat) : Int) == 0) = true := by rw [c1]; rfl
    by_cases c2 : (List.replicate (w.length / s) (w.take s)).flatten = w
    · rw [if_pos ⟨c1, c2⟩]
      simp only [x_nil, x_cons, x_set, x_setp, x_ret, x_par, x_expr, x_setI, x_aug, x_ite, x_for, x_whl, x_brk, x_cnt, x_pass, x_retN, seq_nx, seq_ret, seq_brk, seq_cnt, seq_none, seq_bnd, seq_if, v_var, v_int, v_bl, v_non, v_str, v_bin, v_neg, v_cmp, v_chn, v_boo, v_not, v_ite, v_tup0, v_tup1, v_tup2, v_idx, v_slc, v_call, v_bi, v_isi, v_lst, v_tupL, v_nilL, v_app, v_ext, a_nil, a_cons, a_disp1, a_disp2, a_disp3, a_comp, o_nil, o_var, o_int, o_neg, o_bin, o_bi, vb_one, vb_more, tb_one, tb_more, t_nil, t_boo, t_not, t_cmp, t_chn, t_call, t_isi, t_nilL, t_var, i_seq, i_rng1, i_rng2, i_enm, b_add, b_sub, b_mul, b_fdiv, b_mod, b_pow, b_cat, b_rep, c_lt, c_le, c_gt, c_ge, c_eq, c_ne, c_isn, q_int, len_tup, len_ref, k_min, k_max, k_int, k_tup, k_tupr, k_lst, ix_tup, ix_ref, sl_tup, end_ret, end_nx, end_if, end_none, bnd_grd, bnd_bnd, bnd_match, bnd_some, bnd_none, getv, setv, setvs, wipev, asg, Option.map_some, Option.map_none, List.length_cons, List.length_nil, List.getElem?_cons_zero, List.getElem?_cons_succ, if_true, truD, decide_eq_true_eq, List.replicate, List.map_cons, List.map_nil, List.cons_append, List.nil_append, ite_true, ite_false, if_false, decide_true, decide_false, and_self, true_and, and_true, true_or, or_true, or_self, reduceCtorEq, Bool.false_eq_true, Bool.true_eq_false, Bool.not_true, Bool.not_false, false_and, and_false, false_or, or_false, gc_same, Int.sub_zero, Int.toNat_natCast, Int.reduceToNat, okS, rngD, e1, e2, e3, e4, e5, e6, c1', q_W, W_rep, c2]
    · rw [if_neg (fun z => c2 z.2)]
      simp only [x_nil, x_cons, x_set, x_setp, x_ret, x_par, x_expr, x_setI, x_aug, x_ite, x_for, x_whl, x_brk, x_cnt, x_pass, x_retN, seq_nx, seq_ret, seq_brk, seq_cnt, seq_none, seq_bnd, seq_if, v_var, v_int, v_bl, v_non, v_str, v_bin, v_neg, v_cmp, v_chn, v_boo, v_not, v_ite, v_tup0, v_tup1, v_tup2, v_idx, v_slc, v_call, v_bi, v_isi, v_lst, v_tupL, v_nilL, v_app, v_ext, a_nil, a_cons, a_disp1, a_disp2, a_disp3, a_comp, o_nil, o_var, o_int, o_neg, o_bin, o_bi, vb_one, vb_more, tb_one, tb_more, t_nil, t_boo, t_not, t_cmp, t_chn, t_call, t_isi, t_nilL, t_var, i_seq, i_rng1, i_rng2, i_enm, b_add, b_sub, b_mul, b_fdiv, b_mod, b_pow, b_cat, b_rep, c_lt, c_le, c_gt, c_ge, c_eq, c_ne, c_isn, q_int, len_tup, len_ref, k_min, k_max, k_int, k_tup, k_tupr, k_lst, ix_tup, ix_ref, sl_tup, end_ret, end_nx, end_if, end_none, bnd_grd, bnd_bnd, bnd_match, bnd_some, bnd_none, getv, setv, setvs, wipev, asg, Option.map_some, Option.map_none, List.length_cons, List.length_nil, List.getElem?_cons_zero, List.getElem?_cons_succ, if_true, truD, decide_eq_true_eq, List.replicate, List.map_cons, List.map_nil, List.cons_append, List.nil_append, ite_true, ite_false, if_false, decide_true, decide_false, and_self, true_and, and_true, true_or, or_true, or_self, reduceCtorEq, Bool.false_eq_true, Bool.true_eq_false, Bool.not_true, Bool.not_false, false_and, and_false, false_or, or_false, gc_same, Int.sub_zero, Int.toNat_natCast, Int.reduceToNat, okS, rngD, e1, e2, e3, e4, e5, e6, c1', q_W, W_rep, c2]
  · have c1' : (((w.length % s : Nat) : Int) == 0) = false := beq_eq_false_iff_ne.mpr (by omega)
    rw [if_neg (fun z => c1 z.1)]
    simp only [x_nil, x_cons, x_set, x_setp, x_ret, x_par, x_expr, x_setI, x_aug, x_ite, x_for, x_whl, x_brk, x_cnt, x_pass, x_retN, seq_nx, seq_ret, seq_brk, seq_cnt, seq_none, seq_bnd, seq_if, v_var, v_int, v_bl, v_non, v_str, v_bin, v_neg, v_cmp, v_chn, v_boo, v_not, v_ite, v_tup0, v_tup1, v_tup2, v_idx, v_slc, v_call, v_bi, v_isi, v_lst, v_tupL, v_nilL, v_app, v_ext, a_nil, a_cons, a_disp1, a_disp2, a_disp3, a_comp, o_nil, o_var, o_int, o_neg, o_bin, o_bi, vb_one, vb_more, tb_one, tb_more, t_nil, t_boo, t_not, t_cmp, t_chn, t_call, t_isi, t_nilL, t_var, i_seq, i_rng1, i_rng2, i_enm, b_add, b_sub, b_mul, b_fdiv, b_mod, b_pow, b_cat, b_rep, c_lt, c_le, c_gt, c_ge, c_eq, c_ne, c_isn, q_int, len_tup, len_ref, k_min, k_max, k_int, k_tup, k_tupr, k_lst, ix_tup, ix_ref, sl_tup, end_ret, end_nx, end_if, end_none, bnd_grd, bnd_bnd, bnd_match, bnd_some, bnd_none, getv, setv, setvs, wipev, asg, Option.map_some, Option.map_none, List.length_cons, List.length_nil, List.getElem?_cons_zero, List.getElem?_cons_succ, if_true, truD, decide_eq_true_eq, List.replicate, List.map_cons, List.map_nil, List.cons_append, List.nil_append, ite_true, ite_false, if_false, decide_true, decide_false, and_self, true_and, and_true, true_or, or_true, or_self, reduceCtorEq, Bool.false_eq_true, Bool.true_eq_false, Bool.not_true, Bool.not_false, false_and, and_false, false_or, or_false, gc_same, Int.sub_zero, Int.toNat_natCast, Int.reduceToNat, okS, rngD, e1, e2, e3, e4, e5, e6, c1', q_W]
theorem least_for1 {S : Sto} {w : List Int} {x f a b : Option D} (h : w ≠ []) (hl : w.length ≤ 10000) : ∃ c, forD (bodyF (.nm 3) (exec [] ir_law_least_b1)) (fun _ => True) (rng 1 w.length) [x, f, some (W w), a, b] S = some (.nx [x, f, some (W (lloop w)), c, b] S) := by
  obtain ⟨r, e, er⟩ := repFrom_all h
  obtain ⟨j, rfl, hj, hr, hb⟩ := repFrom_some e
  refine ⟨some (.int ((1 + j : Nat) : Int)), ?_⟩
  exact for_stop (b := bodyF (.nm 3) (exec [] ir_law_least_b1)) (ok := fun _ => True) (fun i e S' => S' = S ∧ ∃ a, e = [x, f, some (W w), a, b]) (ds := rng 1 w.length) (k := 0) (j := j) (e := [x, f, some (W w), a, b]) (S := S)
    (fun i d e S' hij hd ⟨hS, a, he⟩ => by
      obtain ⟨hi, rfl⟩ := rng_get hd
      subst hS he
      refine ⟨trivial, [x, f, some (W w), some (.int ((1 + i : Nat) : Int)), b], _, ?_, rfl, _, rfl⟩
      have := least_turn (S := S') (x := x) (f := f) (a := a) (b := b) (s := 1 + i) (by omega) (by omega) hl
      rw [if_neg (hb i hij)] at this
      exact this)
    (fun d e S' hd ⟨hS, a, he⟩ => by
      obtain ⟨hi, rfl⟩ := rng_get hd
      subst hS he
      refine ⟨trivial, .inl ⟨[x, f, some (W (w.take (1 + j))), some (.int ((1 + j : Nat) : Int)), b], S', ?_, by rw [er]⟩⟩
      have := least_turn (S := S') (x := x) (f := f) (a := a) (b := b) (s := 1 + j) (by omega) (by omega) hl
      rw [if_pos hr] at this
      exact this)
    (by rw [rng_len]; exact hj) ⟨rfl, _, rfl⟩
theorem least_for2 {S : Sto} {x a : Option D} : ∀ {ds : List D} {f l : List Int} {b : Option D}, f.length = ds.length → l ≠ [] → l.length ≤ 10000 → ∃ c, forD (bodyF (.nm 4) (exec [] ir_law_least_b2)) (fun _ => True) ds [x, some (W f), some (W l), a, b] S = some (.nx [x, some (W (shift ds.length (f, l)).1), some (W (shift ds.length (f, l)).2), a, c] S)
  | [], f, l, b, hn, hl, hll => by
    refine ⟨b, ?_⟩
    unfold forD
    rw [if_pos trivial]
    rfl
  | d :: ds, f, l, b, hn, hl, hll => by
    have hf : f ≠ [] := fun z => by rw [z] at hn; cases hn
    obtain ⟨y1, ex, fx⟩ := last_at hf
    obtain ⟨y2, ey, fy⟩ := last_at hl
    obtain ⟨c1, c2, c3, c4⟩ := shift_turn (f := f) hl hll
    obtain ⟨n1, n2⟩ := turn_ne hl
    unfold forD
    rw [if_pos trivial]
    by_cases c : y1 = y2
    · have cb : (y1 == y2) = true := by rw [c]; exact beq_self_eq_true y2
      have et : bodyF (.nm 4) (exec [] ir_law_least_b2) d [x, some (W f), some (W l), a, b] S = some (.nx [x, some (W (f.take (f.length - 1))), some (W (l.drop (l.length - 1) ++ l.take (l.length - 1))), a, some d] S) := by
        unfold bodyF ir_law_least_b2
        simp only [x_nil, x_cons, x_set, x_setp, x_ret, x_par, x_expr, x_setI, x_aug, x_ite, x_for, x_whl, x_brk, x_cnt, x_pass, x_retN, seq_nx, seq_ret, seq_brk, seq_cnt, seq_none, seq_bnd, seq_if, v_var, v_int, v_bl, v_non, v_str, v_bin, v_neg, v_cmp, v_chn, v_boo, v_not, v_ite, v_tup0, v_tup1, v_tup2, v_idx, v_slc, v_call, v_bi, v_isi, v_lst, v_tupL, v_nilL, v_app, v_ext, a_nil, a_cons, a_disp1, a_disp2, a_disp3, a_comp, o_nil, o_var, o_int, o_neg, o_bin, o_bi, vb_one, vb_more, tb_one, tb_more, t_nil, t_boo, t_not, t_cmp, t_chn, t_call, t_isi, t_nilL, t_var, i_seq, i_rng1, i_rng2, i_enm, b_add, b_sub, b_mul, b_fdiv, b_mod, b_pow, b_cat, b_rep, c_lt, c_le, c_gt, c_ge, c_eq, c_ne, c_isn, q_int, len_tup, len_ref, k_min, k_max, k_int, k_tup, k_tupr, k_lst, ix_tup, ix_ref, sl_tup, end_ret, end_nx, end_if, end_none, bnd_grd, bnd_bnd, bnd_match, bnd_some, bnd_none, getv, setv, setvs, wipev, asg, Option.map_some, Option.map_none, List.length_cons, List.length_nil, List.getElem?_cons_zero, List.getElem?_cons_succ, if_true, truD, decide_eq_true_eq, List.replicate, List.map_cons, List.map_nil, List.cons_append, List.nil_append, ite_true, ite_false, if_false, decide_true, decide_false, and_self, true_and, and_true, true_or, or_true, or_self, reduceCtorEq, Bool.false_eq_true, Bool.true_eq_false, Bool.not_true, Bool.not_false, false_and, and_false, false_or, or_false, gc_same, Int.sub_zero, Int.toNat_natCast, Int.reduceToNat, okS, rngD, q_W0, hf, ex, ey, cb, c1, c2, c3, c4, W_app]
      rw [et]
      have es : shift (d :: ds).length (f, l) = shift ds.length (f.take (f.length - 1), l.drop (l.length - 1) ++ l.take (l.length - 1)) := by
        show (if f ≠ [] ∧ f[f.length - 1]? = l[l.length - 1]? then _ else _) = _
        rw [if_pos ⟨hf, by rw [fx, fy, c]⟩]
      rw [es]
      exact least_for2 (by rw [List.length_take]; simp only [List.length_cons] at hn; omega) n1 (by rw [n2]; exact hll)
    · have cb : (y1 == y2) = false := beq_eq_false_iff_ne.mpr c
      have et : bodyF (.nm 4) (exec [] ir_law_least_b2) d [x, some (W f), some (W l), a, b] S = some (.brk [x, some (W f), some (W l), a, some d] S) := by
        unfold bodyF ir_law_least_b2
        simp only [x_nil, x_cons, x_set, x_setp, x_ret, x_par, x_expr, x_setI, x_aug, x_ite, x_for, x_whl, x_brk, x_cnt, x_pass, x_retN, seq_nx, seq_ret, seq_brk, seq_cnt, seq_none, seq_bnd, seq_if, v_var, v_int, v_bl, v_non, v_str, v_bin, v_neg, v_cmp, v_chn, v_boo, v_not, v_ite, v_tup0, v_tup1, v_tup2, v_idx, v_slc, v_call, v_bi, v_isi, v_lst, v_tupL, v_nilL, v_app, v_ext, a_nil, a_cons, a_disp1, a_disp2, a_disp3, a_comp, o_nil, o_var, o_int, o_neg, o_bin, o_bi, vb_one, vb_more, tb_one, tb_more, t_nil, t_boo, t_not, t_cmp, t_chn, t_call, t_isi, t_nilL, t_var, i_seq, i_rng1, i_rng2, i_enm, b_add, b_sub, b_mul, b_fdiv, b_mod, b_pow, b_cat, b_rep, c_lt, c_le, c_gt, c_ge, c_eq, c_ne, c_isn, q_int, len_tup, len_ref, k_min, k_max, k_int, k_tup, k_tupr, k_lst, ix_tup, ix_ref, sl_tup, end_ret, end_nx, end_if, end_none, bnd_grd, bnd_bnd, bnd_match, bnd_some, bnd_none, getv, setv, setvs, wipev, asg, Option.map_some, Option.map_none, List.length_cons, List.length_nil, List.getElem?_cons_zero, List.getElem?_cons_succ, if_true, truD, decide_eq_true_eq, List.replicate, List.map_cons, List.map_nil, List.cons_append, List.nil_append, ite_true, ite_false, if_false, decide_true, decide_false, and_self, true_and, and_true, true_or, or_true, or_self, reduceCtorEq, Bool.false_eq_true, Bool.true_eq_false, Bool.not_true, Bool.not_false, false_and, and_false, false_or, or_false, gc_same, Int.sub_zero, Int.toNat_natCast, Int.reduceToNat, okS, rngD, q_W0, hf, ex, ey, cb]
      rw [et]
      have es : shift (d :: ds).length (f, l) = (f, l) := by
        show (if f ≠ [] ∧ f[f.length - 1]? = l[l.length - 1]? then _ else _) = _
        rw [if_neg (fun z => c (by rw [fx, fy] at z; exact Option.some.inj z.2))]
      rw [es]
      exact ⟨_, rfl⟩
theorem least_ok {S : Sto} {l : Ls} (h : l.2 ≠ []) (hl : l.2.length ≤ 10000) (hf : l.1.length ≤ 10000) : F_least [La l] S = some (La (lleast l), S) := by
  obtain ⟨c, e1⟩ := least_for1 (S := S) (x := some (La l)) (f := some (W l.1)) (a := none) (b := none) h hl
  obtain ⟨c2, e2⟩ := least_for2 (S := S) (x := some (La l)) (a := c) (b := none) (ds := rng 0 l.1.length) (f := l.1) (l := lloop l.2) (by rw [rng_len]) (lloop_ne h) (Nat.le_trans (lloop_len _) hl)
  rw [rng_len] at e2
  have lim0 : lim62 0 := lim_ok (by decide)
  have lim1 : lim62 1 := lim_ok (by decide)
  have n1 : (((iD l.2).length : Int) + 1 - 1).toNat = l.2.length := by rw [W_len]; omega
  have n2 : ((iD l.1).length : Int).toNat = l.1.length := by rw [W_len]; omega
  have limn : lim62 (((iD l.2).length : Int) + 1) := lim_ok (by rw [W_len]; omega)
  have limm : lim62 ((iD l.1).length : Int) := lim_ok (by rw [W_len]; omega)
  unfold F_least fnD ir_law_least
  simp only [x_nil, x_cons, x_set, x_setp, x_ret, x_par, x_expr, x_setI, x_aug, x_ite, x_for, x_whl, x_brk, x_cnt, x_pass, x_retN, seq_nx, seq_ret, seq_brk, seq_cnt, seq_none, seq_bnd, seq_if, v_var, v_int, v_bl, v_non, v_str, v_bin, v_neg, v_cmp, v_chn, v_boo, v_not, v_ite, v_tup0, v_tup1, v_tup2, v_idx, v_slc, v_call, v_bi, v_isi, v_lst, v_tupL, v_nilL, v_app, v_ext, a_nil, a_cons, a_disp1, a_disp2, a_disp3, a_comp, o_nil, o_var, o_int, o_neg, o_bin, o_bi, vb_one, vb_more, tb_one, tb_more, t_nil, t_boo, t_not, t_cmp, t_chn, t_call, t_isi, t_nilL, t_var, i_seq, i_rng1, i_rng2, i_enm, b_add, b_sub, b_mul, b_fdiv, b_mod, b_pow, b_cat, b_rep, c_lt, c_le, c_gt, c_ge, c_eq, c_ne, c_isn, q_int, len_tup, len_ref, k_min, k_max, k_int, k_tup, k_tupr, k_lst, ix_tup, ix_ref, sl_tup, end_ret, end_nx, end_if, end_none, bnd_grd, bnd_bnd, bnd_match, bnd_some, bnd_none, getv, setv, setvs, wipev, asg, Option.map_some, Option.map_none, List.length_cons, List.length_nil, List.getElem?_cons_zero, List.getElem?_cons_succ, if_true, truD, decide_eq_true_eq, List.replicate, List.map_cons, List.map_nil, List.cons_append, List.nil_append, ite_true, ite_false, if_false, decide_true, decide_false, and_self, true_and, and_true, true_or, or_true, or_self, reduceCtorEq, Bool.false_eq_true, Bool.true_eq_false, Bool.not_true, Bool.not_false, false_and, and_false, false_or, or_false, gc_same, Int.sub_zero, Int.toNat_natCast, Int.reduceToNat, okS, rngD, lim0, lim1, limn, limm, n1, n2, e1, e2, at2_0]
  rfl
end M

/-! P7: data that are the same; lassos that are well made; the law. -/
namespace M
open PySem (Str PyData)
open L2 (atI ixN)
/-! ### _law_same -/
noncomputable def F_same : Nat → Fn
  | 0 => fun _ _ => none
  | n + 1 => fnD [F_same n] 3 2 ir_law_same
theorem i_int {t : Ty} {i : Int} {S : Sto} : isiD t (.int i) S = some (t == .int) := (rfl)
theorem i_tup {t : Ty} {xs : List D} {S : Sto} : isiD t (.tup xs) S = some (t == .tuple) := (rfl)
theorem i_ref {t : Ty} {xs : List D} {n : Nat} {S : Sto} (h : itemsAt S n = some xs) : isiD t (.ref n) S = some (t == .list) := by
  show (match S[n]? with | some _ => some (t == Ty.list) | none => none) = _
  unfold itemsAt at h
  cases e : S[n]? with
  | none => rw [e] at h; cases h
  | some o => rfl
theorem same_int {S : Sto} {n : Nat} {i : Int} : F_same (n + 1) [.int i, .int i] S = some (.bl true, S) := by
  show fnD [F_same n] 3 2 ir_law_same [.int i, .int i] S = _
  unfold fnD ir_law_same
  simp only [x_nil, x_cons, x_set, x_setp, x_ret, x_par, x_expr, x_setI, x_aug, x_ite, x_for, x_whl, x_brk, x_cnt, x_pass, x_retN, seq_nx, seq_ret, seq_brk, seq_cnt, seq_none, seq_bnd, seq_if, v_var, v_int, v_bl, v_non, v_str, v_bin, v_neg, v_cmp, v_chn, v_boo, v_not, v_ite, v_tup0, v_tup1, v_tup2, v_idx, v_slc, v_call, v_bi, v_isi, v_lst, v_tupL, v_nilL, v_app, v_ext, a_nil, a_cons, a_disp1, a_disp2, a_disp3, a_comp, o_nil, o_var, o_int, o_neg, o_bin, o_bi, vb_one, vb_more, tb_one, tb_more, t_nil, t_boo, t_not, t_cmp, t_chn, t_call, t_isi, t_nilL, t_var, i_seq, i_rng1, i_rng2, i_enm, b_add, b_sub, b_mul, b_fdiv, b_mod, b_pow, b_cat, b_rep, c_lt, c_le, c_gt, c_ge, c_eq, c_ne, c_isn, q_int, len_tup, len_ref, k_min, k_max, k_int, k_tup, k_tupr, k_lst, ix_tup, ix_ref, sl_tup, end_ret, end_nx, end_if, end_none, bnd_grd, bnd_bnd, bnd_match, bnd_some, bnd_none, getv, setv, setvs, wipev, asg, Option.map_some, Option.map_none, List.length_cons, List.length_nil, List.getElem?_cons_zero, List.getElem?_cons_succ, if_true, truD, decide_eq_true_eq, List.replicate, List.map_cons, List.map_nil, List.cons_append, List.nil_append, ite_true, ite_false, if_false, decide_true, decide_false, and_self, true_and, and_true, true_or, or_true, or_self, reduceCtorEq, Bool.false_eq_true, Bool.true_eq_false, Bool.not_true, Bool.not_false, false_and, and_false, false_or, or_false, gc_same, Int.sub_zero, Int.toNat_natCast, Int.reduceToNat, okS, rngD, i_int, show (Ty.list == Ty.int) = false from rfl, show (Ty.tuple == Ty.int) = false from rfl, show (Ty.bool == Ty.int) = false from rfl, show (Ty.str == Ty.int) = false from rfl, show (Ty.int == Ty.int) = true from rfl, beq_self_eq_true]
theorem idx_sq {S : Sto} {a : D} {xs : List D} {i : Int} (ia : sq S a = some xs) : idxD a (.int i) S = (atI xs i).map (·, S) := by
  unfold idxD
  rw [ia]
theorem len_sq {S : Sto} {a : D} {xs : List D} (ia : sq S a = some xs) : biD .len [a] S = some (.int xs.length, S) := by
  show (match sq S a with | some xs => some (D.int xs.length, S) | none => none) = _
  rw [ia]
theorem same_items {S : Sto} {n : Nat} {a b : D} {xs : List D} {t : Ty} (ia : sq S a = some xs) (ib : sq S b = some xs) (ta : ∀ t', isiD t' a S = some (t' == t)) (tb : ∀ t', isiD t' b S = some (t' == t)) (ht : t = .list ∨ t = .tuple) (hl : xs.length ≤ 1000000)
    (h : ∀ x ∈ xs, F_same n [x, x] S = some (.bl true, S)) : F_same (n + 1) [a, b] S = some (.bl true, S) := by
  show fnD [F_same n] 3 2 ir_law_same [a, b] S = _
  have hc : compD (turnF [2] (.nm 2) (sem [F_same n] ir_law_same_e1).t (sem [F_same n] (.var 2)).v [some a, some b, none]) (fun _ => True) (rng 0 xs.length) [] S = some ([], S) := by
    refine comp_none trivial fun d hd => ?_
    obtain ⟨i, hi⟩ := List.mem_iff_getElem?.mp hd
    obtain ⟨hi2, rfl⟩ := rng_get hi
    have hget : atI xs (0 + (i : Int)) = some (xs[i]'hi2) := by
      rw [at_pos (by omega)]
      have : (0 + (i : Int)).toNat = i := by omega
      rw [this, List.getElem?_eq_getElem hi2]
    have hx := h _ (List.getElem_mem hi2)
    generalize xs[i]'hi2 = z at hget hx
    unfold turnF ir_law_same_e1
    simp only [x_nil, x_cons, x_set, x_setp, x_ret, x_par, x_expr, x_setI, x_aug, x_ite, x_for, x_whl, x_brk, x_cnt, x_pass, x_retN, seq_nx, seq_ret, seq_brk, seq_cnt, seq_none, seq_bnd, seq_if, v_var, v_int, v_bl, v_non, v_str, v_bin, v_neg, v_cmp, v_chn, v_boo, v_not, v_ite, v_tup0, v_tup1, v_tup2, v_idx, v_slc, v_call, v_bi, v_isi, v_lst, v_tupL, v_nilL, v_app, v_ext, a_nil, a_cons, a_disp1, a_disp2, a_disp3, a_comp, o_nil, o_var, o_int, o_neg, o_bin, o_bi, vb_one, vb_more, tb_one, tb_more, t_nil, t_boo, t_not, t_cmp, t_chn, t_call, t_isi, t_nilL, t_var, i_seq, i_rng1, i_rng2, i_enm, b_add, b_sub, b_mul, b_fdiv, b_mod, b_pow, b_cat, b_rep, c_lt, c_le, c_gt, c_ge, c_eq, c_ne, c_isn, q_int, len_tup, len_ref, k_min, k_max, k_int, k_tup, k_tupr, k_lst, ix_tup, ix_ref, sl_tup, end_ret, end_nx, end_if, end_none, bnd_grd, bnd_bnd, bnd_match, bnd_some, bnd_none, getv, setv, setvs, wipev, asg, Option.map_some, Option.map_none, List.length_cons, List.length_nil, List.getElem?_cons_zero, List.getElem?_cons_succ, if_true, truD, decide_eq_true_eq, List.replicate, List.map_cons, List.map_nil, List.cons_append, List.nil_append, ite_true, ite_false, if_false, decide_true, decide_false, and_self, true_and, and_true, true_or, or_true, or_self, reduceCtorEq, Bool.false_eq_true, Bool.true_eq_false, Bool.not_true, Bool.not_false, false_and, and_false, false_or, or_false, gc_same, Int.sub_zero, Int.toNat_natCast, Int.reduceToNat, okS, rngD, idx_sq ia, idx_sq ib, hget, hx]
  have lim0 : lim62 0 := lim_ok (by decide)
  have limn : lim62 (xs.length : Int) := lim_ok (by omega)
  unfold fnD ir_law_same
  rcases ht with rfl | rfl
  · simp only [x_nil, x_cons, x_set, x_setp, x_ret, x_par, x_expr, x_setI, x_aug, x_ite, x_for, x_whl, x_brk, x_cnt, x_pass, x_retN, seq_nx, seq_ret, seq_brk, seq_cnt, seq_none, seq_bnd, seq_if, v_var, v_int, v_bl, v_non, v_str, v_bin, v_neg, v_cmp, v_chn, v_boo, v_not, v_ite, v_tup0, v_tup1, v_tup2, v_idx, v_slc, v_call, v_bi, v_isi, v_lst, v_tupL, v_nilL, v_app, v_ext, a_nil, a_cons, a_disp1, a_disp2, a_disp3, a_comp, o_nil, o_var, o_int, o_neg, o_bin, o_bi, vb_one, vb_more, tb_one, tb_more, t_nil, t_boo, t_not, t_cmp, t_chn, t_call, t_isi, t_nilL, t_var, i_seq, i_rng1, i_rng2, i_enm, b_add, b_sub, b_mul, b_fdiv, b_mod, b_pow, b_cat, b_rep, c_lt, c_le, c_gt, c_ge, c_eq, c_ne, c_isn, q_int, len_tup, len_ref, k_min, k_max, k_int, k_tup, k_tupr, k_lst, ix_tup, ix_ref, sl_tup, end_ret, end_nx, end_if, end_none, bnd_grd, bnd_bnd, bnd_match, bnd_some, bnd_none, getv, setv, setvs, wipev, asg, Option.map_some, Option.map_none, List.length_cons, List.length_nil, List.getElem?_cons_zero, List.getElem?_cons_succ, if_true, truD, decide_eq_true_eq, List.replicate, List.map_cons, List.map_nil, List.cons_append, List.nil_append, ite_true, ite_false, if_false, decide_true, decide_false, and_self, true_and, and_true, true_or, or_true, or_self, reduceCtorEq, Bool.false_eq_true, Bool.true_eq_false, Bool.not_true, Bool.not_false, false_and, and_false, false_or, or_false, gc_same, Int.sub_zero, Int.toNat_natCast, Int.reduceToNat, okS, rngD, ta, tb, len_sq ia, len_sq ib, show (Ty.list == Ty.list) = true from rfl, show (Ty.tuple == Ty.list) = false from rfl, beq_self_eq_true, lim0, limn, hc, nil_true]
  · simp only [x_nil, x_cons, x_set, x_setp, x_ret, x_par, x_expr, x_setI, x_aug, x_ite, x_for, x_whl, x_brk, x_cnt, x_pass, x_retN, seq_nx, seq_ret, seq_brk, seq_cnt, seq_none, seq_bnd, seq_if, v_var, v_int, v_bl, v_non, v_str, v_bin, v_neg, v_cmp, v_chn, v_boo, v_not, v_ite, v_tup0, v_tup1, v_tup2, v_idx, v_slc, v_call, v_bi, v_isi, v_lst, v_tupL, v_nilL, v_app, v_ext, a_nil, a_cons, a_disp1, a_disp2, a_disp3, a_comp, o_nil, o_var, o_int, o_neg, o_bin, o_bi, vb_one, vb_more, tb_one, tb_more, t_nil, t_boo, t_not, t_cmp, t_chn, t_call, t_isi, t_nilL, t_var, i_seq, i_rng1, i_rng2, i_enm, b_add, b_sub, b_mul, b_fdiv, b_mod, b_pow, b_cat, b_rep, c_lt, c_le, c_gt, c_ge, c_eq, c_ne, c_isn, q_int, len_tup, len_ref, k_min, k_max, k_int, k_tup, k_tupr, k_lst, ix_tup, ix_ref, sl_tup, end_ret, end_nx, end_if, end_none, bnd_grd, bnd_bnd, bnd_match, bnd_some, bnd_none, getv, setv, setvs, wipev, asg, Option.map_some, Option.map_none, List.length_cons, List.length_nil, List.getElem?_cons_zero, List.getElem?_cons_succ, if_true, truD, decide_eq_true_eq, List.replicate, List.map_cons, List.map_nil, List.cons_append, List.nil_append, ite_true, ite_false, if_false, decide_true, decide_false, and_self, true_and, and_true, true_or, or_true, or_self, reduceCtorEq, Bool.false_eq_true, Bool.true_eq_false, Bool.not_true, Bool.not_false, false_and, and_false, false_or, or_false, gc_same, Int.sub_zero, Int.toNat_natCast, Int.reduceToNat, okS, rngD, ta, tb, len_sq ia, len_sq ib, show (Ty.list == Ty.tuple) = false from rfl, show (Ty.tuple == Ty.tuple) = true from rfl, beq_self_eq_true, lim0, limn, hc, nil_true]
theorem same_W {S : Sto} {n : Nat} {w : List Int} (hl : w.length ≤ 1000000) : F_same (n + 2) [W w, W w] S = some (.bl true, S) :=
  same_items (xs := iD w) (t := .tuple) rfl rfl (fun _ => rfl) (fun _ => rfl) (.inr rfl) (by rw [W_len]; exact hl) fun x hx => by
    obtain ⟨i, _, rfl⟩ := List.mem_map.mp hx
    exact same_int
theorem same_La {S : Sto} {n : Nat} {l : Ls} (h1 : l.1.length ≤ 1000000) (h2 : l.2.length ≤ 1000000) : F_same (n + 3) [La l, La l] S = some (.bl true, S) :=
  same_items (xs := [W l.1, W l.2]) (t := .tuple) rfl rfl (fun _ => rfl) (fun _ => rfl) (.inr rfl) (show 2 ≤ 1000000 by decide) fun x hx => by
    rcases List.mem_cons.mp hx with rfl | hx
    · exact same_W h1
    · rw [List.mem_singleton.mp hx]
      exact same_W h2
theorem same_R {S : Sto} {n a b : Nat} {w : List Int} (ha : itemsAt S a = some (iD w)) (hb : itemsAt S b = some (iD w)) (hl : w.length ≤ 1000000) : F_same (n + 2) [.ref a, .ref b] S = some (.bl true, S) :=
  same_items (xs := iD w) (t := .list) ha hb (fun _ => i_ref ha) (fun _ => i_ref hb) (.inl rfl) (by rw [W_len]; exact hl) fun x hx => by
    obtain ⟨i, _, rfl⟩ := List.mem_map.mp hx
    exact same_int
/-! ### _law_is_lasso -/
noncomputable def F_isl : Fn := fnD [] 3 2 ir_law_is_lasso
theorem isl_ok {S : Sto} {l : Ls} {k : Int} (h : l.2 ≠ []) (b1 : Below k l.1) (b2 : Below k l.2) (hl : l.1.length + l.2.length ≤ LIM) : F_isl [La l, .int k] S = some (.bl true, S) := by
  have e1 : (iD l.1).length + (iD l.2).length ≤ LIM := by rw [W_len, W_len]; exact hl
  obtain ⟨e', S', hf, rfl, a, rfl⟩ := for_inv (b := bodyF (.nm 2) (exec [] ir_law_is_lasso_b1)) (ok := fun _ => True) (fun i e S' => S' = S ∧ ∃ a, e = [some (La l), some (.int k), a]) (ds := iD (l.1 ++ l.2)) (k := 0) (e := [some (La l), some (.int k), none]) (S := S)
    (fun i d e S' hd ⟨hS, a, he⟩ => by
      subst hS he
      rw [W_at] at hd
      obtain ⟨x, hx, rfl⟩ := Option.map_eq_some_iff.mp hd
      have hm := List.mem_of_getElem? hx
      have hb := (b1.app b2) x hm
      refine ⟨trivial, [some (La l), some (.int k), some (.int x)], _, ?_, rfl, _, rfl⟩
      have c1 : (0 : Int) ≤ x := hb.1
      have c2 : x < k := hb.2
      unfold bodyF ir_law_is_lasso_b1
      simp only [x_nil, x_cons, x_set, x_setp, x_ret, x_par, x_expr, x_setI, x_aug, x_ite, x_for, x_whl, x_brk, x_cnt, x_pass, x_retN, seq_nx, seq_ret, seq_brk, seq_cnt, seq_none, seq_bnd, seq_if, v_var, v_int, v_bl, v_non, v_str, v_bin, v_neg, v_cmp, v_chn, v_boo, v_not, v_ite, v_tup0, v_tup1, v_tup2, v_idx, v_slc, v_call, v_bi, v_isi, v_lst, v_tupL, v_nilL, v_app, v_ext, a_nil, a_cons, a_disp1, a_disp2, a_disp3, a_comp, o_nil, o_var, o_int, o_neg, o_bin, o_bi, vb_one, vb_more, tb_one, tb_more, t_nil, t_boo, t_not, t_cmp, t_chn, t_call, t_isi, t_nilL, t_var, i_seq, i_rng1, i_rng2, i_enm, b_add, b_sub, b_mul, b_fdiv, b_mod, b_pow, b_cat, b_rep, c_lt, c_le, c_gt, c_ge, c_eq, c_ne, c_isn, q_int, len_tup, len_ref, k_min, k_max, k_int, k_tup, k_tupr, k_lst, ix_tup, ix_ref, sl_tup, end_ret, end_nx, end_if, end_none, bnd_grd, bnd_bnd, bnd_match, bnd_some, bnd_none, getv, setv, setvs, wipev, asg, Option.map_some, Option.map_none, List.length_cons, List.length_nil, List.getElem?_cons_zero, List.getElem?_cons_succ, if_true, truD, decide_eq_true_eq, List.replicate, List.map_cons, List.map_nil, List.cons_append, List.nil_append, ite_true, ite_false, if_false, decide_true, decide_false, and_self, true_and, and_true, true_or, or_true, or_self, reduceCtorEq, Bool.false_eq_true, Bool.true_eq_false, Bool.not_true, Bool.not_false, false_and, and_false, false_or, or_false, gc_same, Int.sub_zero, Int.toNat_natCast, Int.reduceToNat, okS, rngD, i_int, show (Ty.int == Ty.int) = true from rfl, show (Ty.bool == Ty.int) = false from rfl, c1, c2])
    (fun _ _ _ => trivial) ⟨rfl, none, rfl⟩
  have l2 : (((0 + 1 + 1 : Nat) : Int) == 2) = true := rfl
  unfold F_isl fnD ir_law_is_lasso
  simp only [x_nil, x_cons, x_set, x_setp, x_ret, x_par, x_expr, x_setI, x_aug, x_ite, x_for, x_whl, x_brk, x_cnt, x_pass, x_retN, seq_nx, seq_ret, seq_brk, seq_cnt, seq_none, seq_bnd, seq_if, v_var, v_int, v_bl, v_non, v_str, v_bin, v_neg, v_cmp, v_chn, v_boo, v_not, v_ite, v_tup0, v_tup1, v_tup2, v_idx, v_slc, v_call, v_bi, v_isi, v_lst, v_tupL, v_nilL, v_app, v_ext, a_nil, a_cons, a_disp1, a_disp2, a_disp3, a_comp, o_nil, o_var, o_int, o_neg, o_bin, o_bi, vb_one, vb_more, tb_one, tb_more, t_nil, t_boo, t_not, t_cmp, t_chn, t_call, t_isi, t_nilL, t_var, i_seq, i_rng1, i_rng2, i_enm, b_add, b_sub, b_mul, b_fdiv, b_mod, b_pow, b_cat, b_rep, c_lt, c_le, c_gt, c_ge, c_eq, c_ne, c_isn, q_int, len_tup, len_ref, k_min, k_max, k_int, k_tup, k_tupr, k_lst, ix_tup, ix_ref, sl_tup, end_ret, end_nx, end_if, end_none, bnd_grd, bnd_bnd, bnd_match, bnd_some, bnd_none, getv, setv, setvs, wipev, asg, Option.map_some, Option.map_none, List.length_cons, List.length_nil, List.getElem?_cons_zero, List.getElem?_cons_succ, if_true, truD, decide_eq_true_eq, List.replicate, List.map_cons, List.map_nil, List.cons_append, List.nil_append, ite_true, ite_false, if_false, decide_true, decide_false, and_self, true_and, and_true, true_or, or_true, or_self, reduceCtorEq, Bool.false_eq_true, Bool.true_eq_false, Bool.not_true, Bool.not_false, false_and, and_false, false_or, or_false, gc_same, Int.sub_zero, Int.toNat_natCast, Int.reduceToNat, okS, rngD, i_tup, show (Ty.tuple == Ty.tuple) = true from rfl, at2_0, at2_1, e1, W_app, q_W0, h, seqD, hf, l2]
/-! ### the plain law -/
theorem ltail_ne {l : Ls} {c : Nat} (h : l.2 ≠ []) : (ltail l c).2 ≠ [] := by
  have h0 : 0 < l.2.length := List.length_pos_iff.mpr h
  unfold ltail
  split
  · exact h
  · intro z
    have z2 := congrArg List.length z
    simp only [List.length_append, List.length_drop, List.length_take, List.length_nil] at z2
    have := Nat.mod_lt (c - l.1.length) h0
    omega
theorem ltail_len {l : Ls} {c : Nat} : (ltail l c).2.length = l.2.length ∧ (ltail l c).1.length ≤ l.1.length := by
  unfold ltail
  split
  · exact ⟨rfl, by rw [List.length_drop]; omega⟩
  · simp only [List.length_append, List.length_drop, List.length_take, List.length_nil]
    omega
theorem ltail_below {k : Int} {l : Ls} {c : Nat} (b1 : Below k l.1) (b2 : Below k l.2) : Below k (ltail l c).1 ∧ Below k (ltail l c).2 := by
  unfold ltail
  split
  · exact ⟨b1.sub fun x hx => List.mem_of_mem_drop hx, b2⟩
  · refine ⟨fun x hx => absurd hx List.not_mem_nil, b2.sub fun x hx => ?_⟩
    rcases List.mem_append.mp hx with z | z
    · exact List.mem_of_mem_drop z
    · exact List.mem_of_mem_take z
theorem getD_app_r {a b : List Int} {n : Nat} (h : a.length ≤ n) : (a ++ b).getD n 0 = b.getD (n - a.length) 0 := by
  rw [List.getD_eq_getElem?_getD, List.getD_eq_getElem?_getD, List.getElem?_append_right h]
theorem getD_app_l {a b : List Int} {n : Nat} (h : n < a.length) : (a ++ b).getD n 0 = a.getD n 0 := by
  rw [List.getD_eq_getElem?_getD, List.getD_eq_getElem?_getD, List.getElem?_append_left h]
theorem getD_drop' {a : List Int} {c n : Nat} : (a.drop c).getD n 0 = a.getD (c + n) 0 := by
  rw [List.getD_eq_getElem?_getD, List.getD_eq_getElem?_getD, List.getElem?_drop]
theorem getD_take' {a : List Int} {c n : Nat} (h : n < c) : (a.take c).getD n 0 = a.getD n 0 := by
  rw [List.getD_eq_getElem?_getD, List.getD_eq_getElem?_getD, List.getElem?_take, if_pos h]
theorem lat_tail {l : Ls} {c p : Nat} (h : l.2 ≠ []) : lat (ltail l c) p = lat l (c + p) := by
  have h0 : 0 < l.2.length := List.length_pos_iff.mpr h
  obtain ⟨f, g⟩ := l
  replace h0 : 0 < g.length := h0
  unfold lat ltail
  by_cases hc : c ≤ f.length
  · simp only [if_pos hc]
    rw [List.length_drop]
    by_cases hp : p < f.length - c
    · rw [if_pos hp, if_pos (by omega), getD_drop']
    · rw [if_neg hp, if_neg (by omega)]
      rw [show p - (f.length - c) = c + p - f.length by omega]
  · simp only [if_neg hc]
    rw [if_neg (by simp), if_neg (by omega)]
    have hm := Nat.mod_lt (c - f.length) h0
    have e : c + p - f.length = (c - f.length) + p := by omega
    rw [e]
    have e2 : ((c - f.length) + p) % g.length = ((c - f.length) % g.length + p) % g.length := by rw [Nat.mod_add_mod]
    rw [e2]
    generalize (c - f.length) % g.length = t at hm
    have e3 : (g.drop t ++ g.take t).length = g.length := by simp only [List.length_append, List.length_drop, List.length_take]; omega
    rw [e3]
    show (g.drop t ++ g.take t).getD ((p - 0) % g.length) 0 = _
    rw [Nat.sub_zero]
    have hp := Nat.mod_lt p h0
    have e4 : (t + p) % g.length = (t + p % g.length) % g.length := by rw [Nat.add_mod_mod]
    rw [e4]
    generalize p % g.length = q at hp
    by_cases hq : q < g.length - t
    · rw [getD_app_l (by rw [List.length_drop]; exact hq), getD_drop', Nat.mod_eq_of_lt (by omega)]
    · rw [getD_app_r (by rw [List.length_drop]; omega), List.length_drop, getD_take' (by omega)]
      have : (t + q) % g.length = t + q - g.length := by
        rw [Nat.mod_eq_sub_mod (by omega), Nat.mod_eq_of_lt (by omega)]
      rw [this]
      congr 1
      omega
theorem ltail_word {w : List Int} {l : Ls} : ltail (w ++ l.1, l.2) w.length = l := by
  unfold ltail
  rw [if_pos (by simp)]
  simp
end M

/-! Q1: least lassos, in plain Lean: two lassos of one word have one least lasso. -/
namespace M
/-- from n on the word has the period p -/
def Per (u : Nat → Int) (n p : Nat) : Prop := ∀ i, n ≤ i → u (i + p) = u i
theorem Per.mul {u : Nat → Int} {n p : Nat} (h : Per u n p) : ∀ k, Per u n (k * p)
  | 0, i, _ => by rw [Nat.zero_mul]; rfl
  | k + 1, i, hi => by
    rw [Nat.succ_mul, ← Nat.add_assoc, h _ (by omega)]
    exact h.mul k i hi
theorem Per.sub {u : Nat → Int} {n p q : Nat} (hp : Per u n p) (hq : Per u n q) (k : Nat) (h : k * p ≤ q) : Per u n (q - k * p) := fun i hi => by
  rw [← hp.mul k (i + (q - k * p)) (by omega), show i + (q - k * p) + k * p = i + q by omega]
  exact hq i hi
theorem Per.mod {u : Nat → Int} {n p q : Nat} (hp : Per u n p) (hq : Per u n q) : Per u n (q % p) := by
  have h := hp.sub hq (q / p) (Nat.div_mul_le_self q p)
  have e : q - q / p * p = q % p := by
    have := Nat.div_add_mod q p
    rw [Nat.mul_comm] at this
    omega
  rwa [e] at h
theorem Per.gcd {u : Nat → Int} {n : Nat} (p q : Nat) : Per u n p → Per u n q → Per u n (Nat.gcd p q) := by
  induction p, q using Nat.gcd.induction with
  | H0 q => intro _ h; rwa [Nat.gcd_zero_left]
  | H1 p q hp ih =>
    intro h1 h2
    rw [Nat.gcd_rec]
    exact ih (h1.mod h2) h1
theorem Per.le {u : Nat → Int} {n m p : Nat} (h : Per u n p) (hm : n ≤ m) : Per u m p := fun i hi => h i (by omega)
/-- down, when a greater period holds from below -/
theorem Per.down {u : Nat → Int} {n m p q : Nat} (h : Per u m p) (hq : Per u n q) (q0 : 0 < q) : Per u n p := fun i hi => by
  have hk : m ≤ i + m * q := by
    have : m * 1 ≤ m * q := Nat.mul_le_mul_left m q0
    omega
  rw [← hq.mul m (i + p) (by omega), ← hq.mul m i hi, show i + p + m * q = i + m * q + p by omega]
  exact h _ hk
theorem Per.at {u : Nat → Int} {n p : Nat} (h : Per u n p) (j : Nat) : u (n + j) = u (n + j % p) := by
  have := h.mul (j / p) (n + j % p) (by omega)
  rw [← this]
  congr 1
  have := Nat.div_add_mod j p
  rw [Nat.mul_comm] at this
  omega
/-! ### letters of a lasso -/
theorem lat_loop (f g : List Int) (j : Nat) : lat (f, g) (f.length + j) = g.getD (j % g.length) 0 := by
  unfold lat
  rw [if_neg (by simp), show f.length + j - (f, g).1.length = j by simp]
theorem lat_first {f g : List Int} {p : Nat} (h : p < f.length) : lat (f, g) p = f.getD p 0 := by
  unfold lat
  rw [if_pos h]
theorem lat_per (l : Ls) : Per (lat l) l.1.length l.2.length := fun i hi => by
  obtain ⟨j, rfl⟩ := Nat.exists_eq_add_of_le hi
  obtain ⟨f, g⟩ := l
  show lat (f, g) (f.length + j + g.length) = lat (f, g) (f.length + j)
  rw [Nat.add_assoc, lat_loop, lat_loop, Nat.add_mod_right]
theorem rep_at {w : List Int} : ∀ {n i : Nat}, i < n * w.length → (List.replicate n w).flatten.getD i 0 = w.getD (i % w.length) 0
  | 0, i, h => by omega
  | n + 1, i, h => by
    rw [List.replicate_succ, List.flatten_cons]
    by_cases c : i < w.length
    · rw [getD_app_l c, Nat.mod_eq_of_lt c]
    · rw [getD_app_r (by omega), rep_at (by rw [Nat.succ_mul] at h; omega), ← Nat.mod_eq_sub_mod (by omega)]
theorem rep_len' {w : List Int} {n : Nat} : (List.replicate n w).flatten.length = n * w.length := by
  induction n with
  | zero => simp
  | succ n ih => rw [List.replicate_succ, List.flatten_cons, List.length_append, ih, Nat.succ_mul]; omega
theorem ext_getD {v w : List Int} (h : v.length = w.length) (e : ∀ i, i < w.length → v.getD i 0 = w.getD i 0) : v = w := by
  apply List.ext_getElem h
  intro i h1 h2
  have := e i h2
  rwa [List.getD_eq_getElem?_getD, List.getD_eq_getElem?_getD, List.getElem?_eq_getElem h1, List.getElem?_eq_getElem h2] at this
theorem isRep_iff {w : List Int} {s : Nat} (h0 : 0 < s) (hs : s ≤ w.length) : isRep w s ↔ w.length % s = 0 ∧ ∀ i, i < w.length → w.getD i 0 = w.getD (i % s) 0 := by
  have tl : (w.take s).length = s := by rw [List.length_take]; omega
  constructor
  · intro ⟨h1, h2⟩
    refine ⟨h1, fun i hi => ?_⟩
    have hn : w.length / s * s = w.length := Nat.div_mul_cancel (Nat.dvd_of_mod_eq_zero h1)
    have := rep_at (w := w.take s) (n := w.length / s) (i := i) (by rw [tl, hn]; exact hi)
    rw [h2, tl, getD_take' (Nat.mod_lt _ h0)] at this
    exact this
  · intro ⟨h1, h2⟩
    refine ⟨h1, ?_⟩
    have hn : w.length / s * s = w.length := Nat.div_mul_cancel (Nat.dvd_of_mod_eq_zero h1)
    apply ext_getD
    · rw [rep_len', tl, hn]
    · intro i hi
      rw [rep_at (by rw [tl, hn]; exact hi), tl, getD_take' (Nat.mod_lt _ h0), h2 i hi]
theorem isRep_per {f g : List Int} {s : Nat} (h0 : 0 < s) (hs : s ≤ g.length) (hd : g.length % s = 0) : isRep g s ↔ Per (lat (f, g)) f.length s := by
  rw [isRep_iff h0 hs]
  have g0 : 0 < g.length := by omega
  constructor
  · intro ⟨_, h⟩ i hi
    obtain ⟨j, rfl⟩ := Nat.exists_eq_add_of_le hi
    rw [Nat.add_assoc, lat_loop, lat_loop, h _ (Nat.mod_lt _ g0), h (j % g.length) (Nat.mod_lt _ g0)]
    have dv : s ∣ g.length := Nat.dvd_of_mod_eq_zero hd
    rw [Nat.mod_mod_of_dvd _ dv, Nat.mod_mod_of_dvd _ dv, Nat.add_mod_right]
  · intro h
    refine ⟨hd, fun i hi => ?_⟩
    have := h.at i
    rw [lat_loop, lat_loop, Nat.mod_eq_of_lt hi, Nat.mod_eq_of_lt (a := i % s)] at this
    · exact this
    · have := Nat.mod_lt i h0
      omega
/-! ### least loops -/
theorem lloop_size {w : List Int} (h : w ≠ []) : 0 < (lloop w).length ∧ w.length % (lloop w).length = 0 ∧ isRep w (lloop w).length ∧ w.take (lloop w).length = lloop w ∧ ∀ d, 0 < d → d < (lloop w).length → ¬ isRep w d := by
  have h0 : 0 < w.length := List.length_pos_iff.mpr h
  obtain ⟨r, e, er⟩ := repFrom_all h
  obtain ⟨j, rfl, hj, hr, hb⟩ := repFrom_some e
  have el : (lloop w).length = 1 + j := by rw [← er, List.length_take]; omega
  rw [el]
  refine ⟨by omega, hr.1, hr, er, fun d d0 d1 => ?_⟩
  have := hb (d - 1) (by omega)
  rwa [show 1 + (d - 1) = d by omega] at this
theorem lat_lloop {f w : List Int} (h : w ≠ []) (p : Nat) : lat (f, lloop w) p = lat (f, w) p := by
  obtain ⟨s0, s1, s2, s3, _⟩ := lloop_size h
  have sl := lloop_len w
  by_cases c : p < f.length
  · rw [lat_first c, lat_first c]
  · obtain ⟨j, rfl⟩ := Nat.exists_eq_add_of_le (Nat.le_of_not_lt c)
    have w0 : 0 < w.length := List.length_pos_iff.mpr h
    rw [lat_loop, lat_loop]
    have e := ((isRep_iff s0 sl).mp s2).2 (j % w.length) (Nat.mod_lt _ w0)
    rw [e, Nat.mod_mod_of_dvd _ (Nat.dvd_of_mod_eq_zero s1)]
    conv => lhs; rw [← s3]
    rw [getD_take']
    · rw [s3]
    · rw [s3]
      exact Nat.mod_lt _ s0
/-! ### shifts -/
theorem shift_lat {f g : List Int} (hf : f ≠ []) (hg : g ≠ []) (e : f[f.length - 1]? = g[g.length - 1]?) (p : Nat) : lat (f.take (f.length - 1), g.drop (g.length - 1) ++ g.take (g.length - 1)) p = lat (f, g) p := by
  have f0 : 0 < f.length := List.length_pos_iff.mpr hf
  have g0 : 0 < g.length := List.length_pos_iff.mpr hg
  have e' : f.getD (f.length - 1) 0 = g.getD (g.length - 1) 0 := by
    rw [List.getD_eq_getElem?_getD, List.getD_eq_getElem?_getD, e]
  have tl : (f.take (f.length - 1)).length = f.length - 1 := by rw [List.length_take]; omega
  have gl := (turn_ne hg).2
  have dl : (g.drop (g.length - 1)).length = 1 := by rw [List.length_drop]; omega
  by_cases c : p < f.length - 1
  · rw [lat_first (by rw [tl]; exact c), lat_first (by omega), getD_take' c]
  · obtain ⟨j, rfl⟩ := Nat.exists_eq_add_of_le (Nat.le_of_not_lt c)
    have a := lat_loop (f.take (f.length - 1)) (g.drop (g.length - 1) ++ g.take (g.length - 1)) j
    rw [tl, gl] at a
    rw [a]
    cases j with
    | zero =>
      rw [Nat.zero_mod, getD_app_l (by omega), getD_drop', Nat.add_zero, Nat.add_zero, lat_first (by omega), e']
    | succ j =>
      rw [show f.length - 1 + (j + 1) = f.length + j by omega, lat_loop]
      by_cases z : j % g.length = g.length - 1
      · have zz : (j + 1) % g.length = 0 := by
          rw [← Nat.mod_add_mod, z, Nat.sub_add_cancel g0, Nat.mod_self]
        rw [zz, z, getD_app_l (by omega), getD_drop', Nat.add_zero]
      · have lt := Nat.mod_lt j g0
        have zz : (j + 1) % g.length = j % g.length + 1 := by
          rw [← Nat.mod_add_mod, Nat.mod_eq_of_lt (by omega)]
        rw [zz, getD_app_r (by omega), dl, Nat.add_sub_cancel, getD_take' (by omega)]
theorem shift_all : ∀ {n : Nat} {f g : List Int}, f.length = n → g ≠ [] → (∀ p, lat (shift n (f, g)) p = lat (f, g) p) ∧ (shift n (f, g)).1.length ≤ f.length ∧ (shift n (f, g)).2.length = g.length ∧ (shift n (f, g)).2 ≠ [] ∧
    ((shift n (f, g)).1 = [] ∨ (shift n (f, g)).1[(shift n (f, g)).1.length - 1]? ≠ (shift n (f, g)).2[(shift n (f, g)).2.length - 1]?)
  | 0, f, g, hn, hg => by
    have hf : f = [] := List.eq_nil_of_length_eq_zero hn
    exact ⟨fun _ => rfl, Nat.le_refl _, rfl, hg, .inl hf⟩
  | n + 1, f, g, hn, hg => by
    unfold shift
    by_cases c : f ≠ [] ∧ f[f.length - 1]? = g[g.length - 1]?
    · rw [if_pos c]
      obtain ⟨n1, n2⟩ := turn_ne hg
      obtain ⟨h1, h2, h3, h4, h5⟩ := shift_all (n := n) (f := f.take (f.length - 1)) (g := g.drop (g.length - 1) ++ g.take (g.length - 1)) (by rw [List.length_take]; omega) n1
      refine ⟨fun p => by rw [h1, shift_lat c.1 hg c.2], Nat.le_trans h2 (by rw [List.length_take]; omega), by rw [h3, n2], h4, h5⟩
    · rw [if_neg c]
      refine ⟨fun _ => rfl, Nat.le_refl _, rfl, hg, ?_⟩
      by_cases z : f = []
      · exact .inl z
      · exact .inr fun q => c ⟨z, q⟩
/-- a least lasso -/
structure Red (l : Ls) : Prop where
  ne : l.2 ≠ []
  lp : ∀ d, 0 < d → d < l.2.length → l.2.length % d = 0 → ¬ Per (lat l) l.1.length d
  la : l.1 = [] ∨ l.1[l.1.length - 1]? ≠ l.2[l.2.length - 1]?
theorem lleast_red {l : Ls} (h : l.2 ≠ []) : (∀ p, lat (lleast l) p = lat l p) ∧ Red (lleast l) ∧ (lleast l).1.length ≤ l.1.length ∧ (lleast l).2.length ≤ l.2.length := by
  obtain ⟨s0, s1, s2, s3, s4⟩ := lloop_size h
  have sl := lloop_len l.2
  obtain ⟨h1, h2, h3, h4, h5⟩ := shift_all (n := l.1.length) (f := l.1) (g := lloop l.2) rfl (lloop_ne h)
  have hl : ∀ p, lat (lleast l) p = lat l p := fun p => (h1 p).trans (lat_lloop h p)
  refine ⟨hl, ⟨h4, fun d d0 d1 d2 hp => ?_, h5⟩, h2, by
    have : (lleast l).2.length = (lloop l.2).length := h3
    omega⟩
  have e3 : (lleast l).2.length = (lloop l.2).length := h3
  rw [e3] at d1 d2
  have hp' : Per (lat l) (lleast l).1.length d := fun i hi => by
    rw [← hl, ← hl]
    exact hp i hi
  have hp2 : Per (lat l) l.1.length d := hp'.le h2
  have dd : l.2.length % d = 0 := Nat.mod_eq_zero_of_dvd (Nat.dvd_trans (Nat.dvd_of_mod_eq_zero d2) (Nat.dvd_of_mod_eq_zero s1))
  exact s4 d d0 d1 ((isRep_per d0 (by omega) dd).mpr hp2)
theorem red_first {l m : Ls} (hl : l.2 ≠ []) (hm : Red m) (e : ∀ p, lat l p = lat m p) : m.1.length ≤ l.1.length := by
  apply Nat.le_of_not_lt
  intro c
  have l0 : 0 < l.2.length := List.length_pos_iff.mpr hl
  have m0 : 0 < m.2.length := List.length_pos_iff.mpr hm.ne
  rcases hm.la with z | z
  · rw [z] at c
    simp at c
  · apply z
    obtain ⟨f, g⟩ := m
    replace c : l.1.length < f.length := c
    replace m0 : 0 < g.length := m0
    show f[f.length - 1]? = g[g.length - 1]?
    have a1 : lat (f, g) (f.length - 1) = f.getD (f.length - 1) 0 := lat_first (by omega)
    have a2 := (lat_per l).mul g.length (f.length - 1) (by omega)
    have t1 : g.length * 1 ≤ g.length * l.2.length := Nat.mul_le_mul_left _ l0
    have a3 : lat (f, g) (f.length - 1 + g.length * l.2.length) = g.getD (g.length - 1) 0 := by
      have q := lat_loop f g (g.length * l.2.length - 1)
      rw [show f.length + (g.length * l.2.length - 1) = f.length - 1 + g.length * l.2.length by omega] at q
      rw [q]
      congr 1
      obtain ⟨k, hk⟩ : ∃ k, l.2.length = k + 1 := ⟨l.2.length - 1, by omega⟩
      rw [hk, Nat.mul_succ, show g.length * k + g.length - 1 = (g.length - 1) + g.length * k by omega, Nat.add_mul_mod_self_left, Nat.mod_eq_of_lt (by omega)]
    rw [e, e, a3, a1] at a2
    have b1 : f.getD (f.length - 1) 0 = f[f.length - 1]'(by omega) := by
      rw [List.getD_eq_getElem?_getD, List.getElem?_eq_getElem (by omega)]
      rfl
    have b2 : g.getD (g.length - 1) 0 = g[g.length - 1]'(by omega) := by
      rw [List.getD_eq_getElem?_getD, List.getElem?_eq_getElem (by omega)]
      rfl
    rw [List.getElem?_eq_getElem (by omega), List.getElem?_eq_getElem (by omega), ← b1, ← b2, a2]
/-- one word has one least lasso -/
theorem red_unique {l m : Ls} (hl : Red l) (hm : Red m) (e : ∀ p, lat l p = lat m p) : l = m := by
  have f1 := red_first hl.ne hm e
  have f2 := red_first hm.ne hl (fun p => (e p).symm)
  have fe : l.1.length = m.1.length := Nat.le_antisymm f2 f1
  have l0 : 0 < l.2.length := List.length_pos_iff.mpr hl.ne
  have m0 : 0 < m.2.length := List.length_pos_iff.mpr hm.ne
  have eq : lat l = lat m := funext e
  have p1 := lat_per l
  have p2 := lat_per m
  rw [← fe, ← eq] at p2
  have pg := Per.gcd _ _ p1 p2
  have g0 : 0 < Nat.gcd l.2.length m.2.length := Nat.gcd_pos_of_pos_left _ l0
  have d1 := Nat.gcd_dvd_left l.2.length m.2.length
  have d2 := Nat.gcd_dvd_right l.2.length m.2.length
  have g1 : Nat.gcd l.2.length m.2.length = l.2.length := by
    apply Nat.le_antisymm (Nat.le_of_dvd l0 d1)
    apply Nat.le_of_not_lt
    intro c
    exact hl.lp _ g0 c (Nat.mod_eq_zero_of_dvd d1) pg
  have g2 : Nat.gcd l.2.length m.2.length = m.2.length := by
    apply Nat.le_antisymm (Nat.le_of_dvd m0 d2)
    apply Nat.le_of_not_lt
    intro c
    rw [eq, fe] at pg
    exact hm.lp _ g0 c (Nat.mod_eq_zero_of_dvd d2) pg
  have ge : l.2.length = m.2.length := g1.symm.trans g2
  obtain ⟨lf, lg⟩ := l
  obtain ⟨mf, mg⟩ := m
  replace fe : lf.length = mf.length := fe
  replace ge : lg.length = mg.length := ge
  congr 1
  · refine ext_getD fe fun i hi => ?_
    have := e i
    rwa [lat_first (by omega), lat_first hi] at this
  · refine ext_getD ge fun i hi => ?_
    have := e (lf.length + i)
    rw [lat_loop, fe, lat_loop, Nat.mod_eq_of_lt (by omega), Nat.mod_eq_of_lt hi] at this
    exact this
theorem lleast_same {l m : Ls} (hl : l.2 ≠ []) (hm : m.2 ≠ []) : lleast l = lleast m ↔ ∀ p, lat l p = lat m p := by
  obtain ⟨a1, a2, _⟩ := lleast_red hl
  obtain ⟨b1, b2, _⟩ := lleast_red hm
  constructor
  · intro h p
    rw [← a1, ← b1, h]
  · intro h
    exact red_unique a2 b2 fun p => by rw [a1, b1, h]
/-- so many places tell -/
theorem lat_enough {l m : Ls} (hl : l.2 ≠ []) (hm : m.2 ≠ []) (h : ∀ p, p < max l.1.length m.1.length + l.2.length + m.2.length → lat l p = lat m p) : ∀ p, lat l p = lat m p := by
  have l0 : 0 < l.2.length := List.length_pos_iff.mpr hl
  have m0 : 0 < m.2.length := List.length_pos_iff.mpr hm
  generalize hN : max l.1.length m.1.length = N at h
  have p1 : Per (lat l) N l.2.length := (lat_per l).le (by omega)
  have p2 : Per (lat m) N m.2.length := (lat_per m).le (by omega)
  have q : Per (lat m) N l.2.length := fun i hi => by
    obtain ⟨j, rfl⟩ := Nat.exists_eq_add_of_le hi
    have b1 := Nat.mod_lt j m0
    have b := p2.mul (j / m.2.length) (N + j % m.2.length + l.2.length) (by omega)
    have s := Nat.div_add_mod j m.2.length
    rw [Nat.mul_comm] at s
    rw [show N + j % m.2.length + l.2.length + j / m.2.length * m.2.length = N + j + l.2.length by omega] at b
    rw [b, p2.at j, ← h _ (by omega), ← h _ (by omega), p1 _ (by omega)]
  intro p
  by_cases c : p < N
  · exact h p (by omega)
  · obtain ⟨j, rfl⟩ := Nat.exists_eq_add_of_le (Nat.le_of_not_lt c)
    have b1 := Nat.mod_lt j l0
    rw [p1.at, q.at, h _ (by omega)]
end M

/-! P10: lassos compared, letters told, other lassos of a word. -/
namespace M
open PySem (Str PyData)
open L2 (atI ixN)
/-! ### == of lassos -/
theorem pd_La (S : Sto) (k : Nat) (l : Ls) : pd S (k + 3) (La l) = some (.tuple [.tuple (l.1.map PyData.int), .tuple (l.2.map PyData.int)]) := by
  show ((([W l.1, W l.2] : List D).mapM (pd S (k + 2))).map PyData.tuple) = _
  rw [List.mapM_cons, List.mapM_cons, List.mapM_nil, pd_W, pd_W]
  rfl
theorem shp_La (l : Ls) : shp (.tuple [.tuple (l.1.map PyData.int), .tuple (l.2.map PyData.int)]) := by
  refine shp_tup ?_ ?_
  · show (PyData.canLayAll0 (l.1.map PyData.int) && (PyData.canLayAll0 (l.2.map PyData.int) && true)) = true
    rw [lay_ints, lay_ints]
    rfl
  · show max (PyData.depthAll (l.1.map PyData.int) + 1) (max (PyData.depthAll (l.2.map PyData.int) + 1) 0) ≤ 63
    rw [dep_ints, dep_ints]
    decide
theorem q_La {S : Sto} {l m : Ls} : eqD S (La l) (La m) = some (decide (l = m)) := by
  rw [eqD_of (pd_La S 61 l) (pd_La S 61 m) (shp_La l) (shp_La m)]
  congr 1
  show (PyData.eqvAll (l.1.map PyData.int) (m.1.map PyData.int) && (PyData.eqvAll (l.2.map PyData.int) (m.2.map PyData.int) && true)) = _
  rw [eqv_ints, eqv_ints]
  obtain ⟨a, b⟩ := l
  obtain ⟨c, d⟩ := m
  by_cases h1 : a = c <;> by_cases h2 : b = d <;> simp [h1, h2]
/-! ### letter_at -/
noncomputable def F_la : Fn := fnD [] 4 2 ir_letter_at
theorem la_ok {S : Sto} {l : Ls} {p : Nat} (h : l.2 ≠ []) : F_la [La l, .int p] S = some (.int (lat l p), S) := by
  have hl : 0 < l.2.length := List.length_pos_iff.mpr h
  unfold F_la fnD ir_letter_at
  by_cases c : p < l.1.length
  · have c' : (p : Int) < (iD l.1).length := by rw [W_len]; omega
    have e1 : atI (iD l.1) (p : Int) = some (.int (lat l p)) := by
      rw [at_pos (by omega), Int.toNat_natCast, getD_at c]
      unfold lat
      rw [if_pos c]
    simp only [x_nil, x_cons, x_set, x_setp, x_ret, x_par, x_expr, x_setI, x_aug, x_ite, x_for, x_whl, x_brk, x_cnt, x_pass, x_retN, seq_nx, seq_ret, seq_brk, seq_cnt, seq_none, seq_bnd, seq_if, v_var, v_int, v_bl, v_non, v_str, v_bin, v_neg, v_cmp, v_chn, v_boo, v_not, v_ite, v_tup0, v_tup1, v_tup2, v_idx, v_slc, v_call, v_bi, v_isi, v_lst, v_tupL, v_nilL, v_app, v_ext, a_nil, a_cons, a_disp1, a_disp2, a_disp3, a_comp, o_nil, o_var, o_int, o_neg, o_bin, o_bi, vb_one, vb_more, tb_one, tb_more, t_nil, t_boo, t_not, t_cmp, t_chn, t_call, t_isi, t_nilL, t_var, i_seq, i_rng1, i_rng2, i_enm, b_add, b_sub, b_mul, b_fdiv, b_mod, b_pow, b_cat, b_rep, c_lt, c_le, c_gt, c_ge, c_eq, c_ne, c_isn, q_int, len_tup, len_ref, k_min, k_max, k_int, k_tup, k_tupr, k_lst, ix_tup, ix_ref, sl_tup, end_ret, end_nx, end_if, end_none, bnd_grd, bnd_bnd, bnd_match, bnd_some, bnd_none, getv, setv, setvs, wipev, asg, Option.map_some, Option.map_none, List.length_cons, List.length_nil, List.getElem?_cons_zero, List.getElem?_cons_succ, if_true, truD, decide_eq_true_eq, List.replicate, List.map_cons, List.map_nil, List.cons_append, List.nil_append, ite_true, ite_false, if_false, decide_true, decide_false, and_self, true_and, and_true, true_or, or_true, or_self, reduceCtorEq, Bool.false_eq_true, Bool.true_eq_false, Bool.not_true, Bool.not_false, false_and, and_false, false_or, or_false, gc_same, Int.sub_zero, Int.toNat_natCast, Int.reduceToNat, okS, rngD, at2_0, c', e1]
  · have c' : ¬ (p : Int) < (iD l.1).length := by rw [W_len]; omega
    have e0 : (0 : Int) < (iD l.2).length := by rw [W_len]; omega
    have e1 : atI (iD l.2) (((p : Int) - (iD l.1).length) % (iD l.2).length) = some (.int (lat l p)) := by
      rw [W_len, W_len]
      rw [natmod (by omega), at_pos (by omega), Int.toNat_natCast, getD_at (Nat.mod_lt _ hl)]
      unfold lat
      rw [if_neg c]
    simp only [x_nil, x_cons, x_set, x_setp, x_ret, x_par, x_expr, x_setI, x_aug, x_ite, x_for, x_whl, x_brk, x_cnt, x_pass, x_retN, seq_nx, seq_ret, seq_brk, seq_cnt, seq_none, seq_bnd, seq_if, v_var, v_int, v_bl, v_non, v_str, v_bin, v_neg, v_cmp, v_chn, v_boo, v_not, v_ite, v_tup0, v_tup1, v_tup2, v_idx, v_slc, v_call, v_bi, v_isi, v_lst, v_tupL, v_nilL, v_app, v_ext, a_nil, a_cons, a_disp1, a_disp2, a_disp3, a_comp, o_nil, o_var, o_int, o_neg, o_bin, o_bi, vb_one, vb_more, tb_one, tb_more, t_nil, t_boo, t_not, t_cmp, t_chn, t_call, t_isi, t_nilL, t_var, i_seq, i_rng1, i_rng2, i_enm, b_add, b_sub, b_mul, b_fdiv, b_mod, b_pow, b_cat, b_rep, c_lt, c_le, c_gt, c_ge, c_eq, c_ne, c_isn, q_int, len_tup, len_ref, k_min, k_max, k_int, k_tup, k_tupr, k_lst, ix_tup, ix_ref, sl_tup, end_ret, end_nx, end_if, end_none, bnd_grd, bnd_bnd, bnd_match, bnd_some, bnd_none, getv, setv, setvs, wipev, asg, Option.map_some, Option.map_none, List.length_cons, List.length_nil, List.getElem?_cons_zero, List.getElem?_cons_succ, if_true, truD, decide_eq_true_eq, List.replicate, List.map_cons, List.map_nil, List.cons_append, List.nil_append, ite_true, ite_false, if_false, decide_true, decide_false, and_self, true_and, and_true, true_or, or_true, or_self, reduceCtorEq, Bool.false_eq_true, Bool.true_eq_false, Bool.not_true, Bool.not_false, false_and, and_false, false_or, or_false, gc_same, Int.sub_zero, Int.toNat_natCast, Int.reduceToNat, okS, rngD, at2_0, at2_1, c', e0, e1]
/-! ### other lassos -/
theorem rot_at {g : List Int} {k : Nat} (h : k < g.length) : (g.drop 1 ++ g.take 1).getD k 0 = g.getD ((k + 1) % g.length) 0 := by
  by_cases c : k < g.length - 1
  · rw [getD_app_l (by rw [List.length_drop]; exact c), getD_drop', Nat.mod_eq_of_lt (by omega), Nat.add_comm]
  · have e : k + 1 = g.length := by omega
    rw [getD_app_r (by rw [List.length_drop]; omega), List.length_drop, e, Nat.mod_self, show k - (g.length - 1) = 0 by omega, getD_take' (by decide)]
theorem rot_len {g : List Int} (h : g ≠ []) : (g.drop 1 ++ g.take 1).length = g.length := by
  have h0 : 0 < g.length := List.length_pos_iff.mpr h
  rw [List.length_append, List.length_drop, List.length_take]
  omega
theorem rot_lat {f g : List Int} (h : g ≠ []) (p : Nat) : lat (f ++ g.take 1, g.drop 1 ++ g.take 1) p = lat (f, g) p := by
  have h0 : 0 < g.length := List.length_pos_iff.mpr h
  have tl : (f ++ g.take 1).length = f.length + 1 := by rw [List.length_append, List.length_take]; omega
  by_cases c : p < f.length
  · rw [lat_first (by rw [tl]; omega), lat_first c, getD_app_l c]
  · by_cases c2 : p = f.length
    · subst c2
      rw [lat_first (by rw [tl]; omega), getD_app_r (Nat.le_refl _), Nat.sub_self, getD_take' (by decide)]
      have := lat_loop f g 0
      rw [Nat.add_zero, Nat.zero_mod] at this
      exact this.symm
    · obtain ⟨j, rfl⟩ := Nat.exists_eq_add_of_le (show f.length + 1 ≤ p by omega)
      have a := lat_loop (f ++ g.take 1) (g.drop 1 ++ g.take 1) j
      rw [tl, rot_len h] at a
      rw [a, rot_at (Nat.mod_lt _ h0), Nat.add_assoc, lat_loop, Nat.mod_add_mod, Nat.add_comm 1 j]
theorem rep_lat {f g : List Int} {n : Nat} (h : g ≠ []) (hn : 0 < n) (p : Nat) : lat (f, (List.replicate n g).flatten) p = lat (f, g) p := by
  have h0 : 0 < g.length := List.length_pos_iff.mpr h
  by_cases c : p < f.length
  · rw [lat_first c, lat_first c]
  · obtain ⟨j, rfl⟩ := Nat.exists_eq_add_of_le (Nat.le_of_not_lt c)
    have n0 : 0 < n * g.length := Nat.mul_pos hn h0
    rw [lat_loop, lat_loop, rep_len', rep_at (Nat.mod_lt _ n0), Nat.mod_mul_left_mod]
theorem rep_mem {w : List Int} {n : Nat} {x : Int} (h : x ∈ (List.replicate n w).flatten) : x ∈ w := by
  obtain ⟨v, hv, hx⟩ := List.mem_flatten.mp h
  rw [List.eq_of_mem_replicate hv] at hx
  exact hx
noncomputable def F_other : Fn := fnD [F_take] 5 2 ir_law_other_lasso
theorem other_ok {S : Sto} {h : Nat} {l : Ls} {k : Int} (d : Drw S h) (ln : l.2 ≠ []) (b1 : Below k l.1) (b2 : Below k l.2) (l1 : l.1.length ≤ 3000) (l2 : l.2.length ≤ 3000) :
    ∃ (m : Ls) (o : Ob), m.2 ≠ [] ∧ (∀ p, lat m p = lat l p) ∧ Below k m.1 ∧ Below k m.2 ∧ m.1.length ≤ l.1.length + 3 ∧ m.2.length ≤ 3 * l.2.length ∧ F_other [.ref h, La l] S = some (La m, S.set h o) ∧ Drw (S.set h o) h := by
  obtain ⟨x1, o1, x10, x11, e1, d1⟩ := take_ok d (m := 4) (by omega) (by omega)
  obtain ⟨x2, o2, x20, x21, e2, d2⟩ := take_ok d1 (m := 3) (by omega) (by omega)
  rw [set_set'] at e2 d2
  have lim0 : lim62 0 := lim_ok (by decide)
  have limn : lim62 x1 := lim_ok (by omega)
  have l20 : 0 < l.2.length := List.length_pos_iff.mpr ln
  obtain ⟨e', S', hf, rfl, f, g, a, rfl, g0, gl, fl, hla, bf, bg⟩ := for_inv (b := bodyF (.nm 4) (exec [F_take] ir_law_other_lasso_b1)) (ok := fun _ => True)
    (fun i e S' => S' = S.set h o1 ∧ ∃ (f g : List Int) (a : Option D), e = [some (.ref h), some (La l), some (W f), some (W g), a] ∧ g ≠ [] ∧ g.length = l.2.length ∧ f.length = l.1.length + i ∧ (∀ p, lat (f, g) p = lat l p) ∧ Below k f ∧ Below k g) (ds := rng 0 x1.toNat) (k := 0)
    (e := [some (.ref h), some (La l), some (W l.1), some (W l.2), none]) (S := S.set h o1)
    (fun i d' e S' hd ⟨hS, f, g, a, he, g0, gl, fl, hla, bf, bg⟩ => by
      obtain ⟨hi, rfl⟩ := rng_get hd
      subst hS he
      have c1 : cut (iD g) none (some 1) = iD (g.take 1) := by rw [cut_to _ (by decide), W_take]; rfl
      have c2 : cut (iD g) (some 1) none = iD (g.drop 1) := by rw [cut_from _ (by decide), W_drop]; rfl
      have n1 : (iD f).length + (iD (g.take 1)).length ≤ LIM := by rw [W_len, W_len, List.length_take]; unfold LIM; omega
      have n2 : (iD (g.drop 1)).length + (iD (g.take 1)).length ≤ LIM := by rw [W_len, W_len, List.length_drop, List.length_take]; unfold LIM; omega
      refine ⟨trivial, [some (.ref h), some (La l), some (W (f ++ g.take 1)), some (W (g.drop 1 ++ g.take 1)), some (.int (0 + (i : Int)))], _, ?_, rfl, f ++ g.take 1, g.drop 1 ++ g.take 1, _, rfl, ?_, ?_, ?_, ?_, ?_, ?_⟩
      · unfold bodyF ir_law_other_lasso_b1
        simp only [x_nil, x_cons, x_set, x_setp, x_ret, x_par, x_expr, x_setI, x_aug, x_ite, x_for, x_whl, x_brk, x_cnt, x_pass, x_retN, seq_nx, seq_ret, seq_brk, seq_cnt, seq_none, seq_bnd, seq_if, v_var, v_int, v_bl, v_non, v_str, v_bin, v_neg, v_cmp, v_chn, v_boo, v_not, v_ite, v_tup0, v_tup1, v_tup2, v_idx, v_slc, v_call, v_bi, v_isi, v_lst, v_tupL, v_nilL, v_app, v_ext, a_nil, a_cons, a_disp1, a_disp2, a_disp3, a_comp, o_nil, o_var, o_int, o_neg, o_bin, o_bi, vb_one, vb_more, tb_one, tb_more, t_nil, t_boo, t_not, t_cmp, t_chn, t_call, t_isi, t_nilL, t_var, i_seq, i_rng1, i_rng2, i_enm, b_add, b_sub, b_mul, b_fdiv, b_mod, b_pow, b_cat, b_rep, c_lt, c_le, c_gt, c_ge, c_eq, c_ne, c_isn, q_int, len_tup, len_ref, k_min, k_max, k_int, k_tup, k_tupr, k_lst, ix_tup, ix_ref, sl_tup, end_ret, end_nx, end_if, end_none, bnd_grd, bnd_bnd, bnd_match, bnd_some, bnd_none, getv, setv, setvs, wipev, asg, Option.map_some, Option.map_none, List.length_cons, List.length_nil, List.getElem?_cons_zero, List.getElem?_cons_succ, if_true, truD, decide_eq_true_eq, List.replicate, List.map_cons, List.map_nil, List.cons_append, List.nil_append, ite_true, ite_false, if_false, decide_true, decide_false, and_self, true_and, and_true, true_or, or_true, or_self, reduceCtorEq, Bool.false_eq_true, Bool.true_eq_false, Bool.not_true, Bool.not_false, false_and, and_false, false_or, or_false, gc_same, Int.sub_zero, Int.toNat_natCast, Int.reduceToNat, okS, rngD, c1, c2, n1, n2, W_app]
      · intro z
        have := rot_len g0
        rw [z] at this
        simp only [List.length_nil] at this
        omega
      · rw [rot_len g0, gl]
      · rw [List.length_append, List.length_take]; omega
      · intro p
        rw [rot_lat g0, hla]
      · exact bf.app (bg.sub fun x hx => List.mem_of_mem_take hx)
      · exact (bg.sub fun x hx => List.mem_of_mem_drop hx).app (bg.sub fun x hx => List.mem_of_mem_take hx))
    (fun _ _ _ => trivial) ⟨rfl, l.1, l.2, none, rfl, ln, rfl, rfl, fun _ => rfl, b1, b2⟩
  rw [rng_len] at fl
  have n2 : (1 + x2).toNat * g.length ≤ 3 * g.length := Nat.mul_le_mul_right _ (by omega)
  have r1 : repOk (iD g).length (1 + x2) := ⟨by rw [W_len]; omega, by omega, by omega, by rw [W_len, Nat.mul_comm]; omega⟩
  refine ⟨(f, (List.replicate (1 + x2).toNat g).flatten), o2, ?_, ?_, bf, bg.sub fun x hx => rep_mem hx, ?_, ?_, ?_, d2⟩
  · intro z
    have z2 := congrArg List.length z
    simp only [List.length_nil] at z2
    rw [rep_len'] at z2
    have : 1 * 1 ≤ (1 + x2).toNat * g.length := Nat.mul_le_mul (by omega) (by omega)
    omega
  · intro p
    rw [rep_lat g0 (by omega), hla]
  · simp only; omega
  · simp only; rw [rep_len']; omega
  · unfold F_other fnD ir_law_other_lasso
    simp only [x_nil, x_cons, x_set, x_setp, x_ret, x_par, x_expr, x_setI, x_aug, x_ite, x_for, x_whl, x_brk, x_cnt, x_pass, x_retN, seq_nx, seq_ret, seq_brk, seq_cnt, seq_none, seq_bnd, seq_if, v_var, v_int, v_bl, v_non, v_str, v_bin, v_neg, v_cmp, v_chn, v_boo, v_not, v_ite, v_tup0, v_tup1, v_tup2, v_idx, v_slc, v_call, v_bi, v_isi, v_lst, v_tupL, v_nilL, v_app, v_ext, a_nil, a_cons, a_disp1, a_disp2, a_disp3, a_comp, o_nil, o_var, o_int, o_neg, o_bin, o_bi, vb_one, vb_more, tb_one, tb_more, t_nil, t_boo, t_not, t_cmp, t_chn, t_call, t_isi, t_nilL, t_var, i_seq, i_rng1, i_rng2, i_enm, b_add, b_sub, b_mul, b_fdiv, b_mod, b_pow, b_cat, b_rep, c_lt, c_le, c_gt, c_ge, c_eq, c_ne, c_isn, q_int, len_tup, len_ref, k_min, k_max, k_int, k_tup, k_tupr, k_lst, ix_tup, ix_ref, sl_tup, end_ret, end_nx, end_if, end_none, bnd_grd, bnd_bnd, bnd_match, bnd_some, bnd_none, getv, setv, setvs, wipev, asg, Option.map_some, Option.map_none, List.length_cons, List.length_nil, List.getElem?_cons_zero, List.getElem?_cons_succ, if_true, truD, decide_eq_true_eq, List.replicate, List.map_cons, List.map_nil, List.cons_append, List.nil_append, ite_true, ite_false, if_false, decide_true, decide_false, and_self, true_and, and_true, true_or, or_true, or_self, reduceCtorEq, Bool.false_eq_true, Bool.true_eq_false, Bool.not_true, Bool.not_false, false_and, and_false, false_or, or_false, gc_same, Int.sub_zero, Int.toNat_natCast, Int.reduceToNat, okS, rngD, e1, lim0, limn, hf, e2, r1, W_rep, gc_set]
/-! ### _law_same_endless -/
noncomputable def F_endless : Fn := fnD [F_at] 4 2 ir_law_same_endless
theorem endless_ok {S : Sto} {l m : Ls} (ln : l.2 ≠ []) (mn : m.2 ≠ []) (e : ∀ p, lat l p = lat m p) (h : l.1.length + l.2.length + m.1.length + m.2.length ≤ 100000) : F_endless [La l, La m] S = some (.bl true, S) := by
  have lim0 : lim62 0 := lim_ok (by decide)
  generalize hmx : (if ((iD m.1).length : Int) > ((iD l.1).length : Int) then ((iD m.1).length : Int) else ((iD l.1).length : Int)) = mx
  have mb : 0 ≤ mx ∧ mx ≤ 100000 := by
    rw [← hmx]
    rw [W_len, W_len]
    split <;> omega
  have limn : lim62 (mx + (iD l.2).length + (iD m.2).length) := lim_ok (by rw [W_len, W_len]; omega)
  have hc : compD (turnF [3] (.nm 3) (sem [F_at] ir_law_same_endless_e1).t (sem [F_at] (.var 3)).v [some (La l), some (La m), some (.int (mx + (iD l.2).length + (iD m.2).length)), none]) (fun _ => True) (rng 0 (mx + (iD l.2).length + (iD m.2).length).toNat) [] S = some ([], S) := by
    refine comp_none trivial fun d hd => ?_
    obtain ⟨i, hi⟩ := List.mem_iff_getElem?.mp hd
    obtain ⟨hi2, rfl⟩ := rng_get hi
    have a1 : F_at [La l, .int (0 + (i : Int))] S = some (.int (lat l i), S) := by
      rw [show (0 + (i : Int)) = (i : Int) by omega]
      exact at_ok ln
    have a2 : F_at [La m, .int (0 + (i : Int))] S = some (.int (lat l i), S) := by
      rw [show (0 + (i : Int)) = (i : Int) by omega, e]
      exact at_ok mn
    unfold turnF ir_law_same_endless_e1
    simp only [x_nil, x_cons, x_set, x_setp, x_ret, x_par, x_expr, x_setI, x_aug, x_ite, x_for, x_whl, x_brk, x_cnt, x_pass, x_retN, seq_nx, seq_ret, seq_brk, seq_cnt, seq_none, seq_bnd, seq_if, v_var, v_int, v_bl, v_non, v_str, v_bin, v_neg, v_cmp, v_chn, v_boo, v_not, v_ite, v_tup0, v_tup1, v_tup2, v_idx, v_slc, v_call, v_bi, v_isi, v_lst, v_tupL, v_nilL, v_app, v_ext, a_nil, a_cons, a_disp1, a_disp2, a_disp3, a_comp, o_nil, o_var, o_int, o_neg, o_bin, o_bi, vb_one, vb_more, tb_one, tb_more, t_nil, t_boo, t_not, t_cmp, t_chn, t_call, t_isi, t_nilL, t_var, i_seq, i_rng1, i_rng2, i_enm, b_add, b_sub, b_mul, b_fdiv, b_mod, b_pow, b_cat, b_rep, c_lt, c_le, c_gt, c_ge, c_eq, c_ne, c_isn, q_int, len_tup, len_ref, k_min, k_max, k_int, k_tup, k_tupr, k_lst, ix_tup, ix_ref, sl_tup, end_ret, end_nx, end_if, end_none, bnd_grd, bnd_bnd, bnd_match, bnd_some, bnd_none, getv, setv, setvs, wipev, asg, Option.map_some, Option.map_none, List.length_cons, List.length_nil, List.getElem?_cons_zero, List.getElem?_cons_succ, if_true, truD, decide_eq_true_eq, List.replicate, List.map_cons, List.map_nil, List.cons_append, List.nil_append, ite_true, ite_false, if_false, decide_true, decide_false, and_self, true_and, and_true, true_or, or_true, or_self, reduceCtorEq, Bool.false_eq_true, Bool.true_eq_false, Bool.not_true, Bool.not_false, false_and, and_false, false_or, or_false, gc_same, Int.sub_zero, Int.toNat_natCast, Int.reduceToNat, okS, rngD, a1, a2, beq_self_eq_true]
  unfold F_endless fnD ir_law_same_endless
  simp only [x_nil, x_cons, x_set, x_setp, x_ret, x_par, x_expr, x_setI, x_aug, x_ite, x_for, x_whl, x_brk, x_cnt, x_pass, x_retN, seq_nx, seq_ret, seq_brk, seq_cnt, seq_none, seq_bnd, seq_if, v_var, v_int, v_bl, v_non, v_str, v_bin, v_neg, v_cmp, v_chn, v_boo, v_not, v_ite, v_tup0, v_tup1, v_tup2, v_idx, v_slc, v_call, v_bi, v_isi, v_lst, v_tupL, v_nilL, v_app, v_ext, a_nil, a_cons, a_disp1, a_disp2, a_disp3, a_comp, o_nil, o_var, o_int, o_neg, o_bin, o_bi, vb_one, vb_more, tb_one, tb_more, t_nil, t_boo, t_not, t_cmp, t_chn, t_call, t_isi, t_nilL, t_var, i_seq, i_rng1, i_rng2, i_enm, b_add, b_sub, b_mul, b_fdiv, b_mod, b_pow, b_cat, b_rep, c_lt, c_le, c_gt, c_ge, c_eq, c_ne, c_isn, q_int, len_tup, len_ref, k_min, k_max, k_int, k_tup, k_tupr, k_lst, ix_tup, ix_ref, sl_tup, end_ret, end_nx, end_if, end_none, bnd_grd, bnd_bnd, bnd_match, bnd_some, bnd_none, getv, setv, setvs, wipev, asg, Option.map_some, Option.map_none, List.length_cons, List.length_nil, List.getElem?_cons_zero, List.getElem?_cons_succ, if_true, truD, decide_eq_true_eq, List.replicate, List.map_cons, List.map_nil, List.cons_append, List.nil_append, ite_true, ite_false, if_false, decide_true, decide_false, and_self, true_and, and_true, true_or, or_true, or_self, reduceCtorEq, Bool.false_eq_true, Bool.true_eq_false, Bool.not_true, Bool.not_false, false_and, and_false, false_or, or_false, gc_same, Int.sub_zero, Int.toNat_natCast, Int.reduceToNat, okS, rngD, at2_0, at2_1, hmx, lim0, limn, hc, nil_true]
end M

/-! P11: first differences; lassos that are near. -/
namespace M
open PySem (Str PyData)
open L2 (atI ixN)
theorem least_ex {P : Nat → Prop} : ∀ n, P n → ∃ p, P p ∧ ∀ q, q < p → ¬ P q := fun n => by
  induction n using Nat.strongRecOn with
  | ind n ih =>
    intro h
    by_cases c : ∃ q, q < n ∧ P q
    · obtain ⟨q, hq, pq⟩ := c
      exact ih q hq pq
    · exact ⟨n, h, fun q hq pq => c ⟨q, hq, pq⟩⟩
/-! ### same_word, first_difference -/
noncomputable def F_same_word : Fn := fnD [F_lleast] 2 2 ir_same_word
theorem same_word_ok {S : Sto} {l m : Ls} (ln : l.2 ≠ []) (mn : m.2 ≠ []) (l2 : l.2.length ≤ 10000) (m2 : m.2.length ≤ 10000) : F_same_word [La l, La m] S = some (.bl (decide (lleast l = lleast m)), S) := by
  have e1 := lleast_ok (S := S) ln l2
  have e2 := lleast_ok (S := S) mn m2
  unfold F_same_word fnD ir_same_word
  simp only [x_nil, x_cons, x_set, x_setp, x_ret, x_par, x_expr, x_setI, x_aug, x_ite, x_for, x_whl, x_brk, x_cnt, x_pass, x_retN, seq_nx, seq_ret, seq_brk, seq_cnt, seq_none, seq_bnd, seq_if, v_var, v_int, v_bl, v_non, v_str, v_bin, v_neg, v_cmp, v_chn, v_boo, v_not, v_ite, v_tup0, v_tup1, v_tup2, v_idx, v_slc, v_call, v_bi, v_isi, v_lst, v_tupL, v_nilL, v_app, v_ext, a_nil, a_cons, a_disp1, a_disp2, a_disp3, a_comp, o_nil, o_var, o_int, o_neg, o_bin, o_bi, vb_one, vb_more, tb_one, tb_more, t_nil, t_boo, t_not, t_cmp, t_chn, t_call, t_isi, t_nilL, t_var, i_seq, i_rng1, i_rng2, i_enm, b_add, b_sub, b_mul, b_fdiv, b_mod, b_pow, b_cat, b_rep, c_lt, c_le, c_gt, c_ge, c_eq, c_ne, c_isn, q_int, len_tup, len_ref, k_min, k_max, k_int, k_tup, k_tupr, k_lst, ix_tup, ix_ref, sl_tup, end_ret, end_nx, end_if, end_none, bnd_grd, bnd_bnd, bnd_match, bnd_some, bnd_none, getv, setv, setvs, wipev, asg, Option.map_some, Option.map_none, List.length_cons, List.length_nil, List.getElem?_cons_zero, List.getElem?_cons_succ, if_true, truD, decide_eq_true_eq, List.replicate, List.map_cons, List.map_nil, List.cons_append, List.nil_append, ite_true, ite_false, if_false, decide_true, decide_false, and_self, true_and, and_true, true_or, or_true, or_self, reduceCtorEq, Bool.false_eq_true, Bool.true_eq_false, Bool.not_true, Bool.not_false, false_and, and_false, false_or, or_false, gc_same, Int.sub_zero, Int.toNat_natCast, Int.reduceToNat, okS, rngD, e1, e2, q_La]
noncomputable def F_fd : Fn := fnD [F_same_word, F_la] 3 2 ir_first_difference
theorem fd_while {S : Sto} {l m : Ls} {p : Nat} (ln : l.2 ≠ []) (mn : m.2 ≠ []) (h0 : ∀ q, q < p → lat l q = lat m q) (h1 : lat l p ≠ lat m p) : ∀ n j, j + n = p →
    wh (sem [F_same_word, F_la] ir_first_difference_e1).t (exec [F_same_word, F_la] ir_first_difference_b1) [some (La l), some (La m), some (.int (j : Nat))] S = some (.nx [some (La l), some (La m), some (.int (p : Nat))] S)
  | 0, j, e => by
    obtain rfl : j = p := e
    rw [wh_eq]
    have g1 := la_ok (S := S) (p := j) ln
    have g2 := la_ok (S := S) (p := j) mn
    have cb : (lat l j == lat m j) = false := beq_eq_false_iff_ne.mpr h1
    have et : (sem [F_same_word, F_la] ir_first_difference_e1).t [some (La l), some (La m), some (.int (j : Nat))] S = some (false, S) := by
      unfold ir_first_difference_e1
      simp only [x_nil, x_cons, x_set, x_setp, x_ret, x_par, x_expr, x_setI, x_aug, x_ite, x_for, x_whl, x_brk, x_cnt, x_pass, x_retN, seq_nx, seq_ret, seq_brk, seq_cnt, seq_none, seq_bnd, seq_if, v_var, v_int, v_bl, v_non, v_str, v_bin, v_neg, v_cmp, v_chn, v_boo, v_not, v_ite, v_tup0, v_tup1, v_tup2, v_idx, v_slc, v_call, v_bi, v_isi, v_lst, v_tupL, v_nilL, v_app, v_ext, a_nil, a_cons, a_disp1, a_disp2, a_disp3, a_comp, o_nil, o_var, o_int, o_neg, o_bin, o_bi, vb_one, vb_more, tb_one, tb_more, t_nil, t_boo, t_not, t_cmp, t_chn, t_call, t_isi, t_nilL, t_var, i_seq, i_rng1, i_rng2, i_enm, b_add, b_sub, b_mul, b_fdiv, b_mod, b_pow, b_cat, b_rep, c_lt, c_le, c_gt, c_ge, c_eq, c_ne, c_isn, q_int, len_tup, len_ref, k_min, k_max, k_int, k_tup, k_tupr, k_lst, ix_tup, ix_ref, sl_tup, end_ret, end_nx, end_if, end_none, bnd_grd, bnd_bnd, bnd_match, bnd_some, bnd_none, getv, setv, setvs, wipev, asg, Option.map_some, Option.map_none, List.length_cons, List.length_nil, List.getElem?_cons_zero, List.getElem?_cons_succ, if_true, truD, decide_eq_true_eq, List.replicate, List.map_cons, List.map_nil, List.cons_append, List.nil_append, ite_true, ite_false, if_false, decide_true, decide_false, and_self, true_and, and_true, true_or, or_true, or_self, reduceCtorEq, Bool.false_eq_true, Bool.true_eq_false, Bool.not_true, Bool.not_false, false_and, and_false, false_or, or_false, gc_same, Int.sub_zero, Int.toNat_natCast, Int.reduceToNat, okS, rngD, g1, g2, cb]
    rw [et]
  | n + 1, j, e => by
    rw [wh_eq]
    have g1 := la_ok (S := S) (p := j) ln
    have g2 := la_ok (S := S) (p := j) mn
    have cb : (lat l j == lat m j) = true := by rw [h0 j (by omega)]; exact beq_self_eq_true _
    have et : (sem [F_same_word, F_la] ir_first_difference_e1).t [some (La l), some (La m), some (.int (j : Nat))] S = some (true, S) := by
      unfold ir_first_difference_e1
      simp only [x_nil, x_cons, x_set, x_setp, x_ret, x_par, x_expr, x_setI, x_aug, x_ite, x_for, x_whl, x_brk, x_cnt, x_pass, x_retN, seq_nx, seq_ret, seq_brk, seq_cnt, seq_none, seq_bnd, seq_if, v_var, v_int, v_bl, v_non, v_str, v_bin, v_neg, v_cmp, v_chn, v_boo, v_not, v_ite, v_tup0, v_tup1, v_tup2, v_idx, v_slc, v_call, v_bi, v_isi, v_lst, v_tupL, v_nilL, v_app, v_ext, a_nil, a_cons, a_disp1, a_disp2, a_disp3, a_comp, o_nil, o_var, o_int, o_neg, o_bin, o_bi, vb_one, vb_more, tb_one, tb_more, t_nil, t_boo, t_not, t_cmp, t_chn, t_call, t_isi, t_nilL, t_var, i_seq, i_rng1, i_rng2, i_enm, b_add, b_sub, b_mul, b_fdiv, b_mod, b_pow, b_cat, b_rep, c_lt, c_le, c_gt, c_ge, c_eq, c_ne, c_isn, q_int, len_tup, len_ref, k_min, k_max, k_int, k_tup, k_tupr, k_lst, ix_tup, ix_ref, sl_tup, end_ret, end_nx, end_if, end_none, bnd_grd, bnd_bnd, bnd_match, bnd_some, bnd_none, getv, setv, setvs, wipev, asg, Option.map_some, Option.map_none, List.length_cons, List.length_nil, List.getElem?_cons_zero, List.getElem?_cons_succ, if_true, truD, decide_eq_true_eq, List.replicate, List.map_cons, List.map_nil, List.cons_append, List.nil_append, ite_true, ite_false, if_false, decide_true, decide_false, and_self, true_and, and_true, true_or, or_true, or_self, reduceCtorEq, Bool.false_eq_true, Bool.true_eq_false, Bool.not_true, Bool.not_false, false_and, and_false, false_or, or_false, gc_same, Int.sub_zero, Int.toNat_natCast, Int.reduceToNat, okS, rngD, g1, g2, cb]
    have eb : exec [F_same_word, F_la] ir_first_difference_b1 [some (La l), some (La m), some (.int (j : Nat))] S = some (.nx [some (La l), some (La m), some (.int ((j + 1 : Nat) : Int))] S) := by
      have e2 : (j : Int) + 1 = ((j + 1 : Nat) : Int) := rfl
      unfold ir_first_difference_b1
      simp only [x_nil, x_cons, x_set, x_setp, x_ret, x_par, x_expr, x_setI, x_aug, x_ite, x_for, x_whl, x_brk, x_cnt, x_pass, x_retN, seq_nx, seq_ret, seq_brk, seq_cnt, seq_none, seq_bnd, seq_if, v_var, v_int, v_bl, v_non, v_str, v_bin, v_neg, v_cmp, v_chn, v_boo, v_not, v_ite, v_tup0, v_tup1, v_tup2, v_idx, v_slc, v_call, v_bi, v_isi, v_lst, v_tupL, v_nilL, v_app, v_ext, a_nil, a_cons, a_disp1, a_disp2, a_disp3, a_comp, o_nil, o_var, o_int, o_neg, o_bin, o_bi, vb_one, vb_more, tb_one, tb_more, t_nil, t_boo, t_not, t_cmp, t_chn, t_call, t_isi, t_nilL, t_var, i_seq, i_rng1, i_rng2, i_enm, b_add, b_sub, b_mul, b_fdiv, b_mod, b_pow, b_cat, b_rep, c_lt, c_le, c_gt, c_ge, c_eq, c_ne, c_isn, q_int, len_tup, len_ref, k_min, k_max, k_int, k_tup, k_tupr, k_lst, ix_tup, ix_ref, sl_tup, end_ret, end_nx, end_if, end_none, bnd_grd, bnd_bnd, bnd_match, bnd_some, bnd_none, getv, setv, setvs, wipev, asg, Option.map_some, Option.map_none, List.length_cons, List.length_nil, List.getElem?_cons_zero, List.getElem?_cons_succ, if_true, truD, decide_eq_true_eq, List.replicate, List.map_cons, List.map_nil, List.cons_append, List.nil_append, ite_true, ite_false, if_false, decide_true, decide_false, and_self, true_and, and_true, true_or, or_true, or_self, reduceCtorEq, Bool.false_eq_true, Bool.true_eq_false, Bool.not_true, Bool.not_false, false_and, and_false, false_or, or_false, gc_same, Int.sub_zero, Int.toNat_natCast, Int.reduceToNat, okS, rngD, e2]
    rw [et]
    simp only [eb]
    exact fd_while ln mn h0 h1 n (j + 1) (by omega)
theorem fd_none {S : Sto} {l m : Ls} (ln : l.2 ≠ []) (mn : m.2 ≠ []) (l2 : l.2.length ≤ 10000) (m2 : m.2.length ≤ 10000) (h : ∀ p, lat l p = lat m p) : F_fd [La l, La m] S = some (.non, S) := by
  have e1 := same_word_ok (S := S) ln mn l2 m2
  rw [decide_eq_true ((lleast_same ln mn).mpr h)] at e1
  unfold F_fd fnD ir_first_difference
  simp only [x_nil, x_cons, x_set, x_setp, x_ret, x_par, x_expr, x_setI, x_aug, x_ite, x_for, x_whl, x_brk, x_cnt, x_pass, x_retN, seq_nx, seq_ret, seq_brk, seq_cnt, seq_none, seq_bnd, seq_if, v_var, v_int, v_bl, v_non, v_str, v_bin, v_neg, v_cmp, v_chn, v_boo, v_not, v_ite, v_tup0, v_tup1, v_tup2, v_idx, v_slc, v_call, v_bi, v_isi, v_lst, v_tupL, v_nilL, v_app, v_ext, a_nil, a_cons, a_disp1, a_disp2, a_disp3, a_comp, o_nil, o_var, o_int, o_neg, o_bin, o_bi, vb_one, vb_more, tb_one, tb_more, t_nil, t_boo, t_not, t_cmp, t_chn, t_call, t_isi, t_nilL, t_var, i_seq, i_rng1, i_rng2, i_enm, b_add, b_sub, b_mul, b_fdiv, b_mod, b_pow, b_cat, b_rep, c_lt, c_le, c_gt, c_ge, c_eq, c_ne, c_isn, q_int, len_tup, len_ref, k_min, k_max, k_int, k_tup, k_tupr, k_lst, ix_tup, ix_ref, sl_tup, end_ret, end_nx, end_if, end_none, bnd_grd, bnd_bnd, bnd_match, bnd_some, bnd_none, getv, setv, setvs, wipev, asg, Option.map_some, Option.map_none, List.length_cons, List.length_nil, List.getElem?_cons_zero, List.getElem?_cons_succ, if_true, truD, decide_eq_true_eq, List.replicate, List.map_cons, List.map_nil, List.cons_append, List.nil_append, ite_true, ite_false, if_false, decide_true, decide_false, and_self, true_and, and_true, true_or, or_true, or_self, reduceCtorEq, Bool.false_eq_true, Bool.true_eq_false, Bool.not_true, Bool.not_false, false_and, and_false, false_or, or_false, gc_same, Int.sub_zero, Int.toNat_natCast, Int.reduceToNat, okS, rngD, e1]
theorem fd_some {S : Sto} {l m : Ls} {p : Nat} (ln : l.2 ≠ []) (mn : m.2 ≠ []) (l2 : l.2.length ≤ 10000) (m2 : m.2.length ≤ 10000) (h0 : ∀ q, q < p → lat l q = lat m q) (h1 : lat l p ≠ lat m p) : F_fd [La l, La m] S = some (.int p, S) := by
  have e1 := same_word_ok (S := S) ln mn l2 m2
  rw [decide_eq_false (fun z => h1 ((lleast_same ln mn).mp z p))] at e1
  have e2 := fd_while (S := S) ln mn h0 h1 p 0 (by omega)
  have e3 : ((0 : Nat) : Int) = 0 := rfl
  rw [e3] at e2
  unfold F_fd fnD ir_first_difference
  simp only [x_nil, x_cons, x_set, x_setp, x_ret, x_par, x_expr, x_setI, x_aug, x_ite, x_for, x_whl, x_brk, x_cnt, x_pass, x_retN, seq_nx, seq_ret, seq_brk, seq_cnt, seq_none, seq_bnd, seq_if, v_var, v_int, v_bl, v_non, v_str, v_bin, v_neg, v_cmp, v_chn, v_boo, v_not, v_ite, v_tup0, v_tup1, v_tup2, v_idx, v_slc, v_call, v_bi, v_isi, v_lst, v_tupL, v_nilL, v_app, v_ext, a_nil, a_cons, a_disp1, a_disp2, a_disp3, a_comp, o_nil, o_var, o_int, o_neg, o_bin, o_bi, vb_one, vb_more, tb_one, tb_more, t_nil, t_boo, t_not, t_cmp, t_chn, t_call, t_isi, t_nilL, t_var, i_seq, i_rng1, i_rng2, i_enm, b_add, b_sub, b_mul, b_fdiv, b_mod, b_pow, b_cat, b_rep, c_lt, c_le, c_gt, c_ge, c_eq, c_ne, c_isn, q_int, len_tup, len_ref, k_min, k_max, k_int, k_tup, k_tupr, k_lst, ix_tup, ix_ref, sl_tup, end_ret, end_nx, end_if, end_none, bnd_grd, bnd_bnd, bnd_match, bnd_some, bnd_none, getv, setv, setvs, wipev, asg, Option.map_some, Option.map_none, List.length_cons, List.length_nil, List.getElem?_cons_zero, List.getElem?_cons_succ, if_true, truD, decide_eq_true_eq, List.replicate, List.map_cons, List.map_nil, List.cons_append, List.nil_append, ite_true, ite_false, if_false, decide_true, decide_false, and_self, true_and, and_true, true_or, or_true, or_self, reduceCtorEq, Bool.false_eq_true, Bool.true_eq_false, Bool.not_true, Bool.not_false, false_and, and_false, false_or, or_false, gc_same, Int.sub_zero, Int.toNat_natCast, Int.reduceToNat, okS, rngD, e1, e2]
/-! ### _law_first -/
noncomputable def F_first : Fn := fnD [F_at] 3 2 ir_law_first
theorem first_turn {S : Sto} {l m : Ls} {i : Nat} {a : Option D} (ln : l.2 ≠ []) (mn : m.2 ≠ []) : bodyF (.nm 2) (exec [F_at] ir_law_first_b1) (.int (0 + (i : Int))) [some (La l), some (La m), a] S =
    if lat l i = lat m i then some (.nx [some (La l), some (La m), some (.int (0 + (i : Int)))] S) else some (.ret (.int (0 + (i : Int))) S) := by
  have a1 : F_at [La l, .int (0 + (i : Int))] S = some (.int (lat l i), S) := by
    rw [show (0 + (i : Int)) = (i : Int) by omega]
    exact at_ok ln
  have a2 : F_at [La m, .int (0 + (i : Int))] S = some (.int (lat m i), S) := by
    rw [show (0 + (i : Int)) = (i : Int) by omega]
    exact at_ok mn
  unfold bodyF ir_law_first_b1
  by_cases c : lat l i = lat m i
  · have cb : (lat l i == lat m i) = true := by rw [c]; exact beq_self_eq_true _
    rw [if_pos c]
    simp only [x_nil, x_cons, x_set, x_setp, x_ret, x_par, x_expr, x_setI, x_aug, x_ite, x_for, x_whl, x_brk, x_cnt, x_pass, x_retN, seq_nx, seq_ret, seq_brk, seq_cnt, seq_none, seq_bnd, seq_if, v_var, v_int, v_bl, v_non, v_str, v_bin, v_neg, v_cmp, v_chn, v_boo, v_not, v_ite, v_tup0, v_tup1, v_tup2, v_idx, v_slc, v_call, v_bi, v_isi, v_lst, v_tupL, v_nilL, v_app, v_ext, a_nil, a_cons, a_disp1, a_disp2, a_disp3, a_comp, o_nil, o_var, o_int, o_neg, o_bin, o_bi, vb_one, vb_more, tb_one, tb_more, t_nil, t_boo, t_not, t_cmp, t_chn, t_call, t_isi, t_nilL, t_var, i_seq, i_rng1, i_rng2, i_enm, b_add, b_sub, b_mul, b_fdiv, b_mod, b_pow, b_cat, b_rep, c_lt, c_le, c_gt, c_ge, c_eq, c_ne, c_isn, q_int, len_tup, len_ref, k_min, k_max, k_int, k_tup, k_tupr, k_lst, ix_tup, ix_ref, sl_tup, end_ret, end_nx, end_if, end_none, bnd_grd, bnd_bnd, bnd_match, bnd_some, bnd_none, getv, setv, setvs, wipev, asg, Option.map_some, Option.map_none, List.length_cons, List.length_nil, List.getElem?_cons_zero, List.getElem?_cons_succ, if_true, truD, decide_eq_true_eq, List.replicate, List.map_cons, List.map_nil, List.cons_append, List.nil_append, ite_true, ite_false, if_false, decide_true, decide_false, and_self, true_and, and_true, true_or, or_true, or_self, reduceCtorEq, Bool.false_eq_true, Bool.true_eq_false, Bool.not_true, Bool.not_false, false_and, and_false, false_or, or_false, gc_same, Int.sub_zero, Int.toNat_natCast, Int.reduceToNat, okS, rngD, a1, a2, cb]
  · have cb : (lat l i == lat m i) = false := beq_eq_false_iff_ne.mpr c
    rw [if_neg c]
    simp only [x_nil, x_cons, x_set, x_setp, x_ret, x_par, x_expr, x_setI, x_aug, x_ite, x_for, x_whl, x_brk, x_cnt, x_pass, x_retN, seq_nx, seq_ret, seq_brk, seq_cnt, seq_none, seq_bnd, seq_if, v_var, v_int, v_bl, v_non, v_str, v_bin, v_neg, v_cmp, v_chn, v_boo, v_not, v_ite, v_tup0, v_tup1, v_tup2, v_idx, v_slc, v_call, v_bi, v_isi, v_lst, v_tupL, v_nilL, v_app, v_ext, a_nil, a_cons, a_disp1, a_disp2, a_disp3, a_comp, o_nil, o_var, o_int, o_neg, o_bin, o_bi, vb_one, vb_more, tb_one, tb_more, t_nil, t_boo, t_not, t_cmp, t_chn, t_call, t_isi, t_nilL, t_var, i_seq, i_rng1, i_rng2, i_enm, b_add, b_sub, b_mul, b_fdiv, b_mod, b_pow, b_cat, b_rep, c_lt, c_le, c_gt, c_ge, c_eq, c_ne, c_isn, q_int, len_tup, len_ref, k_min, k_max, k_int, k_tup, k_tupr, k_lst, ix_tup, ix_ref, sl_tup, end_ret, end_nx, end_if, end_none, bnd_grd, bnd_bnd, bnd_match, bnd_some, bnd_none, getv, setv, setvs, wipev, asg, Option.map_some, Option.map_none, List.length_cons, List.length_nil, List.getElem?_cons_zero, List.getElem?_cons_succ, if_true, truD, decide_eq_true_eq, List.replicate, List.map_cons, List.map_nil, List.cons_append, List.nil_append, ite_true, ite_false, if_false, decide_true, decide_false, and_self, true_and, and_true, true_or, or_true, or_self, reduceCtorEq, Bool.false_eq_true, Bool.true_eq_false, Bool.not_true, Bool.not_false, false_and, and_false, false_or, or_false, gc_same, Int.sub_zero, Int.toNat_natCast, Int.reduceToNat, okS, rngD, a1, a2, cb]
theorem first_ok {S : Sto} {l m : Ls} (ln : l.2 ≠ []) (mn : m.2 ≠ []) (h : l.1.length + l.2.length + m.1.length + m.2.length ≤ 100000) :
    ((∀ p, lat l p = lat m p) → F_first [La l, La m] S = some (.non, S)) ∧ ∀ p, (∀ q, q < p → lat l q = lat m q) → lat l p ≠ lat m p → F_first [La l, La m] S = some (.int (p : Nat), S) := by
  have lim0 : lim62 0 := lim_ok (by decide)
  generalize hmx : (if ((iD m.1).length : Int) > ((iD l.1).length : Int) then ((iD m.1).length : Int) else ((iD l.1).length : Int)) = mx
  have mb : mx = ((max l.1.length m.1.length : Nat) : Int) := by
    rw [← hmx]
    rw [W_len, W_len]
    split <;> omega
  have limn : lim62 (mx + (iD l.2).length + (iD m.2).length) := lim_ok (by rw [W_len, W_len]; omega)
  have hN : (mx + (iD l.2).length + (iD m.2).length).toNat = max l.1.length m.1.length + l.2.length + m.2.length := by
    rw [W_len, W_len, mb]
    omega
  constructor
  · intro e
    obtain ⟨e', S', hf, rfl, a, rfl⟩ := for_inv (b := bodyF (.nm 2) (exec [F_at] ir_law_first_b1)) (ok := fun _ => True) (fun i e S' => S' = S ∧ ∃ a, e = [some (La l), some (La m), a]) (ds := rng 0 (max l.1.length m.1.length + l.2.length + m.2.length)) (k := 0) (e := [some (La l), some (La m), none]) (S := S)
      (fun i d e' S' hd ⟨hS, a, he⟩ => by
        obtain ⟨hi, rfl⟩ := rng_get hd
        subst hS he
        have := first_turn (S := S') (i := i) (a := a) ln mn
        rw [if_pos (e i)] at this
        exact ⟨trivial, _, _, this, rfl, _, rfl⟩)
      (fun _ _ _ => trivial) ⟨rfl, none, rfl⟩
    unfold F_first fnD ir_law_first
    simp only [x_nil, x_cons, x_set, x_setp, x_ret, x_par, x_expr, x_setI, x_aug, x_ite, x_for, x_whl, x_brk, x_cnt, x_pass, x_retN, seq_nx, seq_ret, seq_brk, seq_cnt, seq_none, seq_bnd, seq_if, v_var, v_int, v_bl, v_non, v_str, v_bin, v_neg, v_cmp, v_chn, v_boo, v_not, v_ite, v_tup0, v_tup1, v_tup2, v_idx, v_slc, v_call, v_bi, v_isi, v_lst, v_tupL, v_nilL, v_app, v_ext, a_nil, a_cons, a_disp1, a_disp2, a_disp3, a_comp, o_nil, o_var, o_int, o_neg, o_bin, o_bi, vb_one, vb_more, tb_one, tb_more, t_nil, t_boo, t_not, t_cmp, t_chn, t_call, t_isi, t_nilL, t_var, i_seq, i_rng1, i_rng2, i_enm, b_add, b_sub, b_mul, b_fdiv, b_mod, b_pow, b_cat, b_rep, c_lt, c_le, c_gt, c_ge, c_eq, c_ne, c_isn, q_int, len_tup, len_ref, k_min, k_max, k_int, k_tup, k_tupr, k_lst, ix_tup, ix_ref, sl_tup, end_ret, end_nx, end_if, end_none, bnd_grd, bnd_bnd, bnd_match, bnd_some, bnd_none, getv, setv, setvs, wipev, asg, Option.map_some, Option.map_none, List.length_cons, List.length_nil, List.getElem?_cons_zero, List.getElem?_cons_succ, if_true, truD, decide_eq_true_eq, List.replicate, List.map_cons, List.map_nil, List.cons_append, List.nil_append, ite_true, ite_false, if_false, decide_true, decide_false, and_self, true_and, and_true, true_or, or_true, or_self, reduceCtorEq, Bool.false_eq_true, Bool.true_eq_false, Bool.not_true, Bool.not_false, false_and, and_false, false_or, or_false, gc_same, Int.sub_zero, Int.toNat_natCast, Int.reduceToNat, okS, rngD, at2_0, at2_1, hmx, lim0, limn, hN, hf]
  · intro p h0 h1
    have pl : p < max l.1.length m.1.length + l.2.length + m.2.length := by
      apply Nat.lt_of_not_le
      intro c
      exact h1 (lat_enough ln mn (fun q hq => h0 q (by omega)) p)
    have e0 : (0 + (p : Int)) = ((p : Nat) : Int) := by omega
    have hf := for_stop (b := bodyF (.nm 2) (exec [F_at] ir_law_first_b1)) (ok := fun _ => True) (r := some (.ret (.int (p : Nat)) S)) (fun i e S' => S' = S ∧ ∃ a, e = [some (La l), some (La m), a]) (ds := rng 0 (max l.1.length m.1.length + l.2.length + m.2.length)) (k := 0) (j := p) (e := [some (La l), some (La m), none]) (S := S)
      (fun i d e' S' hij hd ⟨hS, a, he⟩ => by
        obtain ⟨hi, rfl⟩ := rng_get hd
        subst hS he
        have := first_turn (S := S') (i := i) (a := a) ln mn
        rw [if_pos (h0 i hij)] at this
        exact ⟨trivial, _, _, this, rfl, _, rfl⟩)
      (fun d e' S' hd ⟨hS, a, he⟩ => by
        obtain ⟨hi, rfl⟩ := rng_get hd
        subst hS he
        have := first_turn (S := S') (i := p) (a := a) ln mn
        rw [if_neg h1] at this
        refine ⟨trivial, .inr ⟨_, _, this, by rw [e0]⟩⟩)
      (by rw [rng_len]; exact pl) ⟨rfl, none, rfl⟩
    unfold F_first fnD ir_law_first
    simp only [x_nil, x_cons, x_set, x_setp, x_ret, x_par, x_expr, x_setI, x_aug, x_ite, x_for, x_whl, x_brk, x_cnt, x_pass, x_retN, seq_nx, seq_ret, seq_brk, seq_cnt, seq_none, seq_bnd, seq_if, v_var, v_int, v_bl, v_non, v_str, v_bin, v_neg, v_cmp, v_chn, v_boo, v_not, v_ite, v_tup0, v_tup1, v_tup2, v_idx, v_slc, v_call, v_bi, v_isi, v_lst, v_tupL, v_nilL, v_app, v_ext, a_nil, a_cons, a_disp1, a_disp2, a_disp3, a_comp, o_nil, o_var, o_int, o_neg, o_bin, o_bi, vb_one, vb_more, tb_one, tb_more, t_nil, t_boo, t_not, t_cmp, t_chn, t_call, t_isi, t_nilL, t_var, i_seq, i_rng1, i_rng2, i_enm, b_add, b_sub, b_mul, b_fdiv, b_mod, b_pow, b_cat, b_rep, c_lt, c_le, c_gt, c_ge, c_eq, c_ne, c_isn, q_int, len_tup, len_ref, k_min, k_max, k_int, k_tup, k_tupr, k_lst, ix_tup, ix_ref, sl_tup, end_ret, end_nx, end_if, end_none, bnd_grd, bnd_bnd, bnd_match, bnd_some, bnd_none, getv, setv, setvs, wipev, asg, Option.map_some, Option.map_none, List.length_cons, List.length_nil, List.getElem?_cons_zero, List.getElem?_cons_succ, if_true, truD, decide_eq_true_eq, List.replicate, List.map_cons, List.map_nil, List.cons_append, List.nil_append, ite_true, ite_false, if_false, decide_true, decide_false, and_self, true_and, and_true, true_or, or_true, or_self, reduceCtorEq, Bool.false_eq_true, Bool.true_eq_false, Bool.not_true, Bool.not_false, false_and, and_false, false_or, or_false, gc_same, Int.sub_zero, Int.toNat_natCast, Int.reduceToNat, okS, rngD, at2_0, at2_1, hmx, lim0, limn, hN, hf]
/-! ### _law_near -/
noncomputable def F_near : Fn := fnD [F_take, F_other] 8 3 ir_law_near
theorem near_ok {S : Sto} {h : Nat} {l : Ls} {k : Int} (d : Drw S h) (k0 : 2 ≤ k) (k1 : k < 1000) (ln : l.2 ≠ []) (b1 : Below k l.1) (b2 : Below k l.2) (l1 : l.1.length ≤ 300) (l2 : l.2.length ≤ 300) :
    ∃ (m : Ls) (o : Ob), m.2 ≠ [] ∧ Below k m.1 ∧ Below k m.2 ∧ m.1.length ≤ l.1.length + 12 * l.2.length + 3 ∧ m.2.length ≤ 12 * l.2.length ∧ F_near [.ref h, La l, .int k] S = some (La m, S.set h o) ∧ Drw (S.set h o) h := by
  obtain ⟨x1, o1, x10, x11, e1, d1⟩ := take_ok d (m := 4) (by omega) (by omega)
  have l20 : 0 < l.2.length := List.length_pos_iff.mpr ln
  by_cases c0 : x1 = 0
  · subst c0
    obtain ⟨m, o2, mn, _, mb1, mb2, m1, m2, e2, d2⟩ := other_ok d1 ln b1 b2 (by omega) (by omega)
    rw [set_set'] at e2 d2
    refine ⟨m, o2, mn, mb1, mb2, by omega, by omega, ?_, d2⟩
    unfold F_near fnD ir_law_near
    simp only [x_nil, x_cons, x_set, x_setp, x_ret, x_par, x_expr, x_setI, x_aug, x_ite, x_for, x_whl, x_brk, x_cnt, x_pass, x_retN, seq_nx, seq_ret, seq_brk, seq_cnt, seq_none, seq_bnd, seq_if, v_var, v_int, v_bl, v_non, v_str, v_bin, v_neg, v_cmp, v_chn, v_boo, v_not, v_ite, v_tup0, v_tup1, v_tup2, v_idx, v_slc, v_call, v_bi, v_isi, v_lst, v_tupL, v_nilL, v_app, v_ext, a_nil, a_cons, a_disp1, a_disp2, a_disp3, a_comp, o_nil, o_var, o_int, o_neg, o_bin, o_bi, vb_one, vb_more, tb_one, tb_more, t_nil, t_boo, t_not, t_cmp, t_chn, t_call, t_isi, t_nilL, t_var, i_seq, i_rng1, i_rng2, i_enm, b_add, b_sub, b_mul, b_fdiv, b_mod, b_pow, b_cat, b_rep, c_lt, c_le, c_gt, c_ge, c_eq, c_ne, c_isn, q_int, len_tup, len_ref, k_min, k_max, k_int, k_tup, k_tupr, k_lst, ix_tup, ix_ref, sl_tup, end_ret, end_nx, end_if, end_none, bnd_grd, bnd_bnd, bnd_match, bnd_some, bnd_none, getv, setv, setvs, wipev, asg, Option.map_some, Option.map_none, List.length_cons, List.length_nil, List.getElem?_cons_zero, List.getElem?_cons_succ, if_true, truD, decide_eq_true_eq, List.replicate, List.map_cons, List.map_nil, List.cons_append, List.nil_append, ite_true, ite_false, if_false, decide_true, decide_false, and_self, true_and, and_true, true_or, or_true, or_self, reduceCtorEq, Bool.false_eq_true, Bool.true_eq_false, Bool.not_true, Bool.not_false, false_and, and_false, false_or, or_false, gc_same, Int.sub_zero, Int.toNat_natCast, Int.reduceToNat, okS, rngD, e1, beq_self_eq_true, e2, gc_set]
  · have c0' : (x1 == 0) = false := beq_eq_false_iff_ne.mpr c0
    obtain ⟨x2, o2, x20, x21, e2, d2⟩ := take_ok d1 (m := 12) (by omega) (by omega)
    rw [set_set'] at e2 d2
    have q1 := rep_len' (w := l.2) (n := (1 + x2).toNat)
    have q2 : (1 + x2).toNat * l.2.length ≤ 12 * l.2.length := Nat.mul_le_mul_right _ (by omega)
    have q3 : 1 * 1 ≤ (1 + x2).toNat * l.2.length := Nat.mul_le_mul (by omega) (by omega)
    have r1 : repOk (iD l.2).length (1 + x2) := ⟨by rw [W_len]; omega, by omega, by omega, by rw [W_len, Nat.mul_comm]; omega⟩
    have gb : Below k (List.replicate (1 + x2).toNat l.2).flatten := b2.sub fun x hx => rep_mem hx
    generalize hg : (List.replicate (1 + x2).toNat l.2).flatten = g at q1 gb
    -- the place
    obtain ⟨p, o3, p0, e3, d3⟩ : ∃ (p : Nat) (o3 : Ob), p < g.length ∧ (x1 = 1 ∧ o3 = o2 ∧ ((iD g).length : Int) - 1 = (p : Nat) ∨ x1 ≠ 1 ∧ F_take [.ref h, .int ((iD g).length : Int)] (S.set h o2) = some (.int (p : Nat), S.set h o3)) ∧ Drw (S.set h o3) h := by
      by_cases c1 : x1 = 1
      · exact ⟨g.length - 1, o2, by omega, .inl ⟨c1, rfl, by rw [W_len]; omega⟩, d2⟩
      · obtain ⟨y, o3, y0, y1, e3, d3⟩ := take_ok d2 (m := ((iD g).length : Int)) (by rw [W_len]; omega) (by rw [W_len]; omega)
        rw [set_set'] at e3 d3
        obtain ⟨p, rfl⟩ := Int.eq_ofNat_of_zero_le y0
        rw [W_len] at y1
        exact ⟨p, o3, by omega, .inr ⟨c1, e3⟩, d3⟩
    obtain ⟨x4, o4, x40, x41, e4, d4⟩ := take_ok d3 (m := k - 1) (by omega) (by omega)
    rw [set_set'] at e4 d4
    have ea : atI (iD g) ((p : Nat) : Int) = some (.int (g.getD p 0)) := by rw [at_pos (by omega), Int.toNat_natCast, getD_at p0]
    generalize hz : (g.getD p 0 + 1 + x4) % k = z
    have zb : 0 ≤ z ∧ z < k := by rw [← hz]; exact ⟨Int.emod_nonneg _ (by omega), Int.emod_lt_of_pos _ (by omega)⟩
    have km : (0 : Int) < k := by omega
    have s1 : cut (iD g) none (some ((p : Nat) : Int)) = iD (g.take p) := by rw [cut_to _ (by omega), Int.toNat_natCast, W_take]
    have s2 : cut (iD g) (some (((p : Nat) : Int) + 1)) none = iD (g.drop (p + 1)) := by
      rw [cut_from _ (by omega), W_drop]
      congr 2
    have n1 : (iD (g.take p)).length + (0 + 1) ≤ LIM := by rw [W_len, List.length_take]; unfold LIM; omega
    have w1 : iD (g.take p) ++ [D.int z] = iD (g.take p ++ [z]) := W_app (g.take p) [z]
    have n2 : (iD (g.take p ++ [z])).length + (iD (g.drop (p + 1))).length ≤ LIM := by rw [W_len, W_len, List.length_append, List.length_take, List.length_drop]; unfold LIM; simp only [List.length_cons, List.length_nil]; omega
    have cl : (g.take p ++ [z] ++ g.drop (p + 1)).length = g.length := by
      simp only [List.length_append, List.length_take, List.length_drop, List.length_cons, List.length_nil]
      omega
    have cn : g.take p ++ [z] ++ g.drop (p + 1) ≠ [] := fun y => by
      rw [y] at cl
      simp only [List.length_nil] at cl
      omega
    have cb : Below k (g.take p ++ [z] ++ g.drop (p + 1)) := by
      refine (Below.app (gb.sub fun x hx => List.mem_of_mem_take hx) ?_).app (gb.sub fun x hx => List.mem_of_mem_drop hx)
      intro x hx
      rw [List.mem_singleton.mp hx]
      exact zb
    generalize hc : g.take p ++ [z] ++ g.drop (p + 1) = c at cl cn cb
    by_cases c3 : x1 = 3
    · subst c3
      have c1' : ((3 : Int) == 1) = false := rfl
      obtain ⟨_, e3⟩ : (3 : Int) ≠ 1 ∧ F_take [.ref h, .int ((iD g).length : Int)] (S.set h o2) = some (.int (p : Nat), S.set h o3) := by
        rcases e3 with ⟨z, _⟩ | z
        · cases z
        · exact z
      have n3 : (iD l.1).length + (iD c).length ≤ LIM := by rw [W_len, W_len]; unfold LIM; omega
      refine ⟨(l.1 ++ c, l.2), o4, ln, b1.app cb, b2, by simp only [List.length_append]; omega, by simp only; omega, ?_, d4⟩
      unfold F_near fnD ir_law_near
      simp only [x_nil, x_cons, x_set, x_setp, x_ret, x_par, x_expr, x_setI, x_aug, x_ite, x_for, x_whl, x_brk, x_cnt, x_pass, x_retN, seq_nx, seq_ret, seq_brk, seq_cnt, seq_none, seq_bnd, seq_if, v_var, v_int, v_bl, v_non, v_str, v_bin, v_neg, v_cmp, v_chn, v_boo, v_not, v_ite, v_tup0, v_tup1, v_tup2, v_idx, v_slc, v_call, v_bi, v_isi, v_lst, v_tupL, v_nilL, v_app, v_ext, a_nil, a_cons, a_disp1, a_disp2, a_disp3, a_comp, o_nil, o_var, o_int, o_neg, o_bin, o_bi, vb_one, vb_more, tb_one, tb_more, t_nil, t_boo, t_not, t_cmp, t_chn, t_call, t_isi, t_nilL, t_var, i_seq, i_rng1, i_rng2, i_enm, b_add, b_sub, b_mul, b_fdiv, b_mod, b_pow, b_cat, b_rep, c_lt, c_le, c_gt, c_ge, c_eq, c_ne, c_isn, q_int, len_tup, len_ref, k_min, k_max, k_int, k_tup, k_tupr, k_lst, ix_tup, ix_ref, sl_tup, end_ret, end_nx, end_if, end_none, bnd_grd, bnd_bnd, bnd_match, bnd_some, bnd_none, getv, setv, setvs, wipev, asg, Option.map_some, Option.map_none, List.length_cons, List.length_nil, List.getElem?_cons_zero, List.getElem?_cons_succ, if_true, truD, decide_eq_true_eq, List.replicate, List.map_cons, List.map_nil, List.cons_append, List.nil_append, ite_true, ite_false, if_false, decide_true, decide_false, and_self, true_and, and_true, true_or, or_true, or_self, reduceCtorEq, Bool.false_eq_true, Bool.true_eq_false, Bool.not_true, Bool.not_false, false_and, and_false, false_or, or_false, gc_same, Int.sub_zero, Int.toNat_natCast, Int.reduceToNat, okS, rngD, e1, c0', e2, r1, W_rep, hg, c1', e3, ea, e4, hz, km, s1, s2, n1, w1, n2, W_app, hc, beq_self_eq_true, n3, at2_0, at2_1, gc_set]
    · have c3' : (x1 == 3) = false := beq_eq_false_iff_ne.mpr c3
      refine ⟨(l.1, c), o4, cn, b1, cb, by simp only; omega, by simp only; omega, ?_, d4⟩
      rcases e3 with ⟨c1, rfl, e3⟩ | ⟨c1, e3⟩
      · have c1' : (x1 == 1) = true := by rw [c1]; rfl
        unfold F_near fnD ir_law_near
        simp only [x_nil, x_cons, x_set, x_setp, x_ret, x_par, x_expr, x_setI, x_aug, x_ite, x_for, x_whl, x_brk, x_cnt, x_pass, x_retN, seq_nx, seq_ret, seq_brk, seq_cnt, seq_none, seq_bnd, seq_if, v_var, v_int, v_bl, v_non, v_str, v_bin, v_neg, v_cmp, v_chn, v_boo, v_not, v_ite, v_tup0, v_tup1, v_tup2, v_idx, v_slc, v_call, v_bi, v_isi, v_lst, v_tupL, v_nilL, v_app, v_ext, a_nil, a_cons, a_disp1, a_disp2, a_disp3, a_comp, o_nil, o_var, o_int, o_neg, o_bin, o_bi, vb_one, vb_more, tb_one, tb_more, t_nil, t_boo, t_not, t_cmp, t_chn, t_call, t_isi, t_nilL, t_var, i_seq, i_rng1, i_rng2, i_enm, b_add, b_sub, b_mul, b_fdiv, b_mod, b_pow, b_cat, b_rep, c_lt, c_le, c_gt, c_ge, c_eq, c_ne, c_isn, q_int, len_tup, len_ref, k_min, k_max, k_int, k_tup, k_tupr, k_lst, ix_tup, ix_ref, sl_tup, end_ret, end_nx, end_if, end_none, bnd_grd, bnd_bnd, bnd_match, bnd_some, bnd_none, getv, setv, setvs, wipev, asg, Option.map_some, Option.map_none, List.length_cons, List.length_nil, List.getElem?_cons_zero, List.getElem?_cons_succ, if_true, truD, decide_eq_true_eq, List.replicate, List.map_cons, List.map_nil, List.cons_append, List.nil_append, ite_true, ite_false, if_false, decide_true, decide_false, and_self, true_and, and_true, true_or, or_true, or_self, reduceCtorEq, Bool.false_eq_true, Bool.true_eq_false, Bool.not_true, Bool.not_false, false_and, and_false, false_or, or_false, gc_same, Int.sub_zero, Int.toNat_natCast, Int.reduceToNat, okS, rngD, e1, c0', e2, r1, W_rep, hg, c1', e3, ea, e4, hz, km, s1, s2, n1, w1, n2, W_app, hc, c3', at2_0, at2_1, gc_set]
      · have c1' : (x1 == 1) = false := beq_eq_false_iff_ne.mpr c1
        unfold F_near fnD ir_law_near
        simp only [x_nil, x_cons, x_set, x_setp, x_ret, x_par, x_expr, x_setI, x_aug, x_ite, x_for, x_whl, x_brk, x_cnt, x_pass, x_retN, seq_nx, seq_ret, seq_brk, seq_cnt, seq_none, seq_bnd, seq_if, v_var, v_int, v_bl, v_non, v_str, v_bin, v_neg, v_cmp, v_chn, v_boo, v_not, v_ite, v_tup0, v_tup1, v_tup2, v_idx, v_slc, v_call, v_bi, v_isi, v_lst, v_tupL, v_nilL, v_app, v_ext, a_nil, a_cons, a_disp1, a_disp2, a_disp3, a_comp, o_nil, o_var, o_int, o_neg, o_bin, o_bi, vb_one, vb_more, tb_one, tb_more, t_nil, t_boo, t_not, t_cmp, t_chn, t_call, t_isi, t_nilL, t_var, i_seq, i_rng1, i_rng2, i_enm, b_add, b_sub, b_mul, b_fdiv, b_mod, b_pow, b_cat, b_rep, c_lt, c_le, c_gt, c_ge, c_eq, c_ne, c_isn, q_int, len_tup, len_ref, k_min, k_max, k_int, k_tup, k_tupr, k_lst, ix_tup, ix_ref, sl_tup, end_ret, end_nx, end_if, end_none, bnd_grd, bnd_bnd, bnd_match, bnd_some, bnd_none, getv, setv, setvs, wipev, asg, Option.map_some, Option.map_none, List.length_cons, List.length_nil, List.getElem?_cons_zero, List.getElem?_cons_succ, if_true, truD, decide_eq_true_eq, List.replicate, List.map_cons, List.map_nil, List.cons_append, List.nil_append, ite_true, ite_false, if_false, decide_true, decide_false, and_self, true_and, and_true, true_or, or_true, or_self, reduceCtorEq, Bool.false_eq_true, Bool.true_eq_false, Bool.not_true, Bool.not_false, false_and, and_false, false_or, or_false, gc_same, Int.sub_zero, Int.toNat_natCast, Int.reduceToNat, okS, rngD, e1, c0', e2, r1, W_rep, hg, c1', e3, ea, e4, hz, km, s1, s2, n1, w1, n2, W_app, hc, c3', at2_0, at2_1, gc_set]
end M

/-! P12: zipped and mapped lassos. -/
namespace M
open PySem (Str PyData)
open L2 (atI ixN)
/-! ### comprehensions of ints that change nothing -/
theorem comp_int {b : D → Sto → Option (Option D × Sto)} {ok : Sto → Prop} {ds : List D} {S : Sto} (g : Nat → Int) (hok : ok S) (hl : ds.length ≤ LIM) (hb : ∀ i d, ds[i]? = some d → b d S = some (some (.int (g i)), S)) :
    compD b ok ds [] S = some (iD ((List.range ds.length).map g), S) := by
  obtain ⟨ys, S', h, rfl, rfl⟩ := comp_map (b := b) (ok := ok) D.int (fun i acc S' => S' = S ∧ acc = (List.range i).map g) (ds := ds) (k := 0) (acc := []) (S := S)
    (fun i d acc S' hd ⟨hS, ha⟩ => by
      subst hS ha
      have hi := (List.getElem?_eq_some_iff.mp hd).1
      refine ⟨hok, by rw [List.length_map, List.length_range]; omega, g i, _, hb i d hd, rfl, ?_⟩
      rw [Nat.zero_add, List.range_succ, List.map_append]
      rfl)
    (fun acc S' ⟨hS, _⟩ => by rw [hS]; exact hok) ⟨rfl, rfl⟩
  rw [Nat.zero_add] at h
  exact h
/-! ### _law_pick -/
noncomputable def F_pick : Fn := fnD [F_take] 2 2 ir_law_pick
theorem pick_ok {S : Sto} {h n : Nat} {xs : List D} (d : Drw S h) (e : S[n]? = some (.lst xs)) (c : n ≠ h) (x0 : 0 < xs.length) (x1 : xs.length ≤ 1000) : ∃ (i : Nat) (o : Ob) (y : D), xs[i]? = some y ∧ F_pick [.ref h, .ref n] S = some (y, S.set h o) ∧ Drw (S.set h o) h := by
  obtain ⟨z, o, z0, z1, e1, d1⟩ := take_ok d (m := (xs.length : Int)) (by omega) (by omega)
  obtain ⟨i, rfl⟩ := Int.eq_ofNat_of_zero_le z0
  have hi : i < xs.length := by omega
  have it := items_lst e
  have it2 : itemsAt (S.set h o) n = some xs := items_lst (by rw [List.getElem?_set_ne (by omega)]; exact e)
  have ea : atI xs ((i : Nat) : Int) = some xs[i] := by rw [at_pos (by omega), Int.toNat_natCast, List.getElem?_eq_getElem hi]
  refine ⟨i, o, xs[i], List.getElem?_eq_getElem hi, ?_, d1⟩
  generalize xs[i] = y at ea
  unfold F_pick fnD ir_law_pick
  simp only [x_nil, x_cons, x_set, x_setp, x_ret, x_par, x_expr, x_setI, x_aug, x_ite, x_for, x_whl, x_brk, x_cnt, x_pass, x_retN, seq_nx, seq_ret, seq_brk, seq_cnt, seq_none, seq_bnd, seq_if, v_var, v_int, v_bl, v_non, v_str, v_bin, v_neg, v_cmp, v_chn, v_boo, v_not, v_ite, v_tup0, v_tup1, v_tup2, v_idx, v_slc, v_call, v_bi, v_isi, v_lst, v_tupL, v_nilL, v_app, v_ext, a_nil, a_cons, a_disp1, a_disp2, a_disp3, a_comp, o_nil, o_var, o_int, o_neg, o_bin, o_bi, vb_one, vb_more, tb_one, tb_more, t_nil, t_boo, t_not, t_cmp, t_chn, t_call, t_isi, t_nilL, t_var, i_seq, i_rng1, i_rng2, i_enm, b_add, b_sub, b_mul, b_fdiv, b_mod, b_pow, b_cat, b_rep, c_lt, c_le, c_gt, c_ge, c_eq, c_ne, c_isn, q_int, len_tup, len_ref, k_min, k_max, k_int, k_tup, k_tupr, k_lst, ix_tup, ix_ref, sl_tup, end_ret, end_nx, end_if, end_none, bnd_grd, bnd_bnd, bnd_match, bnd_some, bnd_none, getv, setv, setvs, wipev, asg, Option.map_some, Option.map_none, List.length_cons, List.length_nil, List.getElem?_cons_zero, List.getElem?_cons_succ, if_true, truD, decide_eq_true_eq, List.replicate, List.map_cons, List.map_nil, List.cons_append, List.nil_append, ite_true, ite_false, if_false, decide_true, decide_false, and_self, true_and, and_true, true_or, or_true, or_self, reduceCtorEq, Bool.false_eq_true, Bool.true_eq_false, Bool.not_true, Bool.not_false, false_and, and_false, false_or, or_false, gc_same, Int.sub_zero, Int.toNat_natCast, Int.reduceToNat, okS, rngD, it, e1, it2, ea, gc_set]
/-! ### least multiples -/
theorem lcm_turn {a b : Nat} (a0 : 0 < a) (b0 : 0 < b) : ∃ t, 0 < t ∧ t ≤ b ∧ a * t = Nat.lcm a b ∧ a * t % b = 0 ∧ ∀ s, 0 < s → s < t → a * s % b ≠ 0 := by
  obtain ⟨t, ht⟩ := Nat.dvd_lcm_left a b
  have l0 : 0 < Nat.lcm a b := Nat.lcm_pos a0 b0
  have t0 : 0 < t := by
    apply Nat.pos_of_ne_zero
    intro z
    rw [z, Nat.mul_zero] at ht
    omega
  refine ⟨t, t0, ?_, ht.symm, ?_, fun s s0 s1 z => ?_⟩
  · have : Nat.lcm a b ∣ a * b := Nat.lcm_dvd (Nat.dvd_mul_right a b) (Nat.dvd_mul_left b a)
    have := Nat.le_of_dvd (Nat.mul_pos a0 b0) this
    rw [ht] at this
    exact Nat.le_of_mul_le_mul_left this a0
  · rw [← ht]
    exact Nat.mod_eq_zero_of_dvd (Nat.dvd_lcm_right a b)
  · have : Nat.lcm a b ∣ a * s := Nat.lcm_dvd (Nat.dvd_mul_right a s) (Nat.dvd_of_mod_eq_zero z)
    have := Nat.le_of_dvd (Nat.mul_pos a0 s0) this
    rw [ht] at this
    have := Nat.le_of_mul_le_mul_left this a0
    omega
noncomputable def F_mult : Fn := fnD [] 3 2 ir_law_multiple
theorem mult_ok {S : Sto} {a b : Nat} (a0 : 0 < a) (b0 : 0 < b) (a1 : a ≤ 100000) (b1 : b ≤ 100000) : F_mult [.int a, .int b] S = some (.int (Nat.lcm a b : Nat), S) := by
  obtain ⟨t, t0, t1, te, tz, tm⟩ := lcm_turn a0 b0
  have lim1 : lim62 1 := lim_ok (by decide)
  have limn : lim62 ((b : Int) + 1) := lim_ok (by omega)
  have hn : ((b : Int) + 1 - 1).toNat = b := by omega
  have sm : small (a : Int) := small_of (by omega)
  have b0' : (0 : Int) < b := by omega
  have turn : ∀ (i : Nat) (c : Option D) (S : Sto), bodyF (.nm 2) (exec [] ir_law_multiple_b1) (.int (1 + (i : Int))) [some (.int a), some (.int b), c] S =
      if a * (1 + i) % b = 0 then some (.ret (.int ((a * (1 + i) : Nat) : Int)) S) else some (.nx [some (.int a), some (.int b), some (.int (1 + (i : Int)))] S) := fun i c S => by
    have e1 : (a : Int) * (1 + (i : Int)) = ((a * (1 + i) : Nat) : Int) := rfl
    have e2 : ((a * (1 + i) : Nat) : Int) % (b : Int) = ((a * (1 + i) % b : Nat) : Int) := (Int.natCast_emod _ _).symm
    generalize a * (1 + i) = w at e1 e2
    unfold bodyF ir_law_multiple_b1
    by_cases c : w % b = 0
    · have cb : (((w % b : Nat) : Int) == 0) = true := by rw [c]; rfl
      rw [if_pos c]
      simp only [x_nil, x_cons, x_set, x_setp, x_ret, x_par, x_expr, x_setI, x_aug, x_ite, x_for, x_whl, x_brk, x_cnt, x_pass, x_retN, seq_nx, seq_ret, seq_brk, seq_cnt, seq_none, seq_bnd, seq_if, v_var, v_int, v_bl, v_non, v_str, v_bin, v_neg, v_cmp, v_chn, v_boo, v_not, v_ite, v_tup0, v_tup1, v_tup2, v_idx, v_slc, v_call, v_bi, v_isi, v_lst, v_tupL, v_nilL, v_app, v_ext, a_nil, a_cons, a_disp1, a_disp2, a_disp3, a_comp, o_nil, o_var, o_int, o_neg, o_bin, o_bi, vb_one, vb_more, tb_one, tb_more, t_nil, t_boo, t_not, t_cmp, t_chn, t_call, t_isi, t_nilL, t_var, i_seq, i_rng1, i_rng2, i_enm, b_add, b_sub, b_mul, b_fdiv, b_mod, b_pow, b_cat, b_rep, c_lt, c_le, c_gt, c_ge, c_eq, c_ne, c_isn, q_int, len_tup, len_ref, k_min, k_max, k_int, k_tup, k_tupr, k_lst, ix_tup, ix_ref, sl_tup, end_ret, end_nx, end_if, end_none, bnd_grd, bnd_bnd, bnd_match, bnd_some, bnd_none, getv, setv, setvs, wipev, asg, Option.map_some, Option.map_none, List.length_cons, List.length_nil, List.getElem?_cons_zero, List.getElem?_cons_succ, if_true, truD, decide_eq_true_eq, List.replicate, List.map_cons, List.map_nil, List.cons_append, List.nil_append, ite_true, ite_false, if_false, decide_true, decide_false, and_self, true_and, and_true, true_or, or_true, or_self, reduceCtorEq, Bool.false_eq_true, Bool.true_eq_false, Bool.not_true, Bool.not_false, false_and, and_false, false_or, or_false, gc_same, Int.sub_zero, Int.toNat_natCast, Int.reduceToNat, okS, rngD, sm, e1, e2, b0', cb]
    · have cb : (((w % b : Nat) : Int) == 0) = false := beq_eq_false_iff_ne.mpr (by omega)
      rw [if_neg c]
      simp only [x_nil, x_cons, x_set, x_setp, x_ret, x_par, x_expr, x_setI, x_aug, x_ite, x_for, x_whl, x_brk, x_cnt, x_pass, x_retN, seq_nx, seq_ret, seq_brk, seq_cnt, seq_none, seq_bnd, seq_if, v_var, v_int, v_bl, v_non, v_str, v_bin, v_neg, v_cmp, v_chn, v_boo, v_not, v_ite, v_tup0, v_tup1, v_tup2, v_idx, v_slc, v_call, v_bi, v_isi, v_lst, v_tupL, v_nilL, v_app, v_ext, a_nil, a_cons, a_disp1, a_disp2, a_disp3, a_comp, o_nil, o_var, o_int, o_neg, o_bin, o_bi, vb_one, vb_more, tb_one, tb_more, t_nil, t_boo, t_not, t_cmp, t_chn, t_call, t_isi, t_nilL, t_var, i_seq, i_rng1, i_rng2, i_enm, b_add, b_sub, b_mul, b_fdiv, b_mod, b_pow, b_cat, b_rep, c_lt, c_le, c_gt, c_ge, c_eq, c_ne, c_isn, q_int, len_tup, len_ref, k_min, k_max, k_int, k_tup, k_tupr, k_lst, ix_tup, ix_ref, sl_tup, end_ret, end_nx, end_if, end_none, bnd_grd, bnd_bnd, bnd_match, bnd_some, bnd_none, getv, setv, setvs, wipev, asg, Option.map_some, Option.map_none, List.length_cons, List.length_nil, List.getElem?_cons_zero, List.getElem?_cons_succ, if_true, truD, decide_eq_true_eq, List.replicate, List.map_cons, List.map_nil, List.cons_append, List.nil_append, ite_true, ite_false, if_false, decide_true, decide_false, and_self, true_and, and_true, true_or, or_true, or_self, reduceCtorEq, Bool.false_eq_true, Bool.true_eq_false, Bool.not_true, Bool.not_false, false_and, and_false, false_or, or_false, gc_same, Int.sub_zero, Int.toNat_natCast, Int.reduceToNat, okS, rngD, sm, e1, e2, b0', cb]
  have hf := for_stop (b := bodyF (.nm 2) (exec [] ir_law_multiple_b1)) (ok := fun _ => True) (r := some (.ret (.int (Nat.lcm a b : Nat)) S)) (fun i e S' => S' = S ∧ ∃ c, e = [some (.int a), some (.int b), c]) (ds := rng 1 b) (k := 0) (j := t - 1) (e := [some (.int a), some (.int b), none]) (S := S)
    (fun i d e' S' hij hd ⟨hS, c, he⟩ => by
      obtain ⟨hi, rfl⟩ := rng_get hd
      subst hS he
      have := turn i c S'
      rw [if_neg (tm (1 + i) (by omega) (by omega))] at this
      exact ⟨trivial, _, _, this, rfl, _, rfl⟩)
    (fun d e' S' hd ⟨hS, c, he⟩ => by
      obtain ⟨hi, rfl⟩ := rng_get hd
      subst hS he
      have := turn (t - 1) c S'
      rw [show 1 + (t - 1) = t by omega, if_pos tz, te] at this
      exact ⟨trivial, .inr ⟨_, _, this, rfl⟩⟩)
    (by rw [rng_len]; omega) ⟨rfl, none, rfl⟩
  unfold F_mult fnD ir_law_multiple
  simp only [x_nil, x_cons, x_set, x_setp, x_ret, x_par, x_expr, x_setI, x_aug, x_ite, x_for, x_whl, x_brk, x_cnt, x_pass, x_retN, seq_nx, seq_ret, seq_brk, seq_cnt, seq_none, seq_bnd, seq_if, v_var, v_int, v_bl, v_non, v_str, v_bin, v_neg, v_cmp, v_chn, v_boo, v_not, v_ite, v_tup0, v_tup1, v_tup2, v_idx, v_slc, v_call, v_bi, v_isi, v_lst, v_tupL, v_nilL, v_app, v_ext, a_nil, a_cons, a_disp1, a_disp2, a_disp3, a_comp, o_nil, o_var, o_int, o_neg, o_bin, o_bi, vb_one, vb_more, tb_one, tb_more, t_nil, t_boo, t_not, t_cmp, t_chn, t_call, t_isi, t_nilL, t_var, i_seq, i_rng1, i_rng2, i_enm, b_add, b_sub, b_mul, b_fdiv, b_mod, b_pow, b_cat, b_rep, c_lt, c_le, c_gt, c_ge, c_eq, c_ne, c_isn, q_int, len_tup, len_ref, k_min, k_max, k_int, k_tup, k_tupr, k_lst, ix_tup, ix_ref, sl_tup, end_ret, end_nx, end_if, end_none, bnd_grd, bnd_bnd, bnd_match, bnd_some, bnd_none, getv, setv, setvs, wipev, asg, Option.map_some, Option.map_none, List.length_cons, List.length_nil, List.getElem?_cons_zero, List.getElem?_cons_succ, if_true, truD, decide_eq_true_eq, List.replicate, List.map_cons, List.map_nil, List.cons_append, List.nil_append, ite_true, ite_false, if_false, decide_true, decide_false, and_self, true_and, and_true, true_or, or_true, or_self, reduceCtorEq, Bool.false_eq_true, Bool.true_eq_false, Bool.not_true, Bool.not_false, false_and, and_false, false_or, or_false, gc_same, Int.sub_zero, Int.toNat_natCast, Int.reduceToNat, okS, rngD, lim1, limn, hn, hf]
noncomputable def F_lmult : Fn := fnD [] 3 2 ir_least_multiple
theorem lmult_while {S : Sto} {a b t : Nat} (b0 : 0 < b) (tz : a * t % b = 0) (tm : ∀ s, 0 < s → s < t → a * s % b ≠ 0) : ∀ n s, 0 < s → s + n = t →
    wh (sem [] ir_least_multiple_e1).t (exec [] ir_least_multiple_b1) [some (.int a), some (.int b), some (.int ((a * s : Nat) : Int))] S = some (.nx [some (.int a), some (.int b), some (.int ((a * t : Nat) : Int))] S)
  | 0, s, s0, e => by
    obtain rfl : s = t := e
    rw [wh_eq]
    have e2 : ((a * s : Nat) : Int) % (b : Int) = ((a * s % b : Nat) : Int) := (Int.natCast_emod _ _).symm
    have cb : (((a * s % b : Nat) : Int) == 0) = true := by rw [tz]; rfl
    have b0' : (0 : Int) < b := by omega
    have et : (sem [] ir_least_multiple_e1).t [some (.int a), some (.int b), some (.int ((a * s : Nat) : Int))] S = some (false, S) := by
      unfold ir_least_multiple_e1
      simp only [x_nil, x_cons, x_set, x_setp, x_ret, x_par, x_expr, x_setI, x_aug, x_ite, x_for, x_whl, x_brk, x_cnt, x_pass, x_retN, seq_nx, seq_ret, seq_brk, seq_cnt, seq_none, seq_bnd, seq_if, v_var, v_int, v_bl, v_non, v_str, v_bin, v_neg, v_cmp, v_chn, v_boo, v_not, v_ite, v_tup0, v_tup1, v_tup2, v_idx, v_slc, v_call, v_bi, v_isi, v_lst, v_tupL, v_nilL, v_app, v_ext, a_nil, a_cons, a_disp1, a_disp2, a_disp3, a_comp, o_nil, o_var, o_int, o_neg, o_bin, o_bi, vb_one, vb_more, tb_one, tb_more, t_nil, t_boo, t_not, t_cmp, t_chn, t_call, t_isi, t_nilL, t_var, i_seq, i_rng1, i_rng2, i_enm, b_add, b_sub, b_mul, b_fdiv, b_mod, b_pow, b_cat, b_rep, c_lt, c_le, c_gt, c_ge, c_eq, c_ne, c_isn, q_int, len_tup, len_ref, k_min, k_max, k_int, k_tup, k_tupr, k_lst, ix_tup, ix_ref, sl_tup, end_ret, end_nx, end_if, end_none, bnd_grd, bnd_bnd, bnd_match, bnd_some, bnd_none, getv, setv, setvs, wipev, asg, Option.map_some, Option.map_none, List.length_cons, List.length_nil, List.getElem?_cons_zero, List.getElem?_cons_succ, if_true, truD, decide_eq_true_eq, List.replicate, List.map_cons, List.map_nil, List.cons_append, List.nil_append, ite_true, ite_false, if_false, decide_true, decide_false, and_self, true_and, and_true, true_or, or_true, or_self, reduceCtorEq, Bool.false_eq_true, Bool.true_eq_false, Bool.not_true, Bool.not_false, false_and, and_false, false_or, or_false, gc_same, Int.sub_zero, Int.toNat_natCast, Int.reduceToNat, okS, rngD, b0', e2, cb]
    rw [et]
  | n + 1, s, s0, e => by
    rw [wh_eq]
    have e2 : ((a * s : Nat) : Int) % (b : Int) = ((a * s % b : Nat) : Int) := (Int.natCast_emod _ _).symm
    have cb : (((a * s % b : Nat) : Int) == 0) = false := beq_eq_false_iff_ne.mpr (by have := tm s s0 (by omega); omega)
    have b0' : (0 : Int) < b := by omega
    have et : (sem [] ir_least_multiple_e1).t [some (.int a), some (.int b), some (.int ((a * s : Nat) : Int))] S = some (true, S) := by
      unfold ir_least_multiple_e1
      simp only [x_nil, x_cons, x_set, x_setp, x_ret, x_par, x_expr, x_setI, x_aug, x_ite, x_for, x_whl, x_brk, x_cnt, x_pass, x_retN, seq_nx, seq_ret, seq_brk, seq_cnt, seq_none, seq_bnd, seq_if, v_var, v_int, v_bl, v_non, v_str, v_bin, v_neg, v_cmp, v_chn, v_boo, v_not, v_ite, v_tup0, v_tup1, v_tup2, v_idx, v_slc, v_call, v_bi, v_isi, v_lst, v_tupL, v_nilL, v_app, v_ext, a_nil, a_cons, a_disp1, a_disp2, a_disp3, a_comp, o_nil, o_var, o_int, o_neg, o_bin, o_bi, vb_one, vb_more, tb_one, tb_more, t_nil, t_boo, t_not, t_cmp, t_chn, t_call, t_isi, t_nilL, t_var, i_seq, i_rng1, i_rng2, i_enm, b_add, b_sub, b_mul, b_fdiv, b_mod, b_pow, b_cat, b_rep, c_lt, c_le, c_gt, c_ge, c_eq, c_ne, c_isn, q_int, len_tup, len_ref, k_min, k_max, k_int, k_tup, k_tupr, k_lst, ix_tup, ix_ref, sl_tup, end_ret, end_nx, end_if, end_none, bnd_grd, bnd_bnd, bnd_match, bnd_some, bnd_none, getv, setv, setvs, wipev, asg, Option.map_some, Option.map_none, List.length_cons, List.length_nil, List.getElem?_cons_zero, List.getElem?_cons_succ, if_true, truD, decide_eq_true_eq, List.replicate, List.map_cons, List.map_nil, List.cons_append, List.nil_append, ite_true, ite_false, if_false, decide_true, decide_false, and_self, true_and, and_true, true_or, or_true, or_self, reduceCtorEq, Bool.false_eq_true, Bool.true_eq_false, Bool.not_true, Bool.not_false, false_and, and_false, false_or, or_false, gc_same, Int.sub_zero, Int.toNat_natCast, Int.reduceToNat, okS, rngD, b0', e2, cb]
    have eb : exec [] ir_least_multiple_b1 [some (.int a), some (.int b), some (.int ((a * s : Nat) : Int))] S = some (.nx [some (.int a), some (.int b), some (.int ((a * (s + 1) : Nat) : Int))] S) := by
      have e3 : ((a * s : Nat) : Int) + (a : Int) = ((a * (s + 1) : Nat) : Int) := by rw [Nat.mul_succ]; rfl
      unfold ir_least_multiple_b1
      simp only [x_nil, x_cons, x_set, x_setp, x_ret, x_par, x_expr, x_setI, x_aug, x_ite, x_for, x_whl, x_brk, x_cnt, x_pass, x_retN, seq_nx, seq_ret, seq_brk, seq_cnt, seq_none, seq_bnd, seq_if, v_var, v_int, v_bl, v_non, v_str, v_bin, v_neg, v_cmp, v_chn, v_boo, v_not, v_ite, v_tup0, v_tup1, v_tup2, v_idx, v_slc, v_call, v_bi, v_isi, v_lst, v_tupL, v_nilL, v_app, v_ext, a_nil, a_cons, a_disp1, a_disp2, a_disp3, a_comp, o_nil, o_var, o_int, o_neg, o_bin, o_bi, vb_one, vb_more, tb_one, tb_more, t_nil, t_boo, t_not, t_cmp, t_chn, t_call, t_isi, t_nilL, t_var, i_seq, i_rng1, i_rng2, i_enm, b_add, b_sub, b_mul, b_fdiv, b_mod, b_pow, b_cat, b_rep, c_lt, c_le, c_gt, c_ge, c_eq, c_ne, c_isn, q_int, len_tup, len_ref, k_min, k_max, k_int, k_tup, k_tupr, k_lst, ix_tup, ix_ref, sl_tup, end_ret, end_nx, end_if, end_none, bnd_grd, bnd_bnd, bnd_match, bnd_some, bnd_none, getv, setv, setvs, wipev, asg, Option.map_some, Option.map_none, List.length_cons, List.length_nil, List.getElem?_cons_zero, List.getElem?_cons_succ, if_true, truD, decide_eq_true_eq, List.replicate, List.map_cons, List.map_nil, List.cons_append, List.nil_append, ite_true, ite_false, if_false, decide_true, decide_false, and_self, true_and, and_true, true_or, or_true, or_self, reduceCtorEq, Bool.false_eq_true, Bool.true_eq_false, Bool.not_true, Bool.not_false, false_and, and_false, false_or, or_false, gc_same, Int.sub_zero, Int.toNat_natCast, Int.reduceToNat, okS, rngD, e3]
    rw [et]
    simp only [eb]
    exact lmult_while b0 tz tm n (s + 1) (by omega) (by omega)
theorem lmult_ok {S : Sto} {a b : Nat} (a0 : 0 < a) (b0 : 0 < b) : F_lmult [.int a, .int b] S = some (.int (Nat.lcm a b : Nat), S) := by
  obtain ⟨t, t0, t1, te, tz, tm⟩ := lcm_turn a0 b0
  have hw := lmult_while (S := S) b0 tz tm (t - 1) 1 (by omega) (by omega)
  rw [Nat.mul_one, te] at hw
  unfold F_lmult fnD ir_least_multiple
  simp only [x_nil, x_cons, x_set, x_setp, x_ret, x_par, x_expr, x_setI, x_aug, x_ite, x_for, x_whl, x_brk, x_cnt, x_pass, x_retN, seq_nx, seq_ret, seq_brk, seq_cnt, seq_none, seq_bnd, seq_if, v_var, v_int, v_bl, v_non, v_str, v_bin, v_neg, v_cmp, v_chn, v_boo, v_not, v_ite, v_tup0, v_tup1, v_tup2, v_idx, v_slc, v_call, v_bi, v_isi, v_lst, v_tupL, v_nilL, v_app, v_ext, a_nil, a_cons, a_disp1, a_disp2, a_disp3, a_comp, o_nil, o_var, o_int, o_neg, o_bin, o_bi, vb_one, vb_more, tb_one, tb_more, t_nil, t_boo, t_not, t_cmp, t_chn, t_call, t_isi, t_nilL, t_var, i_seq, i_rng1, i_rng2, i_enm, b_add, b_sub, b_mul, b_fdiv, b_mod, b_pow, b_cat, b_rep, c_lt, c_le, c_gt, c_ge, c_eq, c_ne, c_isn, q_int, len_tup, len_ref, k_min, k_max, k_int, k_tup, k_tupr, k_lst, ix_tup, ix_ref, sl_tup, end_ret, end_nx, end_if, end_none, bnd_grd, bnd_bnd, bnd_match, bnd_some, bnd_none, getv, setv, setvs, wipev, asg, Option.map_some, Option.map_none, List.length_cons, List.length_nil, List.getElem?_cons_zero, List.getElem?_cons_succ, if_true, truD, decide_eq_true_eq, List.replicate, List.map_cons, List.map_nil, List.cons_append, List.nil_append, ite_true, ite_false, if_false, decide_true, decide_false, and_self, true_and, and_true, true_or, or_true, or_self, reduceCtorEq, Bool.false_eq_true, Bool.true_eq_false, Bool.not_true, Bool.not_false, false_and, and_false, false_or, or_false, gc_same, Int.sub_zero, Int.toNat_natCast, Int.reduceToNat, okS, rngD, hw]
/-! ### zipped -/
def zrow (l m : Ls) (w : Int) (n : Nat) : List Int := (List.range n).map fun p => lat l p + w * lat m p
def lzip (l m : Ls) (w : Int) : Ls := ((zrow l m w (max l.1.length m.1.length + Nat.lcm l.2.length m.2.length)).take (max l.1.length m.1.length), (zrow l m w (max l.1.length m.1.length + Nat.lcm l.2.length m.2.length)).drop (max l.1.length m.1.length))
theorem zrow_len {l m : Ls} {w : Int} {n : Nat} : (zrow l m w n).length = n := by
  unfold zrow
  rw [List.length_map, List.length_range]
theorem zrow_at {l m : Ls} {w : Int} {n i : Nat} (h : i < n) : (zrow l m w n).getD i 0 = lat l i + w * lat m i := by
  unfold zrow
  rw [List.getD_eq_getElem?_getD, List.getElem?_map, List.getElem?_range h]
  rfl
theorem lzip_len {l m : Ls} {w : Int} : (lzip l m w).1.length = max l.1.length m.1.length ∧ (lzip l m w).2.length = Nat.lcm l.2.length m.2.length := by
  unfold lzip
  simp only [List.length_take, List.length_drop, zrow_len]
  omega
theorem lzip_ne {l m : Ls} {w : Int} (ln : l.2 ≠ []) (mn : m.2 ≠ []) : (lzip l m w).2 ≠ [] := fun z => by
  have := (lzip_len (l := l) (m := m) (w := w)).2
  rw [z] at this
  have := Nat.lcm_pos (List.length_pos_iff.mpr ln) (List.length_pos_iff.mpr mn)
  simp only [List.length_nil] at *
  omega
theorem lzip_lat {l m : Ls} {w : Int} (ln : l.2 ≠ []) (mn : m.2 ≠ []) (p : Nat) : lat (lzip l m w) p = lat l p + w * lat m p := by
  have l0 : 0 < Nat.lcm l.2.length m.2.length := Nat.lcm_pos (List.length_pos_iff.mpr ln) (List.length_pos_iff.mpr mn)
  obtain ⟨z1, z2⟩ := lzip_len (l := l) (m := m) (w := w)
  generalize hN : max l.1.length m.1.length = N at z1
  generalize hT : Nat.lcm l.2.length m.2.length = T at z2 l0
  have hz : lzip l m w = ((zrow l m w (N + T)).take N, (zrow l m w (N + T)).drop N) := by
    unfold lzip
    rw [hN, hT]
  have tl : ((zrow l m w (N + T)).take N).length = N := by rw [List.length_take, zrow_len]; omega
  have dl : ((zrow l m w (N + T)).drop N).length = T := by rw [List.length_drop, zrow_len]; omega
  rw [hz]
  by_cases c : p < N
  · rw [lat_first (by rw [tl]; exact c), getD_take' c, zrow_at (by omega)]
  · obtain ⟨j, rfl⟩ := Nat.exists_eq_add_of_le (Nat.le_of_not_lt c)
    have a := lat_loop ((zrow l m w (N + T)).take N) ((zrow l m w (N + T)).drop N) j
    rw [tl, dl] at a
    have jt := Nat.mod_lt j l0
    rw [a, getD_drop', zrow_at (by omega)]
    obtain ⟨u, hu⟩ := Nat.dvd_lcm_left l.2.length m.2.length
    obtain ⟨v, hv⟩ := Nat.dvd_lcm_right l.2.length m.2.length
    rw [hT, Nat.mul_comm] at hu hv
    have p1 : Per (lat l) N T := by rw [hu]; exact ((lat_per l).le (by omega)).mul u
    have p2 : Per (lat m) N T := by rw [hv]; exact ((lat_per m).le (by omega)).mul v
    rw [p1.at j, p2.at j]
theorem lzip_assoc {a b c : Ls} {p q : Int} (an : a.2 ≠ []) (bn : b.2 ≠ []) (cn : c.2 ≠ []) : lzip (lzip a b p) c (p * q) = lzip a (lzip b c q) p := by
  have e1 := (lzip_len (l := a) (m := b) (w := p))
  have e2 := (lzip_len (l := b) (m := c) (w := q))
  have e3 : ∀ n, zrow (lzip a b p) c (p * q) n = zrow a (lzip b c q) p n := fun n => by
    unfold zrow
    congr 1
    funext i
    rw [lzip_lat an bn, lzip_lat bn cn, Int.mul_add, Int.add_assoc, Int.mul_assoc]
  have g : ∀ (l m : Ls) (w : Int) (N T : Nat), max l.1.length m.1.length = N → Nat.lcm l.2.length m.2.length = T → lzip l m w = ((zrow l m w (N + T)).take N, (zrow l m w (N + T)).drop N) := fun l m w N T h1 h2 => by
    subst h1 h2
    rfl
  rw [g (lzip a b p) c (p * q) (max a.1.length (max b.1.length c.1.length)) (Nat.lcm a.2.length (Nat.lcm b.2.length c.2.length)) (by rw [e1.1, Nat.max_assoc]) (by rw [e1.2, Nat.lcm_assoc]), g a (lzip b c q) p (max a.1.length (max b.1.length c.1.length)) (Nat.lcm a.2.length (Nat.lcm b.2.length c.2.length)) (by rw [e2.1]) (by rw [e2.2]), e3]
noncomputable def F_lzip : Fn := fnD [F_mult, F_at] 7 3 ir_law_zipped
noncomputable def F_zip : Fn := fnD [F_lmult, F_la] 7 3 ir_zipped
theorem zip_max {l m : Ls} : (if ((iD m.1).length : Int) > ((iD l.1).length : Int) then ((iD m.1).length : Int) else ((iD l.1).length : Int)) = ((max l.1.length m.1.length : Nat) : Int) := by
  rw [W_len, W_len]
  split <;> omega
theorem lzip_ok {S : Sto} {l m : Ls} {w : Int} (ln : l.2 ≠ []) (mn : m.2 ≠ []) (w0 : small w) (l1 : l.1.length ≤ 10000) (l2 : l.2.length ≤ 10000) (m1 : m.1.length ≤ 10000) (m2 : m.2.length ≤ 10000) (z : Nat.lcm l.2.length m.2.length ≤ 100000) :
    F_lzip [La l, La m, .int w] S = some (La (lzip l m w), S) := by
  have e1 := mult_ok (S := S) (List.length_pos_iff.mpr ln) (List.length_pos_iff.mpr mn) (by omega) (by omega)
  rw [← W_len l.2, ← W_len m.2] at e1
  generalize hT : Nat.lcm (iD l.2).length (iD m.2).length = T at e1
  have hT' : Nat.lcm l.2.length m.2.length = T := by rw [← hT, W_len, W_len]
  generalize hN : max l.1.length m.1.length = N
  have hx := zip_max (l := l) (m := m)
  rw [hN] at hx
  have lim0 : lim62 0 := lim_ok (by decide)
  have limn : lim62 ((N : Int) + (T : Int)) := lim_ok (by omega)
  have hn : ((N : Int) + (T : Int)).toNat = N + T := by omega
  have hc := comp_int (b := turnF [6] (.nm 6) (sem [F_mult, F_at] .nil).t (sem [F_mult, F_at] ir_law_zipped_e1).v [some (La l), some (La m), some (.int w), some (.int (N : Nat)), some (.int (T : Nat)), none, none]) (ok := fun _ => True) (ds := rng 0 (N + T)) (S := S) (fun p => lat l p + w * lat m p) trivial (by rw [rng_len]; unfold LIM; omega) (fun i d hd => by
    obtain ⟨hi, rfl⟩ := rng_get hd
    have a1 : F_at [La l, .int (0 + (i : Int))] S = some (.int (lat l i), S) := by
      rw [show (0 + (i : Int)) = (i : Int) by omega]
      exact at_ok ln
    have a2 : F_at [La m, .int (0 + (i : Int))] S = some (.int (lat m i), S) := by
      rw [show (0 + (i : Int)) = (i : Int) by omega]
      exact at_ok mn
    unfold turnF ir_law_zipped_e1
    simp only [x_nil, x_cons, x_set, x_setp, x_ret, x_par, x_expr, x_setI, x_aug, x_ite, x_for, x_whl, x_brk, x_cnt, x_pass, x_retN, seq_nx, seq_ret, seq_brk, seq_cnt, seq_none, seq_bnd, seq_if, v_var, v_int, v_bl, v_non, v_str, v_bin, v_neg, v_cmp, v_chn, v_boo, v_not, v_ite, v_tup0, v_tup1, v_tup2, v_idx, v_slc, v_call, v_bi, v_isi, v_lst, v_tupL, v_nilL, v_app, v_ext, a_nil, a_cons, a_disp1, a_disp2, a_disp3, a_comp, o_nil, o_var, o_int, o_neg, o_bin, o_bi, vb_one, vb_more, tb_one, tb_more, t_nil, t_boo, t_not, t_cmp, t_chn, t_call, t_isi, t_nilL, t_var, i_seq, i_rng1, i_rng2, i_enm, b_add, b_sub, b_mul, b_fdiv, b_mod, b_pow, b_cat, b_rep, c_lt, c_le, c_gt, c_ge, c_eq, c_ne, c_isn, q_int, len_tup, len_ref, k_min, k_max, k_int, k_tup, k_tupr, k_lst, ix_tup, ix_ref, sl_tup, end_ret, end_nx, end_if, end_none, bnd_grd, bnd_bnd, bnd_match, bnd_some, bnd_none, getv, setv, setvs, wipev, asg, Option.map_some, Option.map_none, List.length_cons, List.length_nil, List.getElem?_cons_zero, List.getElem?_cons_succ, if_true, truD, decide_eq_true_eq, List.replicate, List.map_cons, List.map_nil, List.cons_append, List.nil_append, ite_true, ite_false, if_false, decide_true, decide_false, and_self, true_and, and_true, true_or, or_true, or_self, reduceCtorEq, Bool.false_eq_true, Bool.true_eq_false, Bool.not_true, Bool.not_false, false_and, and_false, false_or, or_false, gc_same, Int.sub_zero, Int.toNat_natCast, Int.reduceToNat, okS, rngD, a1, a2, w0])
  rw [rng_len] at hc
  have hz : (List.range (N + T)).map (fun p => lat l p + w * lat m p) = zrow l m w (N + T) := rfl
  rw [hz] at hc
  have c1 : cut (iD (zrow l m w (N + T))) none (some (N : Int)) = iD ((zrow l m w (N + T)).take N) := by rw [cut_to _ (by omega), Int.toNat_natCast, W_take]
  have c2 : cut (iD (zrow l m w (N + T))) (some (N : Int)) none = iD ((zrow l m w (N + T)).drop N) := by rw [cut_from _ (by omega), Int.toNat_natCast, W_drop]
  have hl : lzip l m w = ((zrow l m w (N + T)).take N, (zrow l m w (N + T)).drop N) := by
    unfold lzip
    rw [hN, hT']
  rw [hl]
  unfold F_lzip fnD ir_law_zipped
  simp only [x_nil, x_cons, x_set, x_setp, x_ret, x_par, x_expr, x_setI, x_aug, x_ite, x_for, x_whl, x_brk, x_cnt, x_pass, x_retN, seq_nx, seq_ret, seq_brk, seq_cnt, seq_none, seq_bnd, seq_if, v_var, v_int, v_bl, v_non, v_str, v_bin, v_neg, v_cmp, v_chn, v_boo, v_not, v_ite, v_tup0, v_tup1, v_tup2, v_idx, v_slc, v_call, v_bi, v_isi, v_lst, v_tupL, v_nilL, v_app, v_ext, a_nil, a_cons, a_disp1, a_disp2, a_disp3, a_comp, o_nil, o_var, o_int, o_neg, o_bin, o_bi, vb_one, vb_more, tb_one, tb_more, t_nil, t_boo, t_not, t_cmp, t_chn, t_call, t_isi, t_nilL, t_var, i_seq, i_rng1, i_rng2, i_enm, b_add, b_sub, b_mul, b_fdiv, b_mod, b_pow, b_cat, b_rep, c_lt, c_le, c_gt, c_ge, c_eq, c_ne, c_isn, q_int, len_tup, len_ref, k_min, k_max, k_int, k_tup, k_tupr, k_lst, ix_tup, ix_ref, sl_tup, end_ret, end_nx, end_if, end_none, bnd_grd, bnd_bnd, bnd_match, bnd_some, bnd_none, getv, setv, setvs, wipev, asg, Option.map_some, Option.map_none, List.length_cons, List.length_nil, List.getElem?_cons_zero, List.getElem?_cons_succ, if_true, truD, decide_eq_true_eq, List.replicate, List.map_cons, List.map_nil, List.cons_append, List.nil_append, ite_true, ite_false, if_false, decide_true, decide_false, and_self, true_and, and_true, true_or, or_true, or_self, reduceCtorEq, Bool.false_eq_true, Bool.true_eq_false, Bool.not_true, Bool.not_false, false_and, and_false, false_or, or_false, gc_same, Int.sub_zero, Int.toNat_natCast, Int.reduceToNat, okS, rngD, at2_0, at2_1, hx, e1, lim0, limn, hn, hc, c1, c2]
theorem zip_ok {S : Sto} {l m : Ls} {w : Int} (ln : l.2 ≠ []) (mn : m.2 ≠ []) (w0 : small w) (l1 : l.1.length ≤ 10000) (l2 : l.2.length ≤ 10000) (m1 : m.1.length ≤ 10000) (m2 : m.2.length ≤ 10000) (z : Nat.lcm l.2.length m.2.length ≤ 100000) :
    F_zip [La l, La m, .int w] S = some (La (lzip l m w), S) := by
  have e1 := lmult_ok (S := S) (List.length_pos_iff.mpr ln) (List.length_pos_iff.mpr mn)
  rw [← W_len l.2, ← W_len m.2] at e1
  generalize hT : Nat.lcm (iD l.2).length (iD m.2).length = T at e1
  have hT' : Nat.lcm l.2.length m.2.length = T := by rw [← hT, W_len, W_len]
  generalize hN : max l.1.length m.1.length = N
  have hx := zip_max (l := l) (m := m)
  rw [hN] at hx
  have lim0 : lim62 0 := lim_ok (by decide)
  have limn : lim62 ((N : Int) + (T : Int)) := lim_ok (by omega)
  have hn : ((N : Int) + (T : Int)).toNat = N + T := by omega
  have hc := comp_int (b := turnF [6] (.nm 6) (sem [F_lmult, F_la] .nil).t (sem [F_lmult, F_la] ir_zipped_e1).v [some (La l), some (La m), some (.int w), some (.int (N : Nat)), some (.int (T : Nat)), none, none]) (ok := fun _ => True) (ds := rng 0 (N + T)) (S := S) (fun p => lat l p + w * lat m p) trivial (by rw [rng_len]; unfold LIM; omega) (fun i d hd => by
    obtain ⟨hi, rfl⟩ := rng_get hd
    have a1 : F_la [La l, .int (0 + (i : Int))] S = some (.int (lat l i), S) := by
      rw [show (0 + (i : Int)) = (i : Int) by omega]
      exact la_ok ln
    have a2 : F_la [La m, .int (0 + (i : Int))] S = some (.int (lat m i), S) := by
      rw [show (0 + (i : Int)) = (i : Int) by omega]
      exact la_ok mn
    unfold turnF ir_zipped_e1
    simp only [x_nil, x_cons, x_set, x_setp, x_ret, x_par, x_expr, x_setI, x_aug, x_ite, x_for, x_whl, x_brk, x_cnt, x_pass, x_retN, seq_nx, seq_ret, seq_brk, seq_cnt, seq_none, seq_bnd, seq_if, v_var, v_int, v_bl, v_non, v_str, v_bin, v_neg, v_cmp, v_chn, v_boo, v_not, v_ite, v_tup0, v_tup1, v_tup2, v_idx, v_slc, v_call, v_bi, v_isi, v_lst, v_tupL, v_nilL, v_app, v_ext, a_nil, a_cons, a_disp1, a_disp2, a_disp3, a_comp, o_nil, o_var, o_int, o_neg, o_bin, o_bi, vb_one, vb_more, tb_one, tb_more, t_nil, t_boo, t_not, t_cmp, t_chn, t_call, t_isi, t_nilL, t_var, i_seq, i_rng1, i_rng2, i_enm, b_add, b_sub, b_mul, b_fdiv, b_mod, b_pow, b_cat, b_rep, c_lt, c_le, c_gt, c_ge, c_eq, c_ne, c_isn, q_int, len_tup, len_ref, k_min, k_max, k_int, k_tup, k_tupr, k_lst, ix_tup, ix_ref, sl_tup, end_ret, end_nx, end_if, end_none, bnd_grd, bnd_bnd, bnd_match, bnd_some, bnd_none, getv, setv, setvs, wipev, asg, Option.map_some, Option.map_none, List.length_cons, List.length_nil, List.getElem?_cons_zero, List.getElem?_cons_succ, if_true, truD, decide_eq_true_eq, List.replicate, List.map_cons, List.map_nil, List.cons_append, List.nil_append, ite_true, ite_false, if_false, decide_true, decide_false, and_self, true_and, and_true, true_or, or_true, or_self, reduceCtorEq, Bool.false_eq_true, Bool.true_eq_false, Bool.not_true, Bool.not_false, false_and, and_false, false_or, or_false, gc_same, Int.sub_zero, Int.toNat_natCast, Int.reduceToNat, okS, rngD, a1, a2, w0])
  rw [rng_len] at hc
  have hz : (List.range (N + T)).map (fun p => lat l p + w * lat m p) = zrow l m w (N + T) := rfl
  rw [hz] at hc
  have c1 : cut (iD (zrow l m w (N + T))) none (some (N : Int)) = iD ((zrow l m w (N + T)).take N) := by rw [cut_to _ (by omega), Int.toNat_natCast, W_take]
  have c2 : cut (iD (zrow l m w (N + T))) (some (N : Int)) none = iD ((zrow l m w (N + T)).drop N) := by rw [cut_from _ (by omega), Int.toNat_natCast, W_drop]
  have hl : lzip l m w = ((zrow l m w (N + T)).take N, (zrow l m w (N + T)).drop N) := by
    unfold lzip
    rw [hN, hT']
  rw [hl]
  generalize zrow l m w (N + T) = row at hc c1 c2
  have new : ∀ (S : Sto) (xs : List D), itemsAt (S ++ [.lst xs]) S.length = some xs := fun S xs => by
    unfold itemsAt
    rw [List.getElem?_append_right (Nat.le_refl _), Nat.sub_self]
    rfl
  have old : ∀ (S : Sto) (xs : List D) (o : Ob), itemsAt (S ++ [.lst xs] ++ [o]) S.length = some xs := fun S xs o => by
    unfold itemsAt
    rw [List.getElem?_append_left (by simp), List.getElem?_append_right (Nat.le_refl _), Nat.sub_self]
    rfl
  have s1 : slcD (.ref S.length) none (some (N : Int)) (S ++ [.lst (iD row)]) = some (.ref (S ++ [Ob.lst (iD row)]).length, S ++ [.lst (iD row)] ++ [.lst (iD (row.take N))]) := by
    unfold slcD
    simp only [new, c1]
  have s2 : slcD (.ref S.length) (some (N : Int)) none (S ++ [.lst (iD row)] ++ [.lst (iD (row.take N))]) = some (.ref (S ++ [Ob.lst (iD row)] ++ [Ob.lst (iD (row.take N))]).length, S ++ [.lst (iD row)] ++ [.lst (iD (row.take N))] ++ [.lst (iD (row.drop N))]) := by
    unfold slcD
    simp only [old, c2]
  have gc : gcD S (La (row.take N, row.drop N)) (S ++ [Ob.lst (iD row)] ++ [Ob.lst (iD (row.take N))] ++ [Ob.lst (iD (row.drop N))]) = (La (row.take N, row.drop N), S) := by
    have nr : ∀ w : List Int, noRefs (iD w) = true := fun w => by
      induction w with
      | nil => rfl
      | cons x r ih => exact ih
    unfold gcD
    rw [if_pos]
    refine ⟨by rw [List.append_assoc, List.append_assoc, List.take_left], ?_⟩
    show (noRefs (iD (row.take N)) && (noRefs (iD (row.drop N)) && true)) = true
    rw [nr, nr]
    rfl
  have gc' : gcD S (.tup [W (row.take N), W (row.drop N)]) (S ++ [Ob.lst (iD row)] ++ [Ob.lst (iD (row.take N))] ++ [Ob.lst (iD (row.drop N))]) = (La (row.take N, row.drop N), S) := gc
  unfold F_zip fnD ir_zipped
  simp only [x_nil, x_cons, x_set, x_setp, x_ret, x_par, x_expr, x_setI, x_aug, x_ite, x_for, x_whl, x_brk, x_cnt, x_pass, x_retN, seq_nx, seq_ret, seq_brk, seq_cnt, seq_none, seq_bnd, seq_if, v_var, v_int, v_bl, v_non, v_str, v_bin, v_neg, v_cmp, v_chn, v_boo, v_not, v_ite, v_tup0, v_tup1, v_tup2, v_idx, v_slc, v_call, v_bi, v_isi, v_lst, v_tupL, v_nilL, v_app, v_ext, a_nil, a_cons, a_disp1, a_disp2, a_disp3, a_comp, o_nil, o_var, o_int, o_neg, o_bin, o_bi, vb_one, vb_more, tb_one, tb_more, t_nil, t_boo, t_not, t_cmp, t_chn, t_call, t_isi, t_nilL, t_var, i_seq, i_rng1, i_rng2, i_enm, b_add, b_sub, b_mul, b_fdiv, b_mod, b_pow, b_cat, b_rep, c_lt, c_le, c_gt, c_ge, c_eq, c_ne, c_isn, q_int, len_tup, len_ref, k_min, k_max, k_int, k_tup, k_tupr, k_lst, ix_tup, ix_ref, sl_tup, end_ret, end_nx, end_if, end_none, bnd_grd, bnd_bnd, bnd_match, bnd_some, bnd_none, getv, setv, setvs, wipev, asg, Option.map_some, Option.map_none, List.length_cons, List.length_nil, List.getElem?_cons_zero, List.getElem?_cons_succ, if_true, truD, decide_eq_true_eq, List.replicate, List.map_cons, List.map_nil, List.cons_append, List.nil_append, ite_true, ite_false, if_false, decide_true, decide_false, and_self, true_and, and_true, true_or, or_true, or_self, reduceCtorEq, Bool.false_eq_true, Bool.true_eq_false, Bool.not_true, Bool.not_false, false_and, and_false, false_or, or_false, gc_same, Int.sub_zero, Int.toNat_natCast, Int.reduceToNat, okS, rngD, at2_0, at2_1, hx, e1, lim0, limn, hn, hc, s1, s2, new, gc']
/-! ### mapped -/
noncomputable def F_mapped : Fn := fnD [] 5 2 ir_mapped
theorem map_comp {S : Sto} {n : Nat} {tab w : List Int} {f : Int → Int} {x1 x2 x3 x4 : Option D} {E1 : E} (hE : E1 = .idx (.var 1) (.var 4)) (it : itemsAt S n = some (iD tab)) (h : ∀ x ∈ w, 0 ≤ x ∧ x < tab.length ∧ tab.getD x.toNat 0 = f x) (hl : w.length ≤ LIM) :
    compD (turnF [4] (.nm 4) (sem [] .nil).t (sem [] E1).v [x1, some (.ref n), x2, x3, x4]) (fun _ => True) (iD w) [] S = some (iD (w.map f), S) := by
  subst hE
  have hc := comp_int (b := turnF [4] (.nm 4) (sem [] .nil).t (sem [] (.idx (.var 1) (.var 4))).v [x1, some (.ref n), x2, x3, x4]) (ok := fun _ => True) (ds := iD w) (S := S) (fun i => f (w.getD i 0)) trivial (by rw [W_len]; exact hl) (fun i d hd => by
    rw [W_at] at hd
    obtain ⟨x, hx, rfl⟩ := Option.map_eq_some_iff.mp hd
    obtain ⟨x0, x1, xe⟩ := h x (List.mem_of_getElem? hx)
    have e1 : atI (iD tab) x = some (.int (f x)) := by rw [at_pos x0, getD_at (by omega), xe]
    have e2 : w.getD i 0 = x := by rw [List.getD_eq_getElem?_getD, hx]; rfl
    rw [e2]
    unfold turnF
    simp only [x_nil, x_cons, x_set, x_setp, x_ret, x_par, x_expr, x_setI, x_aug, x_ite, x_for, x_whl, x_brk, x_cnt, x_pass, x_retN, seq_nx, seq_ret, seq_brk, seq_cnt, seq_none, seq_bnd, seq_if, v_var, v_int, v_bl, v_non, v_str, v_bin, v_neg, v_cmp, v_chn, v_boo, v_not, v_ite, v_tup0, v_tup1, v_tup2, v_idx, v_slc, v_call, v_bi, v_isi, v_lst, v_tupL, v_nilL, v_app, v_ext, a_nil, a_cons, a_disp1, a_disp2, a_disp3, a_comp, o_nil, o_var, o_int, o_neg, o_bin, o_bi, vb_one, vb_more, tb_one, tb_more, t_nil, t_boo, t_not, t_cmp, t_chn, t_call, t_isi, t_nilL, t_var, i_seq, i_rng1, i_rng2, i_enm, b_add, b_sub, b_mul, b_fdiv, b_mod, b_pow, b_cat, b_rep, c_lt, c_le, c_gt, c_ge, c_eq, c_ne, c_isn, q_int, len_tup, len_ref, k_min, k_max, k_int, k_tup, k_tupr, k_lst, ix_tup, ix_ref, sl_tup, end_ret, end_nx, end_if, end_none, bnd_grd, bnd_bnd, bnd_match, bnd_some, bnd_none, getv, setv, setvs, wipev, asg, Option.map_some, Option.map_none, List.length_cons, List.length_nil, List.getElem?_cons_zero, List.getElem?_cons_succ, if_true, truD, decide_eq_true_eq, List.replicate, List.map_cons, List.map_nil, List.cons_append, List.nil_append, ite_true, ite_false, if_false, decide_true, decide_false, and_self, true_and, and_true, true_or, or_true, or_self, reduceCtorEq, Bool.false_eq_true, Bool.true_eq_false, Bool.not_true, Bool.not_false, false_and, and_false, false_or, or_false, gc_same, Int.sub_zero, Int.toNat_natCast, Int.reduceToNat, okS, rngD, it, e1])
  rw [hc, W_len]
  congr 2
  congr 1
  apply List.ext_getElem
  · rw [List.length_map, List.length_map, List.length_range]
  · intro i h1 h2
    rw [List.getElem_map, List.getElem_map, List.getElem_range, List.getD_eq_getElem?_getD, List.getElem?_eq_getElem (by rw [List.length_map] at h2; exact h2)]
    rfl
theorem mapped_ok {S : Sto} {n : Nat} {tab : List Int} {l : Ls} {f : Int → Int} (it : itemsAt S n = some (iD tab)) (h1 : ∀ x ∈ l.1, 0 ≤ x ∧ x < tab.length ∧ tab.getD x.toNat 0 = f x) (h2 : ∀ x ∈ l.2, 0 ≤ x ∧ x < tab.length ∧ tab.getD x.toNat 0 = f x) (l1 : l.1.length ≤ LIM) (l2 : l.2.length ≤ LIM) :
    F_mapped [La l, .ref n] S = some (La (l.1.map f, l.2.map f), S) := by
  have c1 := map_comp (S := S) (n := n) (x1 := some (La l)) (x2 := some (W l.1)) (x3 := some (W l.2)) (x4 := none) (E1 := ir_mapped_e1) rfl it h1 l1
  have c2 := map_comp (S := S) (n := n) (x1 := some (La l)) (x2 := some (W l.1)) (x3 := some (W l.2)) (x4 := none) (E1 := ir_mapped_e2) rfl it h2 l2
  unfold F_mapped fnD ir_mapped
  simp only [x_nil, x_cons, x_set, x_setp, x_ret, x_par, x_expr, x_setI, x_aug, x_ite, x_for, x_whl, x_brk, x_cnt, x_pass, x_retN, seq_nx, seq_ret, seq_brk, seq_cnt, seq_none, seq_bnd, seq_if, v_var, v_int, v_bl, v_non, v_str, v_bin, v_neg, v_cmp, v_chn, v_boo, v_not, v_ite, v_tup0, v_tup1, v_tup2, v_idx, v_slc, v_call, v_bi, v_isi, v_lst, v_tupL, v_nilL, v_app, v_ext, a_nil, a_cons, a_disp1, a_disp2, a_disp3, a_comp, o_nil, o_var, o_int, o_neg, o_bin, o_bi, vb_one, vb_more, tb_one, tb_more, t_nil, t_boo, t_not, t_cmp, t_chn, t_call, t_isi, t_nilL, t_var, i_seq, i_rng1, i_rng2, i_enm, b_add, b_sub, b_mul, b_fdiv, b_mod, b_pow, b_cat, b_rep, c_lt, c_le, c_gt, c_ge, c_eq, c_ne, c_isn, q_int, len_tup, len_ref, k_min, k_max, k_int, k_tup, k_tupr, k_lst, ix_tup, ix_ref, sl_tup, end_ret, end_nx, end_if, end_none, bnd_grd, bnd_bnd, bnd_match, bnd_some, bnd_none, getv, setv, setvs, wipev, asg, Option.map_some, Option.map_none, List.length_cons, List.length_nil, List.getElem?_cons_zero, List.getElem?_cons_succ, if_true, truD, decide_eq_true_eq, List.replicate, List.map_cons, List.map_nil, List.cons_append, List.nil_append, ite_true, ite_false, if_false, decide_true, decide_false, and_self, true_and, and_true, true_or, or_true, or_self, reduceCtorEq, Bool.false_eq_true, Bool.true_eq_false, Bool.not_true, Bool.not_false, false_and, and_false, false_or, or_false, gc_same, Int.sub_zero, Int.toNat_natCast, Int.reduceToNat, okS, rngD, seqD, c1, c2]
end M

/-! R1: words of a length. -/
namespace M
open PySem (Str PyData)
open L2 (atI ixN)
/-- words_of(letters, length): letters=0 length=1 found=2 _=3 longer=4 word=5 letter=6; calls  -/
def ir_words_of_e1 : E :=
  (.bin .add (.var 5) (.tup (.cons (.var 6) .nil)))
def ir_words_of_b1 : Stm :=
  (.cons (.expr (.extL (.var 4) (.comp [6] (.nm 6) (.rng1 (.var 0)) .nil ir_words_of_e1)))
    .nil)
def ir_words_of_b2 : Stm :=
  (.cons (.set (.nm 4) (.lst (.disp .nil)))
    (.cons (.for_ (.nm 5) (.seq (.var 2)) ir_words_of_b1)
    (.cons (.set (.nm 2) (.var 4))
    .nil)))
def ir_words_of : Stm :=
  (.cons (.set (.nm 2) (.lst (.disp (.cons (.tup .nil) .nil))))
    (.cons (.for_ (.nm 3) (.rng1 (.var 1)) ir_words_of_b2)
    (.cons (.ret (.var 2))
    .nil)))
/-- lassos_of(letters, beginning, loop): letters=0 beginning=1 loop=2 found=3 turn=4 last=5 start=6 first=7; calls words_of least_lasso -/
def ir_lassos_of_b1 : Stm :=
  (.cons (.ite (.cmp .eq (.call 1 (.cons (.tup (.cons (.var 7) (.cons (.var 5) .nil))) .nil)) (.tup (.cons (.var 7) (.cons (.var 5) .nil)))) (.cons (.expr (.app (.var 3) (.tup (.cons (.var 7) (.cons (.var 5) .nil)))))
    .nil) .nil)
    .nil)
def ir_lassos_of_b2 : Stm :=
  (.cons (.for_ (.nm 7) (.seq (.call 0 (.cons (.var 0) (.cons (.var 6) .nil)))) ir_lassos_of_b1)
    .nil)
def ir_lassos_of_b3 : Stm :=
  (.cons (.for_ (.nm 6) (.rng1 (.bin .add (.var 1) (.int 1))) ir_lassos_of_b2)
    .nil)
def ir_lassos_of_b4 : Stm :=
  (.cons (.for_ (.nm 5) (.seq (.call 0 (.cons (.var 0) (.cons (.var 4) .nil)))) ir_lassos_of_b3)
    .nil)
def ir_lassos_of : Stm :=
  (.cons (.set (.nm 3) (.lst (.disp .nil)))
    (.cons (.for_ (.nm 4) (.rng2 (.int 1) (.bin .add (.var 2) (.int 1))) ir_lassos_of_b4)
    (.cons (.ret (.var 3))
    .nil)))
/-- _law_words(k, size): k=0 size=1 found=2 turn=3 longer=4 word=5 letter=6; calls  -/
def ir_law_words_e1 : E :=
  (.bin .add (.var 5) (.tup (.cons (.var 6) .nil)))
def ir_law_words_b1 : Stm :=
  (.cons (.set (.nm 4) (.bin .add (.var 4) (.lst (.comp [6] (.nm 6) (.rng1 (.var 0)) .nil ir_law_words_e1))))
    .nil)
def ir_law_words_b2 : Stm :=
  (.cons (.set (.nm 4) (.lst (.disp .nil)))
    (.cons (.for_ (.nm 5) (.seq (.var 2)) ir_law_words_b1)
    (.cons (.set (.nm 2) (.var 4))
    .nil)))
def ir_law_words : Stm :=
  (.cons (.set (.nm 2) (.lst (.disp (.cons (.tup .nil) .nil))))
    (.cons (.for_ (.nm 3) (.rng1 (.var 1)) ir_law_words_b2)
    (.cons (.ret (.var 2))
    .nil)))
/-- _law_power(k, size): k=0 size=1 found=2 turn=3; calls  -/
def ir_law_power_b1 : Stm :=
  (.cons (.set (.nm 2) (.bin .mul (.var 2) (.var 0)))
    .nil)
def ir_law_power : Stm :=
  (.cons (.set (.nm 2) (.int 1))
    (.cons (.for_ (.nm 3) (.rng1 (.var 1)) ir_law_power_b1)
    (.cons (.ret (.var 2))
    .nil)))
/-- _law_due_count(k, most, turn): k=0 most=1 turn=2 plain=3 size=4 part=5 firsts=6; calls _law_power -/
def ir_law_due_count_e1 : E :=
  (.cmp .eq (.bin .mod (.bi .int (.cons (.var 4) .nil)) (.var 5)) (.int 0))
def ir_law_due_count_e2 : E :=
  (.idx (.var 3) (.var 5))
def ir_law_due_count_b1 : Stm :=
  (.cons (.expr (.app (.var 3) (.bin .sub (.call 0 (.cons (.var 0) (.cons (.var 4) .nil))) (.bi .sum (.cons (.lst (.comp [5] (.nm 5) (.rng2 (.int 1) (.var 4)) ir_law_due_count_e1 ir_law_due_count_e2)) .nil)))))
    .nil)
def ir_law_due_count_b2 : Stm :=
  (.cons (.set (.nm 6) (.bin .add (.var 6) (.bin .mul (.call 0 (.cons (.var 0) (.cons (.var 4) .nil))) (.bin .sub (.var 0) (.int 1)))))
    .nil)
def ir_law_due_count : Stm :=
  (.cons (.set (.nm 3) (.lst (.disp (.cons (.int 0) .nil))))
    (.cons (.for_ (.nm 4) (.rng2 (.int 1) (.bin .add (.var 2) (.int 1))) ir_law_due_count_b1)
    (.cons (.set (.nm 6) (.int 1))
    (.cons (.for_ (.nm 4) (.rng1 (.var 1)) ir_law_due_count_b2)
    (.cons (.ret (.bin .mul (.bi .sum (.cons (.var 3) .nil)) (.var 6)))
    .nil)))))
/-- _law_key(lasso): lasso=0; calls  -/
def ir_law_key : Stm :=
  (.cons (.ret (.tup (.cons (.bi .len (.cons (.idx (.var 0) (.int 1)) .nil)) (.cons (.idx (.var 0) (.int 1)) (.cons (.bi .len (.cons (.idx (.var 0) (.int 0)) .nil)) (.cons (.idx (.var 0) (.int 0)) .nil))))))
    .nil)
/-! ### stores that grow -/
/-- all but the object at f stays -/
def Ext (f : Nat) (S S' : Sto) : Prop := S.length ≤ S'.length ∧ ∀ n, n < S.length → n ≠ f → S'[n]? = S[n]?
theorem Ext.refl {f : Nat} {S : Sto} : Ext f S S := ⟨Nat.le_refl _, fun _ _ _ => rfl⟩
theorem Ext.trans {f : Nat} {S S' S'' : Sto} (a : Ext f S S') (b : Ext f S' S'') : Ext f S S'' := ⟨Nat.le_trans a.1 b.1, fun n h c => (b.2 n (Nat.lt_of_lt_of_le h a.1) c).trans (a.2 n h c)⟩
theorem Ext.app {f : Nat} {S t : Sto} : Ext f S (S ++ t) := ⟨by rw [List.length_append]; omega, fun n h _ => List.getElem?_append_left h⟩
theorem Ext.set {f : Nat} {S : Sto} {o : Ob} : Ext f S (S.set f o) := ⟨by rw [List.length_set]; omega, fun n _ c => List.getElem?_set_ne (Ne.symm c)⟩
theorem Ext.items {f n : Nat} {S S' : Sto} {xs : List D} (a : Ext f S S') (c : n ≠ f) (h : itemsAt S n = some xs) : itemsAt S' n = some xs := by
  unfold itemsAt at *
  have hl : n < S.length := by
    cases e : S[n]? with
    | none => rw [e] at h; cases h
    | some o => exact (List.getElem?_eq_some_iff.mp e).1
  rw [a.2 n hl c]
  exact h
theorem set_last {S : Sto} {o o' : Ob} : (S ++ [o]).set S.length o' = S ++ [o'] := by
  rw [List.set_append_right _ _ (Nat.le_refl _), Nat.sub_self]
  rfl
theorem at_last {S : Sto} {o : Ob} : (S ++ [o])[S.length]? = some o := by
  rw [List.getElem?_append_right (Nat.le_refl _), Nat.sub_self]
  rfl
/-! ### words -/
def step1 (k : Nat) (w : List Int) : List (List Int) := (List.range k).map fun (c : Nat) => w ++ [(c : Int)]
def wordsL (k : Nat) : Nat → List (List Int)
  | 0 => [[]]
  | n + 1 => (wordsL k n).flatMap (step1 k)
theorem step1_len {k : Nat} {w : List Int} : (step1 k w).length = k := by
  unfold step1
  rw [List.length_map, List.length_range]
theorem flat_len {k : Nat} : ∀ ws : List (List Int), (ws.flatMap (step1 k)).length = ws.length * k
  | [] => by simp
  | w :: ws => by rw [List.flatMap_cons, List.length_append, step1_len, flat_len ws, List.length_cons, Nat.succ_mul]; omega
theorem wordsL_len {k : Nat} : ∀ n, (wordsL k n).length = k ^ n
  | 0 => rfl
  | n + 1 => by
    show ((wordsL k n).flatMap (step1 k)).length = _
    rw [flat_len, wordsL_len n, Nat.pow_succ]
theorem wordsL_size {k : Nat} : ∀ {n : Nat} {w : List Int}, w ∈ wordsL k n → w.length = n ∧ Below k w
  | 0, w, h => by
    rw [List.mem_singleton.mp h]
    exact ⟨rfl, fun _ h => absurd h List.not_mem_nil⟩
  | n + 1, w, h => by
    obtain ⟨v, hv, hw⟩ := List.mem_flatMap.mp (show w ∈ (wordsL k n).flatMap (step1 k) from h)
    obtain ⟨c, hc, rfl⟩ := List.mem_map.mp hw
    obtain ⟨h1, h2⟩ := wordsL_size hv
    refine ⟨by rw [List.length_append, h1]; rfl, h2.app fun x hx => ?_⟩
    rw [List.mem_singleton.mp hx]
    have := List.mem_range.mp hc
    omega
theorem wordsL_mem {k : Nat} : ∀ {n : Nat} {w : List Int}, w.length = n → Below k w → w ∈ wordsL k n
  | 0, w, h, _ => by
    rw [List.eq_nil_of_length_eq_zero h]
    exact List.mem_singleton.mpr rfl
  | n + 1, w, h, b => by
    have hn : w ≠ [] := fun z => by rw [z] at h; cases h
    have e : w = w.dropLast ++ [w.getLast hn] := (List.dropLast_concat_getLast hn).symm
    show w ∈ (wordsL k n).flatMap (step1 k)
    refine List.mem_flatMap.mpr ⟨w.dropLast, wordsL_mem (by rw [List.length_dropLast, h]; rfl) (b.sub fun x hx => (List.dropLast_sublist w).mem hx), ?_⟩
    obtain ⟨b0, b1⟩ := b _ (List.getLast_mem hn)
    refine List.mem_map.mpr ⟨(w.getLast hn).toNat, List.mem_range.mpr (by omega), ?_⟩
    rw [Int.toNat_of_nonneg b0]
    exact e.symm
theorem pow_mono {k n m : Nat} (k0 : 0 < k) (h : n ≤ m) : k ^ n ≤ k ^ m := Nat.pow_le_pow_right k0 h
noncomputable def F_words : Fn := fnD [] 7 2 ir_words_of
/-- the comprehension: a word and each letter -/
theorem step_comp {S : Sto} {k : Nat} {w : List Int} {E1 : E} {x0 x1 x2 x3 x4 x6 : Option D} (hE : E1 = .bin .add (.var 5) (.tup (.cons (.var 6) .nil))) (hk : k ≤ 1000) (hw : w.length ≤ 1000) :
    compD (turnF [6] (.nm 6) (sem [] .nil).t (sem [] E1).v [x0, x1, x2, x3, x4, some (W w), x6]) (fun _ => True) (rng 0 k) [] S = some ((step1 k w).map W, S) := by
  subst hE
  obtain ⟨ys, S', h, rfl, rfl⟩ := comp_map (b := turnF [6] (.nm 6) (sem [] .nil).t (sem [] (.bin .add (.var 5) (.tup (.cons (.var 6) .nil)))).v [x0, x1, x2, x3, x4, some (W w), x6]) (ok := fun _ => True) W
    (fun i acc S' => S' = S ∧ acc = (List.range i).map fun (c : Nat) => w ++ [(c : Int)]) (ds := rng 0 k) (k := 0) (acc := []) (S := S)
    (fun i d acc S' hd ⟨hS, ha⟩ => by
      subst hS ha
      obtain ⟨hi, rfl⟩ := rng_get hd
      have n1 : (iD w).length + (0 + 1) ≤ LIM := by rw [W_len]; unfold LIM; omega
      have w1 : iD w ++ [D.int (i : Int)] = iD (w ++ [(i : Int)]) := W_app w [_]
      have e1 : (0 + (i : Int)) = (i : Int) := by omega
      refine ⟨trivial, by rw [List.length_map, List.length_range]; unfold LIM; omega, w ++ [(i : Int)], S', ?_, rfl, ?_⟩
      · unfold turnF
        simp only [x_nil, x_cons, x_set, x_setp, x_ret, x_par, x_expr, x_setI, x_aug, x_ite, x_for, x_whl, x_brk, x_cnt, x_pass, x_retN, seq_nx, seq_ret, seq_brk, seq_cnt, seq_none, seq_bnd, seq_if, v_var, v_int, v_bl, v_non, v_str, v_bin, v_neg, v_cmp, v_chn, v_boo, v_not, v_ite, v_tup0, v_tup1, v_tup2, v_idx, v_slc, v_call, v_bi, v_isi, v_lst, v_tupL, v_nilL, v_app, v_ext, a_nil, a_cons, a_disp1, a_disp2, a_disp3, a_comp, o_nil, o_var, o_int, o_neg, o_bin, o_bi, vb_one, vb_more, tb_one, tb_more, t_nil, t_boo, t_not, t_cmp, t_chn, t_call, t_isi, t_nilL, t_var, i_seq, i_rng1, i_rng2, i_enm, b_add, b_sub, b_mul, b_fdiv, b_mod, b_pow, b_cat, b_rep, c_lt, c_le, c_gt, c_ge, c_eq, c_ne, c_isn, q_int, len_tup, len_ref, k_min, k_max, k_int, k_tup, k_tupr, k_lst, ix_tup, ix_ref, sl_tup, end_ret, end_nx, end_if, end_none, bnd_grd, bnd_bnd, bnd_match, bnd_some, bnd_none, getv, setv, setvs, wipev, asg, Option.map_some, Option.map_none, List.length_cons, List.length_nil, List.getElem?_cons_zero, List.getElem?_cons_succ, if_true, truD, decide_eq_true_eq, List.replicate, List.map_cons, List.map_nil, List.cons_append, List.nil_append, ite_true, ite_false, if_false, decide_true, decide_false, and_self, true_and, and_true, true_or, or_true, or_self, reduceCtorEq, Bool.false_eq_true, Bool.true_eq_false, Bool.not_true, Bool.not_false, false_and, and_false, false_or, or_false, gc_same, Int.sub_zero, Int.toNat_natCast, Int.reduceToNat, okS, rngD, n1, w1, e1]
      · rw [Nat.zero_add, List.range_succ, List.map_append]
        rfl)
    (fun _ _ _ => trivial) ⟨rfl, rfl⟩
  rw [Nat.zero_add, rng_len] at h
  exact h
theorem words_in {S : Sto} {k : Nat} {x0 x1 x3 : Option D} {a5 a6 : Option D} {ws : List (List Int)} {a b : Nat} {n : Nat} (hx : x0 = some (.int k)) (hk : k ≤ 1000) (hn : n ≤ 1000) (hb : b = S.length) (ia : itemsAt S a = some (ws.map W)) (hw : ∀ w ∈ ws, w.length = n) (hl : ws.length * k ≤ 1000000) :
    ∃ a5' a6', forD (bodyF (.nm 5) (exec [] ir_words_of_b1)) (fun S' => itemsAt S' a = some (ws.map W)) (ws.map W) [x0, x1, some (.ref a), x3, some (.ref b), a5, a6] (S ++ [.lst []]) = some (.nx [x0, x1, some (.ref a), x3, some (.ref b), a5', a6'] (S ++ [.lst ((ws.flatMap (step1 k)).map W)])) := by
  subst hx hb
  have keep : ∀ xs, itemsAt (S ++ [.lst xs]) a = some (ws.map W) := fun xs => Ext.app.items (f := S.length) (by
    intro z
    subst z
    unfold itemsAt at ia
    rw [List.getElem?_eq_none (Nat.le_refl _)] at ia
    cases ia) ia
  obtain ⟨e', S', hf, rfl, b5, b6, rfl⟩ := for_inv (b := bodyF (.nm 5) (exec [] ir_words_of_b1)) (ok := fun S' => itemsAt S' a = some (ws.map W))
    (fun i e S' => S' = S ++ [.lst (((ws.take i).flatMap (step1 k)).map W)] ∧ ∃ a5 a6, e = [some (.int k), x1, some (.ref a), x3, some (.ref S.length), a5, a6]) (ds := ws.map W) (k := 0) (e := [some (.int k), x1, some (.ref a), x3, some (.ref S.length), a5, a6]) (S := S ++ [.lst []])
    (fun i d e S' hd ⟨hS, a5, a6, he⟩ => by
      subst hS he
      rw [List.getElem?_map] at hd
      obtain ⟨w, hw1, rfl⟩ := Option.map_eq_some_iff.mp hd
      have hwl := hw w (List.mem_of_getElem? hw1)
      have hi := (List.getElem?_eq_some_iff.mp hw1).1
      have c1 := step_comp (S := S ++ [.lst (((ws.take (0 + i)).flatMap (step1 k)).map W)]) (k := k) (w := w) (x0 := some (.int k)) (x1 := x1) (x2 := some (.ref a)) (x3 := x3) (x4 := some (.ref S.length)) (x6 := a6) (E1 := ir_words_of_e1) rfl hk (by omega)
      have lim0 : lim62 0 := lim_ok (by decide)
      have limk : lim62 (k : Int) := lim_ok (by omega)
      have tk : (ws.take (0 + i + 1)) = ws.take (0 + i) ++ [w] := by
        rw [Nat.zero_add, List.take_succ, hw1]
        rfl
      have ex : extD (.ref S.length) ((step1 k w).map W) (S ++ [.lst (((ws.take (0 + i)).flatMap (step1 k)).map W)]) = some (.non, S ++ [.lst (((ws.take (0 + i + 1)).flatMap (step1 k)).map W)]) := by
        unfold extD
        simp only [at_last]
        have bd : (((ws.take (0 + i)).flatMap (step1 k)).map W).length + ((step1 k w).map W).length ≤ LIM := by
          rw [List.length_map, List.length_map, flat_len, step1_len, List.length_take]
          have h1 : min (0 + i) ws.length * k + k = (min (0 + i) ws.length + 1) * k := by rw [Nat.succ_mul]
          have h2 : (min (0 + i) ws.length + 1) * k ≤ ws.length * k := Nat.mul_le_mul_right _ (by omega)
          unfold LIM
          omega
        rw [if_pos bd, set_last, ← List.map_append, tk, List.flatMap_append]
        simp only [List.flatMap_cons, List.flatMap_nil, List.append_nil]
      refine ⟨keep _, [some (.int k), x1, some (.ref a), x3, some (.ref S.length), some (W w), a6], _, ?_, rfl, _, _, rfl⟩
      unfold bodyF ir_words_of_b1
      simp only [x_nil, x_cons, x_set, x_setp, x_ret, x_par, x_expr, x_setI, x_aug, x_ite, x_for, x_whl, x_brk, x_cnt, x_pass, x_retN, seq_nx, seq_ret, seq_brk, seq_cnt, seq_none, seq_bnd, seq_if, v_var, v_int, v_bl, v_non, v_str, v_bin, v_neg, v_cmp, v_chn, v_boo, v_not, v_ite, v_tup0, v_tup1, v_tup2, v_idx, v_slc, v_call, v_bi, v_isi, v_lst, v_tupL, v_nilL, v_app, v_ext, a_nil, a_cons, a_disp1, a_disp2, a_disp3, a_comp, o_nil, o_var, o_int, o_neg, o_bin, o_bi, vb_one, vb_more, tb_one, tb_more, t_nil, t_boo, t_not, t_cmp, t_chn, t_call, t_isi, t_nilL, t_var, i_seq, i_rng1, i_rng2, i_enm, b_add, b_sub, b_mul, b_fdiv, b_mod, b_pow, b_cat, b_rep, c_lt, c_le, c_gt, c_ge, c_eq, c_ne, c_isn, q_int, len_tup, len_ref, k_min, k_max, k_int, k_tup, k_tupr, k_lst, ix_tup, ix_ref, sl_tup, end_ret, end_nx, end_if, end_none, bnd_grd, bnd_bnd, bnd_match, bnd_some, bnd_none, getv, setv, setvs, wipev, asg, Option.map_some, Option.map_none, List.length_cons, List.length_nil, List.getElem?_cons_zero, List.getElem?_cons_succ, if_true, truD, decide_eq_true_eq, List.replicate, List.map_cons, List.map_nil, List.cons_append, List.nil_append, ite_true, ite_false, if_false, decide_true, decide_false, and_self, true_and, and_true, true_or, or_true, or_self, reduceCtorEq, Bool.false_eq_true, Bool.true_eq_false, Bool.not_true, Bool.not_false, false_and, and_false, false_or, or_false, gc_same, Int.sub_zero, Int.toNat_natCast, Int.reduceToNat, okS, rngD, lim0, limk, c1, ex])
    (fun e S' ⟨hS, _⟩ => by
      subst hS
      exact keep _) ⟨rfl, a5, a6, rfl⟩
  refine ⟨b5, b6, ?_⟩
  rw [Nat.zero_add, List.length_map, List.take_length] at hf
  exact hf
theorem words_ok {S : Sto} {k n : Nat} (k0 : 0 < k) (hk : k ≤ 1000) (hn : n ≤ 1000) (hl : k ^ n ≤ 1000000) : ∃ m t, S.length ≤ m ∧ F_words [.int k, .int n] S = some (.ref m, S ++ t) ∧ itemsAt (S ++ t) m = some ((wordsL k n).map W) := by
  have lim0 : lim62 0 := lim_ok (by decide)
  have limn : lim62 (n : Int) := lim_ok (by omega)
  obtain ⟨e', S', hf, t, m, a3, a4, a5, a6, rfl, hm, im, rfl⟩ := for_inv (b := bodyF (.nm 3) (exec [] ir_words_of_b2)) (ok := fun _ => True)
    (fun i e S' => ∃ t m a3 a4 a5 a6, S' = S ++ t ∧ S.length ≤ m ∧ itemsAt S' m = some ((wordsL k i).map W) ∧ e = [some (.int k), some (.int n), some (.ref m), a3, a4, a5, a6]) (ds := rng 0 n) (k := 0)
    (e := [some (.int k), some (.int n), some (.ref S.length), none, none, none, none]) (S := S ++ [.lst [W []]])
    (fun i d e S' hd ⟨t, m, a3, a4, a5, a6, hS, hm, im, he⟩ => by
      subst hS he
      obtain ⟨hi, rfl⟩ := rng_get hd
      have hp : k ^ (0 + i + 1) ≤ k ^ n := pow_mono k0 (by omega)
      obtain ⟨b5, b6, hb⟩ := words_in (S := S ++ t) (k := k) (x0 := some (.int k)) (x1 := some (.int n)) (x3 := some (.int (0 + (i : Int)))) (a5 := a5) (a6 := a6) (ws := wordsL k (0 + i)) (a := m) (b := (S ++ t).length) (n := 0 + i) rfl hk (by omega) rfl im (fun w hw => (wordsL_size hw).1) (by rw [wordsL_len]; have h2 : k ^ (0 + i) * k = k ^ (0 + i + 1) := rfl; omega)
      refine ⟨trivial, [some (.int k), some (.int n), some (.ref (S ++ t).length), some (.int (0 + (i : Int))), some (.ref (S ++ t).length), b5, b6], S ++ t ++ [.lst ((wordsL k (0 + i + 1)).map W)], ?_, t ++ [.lst ((wordsL k (0 + i + 1)).map W)], (S ++ t).length, _, _, _, _, by rw [List.append_assoc], by rw [List.length_append]; omega, ?_, rfl⟩
      · have im' : itemsAt (S ++ t ++ [Ob.lst []]) m = some ((wordsL k (0 + i)).map W) := Ext.app.items (f := (S ++ t).length) (by
          intro z
          subst z
          unfold itemsAt at im
          rw [List.getElem?_eq_none (Nat.le_refl _)] at im
          cases im) im
        have a0 : ∀ e S, (sem [] (.disp .nil)).a e S = some ([], S) := fun e S => rfl
        unfold bodyF ir_words_of_b2
        simp only [x_nil, x_cons, x_set, x_setp, x_ret, x_par, x_expr, x_setI, x_aug, x_ite, x_for, x_whl, x_brk, x_cnt, x_pass, x_retN, seq_nx, seq_ret, seq_brk, seq_cnt, seq_none, seq_bnd, seq_if, v_var, v_int, v_bl, v_non, v_str, v_bin, v_neg, v_cmp, v_chn, v_boo, v_not, v_ite, v_tup0, v_tup1, v_tup2, v_idx, v_slc, v_call, v_bi, v_isi, v_lst, v_tupL, v_nilL, v_app, v_ext, a_nil, a_cons, a_disp1, a_disp2, a_disp3, a_comp, o_nil, o_var, o_int, o_neg, o_bin, o_bi, vb_one, vb_more, tb_one, tb_more, t_nil, t_boo, t_not, t_cmp, t_chn, t_call, t_isi, t_nilL, t_var, i_seq, i_rng1, i_rng2, i_enm, b_add, b_sub, b_mul, b_fdiv, b_mod, b_pow, b_cat, b_rep, c_lt, c_le, c_gt, c_ge, c_eq, c_ne, c_isn, q_int, len_tup, len_ref, k_min, k_max, k_int, k_tup, k_tupr, k_lst, ix_tup, ix_ref, sl_tup, end_ret, end_nx, end_if, end_none, bnd_grd, bnd_bnd, bnd_match, bnd_some, bnd_none, getv, setv, setvs, wipev, asg, Option.map_some, Option.map_none, List.length_cons, List.length_nil, List.getElem?_cons_zero, List.getElem?_cons_succ, if_true, truD, decide_eq_true_eq, List.replicate, List.map_cons, List.map_nil, List.cons_append, List.nil_append, ite_true, ite_false, if_false, decide_true, decide_false, and_self, true_and, and_true, true_or, or_true, or_self, reduceCtorEq, Bool.false_eq_true, Bool.true_eq_false, Bool.not_true, Bool.not_false, false_and, and_false, false_or, or_false, gc_same, Int.sub_zero, Int.toNat_natCast, Int.reduceToNat, okS, rngD, a0, seqD, im', hb]
        rfl
      · unfold itemsAt
        rw [at_last])
    (fun _ _ _ => trivial) ⟨[.lst [W []]], S.length, none, none, none, none, rfl, Nat.le_refl _, by unfold itemsAt; rw [at_last]; rfl, rfl⟩
  rw [rng_len, Nat.zero_add] at im
  refine ⟨m, t, hm, ?_, im⟩
  have a0 : ∀ e S, (sem [] (.disp (.cons (.tup .nil) .nil))).a e S = some ([W []], S) := fun e S => rfl
  have nn : ((n : Nat) : Int).toNat = n := rfl
  unfold F_words fnD ir_words_of
  simp only [x_nil, x_cons, x_set, x_setp, x_ret, x_par, x_expr, x_setI, x_aug, x_ite, x_for, x_whl, x_brk, x_cnt, x_pass, x_retN, seq_nx, seq_ret, seq_brk, seq_cnt, seq_none, seq_bnd, seq_if, v_var, v_int, v_bl, v_non, v_str, v_bin, v_neg, v_cmp, v_chn, v_boo, v_not, v_ite, v_tup0, v_tup1, v_tup2, v_idx, v_slc, v_call, v_bi, v_isi, v_lst, v_tupL, v_nilL, v_app, v_ext, a_nil, a_cons, a_disp1, a_disp2, a_disp3, a_comp, o_nil, o_var, o_int, o_neg, o_bin, o_bi, vb_one, vb_more, tb_one, tb_more, t_nil, t_boo, t_not, t_cmp, t_chn, t_call, t_isi, t_nilL, t_var, i_seq, i_rng1, i_rng2, i_enm, b_add, b_sub, b_mul, b_fdiv, b_mod, b_pow, b_cat, b_rep, c_lt, c_le, c_gt, c_ge, c_eq, c_ne, c_isn, q_int, len_tup, len_ref, k_min, k_max, k_int, k_tup, k_tupr, k_lst, ix_tup, ix_ref, sl_tup, end_ret, end_nx, end_if, end_none, bnd_grd, bnd_bnd, bnd_match, bnd_some, bnd_none, getv, setv, setvs, wipev, asg, Option.map_some, Option.map_none, List.length_cons, List.length_nil, List.getElem?_cons_zero, List.getElem?_cons_succ, if_true, truD, decide_eq_true_eq, List.replicate, List.map_cons, List.map_nil, List.cons_append, List.nil_append, ite_true, ite_false, if_false, decide_true, decide_false, and_self, true_and, and_true, true_or, or_true, or_self, reduceCtorEq, Bool.false_eq_true, Bool.true_eq_false, Bool.not_true, Bool.not_false, false_and, and_false, false_or, or_false, gc_same, Int.sub_zero, Int.toNat_natCast, Int.reduceToNat, okS, rngD, a0, lim0, limn, nn, hf, gc_ref]
end M

/-! R2: lassos of lengths, the law's own words. -/
namespace M
open PySem (Str PyData)
open L2 (atI ixN)
/-! ### _law_words -/
theorem cat_ref {S : Sto} {b : Nat} {xs ys : List D} (h : S[b]? = some (.lst xs)) (hl : xs.length + ys.length ≤ LIM) : binD .add (.ref b) (.ref S.length) (S ++ [.lst ys]) = some (.ref (S ++ [Ob.lst ys]).length, S ++ [.lst ys] ++ [.lst (xs ++ ys)]) := by
  show (match (S ++ [Ob.lst ys])[b]?, (S ++ [Ob.lst ys])[S.length]? with
    | some (Ob.lst a), some (Ob.lst c) => if a.length + c.length ≤ LIM then some (D.ref (S ++ [Ob.lst ys]).length, S ++ [Ob.lst ys] ++ [Ob.lst (a ++ c)]) else none
    | _, _ => none) = _
  rw [List.getElem?_append_left (List.getElem?_eq_some_iff.mp h).1, h, at_last]
  exact if_pos hl
noncomputable def F_lwords : Fn := fnD [] 7 2 ir_law_words
theorem lwords_in {S : Sto} {k : Nat} {x1 x3 : Option D} {a5 a6 : Option D} {ws : List (List Int)} {a : Nat} {n : Nat} (hk : k ≤ 1000) (hn : n ≤ 1000) (ia : itemsAt S a = some (ws.map W)) (hw : ∀ w ∈ ws, w.length = n) (hl : ws.length * k ≤ 1000000) :
    ∃ b t a5' a6', forD (bodyF (.nm 5) (exec [] ir_law_words_b1)) (fun S' => itemsAt S' a = some (ws.map W)) (ws.map W) [some (.int k), x1, some (.ref a), x3, some (.ref S.length), a5, a6] (S ++ [.lst []]) = some (.nx [some (.int k), x1, some (.ref a), x3, some (.ref b), a5', a6'] (S ++ t)) ∧ S.length ≤ b ∧
      (S ++ t)[b]? = some (.lst ((ws.flatMap (step1 k)).map W)) := by
  have an : a < S.length := by
    unfold itemsAt at ia
    cases e : S[a]? with
    | none => rw [e] at ia; cases ia
    | some o => exact (List.getElem?_eq_some_iff.mp e).1
  have keep : ∀ t, itemsAt (S ++ t) a = some (ws.map W) := fun t => Ext.app.items (f := S.length) (by omega) ia
  obtain ⟨e', S', hf, b, t, a5', a6', rfl, hb, ib, rfl⟩ := for_inv (b := bodyF (.nm 5) (exec [] ir_law_words_b1)) (ok := fun S' => itemsAt S' a = some (ws.map W))
    (fun i e S' => ∃ b t a5 a6, S' = S ++ t ∧ S.length ≤ b ∧ (S ++ t)[b]? = some (.lst (((ws.take i).flatMap (step1 k)).map W)) ∧ e = [some (.int k), x1, some (.ref a), x3, some (.ref b), a5, a6]) (ds := ws.map W) (k := 0) (e := [some (.int k), x1, some (.ref a), x3, some (.ref S.length), a5, a6]) (S := S ++ [.lst []])
    (fun i d e S' hd ⟨b, t, a5, a6, hS, hb, ib, he⟩ => by
      subst hS he
      rw [List.getElem?_map] at hd
      obtain ⟨w, hw1, rfl⟩ := Option.map_eq_some_iff.mp hd
      have hwl := hw w (List.mem_of_getElem? hw1)
      have hi := (List.getElem?_eq_some_iff.mp hw1).1
      have c1 := step_comp (S := S ++ t) (k := k) (w := w) (x0 := some (.int k)) (x1 := x1) (x2 := some (.ref a)) (x3 := x3) (x4 := some (.ref b)) (x6 := a6) (E1 := ir_law_words_e1) rfl hk (by omega)
      have lim0 : lim62 0 := lim_ok (by decide)
      have limk : lim62 (k : Int) := lim_ok (by omega)
      have tk : (ws.take (0 + i + 1)) = ws.take (0 + i) ++ [w] := by
        rw [Nat.zero_add, List.take_succ, hw1]
        rfl
      have bd : (((ws.take (0 + i)).flatMap (step1 k)).map W).length + ((step1 k w).map W).length ≤ LIM := by
        rw [List.length_map, List.length_map, flat_len, step1_len, List.length_take]
        have h1 : min (0 + i) ws.length * k + k = (min (0 + i) ws.length + 1) * k := by rw [Nat.succ_mul]
        have h2 : (min (0 + i) ws.length + 1) * k ≤ ws.length * k := Nat.mul_le_mul_right _ (by omega)
        unfold LIM
        omega
      have cat := cat_ref (ys := (step1 k w).map W) ib bd
      have fl : ((ws.take (0 + i)).flatMap (step1 k)).map W ++ (step1 k w).map W = ((ws.take (0 + i + 1)).flatMap (step1 k)).map W := by
        rw [← List.map_append, tk, List.flatMap_append]
        simp only [List.flatMap_cons, List.flatMap_nil, List.append_nil]
      rw [fl] at cat
      refine ⟨keep _, [some (.int k), x1, some (.ref a), x3, some (.ref (S ++ t ++ [Ob.lst ((step1 k w).map W)]).length), some (W w), a6], S ++ t ++ [Ob.lst ((step1 k w).map W)] ++ [Ob.lst (((ws.take (0 + i + 1)).flatMap (step1 k)).map W)], ?_, (S ++ t ++ [Ob.lst ((step1 k w).map W)]).length, t ++ [Ob.lst ((step1 k w).map W)] ++ [Ob.lst (((ws.take (0 + i + 1)).flatMap (step1 k)).map W)], _, _, by simp only [List.append_assoc], by simp only [List.length_append]; omega, ?_, rfl⟩
      · unfold bodyF ir_law_words_b1
        simp only [x_nil, x_cons, x_set, x_setp, x_ret, x_par, x_expr, x_setI, x_aug, x_ite, x_for, x_whl, x_brk, x_cnt, x_pass, x_retN, seq_nx, seq_ret, seq_brk, seq_cnt, seq_none, seq_bnd, seq_if, v_var, v_int, v_bl, v_non, v_str, v_bin, v_neg, v_cmp, v_chn, v_boo, v_not, v_ite, v_tup0, v_tup1, v_tup2, v_idx, v_slc, v_call, v_bi, v_isi, v_lst, v_tupL, v_nilL, v_app, v_ext, a_nil, a_cons, a_disp1, a_disp2, a_disp3, a_comp, o_nil, o_var, o_int, o_neg, o_bin, o_bi, vb_one, vb_more, tb_one, tb_more, t_nil, t_boo, t_not, t_cmp, t_chn, t_call, t_isi, t_nilL, t_var, i_seq, i_rng1, i_rng2, i_enm, b_add, b_sub, b_mul, b_fdiv, b_mod, b_pow, b_cat, b_rep, c_lt, c_le, c_gt, c_ge, c_eq, c_ne, c_isn, q_int, len_tup, len_ref, k_min, k_max, k_int, k_tup, k_tupr, k_lst, ix_tup, ix_ref, sl_tup, end_ret, end_nx, end_if, end_none, bnd_grd, bnd_bnd, bnd_match, bnd_some, bnd_none, getv, setv, setvs, wipev, asg, Option.map_some, Option.map_none, List.length_cons, List.length_nil, List.getElem?_cons_zero, List.getElem?_cons_succ, if_true, truD, decide_eq_true_eq, List.replicate, List.map_cons, List.map_nil, List.cons_append, List.nil_append, ite_true, ite_false, if_false, decide_true, decide_false, and_self, true_and, and_true, true_or, or_true, or_self, reduceCtorEq, Bool.false_eq_true, Bool.true_eq_false, Bool.not_true, Bool.not_false, false_and, and_false, false_or, or_false, gc_same, Int.sub_zero, Int.toNat_natCast, Int.reduceToNat, okS, rngD, lim0, limk, c1, cat]
      · have := at_last (S := S ++ t ++ [Ob.lst ((step1 k w).map W)]) (o := .lst (((ws.take (0 + i + 1)).flatMap (step1 k)).map W))
        rw [← List.append_assoc, ← List.append_assoc]
        exact this)
    (fun e S' ⟨b, t, a5, a6, hS, _⟩ => by
      subst hS
      exact keep _) ⟨S.length, [.lst []], a5, a6, rfl, Nat.le_refl _, at_last, rfl⟩
  refine ⟨b, t, a5', a6', hf, hb, ?_⟩
  rw [Nat.zero_add, List.length_map, List.take_length] at ib
  exact ib
theorem lwords_ok {S : Sto} {k n : Nat} (k0 : 0 < k) (hk : k ≤ 1000) (hn : n ≤ 1000) (hl : k ^ n ≤ 1000000) : ∃ m t, S.length ≤ m ∧ F_lwords [.int k, .int n] S = some (.ref m, S ++ t) ∧ itemsAt (S ++ t) m = some ((wordsL k n).map W) := by
  have lim0 : lim62 0 := lim_ok (by decide)
  have limn : lim62 (n : Int) := lim_ok (by omega)
  obtain ⟨e', S', hf, t, m, a3, a4, a5, a6, rfl, hm, im, rfl⟩ := for_inv (b := bodyF (.nm 3) (exec [] ir_law_words_b2)) (ok := fun _ => True)
    (fun i e S' => ∃ t m a3 a4 a5 a6, S' = S ++ t ∧ S.length ≤ m ∧ itemsAt S' m = some ((wordsL k i).map W) ∧ e = [some (.int k), some (.int n), some (.ref m), a3, a4, a5, a6]) (ds := rng 0 n) (k := 0)
    (e := [some (.int k), some (.int n), some (.ref S.length), none, none, none, none]) (S := S ++ [.lst [W []]])
    (fun i d e S' hd ⟨t, m, a3, a4, a5, a6, hS, hm, im, he⟩ => by
      subst hS he
      obtain ⟨hi, rfl⟩ := rng_get hd
      have hp : k ^ (0 + i + 1) ≤ k ^ n := pow_mono k0 (by omega)
      obtain ⟨b, t2, b5, b6, hb, hb1, hb2⟩ := lwords_in (S := S ++ t) (k := k) (x1 := some (.int n)) (x3 := some (.int (0 + (i : Int)))) (a5 := a5) (a6 := a6) (ws := wordsL k (0 + i)) (a := m) (n := 0 + i) hk (by omega) im (fun w hw => (wordsL_size hw).1) (by rw [wordsL_len]; have h2 : k ^ (0 + i) * k = k ^ (0 + i + 1) := rfl; omega)
      refine ⟨trivial, [some (.int k), some (.int n), some (.ref b), some (.int (0 + (i : Int))), some (.ref b), b5, b6], S ++ t ++ t2, ?_, t ++ t2, b, _, _, _, _, by rw [List.append_assoc], by rw [List.length_append] at hb1; omega, ?_, rfl⟩
      · have im' : itemsAt (S ++ t ++ [Ob.lst []]) m = some ((wordsL k (0 + i)).map W) := Ext.app.items (f := (S ++ t).length) (by
          intro z
          subst z
          unfold itemsAt at im
          rw [List.getElem?_eq_none (Nat.le_refl _)] at im
          cases im) im
        have a0 : ∀ e S, (sem [] (.disp .nil)).a e S = some ([], S) := fun e S => rfl
        unfold bodyF ir_law_words_b2
        simp only [x_nil, x_cons, x_set, x_setp, x_ret, x_par, x_expr, x_setI, x_aug, x_ite, x_for, x_whl, x_brk, x_cnt, x_pass, x_retN, seq_nx, seq_ret, seq_brk, seq_cnt, seq_none, seq_bnd, seq_if, v_var, v_int, v_bl, v_non, v_str, v_bin, v_neg, v_cmp, v_chn, v_boo, v_not, v_ite, v_tup0, v_tup1, v_tup2, v_idx, v_slc, v_call, v_bi, v_isi, v_lst, v_tupL, v_nilL, v_app, v_ext, a_nil, a_cons, a_disp1, a_disp2, a_disp3, a_comp, o_nil, o_var, o_int, o_neg, o_bin, o_bi, vb_one, vb_more, tb_one, tb_more, t_nil, t_boo, t_not, t_cmp, t_chn, t_call, t_isi, t_nilL, t_var, i_seq, i_rng1, i_rng2, i_enm, b_add, b_sub, b_mul, b_fdiv, b_mod, b_pow, b_cat, b_rep, c_lt, c_le, c_gt, c_ge, c_eq, c_ne, c_isn, q_int, len_tup, len_ref, k_min, k_max, k_int, k_tup, k_tupr, k_lst, ix_tup, ix_ref, sl_tup, end_ret, end_nx, end_if, end_none, bnd_grd, bnd_bnd, bnd_match, bnd_some, bnd_none, getv, setv, setvs, wipev, asg, Option.map_some, Option.map_none, List.length_cons, List.length_nil, List.getElem?_cons_zero, List.getElem?_cons_succ, if_true, truD, decide_eq_true_eq, List.replicate, List.map_cons, List.map_nil, List.cons_append, List.nil_append, ite_true, ite_false, if_false, decide_true, decide_false, and_self, true_and, and_true, true_or, or_true, or_self, reduceCtorEq, Bool.false_eq_true, Bool.true_eq_false, Bool.not_true, Bool.not_false, false_and, and_false, false_or, or_false, gc_same, Int.sub_zero, Int.toNat_natCast, Int.reduceToNat, okS, rngD, a0, seqD, im', hb]
      · unfold itemsAt
        rw [hb2]
        rfl)
    (fun _ _ _ => trivial) ⟨[.lst [W []]], S.length, none, none, none, none, rfl, Nat.le_refl _, by unfold itemsAt; rw [at_last]; rfl, rfl⟩
  rw [rng_len, Nat.zero_add] at im
  refine ⟨m, t, hm, ?_, im⟩
  have a0 : ∀ e S, (sem [] (.disp (.cons (.tup .nil) .nil))).a e S = some ([W []], S) := fun e S => rfl
  have nn : ((n : Nat) : Int).toNat = n := rfl
  unfold F_lwords fnD ir_law_words
  simp only [x_nil, x_cons, x_set, x_setp, x_ret, x_par, x_expr, x_setI, x_aug, x_ite, x_for, x_whl, x_brk, x_cnt, x_pass, x_retN, seq_nx, seq_ret, seq_brk, seq_cnt, seq_none, seq_bnd, seq_if, v_var, v_int, v_bl, v_non, v_str, v_bin, v_neg, v_cmp, v_chn, v_boo, v_not, v_ite, v_tup0, v_tup1, v_tup2, v_idx, v_slc, v_call, v_bi, v_isi, v_lst, v_tupL, v_nilL, v_app, v_ext, a_nil, a_cons, a_disp1, a_disp2, a_disp3, a_comp, o_nil, o_var, o_int, o_neg, o_bin, o_bi, vb_one, vb_more, tb_one, tb_more, t_nil, t_boo, t_not, t_cmp, t_chn, t_call, t_isi, t_nilL, t_var, i_seq, i_rng1, i_rng2, i_enm, b_add, b_sub, b_mul, b_fdiv, b_mod, b_pow, b_cat, b_rep, c_lt, c_le, c_gt, c_ge, c_eq, c_ne, c_isn, q_int, len_tup, len_ref, k_min, k_max, k_int, k_tup, k_tupr, k_lst, ix_tup, ix_ref, sl_tup, end_ret, end_nx, end_if, end_none, bnd_grd, bnd_bnd, bnd_match, bnd_some, bnd_none, getv, setv, setvs, wipev, asg, Option.map_some, Option.map_none, List.length_cons, List.length_nil, List.getElem?_cons_zero, List.getElem?_cons_succ, if_true, truD, decide_eq_true_eq, List.replicate, List.map_cons, List.map_nil, List.cons_append, List.nil_append, ite_true, ite_false, if_false, decide_true, decide_false, and_self, true_and, and_true, true_or, or_true, or_self, reduceCtorEq, Bool.false_eq_true, Bool.true_eq_false, Bool.not_true, Bool.not_false, false_and, and_false, false_or, or_false, gc_same, Int.sub_zero, Int.toNat_natCast, Int.reduceToNat, okS, rngD, a0, lim0, limn, nn, hf, gc_ref]
/-! ### lassos_of -/
def pick (g : List Int) (f : List Int) : List Ls := if lleast (f, g) = (f, g) then [(f, g)] else []
def rows2 (k : Nat) (g : List Int) (s : Nat) : List Ls := (wordsL k s).flatMap (pick g)
def rows1 (k m : Nat) (g : List Int) : List Ls := (List.range (m + 1)).flatMap (rows2 k g)
def rowsT (k m i : Nat) : List Ls := (wordsL k (1 + i)).flatMap (rows1 k m)
def lassoL (k m t : Nat) : List Ls := (List.range t).flatMap (rowsT k m)
theorem acc_loop {α : Type} {b : D → Ev → Sto → Option Out} {ok : Sto → Prop} (enc : α → D) (f : α → List Ls) (En : Ev → Prop) (St : List Ls → Sto → Prop) (N : Nat) (hok : ∀ acc S, St acc S → ok S) : ∀ {xs : List α},
    (∀ x ∈ xs, ∀ acc e S, acc.length + (f x).length ≤ N → En e → St acc S → ∃ e' S', b (enc x) e S = some (.nx e' S') ∧ En e' ∧ St (acc ++ f x) S') → ∀ {acc : List Ls} {e : Ev} {S : Sto}, acc.length + (xs.flatMap f).length ≤ N → En e → St acc S →
    ∃ e' S', forD b ok (xs.map enc) e S = some (.nx e' S') ∧ En e' ∧ St (acc ++ xs.flatMap f) S'
  | [], _, acc, e, S, _, he, hs => by
    refine ⟨e, S, ?_, he, by rw [List.flatMap_nil, List.append_nil]; exact hs⟩
    rw [List.map_nil]
    unfold forD
    rw [if_pos (hok _ _ hs)]
  | x :: xs, hb, acc, e, S, hl, he, hs => by
    rw [List.flatMap_cons, List.length_append] at hl
    obtain ⟨e1, S1, h1, he1, hs1⟩ := hb x List.mem_cons_self acc e S (by omega) he hs
    obtain ⟨e2, S2, h2, he2, hs2⟩ := acc_loop enc f En St N hok (xs := xs) (fun y hy => hb y (List.mem_cons_of_mem _ hy)) (acc := acc ++ f x) (e := e1) (S := S1) (by rw [List.length_append]; omega) he1 hs1
    refine ⟨e2, S2, ?_, he2, by rw [List.flatMap_cons, ← List.append_assoc]; exact hs2⟩
    rw [List.map_cons]
    unfold forD
    rw [if_pos (hok _ _ hs), h1]
    exact h2
/-- found stands at f, all else stays -/
def Fnd (f : Nat) (S0 : Sto) (acc : List Ls) (S : Sto) : Prop := Ext f S0 S ∧ S[f]? = some (.lst (acc.map fun l => La l))
theorem Fnd.app {f : Nat} {S0 S t : Sto} {acc : List Ls} (h : Fnd f S0 acc S) : Fnd f S0 acc (S ++ t) := ⟨h.1.trans Ext.app, by rw [List.getElem?_append_left (List.getElem?_eq_some_iff.mp h.2).1]; exact h.2⟩
theorem Fnd.step {f : Nat} {S0 S S' : Sto} {acc' : List Ls} (h : Ext f S0 S) (h' : Fnd f S acc' S') : Fnd f S0 acc' S' := ⟨h.trans h'.1, h'.2⟩
noncomputable def F_lassos : Fn := fnD [F_words, F_lleast] 8 3 ir_lassos_of
noncomputable abbrev TLs : List Fn := [F_words, F_lleast]
/-- the innermost: all beginnings of a length -/
theorem las1 {S : Sto} {f a : Nat} {g : List Int} {ws : List (List Int)} {x0 x1 x2 x4 x6 x7 : Option D} {acc : List Ls} (gn : g ≠ []) (gl : g.length ≤ 1000) (ia : itemsAt S a = some (ws.map W)) (af : a ≠ f) (hf : S[f]? = some (.lst (acc.map fun l => La l))) (hl : acc.length + (ws.flatMap (pick g)).length ≤ 900000) :
    ∃ x7' S', forD (bodyF (.nm 7) (exec TLs ir_lassos_of_b1)) (fun S' => itemsAt S' a = some (ws.map W)) (ws.map W) [x0, x1, x2, some (.ref f), x4, some (W g), x6, x7] S = some (.nx [x0, x1, x2, some (.ref f), x4, some (W g), x6, x7'] S') ∧ Fnd f S (acc ++ ws.flatMap (pick g)) S' := by
  obtain ⟨e', S', h1, ⟨x7', rfl⟩, h3⟩ := acc_loop (b := bodyF (.nm 7) (exec TLs ir_lassos_of_b1)) (ok := fun S' => itemsAt S' a = some (ws.map W)) (α := List Int) (fun w => W w) (pick g) (fun e => ∃ x7, e = [x0, x1, x2, some (.ref f), x4, some (W g), x6, x7]) (Fnd f S) 900000 (fun acc S' h => h.1.items af ia) (xs := ws)
    (fun w _ acc e S' hN ⟨x7, he⟩ hs => by
      subst he
      have e1 := lleast_ok (S := S') (l := (w, g)) gn (by simp only; omega)
      have e1' : F_lleast [.tup [W w, W g]] S' = some (La (lleast (w, g)), S') := e1
      have q : eqD S' (La (lleast (w, g))) (.tup [W w, W g]) = some (decide (lleast (w, g) = (w, g))) := q_La (m := (w, g))
      have T1 : TLs[1]? = some F_lleast := rfl
      unfold pick at hN ⊢
      by_cases c : lleast (w, g) = (w, g)
      · rw [if_pos c] at hN ⊢
        rw [decide_eq_true c] at q
        have ap : appD (.ref f) (.tup [W w, W g]) S' = some (.non, S'.set f (.lst ((acc ++ [(w, g)]).map fun l => La l))) := by
          unfold appD
          simp only [hs.2]
          have : (acc.map fun l => La l).length < LIM := by rw [List.length_map]; unfold LIM; omega
          rw [if_pos this, List.map_append]
          rfl
        refine ⟨[x0, x1, x2, some (.ref f), x4, some (W g), x6, some (W w)], _, ?_, ⟨_, rfl⟩, hs.1.trans Ext.set, set_at hs.2⟩
        unfold bodyF ir_lassos_of_b1
        simp only [x_nil, x_cons, x_set, x_setp, x_ret, x_par, x_expr, x_setI, x_aug, x_ite, x_for, x_whl, x_brk, x_cnt, x_pass, x_retN, seq_nx, seq_ret, seq_brk, seq_cnt, seq_none, seq_bnd, seq_if, v_var, v_int, v_bl, v_non, v_str, v_bin, v_neg, v_cmp, v_chn, v_boo, v_not, v_ite, v_tup0, v_tup1, v_tup2, v_idx, v_slc, v_call, v_bi, v_isi, v_lst, v_tupL, v_nilL, v_app, v_ext, a_nil, a_cons, a_disp1, a_disp2, a_disp3, a_comp, o_nil, o_var, o_int, o_neg, o_bin, o_bi, vb_one, vb_more, tb_one, tb_more, t_nil, t_boo, t_not, t_cmp, t_chn, t_call, t_isi, t_nilL, t_var, i_seq, i_rng1, i_rng2, i_enm, b_add, b_sub, b_mul, b_fdiv, b_mod, b_pow, b_cat, b_rep, c_lt, c_le, c_gt, c_ge, c_eq, c_ne, c_isn, q_int, len_tup, len_ref, k_min, k_max, k_int, k_tup, k_tupr, k_lst, ix_tup, ix_ref, sl_tup, end_ret, end_nx, end_if, end_none, bnd_grd, bnd_bnd, bnd_match, bnd_some, bnd_none, getv, setv, setvs, wipev, asg, Option.map_some, Option.map_none, List.length_cons, List.length_nil, List.getElem?_cons_zero, List.getElem?_cons_succ, if_true, truD, decide_eq_true_eq, List.replicate, List.map_cons, List.map_nil, List.cons_append, List.nil_append, ite_true, ite_false, if_false, decide_true, decide_false, and_self, true_and, and_true, true_or, or_true, or_self, reduceCtorEq, Bool.false_eq_true, Bool.true_eq_false, Bool.not_true, Bool.not_false, false_and, and_false, false_or, or_false, gc_same, Int.sub_zero, Int.toNat_natCast, Int.reduceToNat, okS, rngD, T1, e1', q, ap]
      · rw [if_neg c] at hN ⊢
        rw [decide_eq_false c] at q
        refine ⟨[x0, x1, x2, some (.ref f), x4, some (W g), x6, some (W w)], S', ?_, ⟨_, rfl⟩, by rw [List.append_nil]; exact hs⟩
        unfold bodyF ir_lassos_of_b1
        simp only [x_nil, x_cons, x_set, x_setp, x_ret, x_par, x_expr, x_setI, x_aug, x_ite, x_for, x_whl, x_brk, x_cnt, x_pass, x_retN, seq_nx, seq_ret, seq_brk, seq_cnt, seq_none, seq_bnd, seq_if, v_var, v_int, v_bl, v_non, v_str, v_bin, v_neg, v_cmp, v_chn, v_boo, v_not, v_ite, v_tup0, v_tup1, v_tup2, v_idx, v_slc, v_call, v_bi, v_isi, v_lst, v_tupL, v_nilL, v_app, v_ext, a_nil, a_cons, a_disp1, a_disp2, a_disp3, a_comp, o_nil, o_var, o_int, o_neg, o_bin, o_bi, vb_one, vb_more, tb_one, tb_more, t_nil, t_boo, t_not, t_cmp, t_chn, t_call, t_isi, t_nilL, t_var, i_seq, i_rng1, i_rng2, i_enm, b_add, b_sub, b_mul, b_fdiv, b_mod, b_pow, b_cat, b_rep, c_lt, c_le, c_gt, c_ge, c_eq, c_ne, c_isn, q_int, len_tup, len_ref, k_min, k_max, k_int, k_tup, k_tupr, k_lst, ix_tup, ix_ref, sl_tup, end_ret, end_nx, end_if, end_none, bnd_grd, bnd_bnd, bnd_match, bnd_some, bnd_none, getv, setv, setvs, wipev, asg, Option.map_some, Option.map_none, List.length_cons, List.length_nil, List.getElem?_cons_zero, List.getElem?_cons_succ, if_true, truD, decide_eq_true_eq, List.replicate, List.map_cons, List.map_nil, List.cons_append, List.nil_append, ite_true, ite_false, if_false, decide_true, decide_false, and_self, true_and, and_true, true_or, or_true, or_self, reduceCtorEq, Bool.false_eq_true, Bool.true_eq_false, Bool.not_true, Bool.not_false, false_and, and_false, false_or, or_false, gc_same, Int.sub_zero, Int.toNat_natCast, Int.reduceToNat, okS, rngD, T1, e1', q])
    (acc := acc) (e := [x0, x1, x2, some (.ref f), x4, some (W g), x6, x7]) (S := S) hl ⟨x7, rfl⟩ ⟨Ext.refl, hf⟩
  exact ⟨x7', S', h1, h3⟩
theorem rng_enc {i : Int} {n : Nat} : rng i n = (List.range n).map fun (j : Nat) => D.int (i + j) := rfl
/-- all lengths of beginnings -/
theorem las2 {S : Sto} {f k m : Nat} {g : List Int} {x2 x4 x6 x7 : Option D} {acc : List Ls} (k0 : 0 < k) (hk : k ≤ 1000) (hm : m ≤ 500) (hp : k ^ m ≤ 1000000) (gn : g ≠ []) (gl : g.length ≤ 1000) (hf : S[f]? = some (.lst (acc.map fun l => La l))) (hl : acc.length + (rows1 k m g).length ≤ 900000) :
    ∃ x6' x7' S', forD (bodyF (.nm 6) (exec TLs ir_lassos_of_b2)) (fun _ => True) (rng 0 (m + 1)) [some (.int k), some (.int m), x2, some (.ref f), x4, some (W g), x6, x7] S = some (.nx [some (.int k), some (.int m), x2, some (.ref f), x4, some (W g), x6', x7'] S') ∧ Fnd f S (acc ++ rows1 k m g) S' := by
  obtain ⟨e', S', h1, ⟨x6', x7', rfl⟩, h3⟩ := acc_loop (b := bodyF (.nm 6) (exec TLs ir_lassos_of_b2)) (ok := fun _ => True) (α := Nat) (fun j => D.int (0 + (j : Int))) (rows2 k g) (fun e => ∃ x6 x7, e = [some (.int k), some (.int m), x2, some (.ref f), x4, some (W g), x6, x7]) (Fnd f S) 900000 (fun _ _ _ => trivial) (xs := List.range (m + 1))
    (fun j hj acc e S' hN ⟨x6, x7, he⟩ hs => by
      subst he
      have jm := List.mem_range.mp hj
      have e0 : (0 + (j : Int)) = (j : Int) := by omega
      obtain ⟨a, t, ha, hw, ia⟩ := words_ok (S := S') (k := k) (n := j) k0 hk (by omega) (Nat.le_trans (pow_mono k0 (by omega)) hp)
      have fl := (List.getElem?_eq_some_iff.mp hs.2).1
      obtain ⟨x7', S'', hb, hs2⟩ := las1 (S := S' ++ t) (f := f) (a := a) (g := g) (ws := wordsL k j) (x0 := some (.int k)) (x1 := some (.int m)) (x2 := x2) (x4 := x4) (x6 := some (.int (j : Int))) (x7 := x7) (acc := acc) gn gl ia (by omega) hs.app.2 hN
      refine ⟨[some (.int k), some (.int m), x2, some (.ref f), x4, some (W g), some (.int (j : Int)), x7'], S'', ?_, ⟨_, _, rfl⟩, Fnd.step hs.app.1 hs2⟩
      have T0 : TLs[0]? = some F_words := rfl
      unfold bodyF ir_lassos_of_b2
      simp only [x_nil, x_cons, x_set, x_setp, x_ret, x_par, x_expr, x_setI, x_aug, x_ite, x_for, x_whl, x_brk, x_cnt, x_pass, x_retN, seq_nx, seq_ret, seq_brk, seq_cnt, seq_none, seq_bnd, seq_if, v_var, v_int, v_bl, v_non, v_str, v_bin, v_neg, v_cmp, v_chn, v_boo, v_not, v_ite, v_tup0, v_tup1, v_tup2, v_idx, v_slc, v_call, v_bi, v_isi, v_lst, v_tupL, v_nilL, v_app, v_ext, a_nil, a_cons, a_disp1, a_disp2, a_disp3, a_comp, o_nil, o_var, o_int, o_neg, o_bin, o_bi, vb_one, vb_more, tb_one, tb_more, t_nil, t_boo, t_not, t_cmp, t_chn, t_call, t_isi, t_nilL, t_var, i_seq, i_rng1, i_rng2, i_enm, b_add, b_sub, b_mul, b_fdiv, b_mod, b_pow, b_cat, b_rep, c_lt, c_le, c_gt, c_ge, c_eq, c_ne, c_isn, q_int, len_tup, len_ref, k_min, k_max, k_int, k_tup, k_tupr, k_lst, ix_tup, ix_ref, sl_tup, end_ret, end_nx, end_if, end_none, bnd_grd, bnd_bnd, bnd_match, bnd_some, bnd_none, getv, setv, setvs, wipev, asg, Option.map_some, Option.map_none, List.length_cons, List.length_nil, List.getElem?_cons_zero, List.getElem?_cons_succ, if_true, truD, decide_eq_true_eq, List.replicate, List.map_cons, List.map_nil, List.cons_append, List.nil_append, ite_true, ite_false, if_false, decide_true, decide_false, and_self, true_and, and_true, true_or, or_true, or_self, reduceCtorEq, Bool.false_eq_true, Bool.true_eq_false, Bool.not_true, Bool.not_false, false_and, and_false, false_or, or_false, gc_same, Int.sub_zero, Int.toNat_natCast, Int.reduceToNat, okS, rngD, T0, e0, hw, seqD, ia, hb])
    (acc := acc) (e := [some (.int k), some (.int m), x2, some (.ref f), x4, some (W g), x6, x7]) (S := S) hl ⟨x6, x7, rfl⟩ ⟨Ext.refl, hf⟩
  exact ⟨x6', x7', S', h1, h3⟩
/-- all loops of a length -/
theorem las3 {S : Sto} {f a k m i : Nat} {x2 x4 x5 x6 x7 : Option D} {acc : List Ls} (k0 : 0 < k) (hk : k ≤ 1000) (hm : m ≤ 500) (hi : i ≤ 500) (hp : k ^ m ≤ 1000000) (ia : itemsAt S a = some ((wordsL k (1 + i)).map W)) (af : a ≠ f) (hf : S[f]? = some (.lst (acc.map fun l => La l))) (hl : acc.length + (rowsT k m i).length ≤ 900000) :
    ∃ x5' x6' x7' S', forD (bodyF (.nm 5) (exec TLs ir_lassos_of_b3)) (fun S' => itemsAt S' a = some ((wordsL k (1 + i)).map W)) ((wordsL k (1 + i)).map W) [some (.int k), some (.int m), x2, some (.ref f), x4, x5, x6, x7] S = some (.nx [some (.int k), some (.int m), x2, some (.ref f), x4, x5', x6', x7'] S') ∧ Fnd f S (acc ++ rowsT k m i) S' := by
  have lim0 : lim62 0 := lim_ok (by decide)
  have limm : lim62 ((m : Int) + 1) := lim_ok (by omega)
  have nm : ((m : Int) + 1).toNat = m + 1 := by omega
  obtain ⟨e', S', h1, ⟨x5', x6', x7', rfl⟩, h3⟩ := acc_loop (b := bodyF (.nm 5) (exec TLs ir_lassos_of_b3)) (ok := fun S' => itemsAt S' a = some ((wordsL k (1 + i)).map W)) (α := List Int) (fun w => W w) (rows1 k m) (fun e => ∃ x5 x6 x7, e = [some (.int k), some (.int m), x2, some (.ref f), x4, x5, x6, x7]) (Fnd f S) 900000 (fun acc S' h => h.1.items af ia) (xs := wordsL k (1 + i))
    (fun w hw acc e S' hN ⟨x5, x6, x7, he⟩ hs => by
      subst he
      have wl := (wordsL_size hw).1
      obtain ⟨x6', x7', S'', hb, hs2⟩ := las2 (S := S') (f := f) (k := k) (m := m) (g := w) (x2 := x2) (x4 := x4) (x6 := x6) (x7 := x7) (acc := acc) k0 hk hm hp (fun z => by rw [z] at wl; simp only [List.length_nil] at wl; omega) (by omega) hs.2 hN
      refine ⟨[some (.int k), some (.int m), x2, some (.ref f), x4, some (W w), x6', x7'], S'', ?_, ⟨_, _, _, rfl⟩, Fnd.step hs.1 hs2⟩
      unfold bodyF ir_lassos_of_b3
      simp only [x_nil, x_cons, x_set, x_setp, x_ret, x_par, x_expr, x_setI, x_aug, x_ite, x_for, x_whl, x_brk, x_cnt, x_pass, x_retN, seq_nx, seq_ret, seq_brk, seq_cnt, seq_none, seq_bnd, seq_if, v_var, v_int, v_bl, v_non, v_str, v_bin, v_neg, v_cmp, v_chn, v_boo, v_not, v_ite, v_tup0, v_tup1, v_tup2, v_idx, v_slc, v_call, v_bi, v_isi, v_lst, v_tupL, v_nilL, v_app, v_ext, a_nil, a_cons, a_disp1, a_disp2, a_disp3, a_comp, o_nil, o_var, o_int, o_neg, o_bin, o_bi, vb_one, vb_more, tb_one, tb_more, t_nil, t_boo, t_not, t_cmp, t_chn, t_call, t_isi, t_nilL, t_var, i_seq, i_rng1, i_rng2, i_enm, b_add, b_sub, b_mul, b_fdiv, b_mod, b_pow, b_cat, b_rep, c_lt, c_le, c_gt, c_ge, c_eq, c_ne, c_isn, q_int, len_tup, len_ref, k_min, k_max, k_int, k_tup, k_tupr, k_lst, ix_tup, ix_ref, sl_tup, end_ret, end_nx, end_if, end_none, bnd_grd, bnd_bnd, bnd_match, bnd_some, bnd_none, getv, setv, setvs, wipev, asg, Option.map_some, Option.map_none, List.length_cons, List.length_nil, List.getElem?_cons_zero, List.getElem?_cons_succ, if_true, truD, decide_eq_true_eq, List.replicate, List.map_cons, List.map_nil, List.cons_append, List.nil_append, ite_true, ite_false, if_false, decide_true, decide_false, and_self, true_and, and_true, true_or, or_true, or_self, reduceCtorEq, Bool.false_eq_true, Bool.true_eq_false, Bool.not_true, Bool.not_false, false_and, and_false, false_or, or_false, gc_same, Int.sub_zero, Int.toNat_natCast, Int.reduceToNat, okS, rngD, lim0, limm, nm, hb])
    (acc := acc) (e := [some (.int k), some (.int m), x2, some (.ref f), x4, x5, x6, x7]) (S := S) hl ⟨x5, x6, x7, rfl⟩ ⟨Ext.refl, hf⟩
  exact ⟨x5', x6', x7', S', h1, h3⟩
theorem lassos_ok {S : Sto} {k m t : Nat} (k0 : 0 < k) (hk : k ≤ 1000) (hm : m ≤ 500) (ht : t ≤ 500) (hp : k ^ m ≤ 1000000) (hq : k ^ t ≤ 1000000) (hl : (lassoL k m t).length ≤ 900000) :
    ∃ f S', S.length ≤ f ∧ F_lassos [.int k, .int m, .int t] S = some (.ref f, S') ∧ S'[f]? = some (.lst ((lassoL k m t).map fun l => La l)) ∧ (∀ n, n < S.length → S'[n]? = S[n]?) := by
  have lim1 : lim62 1 := lim_ok (by decide)
  have limt : lim62 ((t : Int) + 1) := lim_ok (by omega)
  have nt : ((t : Int) + 1 - 1).toNat = t := by omega
  obtain ⟨e', S', h1, ⟨x4, x5, x6, x7, rfl⟩, h3⟩ := acc_loop (b := bodyF (.nm 4) (exec TLs ir_lassos_of_b4)) (ok := fun _ => True) (α := Nat) (fun j => D.int (1 + (j : Int))) (rowsT k m) (fun e => ∃ x4 x5 x6 x7, e = [some (.int k), some (.int m), some (.int t), some (.ref S.length), x4, x5, x6, x7]) (Fnd S.length (S ++ [.lst []])) 900000 (fun _ _ _ => trivial) (xs := List.range t)
    (fun j hj acc e S' hN ⟨x4, x5, x6, x7, he⟩ hs => by
      subst he
      have jm := List.mem_range.mp hj
      have e0 : (1 + (j : Int)) = ((1 + j : Nat) : Int) := rfl
      obtain ⟨a, t', ha, hw, ia⟩ := words_ok (S := S') (k := k) (n := 1 + j) k0 hk (by omega) (Nat.le_trans (pow_mono k0 (by omega)) hq)
      have fl := (List.getElem?_eq_some_iff.mp hs.2).1
      obtain ⟨x5', x6', x7', S'', hb, hs2⟩ := las3 (S := S' ++ t') (f := S.length) (a := a) (k := k) (m := m) (i := j) (x2 := some (.int t)) (x4 := some (.int ((1 + j : Nat) : Int))) (x5 := x5) (x6 := x6) (x7 := x7) (acc := acc) k0 hk hm (by omega) hp ia (by omega) hs.app.2 hN
      refine ⟨[some (.int k), some (.int m), some (.int t), some (.ref S.length), some (.int ((1 + j : Nat) : Int)), x5', x6', x7'], S'', ?_, ⟨_, _, _, _, rfl⟩, Fnd.step hs.app.1 hs2⟩
      have T0 : TLs[0]? = some F_words := rfl
      unfold bodyF ir_lassos_of_b4
      simp only [x_nil, x_cons, x_set, x_setp, x_ret, x_par, x_expr, x_setI, x_aug, x_ite, x_for, x_whl, x_brk, x_cnt, x_pass, x_retN, seq_nx, seq_ret, seq_brk, seq_cnt, seq_none, seq_bnd, seq_if, v_var, v_int, v_bl, v_non, v_str, v_bin, v_neg, v_cmp, v_chn, v_boo, v_not, v_ite, v_tup0, v_tup1, v_tup2, v_idx, v_slc, v_call, v_bi, v_isi, v_lst, v_tupL, v_nilL, v_app, v_ext, a_nil, a_cons, a_disp1, a_disp2, a_disp3, a_comp, o_nil, o_var, o_int, o_neg, o_bin, o_bi, vb_one, vb_more, tb_one, tb_more, t_nil, t_boo, t_not, t_cmp, t_chn, t_call, t_isi, t_nilL, t_var, i_seq, i_rng1, i_rng2, i_enm, b_add, b_sub, b_mul, b_fdiv, b_mod, b_pow, b_cat, b_rep, c_lt, c_le, c_gt, c_ge, c_eq, c_ne, c_isn, q_int, len_tup, len_ref, k_min, k_max, k_int, k_tup, k_tupr, k_lst, ix_tup, ix_ref, sl_tup, end_ret, end_nx, end_if, end_none, bnd_grd, bnd_bnd, bnd_match, bnd_some, bnd_none, getv, setv, setvs, wipev, asg, Option.map_some, Option.map_none, List.length_cons, List.length_nil, List.getElem?_cons_zero, List.getElem?_cons_succ, if_true, truD, decide_eq_true_eq, List.replicate, List.map_cons, List.map_nil, List.cons_append, List.nil_append, ite_true, ite_false, if_false, decide_true, decide_false, and_self, true_and, and_true, true_or, or_true, or_self, reduceCtorEq, Bool.false_eq_true, Bool.true_eq_false, Bool.not_true, Bool.not_false, false_and, and_false, false_or, or_false, gc_same, Int.sub_zero, Int.toNat_natCast, Int.reduceToNat, okS, rngD, T0, e0, hw, seqD, ia, hb])
    (acc := []) (e := [some (.int k), some (.int m), some (.int t), some (.ref S.length), none, none, none, none]) (S := S ++ [.lst []]) (by rw [List.length_nil, Nat.zero_add]; exact hl) ⟨_, _, _, _, rfl⟩ ⟨Ext.refl, at_last⟩
  refine ⟨S.length, S', Nat.le_refl _, ?_, h3.2, fun n hn => ?_⟩
  · have a0 : ∀ e S, (sem TLs (.disp .nil)).a e S = some ([], S) := fun e S => rfl
    have h1' : forD (bodyF (.nm 4) (exec TLs ir_lassos_of_b4)) (fun _ => True) (rng 1 t) [some (.int k), some (.int m), some (.int t), some (.ref S.length), none, none, none, none] (S ++ [.lst []]) = some (.nx [some (.int k), some (.int m), some (.int t), some (.ref S.length), x4, x5, x6, x7] S') := h1
    unfold F_lassos fnD ir_lassos_of
    simp only [x_nil, x_cons, x_set, x_setp, x_ret, x_par, x_expr, x_setI, x_aug, x_ite, x_for, x_whl, x_brk, x_cnt, x_pass, x_retN, seq_nx, seq_ret, seq_brk, seq_cnt, seq_none, seq_bnd, seq_if, v_var, v_int, v_bl, v_non, v_str, v_bin, v_neg, v_cmp, v_chn, v_boo, v_not, v_ite, v_tup0, v_tup1, v_tup2, v_idx, v_slc, v_call, v_bi, v_isi, v_lst, v_tupL, v_nilL, v_app, v_ext, a_nil, a_cons, a_disp1, a_disp2, a_disp3, a_comp, o_nil, o_var, o_int, o_neg, o_bin, o_bi, vb_one, vb_more, tb_one, tb_more, t_nil, t_boo, t_not, t_cmp, t_chn, t_call, t_isi, t_nilL, t_var, i_seq, i_rng1, i_rng2, i_enm, b_add, b_sub, b_mul, b_fdiv, b_mod, b_pow, b_cat, b_rep, c_lt, c_le, c_gt, c_ge, c_eq, c_ne, c_isn, q_int, len_tup, len_ref, k_min, k_max, k_int, k_tup, k_tupr, k_lst, ix_tup, ix_ref, sl_tup, end_ret, end_nx, end_if, end_none, bnd_grd, bnd_bnd, bnd_match, bnd_some, bnd_none, getv, setv, setvs, wipev, asg, Option.map_some, Option.map_none, List.length_cons, List.length_nil, List.getElem?_cons_zero, List.getElem?_cons_succ, if_true, truD, decide_eq_true_eq, List.replicate, List.map_cons, List.map_nil, List.cons_append, List.nil_append, ite_true, ite_false, if_false, decide_true, decide_false, and_self, true_and, and_true, true_or, or_true, or_self, reduceCtorEq, Bool.false_eq_true, Bool.true_eq_false, Bool.not_true, Bool.not_false, false_and, and_false, false_or, or_false, gc_same, Int.sub_zero, Int.toNat_natCast, Int.reduceToNat, okS, rngD, a0, lim1, limt, nt, h1', gc_ref]
  · rw [h3.1.2 n (by rw [List.length_append]; omega) (by omega), List.getElem?_append_left hn]
end M

/-! R3: how many least lassos there are. -/
namespace M
open PySem (Str PyData)
open L2 (atI ixN)
/-! ### the count that the law tells -/
def partsI (ps : List Int) (n : Nat) : List Int := ((List.range' 1 (n - 1)).filter fun p => n % p == 0).map fun p => ps.getD p 0
def plainL (k : Nat) : Nat → List Int
  | 0 => [0]
  | n + 1 => plainL k n ++ [((k ^ (n + 1) : Nat) : Int) - (partsI (plainL k n) (n + 1)).sum]
def firstsI (k : Nat) : Nat → Int
  | 0 => 1
  | m + 1 => firstsI k m + ((k ^ m : Nat) : Int) * ((k : Int) - 1)
def dueI (k m t : Nat) : Int := (plainL k t).sum * firstsI k m
theorem plainL_len {k : Nat} : ∀ n, (plainL k n).length = n + 1
  | 0 => rfl
  | n + 1 => by
    show (plainL k n ++ [_]).length = _
    rw [List.length_append, plainL_len n]
    rfl
theorem comp_filt {b : D → Sto → Option (Option D × Sto)} {ok : Sto → Prop} (c : Nat → Bool) (g : Nat → Int) {S : Sto} (hok : ok S) : ∀ {ds : List D} {k : Nat} {acc : List Int}, (∀ i d, ds[i]? = some d → b d S = some (if c (k + i) = true then some (.int (g (k + i))) else none, S)) →
    acc.length + ds.length ≤ LIM → compD b ok ds (iD acc) S = some (iD (acc ++ ((List.range' k ds.length).filter c).map g), S)
  | [], k, acc, _, _ => by
    unfold compD
    rw [if_pos hok, List.length_nil]
    simp only [List.range'_zero, List.filter_nil, List.map_nil, List.append_nil]
  | d :: ds, k, acc, hb, hl => by
    have h0 := hb 0 d rfl
    rw [Nat.add_zero] at h0
    rw [List.length_cons] at hl
    unfold compD
    rw [if_pos hok, h0, List.length_cons, List.range'_succ, List.filter_cons]
    by_cases z : c k = true
    · rw [if_pos z, if_pos z]
      show (if (iD acc).length < LIM then compD b ok ds (iD acc ++ [.int (g k)]) S else none) = _
      rw [if_pos (by rw [W_len]; omega)]
      have e1 : iD acc ++ [D.int (g k)] = iD (acc ++ [g k]) := W_app acc [g k]
      rw [e1, comp_filt c g hok (ds := ds) (k := k + 1) (acc := acc ++ [g k]) (fun i d h => by
        have := hb (i + 1) d h
        rw [show k + (i + 1) = k + 1 + i by omega] at this
        exact this) (by simp only [List.length_append, List.length_cons, List.length_nil]; omega), List.map_cons, List.append_assoc]
      rfl
    · rw [if_neg z, if_neg z]
      show compD b ok ds (iD acc) S = _
      exact comp_filt c g hok (ds := ds) (k := k + 1) (acc := acc) (fun i d h => by
        have := hb (i + 1) d h
        rw [show k + (i + 1) = k + 1 + i by omega] at this
        exact this) (by omega)
theorem intsOf_iD : ∀ w : List Int, intsOf (iD w) = some w
  | [] => rfl
  | x :: r => by
    show (intsOf (iD r)).map (x :: ·) = _
    rw [intsOf_iD r]
    rfl
theorem sum_ref {S : Sto} {n : Nat} {w : List Int} (h : itemsAt S n = some (iD w)) : biD .sum [.ref n] S = some (.int w.sum, S) := by
  show (match itemsAt S n with | some xs => (match intsOf xs with | some ns => some (D.int ns.sum, S) | none => none) | none => none) = _
  rw [h]
  show (match intsOf (iD w) with | some ns => some (D.int ns.sum, S) | none => none) = _
  rw [intsOf_iD]
noncomputable def F_pow : Fn := fnD [] 4 2 ir_law_power
theorem pow_ok {S : Sto} {k n : Nat} (hk : k ≤ 1000) (hn : n ≤ 1000) : F_pow [.int k, .int n] S = some (.int ((k ^ n : Nat) : Int), S) := by
  have lim0 : lim62 0 := lim_ok (by decide)
  have limn : lim62 (n : Int) := lim_ok (by omega)
  have nn : ((n : Nat) : Int).toNat = n := rfl
  have sk : small (k : Int) := small_of (by omega)
  obtain ⟨e', S', hf, rfl, a, rfl⟩ := for_inv (b := bodyF (.nm 3) (exec [] ir_law_power_b1)) (ok := fun _ => True) (fun i e S' => S' = S ∧ ∃ a, e = [some (.int k), some (.int n), some (.int ((k ^ i : Nat) : Int)), a]) (ds := rng 0 n) (k := 0) (e := [some (.int k), some (.int n), some (.int 1), none]) (S := S)
    (fun i d e' S' hd ⟨hS, a, he⟩ => by
      obtain ⟨hi, rfl⟩ := rng_get hd
      subst hS he
      have e1 : ((k ^ (0 + i) : Nat) : Int) * (k : Int) = ((k ^ (0 + i + 1) : Nat) : Int) := rfl
      refine ⟨trivial, [some (.int k), some (.int n), some (.int ((k ^ (0 + i + 1) : Nat) : Int)), some (.int (0 + (i : Int)))], _, ?_, rfl, _, rfl⟩
      generalize k ^ (0 + i) = z at e1
      unfold bodyF ir_law_power_b1
      simp only [x_nil, x_cons, x_set, x_setp, x_ret, x_par, x_expr, x_setI, x_aug, x_ite, x_for, x_whl, x_brk, x_cnt, x_pass, x_retN, seq_nx, seq_ret, seq_brk, seq_cnt, seq_none, seq_bnd, seq_if, v_var, v_int, v_bl, v_non, v_str, v_bin, v_neg, v_cmp, v_chn, v_boo, v_not, v_ite, v_tup0, v_tup1, v_tup2, v_idx, v_slc, v_call, v_bi, v_isi, v_lst, v_tupL, v_nilL, v_app, v_ext, a_nil, a_cons, a_disp1, a_disp2, a_disp3, a_comp, o_nil, o_var, o_int, o_neg, o_bin, o_bi, vb_one, vb_more, tb_one, tb_more, t_nil, t_boo, t_not, t_cmp, t_chn, t_call, t_isi, t_nilL, t_var, i_seq, i_rng1, i_rng2, i_enm, b_add, b_sub, b_mul, b_fdiv, b_mod, b_pow, b_cat, b_rep, c_lt, c_le, c_gt, c_ge, c_eq, c_ne, c_isn, q_int, len_tup, len_ref, k_min, k_max, k_int, k_tup, k_tupr, k_lst, ix_tup, ix_ref, sl_tup, end_ret, end_nx, end_if, end_none, bnd_grd, bnd_bnd, bnd_match, bnd_some, bnd_none, getv, setv, setvs, wipev, asg, Option.map_some, Option.map_none, List.length_cons, List.length_nil, List.getElem?_cons_zero, List.getElem?_cons_succ, if_true, truD, decide_eq_true_eq, List.replicate, List.map_cons, List.map_nil, List.cons_append, List.nil_append, ite_true, ite_false, if_false, decide_true, decide_false, and_self, true_and, and_true, true_or, or_true, or_self, reduceCtorEq, Bool.false_eq_true, Bool.true_eq_false, Bool.not_true, Bool.not_false, false_and, and_false, false_or, or_false, gc_same, Int.sub_zero, Int.toNat_natCast, Int.reduceToNat, okS, rngD, sk, e1])
    (fun _ _ _ => trivial) ⟨rfl, none, rfl⟩
  rw [rng_len, Nat.zero_add] at hf
  unfold F_pow fnD ir_law_power
  simp only [x_nil, x_cons, x_set, x_setp, x_ret, x_par, x_expr, x_setI, x_aug, x_ite, x_for, x_whl, x_brk, x_cnt, x_pass, x_retN, seq_nx, seq_ret, seq_brk, seq_cnt, seq_none, seq_bnd, seq_if, v_var, v_int, v_bl, v_non, v_str, v_bin, v_neg, v_cmp, v_chn, v_boo, v_not, v_ite, v_tup0, v_tup1, v_tup2, v_idx, v_slc, v_call, v_bi, v_isi, v_lst, v_tupL, v_nilL, v_app, v_ext, a_nil, a_cons, a_disp1, a_disp2, a_disp3, a_comp, o_nil, o_var, o_int, o_neg, o_bin, o_bi, vb_one, vb_more, tb_one, tb_more, t_nil, t_boo, t_not, t_cmp, t_chn, t_call, t_isi, t_nilL, t_var, i_seq, i_rng1, i_rng2, i_enm, b_add, b_sub, b_mul, b_fdiv, b_mod, b_pow, b_cat, b_rep, c_lt, c_le, c_gt, c_ge, c_eq, c_ne, c_isn, q_int, len_tup, len_ref, k_min, k_max, k_int, k_tup, k_tupr, k_lst, ix_tup, ix_ref, sl_tup, end_ret, end_nx, end_if, end_none, bnd_grd, bnd_bnd, bnd_match, bnd_some, bnd_none, getv, setv, setvs, wipev, asg, Option.map_some, Option.map_none, List.length_cons, List.length_nil, List.getElem?_cons_zero, List.getElem?_cons_succ, if_true, truD, decide_eq_true_eq, List.replicate, List.map_cons, List.map_nil, List.cons_append, List.nil_append, ite_true, ite_false, if_false, decide_true, decide_false, and_self, true_and, and_true, true_or, or_true, or_self, reduceCtorEq, Bool.false_eq_true, Bool.true_eq_false, Bool.not_true, Bool.not_false, false_and, and_false, false_or, or_false, gc_same, Int.sub_zero, Int.toNat_natCast, Int.reduceToNat, okS, rngD, lim0, limn, nn, hf]
theorem set_mid {S t : Sto} {o o' : Ob} : (S ++ [o] ++ t).set S.length o' = S ++ [o'] ++ t := by
  rw [List.set_append_left _ _ (by simp), set_last]
theorem at_mid {S t : Sto} {o : Ob} : (S ++ [o] ++ t)[S.length]? = some o := by
  rw [List.getElem?_append_left (by simp), at_last]
noncomputable def F_due : Fn := fnD [F_pow] 7 3 ir_law_due_count
theorem due_ok {S : Sto} {k m t : Nat} (k0 : 0 < k) (hk : k ≤ 1000) (hm : m ≤ 500) (ht : t ≤ 500) (hs : small (firstsI k m)) : F_due [.int k, .int m, .int t] S = some (.int (dueI k m t), S) := by
  have lim0 : lim62 0 := lim_ok (by decide)
  have lim1 : lim62 1 := lim_ok (by decide)
  have limt : lim62 ((t : Int) + 1) := lim_ok (by omega)
  have limm : lim62 (m : Int) := lim_ok (by omega)
  have nt : ((t : Int) + 1 - 1).toNat = t := by omega
  have nm : ((m : Nat) : Int).toNat = m := rfl
  have T0 : ([F_pow] : List Fn)[0]? = some F_pow := rfl
  obtain ⟨e1, S1, hf1, u1, a4, a5, rfl, rfl⟩ := for_inv (b := bodyF (.nm 4) (exec [F_pow] ir_law_due_count_b1)) (ok := fun _ => True) (fun i e S' => ∃ u a4 a5, S' = S ++ [.lst (iD (plainL k i))] ++ u ∧ e = [some (.int k), some (.int m), some (.int t), some (.ref S.length), a4, a5, none]) (ds := rng 1 t) (k := 0) (e := [some (.int k), some (.int m), some (.int t), some (.ref S.length), none, none, none]) (S := S ++ [.lst (iD [0])])
    (fun i d e' S' hd ⟨u, a4, a5, hS, he⟩ => by
      obtain ⟨hi, rfl⟩ := rng_get hd
      subst hS he
      have e0 : (1 + (i : Int)) = ((i + 1 : Nat) : Int) := by omega
      have pw := pow_ok (S := S ++ [.lst (iD (plainL k (0 + i)))] ++ u) (k := k) (n := i + 1) hk (by omega)
      have limi : lim62 ((i + 1 : Nat) : Int) := lim_ok (by omega)
      have ni : (((i + 1 : Nat) : Int) - 1).toNat = i := by omega
      have it : itemsAt (S ++ [.lst (iD (plainL k (0 + i)))] ++ u) S.length = some (iD (plainL k (0 + i))) := by
        unfold itemsAt
        rw [at_mid]
      have hc := comp_filt (b := turnF [5] (.nm 5) (sem [F_pow] ir_law_due_count_e1).t (sem [F_pow] ir_law_due_count_e2).v [some (.int k), some (.int m), some (.int t), some (.ref S.length), some (.int ((i + 1 : Nat) : Int)), a5, none]) (ok := fun _ => True) (fun p => (i + 1) % p == 0) (fun p => (plainL k (0 + i)).getD p 0) (S := S ++ [.lst (iD (plainL k (0 + i)))] ++ u) trivial (ds := rng 1 i) (k := 1) (acc := [])
        (fun j d hd => by
          obtain ⟨hj, rfl⟩ := rng_get hd
          have q0 : (1 + (j : Int)) = ((1 + j : Nat) : Int) := rfl
          have jp : (0 : Int) < ((1 + j : Nat) : Int) := by omega
          have md : (((i + 1 : Nat) : Int)) % (((1 + j : Nat) : Int)) = (((i + 1) % (1 + j) : Nat) : Int) := (Int.natCast_emod _ _).symm
          have at1 : atI (iD (plainL k (0 + i))) ((1 + j : Nat) : Int) = some (.int ((plainL k (0 + i)).getD (1 + j) 0)) := by
            rw [at_pos (by omega), Int.toNat_natCast, getD_at (by rw [plainL_len]; omega)]
          generalize (plainL k (0 + i)).getD (1 + j) 0 = z at at1
          by_cases c : (i + 1) % (1 + j) = 0
          · have cb : ((((i + 1) % (1 + j) : Nat) : Int) == 0) = true := by rw [c]; rfl
            have cn : ((i + 1) % (1 + j) == 0) = true := by rw [c]; rfl
            rw [if_pos cn]
            unfold turnF ir_law_due_count_e1 ir_law_due_count_e2
            simp only [x_nil, x_cons, x_set, x_setp, x_ret, x_par, x_expr, x_setI, x_aug, x_ite, x_for, x_whl, x_brk, x_cnt, x_pass, x_retN, seq_nx, seq_ret, seq_brk, seq_cnt, seq_none, seq_bnd, seq_if, v_var, v_int, v_bl, v_non, v_str, v_bin, v_neg, v_cmp, v_chn, v_boo, v_not, v_ite, v_tup0, v_tup1, v_tup2, v_idx, v_slc, v_call, v_bi, v_isi, v_lst, v_tupL, v_nilL, v_app, v_ext, a_nil, a_cons, a_disp1, a_disp2, a_disp3, a_comp, o_nil, o_var, o_int, o_neg, o_bin, o_bi, vb_one, vb_more, tb_one, tb_more, t_nil, t_boo, t_not, t_cmp, t_chn, t_call, t_isi, t_nilL, t_var, i_seq, i_rng1, i_rng2, i_enm, b_add, b_sub, b_mul, b_fdiv, b_mod, b_pow, b_cat, b_rep, c_lt, c_le, c_gt, c_ge, c_eq, c_ne, c_isn, q_int, len_tup, len_ref, k_min, k_max, k_int, k_tup, k_tupr, k_lst, ix_tup, ix_ref, sl_tup, end_ret, end_nx, end_if, end_none, bnd_grd, bnd_bnd, bnd_match, bnd_some, bnd_none, getv, setv, setvs, wipev, asg, Option.map_some, Option.map_none, List.length_cons, List.length_nil, List.getElem?_cons_zero, List.getElem?_cons_succ, if_true, truD, decide_eq_true_eq, List.replicate, List.map_cons, List.map_nil, List.cons_append, List.nil_append, ite_true, ite_false, if_false, decide_true, decide_false, and_self, true_and, and_true, true_or, or_true, or_self, reduceCtorEq, Bool.false_eq_true, Bool.true_eq_false, Bool.not_true, Bool.not_false, false_and, and_false, false_or, or_false, gc_same, Int.sub_zero, Int.toNat_natCast, Int.reduceToNat, okS, rngD, q0, jp, md, cb, it, at1]
          · have cb : ((((i + 1) % (1 + j) : Nat) : Int) == 0) = false := beq_eq_false_iff_ne.mpr (by omega)
            have cn : ¬ ((i + 1) % (1 + j) == 0) = true := by rw [beq_iff_eq]; exact c
            rw [if_neg cn]
            unfold turnF ir_law_due_count_e1 ir_law_due_count_e2
            simp only [x_nil, x_cons, x_set, x_setp, x_ret, x_par, x_expr, x_setI, x_aug, x_ite, x_for, x_whl, x_brk, x_cnt, x_pass, x_retN, seq_nx, seq_ret, seq_brk, seq_cnt, seq_none, seq_bnd, seq_if, v_var, v_int, v_bl, v_non, v_str, v_bin, v_neg, v_cmp, v_chn, v_boo, v_not, v_ite, v_tup0, v_tup1, v_tup2, v_idx, v_slc, v_call, v_bi, v_isi, v_lst, v_tupL, v_nilL, v_app, v_ext, a_nil, a_cons, a_disp1, a_disp2, a_disp3, a_comp, o_nil, o_var, o_int, o_neg, o_bin, o_bi, vb_one, vb_more, tb_one, tb_more, t_nil, t_boo, t_not, t_cmp, t_chn, t_call, t_isi, t_nilL, t_var, i_seq, i_rng1, i_rng2, i_enm, b_add, b_sub, b_mul, b_fdiv, b_mod, b_pow, b_cat, b_rep, c_lt, c_le, c_gt, c_ge, c_eq, c_ne, c_isn, q_int, len_tup, len_ref, k_min, k_max, k_int, k_tup, k_tupr, k_lst, ix_tup, ix_ref, sl_tup, end_ret, end_nx, end_if, end_none, bnd_grd, bnd_bnd, bnd_match, bnd_some, bnd_none, getv, setv, setvs, wipev, asg, Option.map_some, Option.map_none, List.length_cons, List.length_nil, List.getElem?_cons_zero, List.getElem?_cons_succ, if_true, truD, decide_eq_true_eq, List.replicate, List.map_cons, List.map_nil, List.cons_append, List.nil_append, ite_true, ite_false, if_false, decide_true, decide_false, and_self, true_and, and_true, true_or, or_true, or_self, reduceCtorEq, Bool.false_eq_true, Bool.true_eq_false, Bool.not_true, Bool.not_false, false_and, and_false, false_or, or_false, gc_same, Int.sub_zero, Int.toNat_natCast, Int.reduceToNat, okS, rngD, q0, jp, md, cb, it, at1])
        (by rw [rng_len]; unfold LIM; simp only [List.length_nil]; omega)
      rw [rng_len, List.nil_append] at hc
      have hp : ((List.range' 1 i).filter fun p => (i + 1) % p == 0).map (fun p => (plainL k (0 + i)).getD p 0) = partsI (plainL k (0 + i)) (i + 1) := rfl
      rw [hp] at hc
      have hc' : compD (turnF [5] (.nm 5) (sem [F_pow] ir_law_due_count_e1).t (sem [F_pow] ir_law_due_count_e2).v [some (.int k), some (.int m), some (.int t), some (.ref S.length), some (.int ((i + 1 : Nat) : Int)), a5, none]) (fun _ => True) (rng 1 i) [] (S ++ [.lst (iD (plainL k (0 + i)))] ++ u) = some (iD (partsI (plainL k (0 + i)) (i + 1)), S ++ [.lst (iD (plainL k (0 + i)))] ++ u) := hc
      have sm := sum_ref (S := S ++ [.lst (iD (plainL k (0 + i)))] ++ u ++ [.lst (iD (partsI (plainL k (0 + i)) (i + 1)))]) (n := (S ++ [Ob.lst (iD (plainL k (0 + i)))] ++ u).length) (w := partsI (plainL k (0 + i)) (i + 1)) (by unfold itemsAt; rw [at_last])
      have ap : appD (.ref S.length) (.int (((k ^ (i + 1) : Nat) : Int) - (partsI (plainL k (0 + i)) (i + 1)).sum)) (S ++ [.lst (iD (plainL k (0 + i)))] ++ u ++ [.lst (iD (partsI (plainL k (0 + i)) (i + 1)))]) = some (.non, S ++ [.lst (iD (plainL k (0 + i + 1)))] ++ (u ++ [.lst (iD (partsI (plainL k (0 + i)) (i + 1)))])) := by
        unfold appD
        simp only [List.append_assoc (S ++ [Ob.lst (iD (plainL k (0 + i)))]), at_mid]
        rw [if_pos (by rw [W_len, plainL_len]; unfold LIM; omega), set_mid]
        have pl : plainL k (0 + i + 1) = plainL k (0 + i) ++ [((k ^ (i + 1) : Nat) : Int) - (partsI (plainL k (0 + i)) (i + 1)).sum] := by
          rw [Nat.zero_add]
          rfl
        have pl2 : iD (plainL k (0 + i)) ++ [D.int (((k ^ (i + 1) : Nat) : Int) - (partsI (plainL k (0 + i)) (i + 1)).sum)] = iD (plainL k (0 + i + 1)) := by
          rw [pl]
          exact W_app _ [_]
        rw [pl2]
      refine ⟨trivial, [some (.int k), some (.int m), some (.int t), some (.ref S.length), some (.int ((i + 1 : Nat) : Int)), a5, none], S ++ [.lst (iD (plainL k (0 + i + 1)))] ++ (u ++ [Ob.lst (iD (partsI (plainL k (0 + i)) (i + 1)))]), ?_, u ++ [Ob.lst (iD (partsI (plainL k (0 + i)) (i + 1)))], _, _, rfl, rfl⟩
      generalize partsI (plainL k (0 + i)) (i + 1) = ps at hc' sm ap
      generalize plainL k (0 + i + 1) = pl' at ap
      generalize plainL k (0 + i) = pl at it pw hc' sm ap
      unfold bodyF ir_law_due_count_b1
      simp only [x_nil, x_cons, x_set, x_setp, x_ret, x_par, x_expr, x_setI, x_aug, x_ite, x_for, x_whl, x_brk, x_cnt, x_pass, x_retN, seq_nx, seq_ret, seq_brk, seq_cnt, seq_none, seq_bnd, seq_if, v_var, v_int, v_bl, v_non, v_str, v_bin, v_neg, v_cmp, v_chn, v_boo, v_not, v_ite, v_tup0, v_tup1, v_tup2, v_idx, v_slc, v_call, v_bi, v_isi, v_lst, v_tupL, v_nilL, v_app, v_ext, a_nil, a_cons, a_disp1, a_disp2, a_disp3, a_comp, o_nil, o_var, o_int, o_neg, o_bin, o_bi, vb_one, vb_more, tb_one, tb_more, t_nil, t_boo, t_not, t_cmp, t_chn, t_call, t_isi, t_nilL, t_var, i_seq, i_rng1, i_rng2, i_enm, b_add, b_sub, b_mul, b_fdiv, b_mod, b_pow, b_cat, b_rep, c_lt, c_le, c_gt, c_ge, c_eq, c_ne, c_isn, q_int, len_tup, len_ref, k_min, k_max, k_int, k_tup, k_tupr, k_lst, ix_tup, ix_ref, sl_tup, end_ret, end_nx, end_if, end_none, bnd_grd, bnd_bnd, bnd_match, bnd_some, bnd_none, getv, setv, setvs, wipev, asg, Option.map_some, Option.map_none, List.length_cons, List.length_nil, List.getElem?_cons_zero, List.getElem?_cons_succ, if_true, truD, decide_eq_true_eq, List.replicate, List.map_cons, List.map_nil, List.cons_append, List.nil_append, ite_true, ite_false, if_false, decide_true, decide_false, and_self, true_and, and_true, true_or, or_true, or_self, reduceCtorEq, Bool.false_eq_true, Bool.true_eq_false, Bool.not_true, Bool.not_false, false_and, and_false, false_or, or_false, gc_same, Int.sub_zero, Int.toNat_natCast, Int.reduceToNat, okS, rngD, e0, T0, pw, lim1, limi, ni, hc', sm, ap])
    (fun _ _ _ => trivial) ⟨[], none, none, by rw [List.append_nil]; rfl, rfl⟩
  rw [rng_len, Nat.zero_add] at hf1
  obtain ⟨e2, S2, hf2, rfl, b4, rfl⟩ := for_inv (b := bodyF (.nm 4) (exec [F_pow] ir_law_due_count_b2)) (ok := fun _ => True) (fun i e S' => S' = S ++ [.lst (iD (plainL k t))] ++ u1 ∧ ∃ a4, e = [some (.int k), some (.int m), some (.int t), some (.ref S.length), a4, a5, some (.int (firstsI k i))]) (ds := rng 0 m) (k := 0) (e := [some (.int k), some (.int m), some (.int t), some (.ref S.length), a4, a5, some (.int 1)]) (S := S ++ [.lst (iD (plainL k t))] ++ u1)
    (fun i d e' S' hd ⟨hS, a4, he⟩ => by
      obtain ⟨hi, rfl⟩ := rng_get hd
      subst hS he
      have e0 : (0 + (i : Int)) = ((i : Nat) : Int) := by omega
      have pw := pow_ok (S := S ++ [.lst (iD (plainL k t))] ++ u1) (k := k) (n := i) hk (by omega)
      have sk : small ((k : Int) - 1) := small_of (by omega)
      have fe : firstsI k (0 + i + 1) = firstsI k (0 + i) + ((k ^ i : Nat) : Int) * ((k : Int) - 1) := by
        rw [Nat.zero_add]
        rfl
      refine ⟨trivial, [some (.int k), some (.int m), some (.int t), some (.ref S.length), some (.int ((i : Nat) : Int)), a5, some (.int (firstsI k (0 + i + 1)))], _, ?_, rfl, _, rfl⟩
      rw [fe]
      generalize k ^ i = z at pw
      generalize firstsI k (0 + i) = y
      unfold bodyF ir_law_due_count_b2
      simp only [x_nil, x_cons, x_set, x_setp, x_ret, x_par, x_expr, x_setI, x_aug, x_ite, x_for, x_whl, x_brk, x_cnt, x_pass, x_retN, seq_nx, seq_ret, seq_brk, seq_cnt, seq_none, seq_bnd, seq_if, v_var, v_int, v_bl, v_non, v_str, v_bin, v_neg, v_cmp, v_chn, v_boo, v_not, v_ite, v_tup0, v_tup1, v_tup2, v_idx, v_slc, v_call, v_bi, v_isi, v_lst, v_tupL, v_nilL, v_app, v_ext, a_nil, a_cons, a_disp1, a_disp2, a_disp3, a_comp, o_nil, o_var, o_int, o_neg, o_bin, o_bi, vb_one, vb_more, tb_one, tb_more, t_nil, t_boo, t_not, t_cmp, t_chn, t_call, t_isi, t_nilL, t_var, i_seq, i_rng1, i_rng2, i_enm, b_add, b_sub, b_mul, b_fdiv, b_mod, b_pow, b_cat, b_rep, c_lt, c_le, c_gt, c_ge, c_eq, c_ne, c_isn, q_int, len_tup, len_ref, k_min, k_max, k_int, k_tup, k_tupr, k_lst, ix_tup, ix_ref, sl_tup, end_ret, end_nx, end_if, end_none, bnd_grd, bnd_bnd, bnd_match, bnd_some, bnd_none, getv, setv, setvs, wipev, asg, Option.map_some, Option.map_none, List.length_cons, List.length_nil, List.getElem?_cons_zero, List.getElem?_cons_succ, if_true, truD, decide_eq_true_eq, List.replicate, List.map_cons, List.map_nil, List.cons_append, List.nil_append, ite_true, ite_false, if_false, decide_true, decide_false, and_self, true_and, and_true, true_or, or_true, or_self, reduceCtorEq, Bool.false_eq_true, Bool.true_eq_false, Bool.not_true, Bool.not_false, false_and, and_false, false_or, or_false, gc_same, Int.sub_zero, Int.toNat_natCast, Int.reduceToNat, okS, rngD, e0, T0, pw, sk])
    (fun _ _ _ => trivial) ⟨rfl, a4, rfl⟩
  rw [rng_len, Nat.zero_add] at hf2
  have sm := sum_ref (S := S ++ [.lst (iD (plainL k t))] ++ u1) (n := S.length) (w := plainL k t) (by unfold itemsAt; rw [at_mid])
  have gc : gcD S (.int ((plainL k t).sum * firstsI k m)) (S ++ [.lst (iD (plainL k t))] ++ u1) = (.int ((plainL k t).sum * firstsI k m), S) := by
    rw [List.append_assoc]
    exact gc_app _ _ _ rfl
  have a0 : ∀ e S, (sem [F_pow] (.disp (.cons (.int 0) .nil))).a e S = some ([.int 0], S) := fun e S => rfl
  unfold F_due fnD ir_law_due_count dueI
  have i0 : iD [0] = [.int 0] := rfl
  rw [i0] at hf1
  simp only [x_nil, x_cons, x_set, x_setp, x_ret, x_par, x_expr, x_setI, x_aug, x_ite, x_for, x_whl, x_brk, x_cnt, x_pass, x_retN, seq_nx, seq_ret, seq_brk, seq_cnt, seq_none, seq_bnd, seq_if, v_var, v_int, v_bl, v_non, v_str, v_bin, v_neg, v_cmp, v_chn, v_boo, v_not, v_ite, v_tup0, v_tup1, v_tup2, v_idx, v_slc, v_call, v_bi, v_isi, v_lst, v_tupL, v_nilL, v_app, v_ext, a_nil, a_cons, a_disp1, a_disp2, a_disp3, a_comp, o_nil, o_var, o_int, o_neg, o_bin, o_bi, vb_one, vb_more, tb_one, tb_more, t_nil, t_boo, t_not, t_cmp, t_chn, t_call, t_isi, t_nilL, t_var, i_seq, i_rng1, i_rng2, i_enm, b_add, b_sub, b_mul, b_fdiv, b_mod, b_pow, b_cat, b_rep, c_lt, c_le, c_gt, c_ge, c_eq, c_ne, c_isn, q_int, len_tup, len_ref, k_min, k_max, k_int, k_tup, k_tupr, k_lst, ix_tup, ix_ref, sl_tup, end_ret, end_nx, end_if, end_none, bnd_grd, bnd_bnd, bnd_match, bnd_some, bnd_none, getv, setv, setvs, wipev, asg, Option.map_some, Option.map_none, List.length_cons, List.length_nil, List.getElem?_cons_zero, List.getElem?_cons_succ, if_true, truD, decide_eq_true_eq, List.replicate, List.map_cons, List.map_nil, List.cons_append, List.nil_append, ite_true, ite_false, if_false, decide_true, decide_false, and_self, true_and, and_true, true_or, or_true, or_self, reduceCtorEq, Bool.false_eq_true, Bool.true_eq_false, Bool.not_true, Bool.not_false, false_and, and_false, false_or, or_false, gc_same, Int.sub_zero, Int.toNat_natCast, Int.reduceToNat, okS, rngD, a0, lim0, lim1, limt, limm, nt, nm, hf1, hf2, sm, hs, gc]
end M

/-! R4: least lassos counted and put in order, in plain Lean. -/
namespace M
open PySem (Str PyData)
open L2 (atI ixN)
theorem red_pick {f g : List Int} (gn : g ≠ []) : lleast (f, g) = (f, g) ↔ lloop g = g ∧ (f = [] ∨ f[f.length - 1]? ≠ g[g.length - 1]?) := by
  constructor
  · intro h
    obtain ⟨_, _, h3, _, h5⟩ := shift_all (n := f.length) (f := f) (g := lloop g) rfl (lloop_ne gn)
    have h' : shift f.length (f, lloop g) = (f, g) := h
    rw [h'] at h3 h5
    obtain ⟨_, _, _, s3, _⟩ := lloop_size gn
    refine ⟨?_, h5⟩
    have e : g.length = (lloop g).length := h3
    rw [← s3, ← e, List.take_length]
  · intro ⟨h1, h2⟩
    show shift f.length (f, lloop g) = (f, g)
    rw [h1]
    cases f with
    | nil => rfl
    | cons x r =>
      show (if (x :: r) ≠ [] ∧ (x :: r)[(x :: r).length - 1]? = g[g.length - 1]? then _ else _) = _
      rw [if_neg]
      intro z
      rcases h2 with h2 | h2
      · cases h2
      · exact h2 z.2
theorem pick_mem {f g : List Int} {x : Ls} (h : x ∈ pick g f) : x = (f, g) ∧ lleast (f, g) = (f, g) := by
  unfold pick at h
  split at h
  · rename_i c
    exact ⟨List.mem_singleton.mp h, c⟩
  · cases h
theorem flat_const {α β : Type} {f : α → List β} {c : Nat} : ∀ {xs : List α}, (∀ x ∈ xs, (f x).length = c) → (xs.flatMap f).length = xs.length * c
  | [], _ => by simp
  | x :: xs, h => by rw [List.flatMap_cons, List.length_append, h x List.mem_cons_self, flat_const (fun y hy => h y (List.mem_cons_of_mem _ hy)), List.length_cons, Nat.succ_mul]; omega
theorem flat_filt {α β : Type} {f : α → List β} {p : α → Bool} {c : Nat} : ∀ {xs : List α}, (∀ x ∈ xs, (f x).length = if p x = true then c else 0) → (xs.flatMap f).length = (xs.filter p).length * c
  | [], _ => by simp
  | x :: xs, h => by
    rw [List.flatMap_cons, List.length_append, h x List.mem_cons_self, flat_filt (fun y hy => h y (List.mem_cons_of_mem _ hy)), List.filter_cons]
    by_cases z : p x = true
    · rw [if_pos z, if_pos z, List.length_cons, Nat.succ_mul]; omega
    · rw [if_neg z, if_neg z]; omega
theorem last_of (w : List Int) (c : Int) : (w ++ [c])[(w ++ [c]).length - 1]? = some c := by
  rw [List.length_append, List.length_singleton, Nat.add_sub_cancel, List.getElem?_append_right (Nat.le_refl _), Nat.sub_self]
  rfl
theorem step_pick {g w : List Int} {z : Nat} (gn : g ≠ []) (gp : lloop g = g) (hz : g[g.length - 1]? = some (z : Int)) : ∀ n, (((List.range n).map fun (c : Nat) => w ++ [(c : Int)]).flatMap (pick g)).length = if z < n then n - 1 else n
  | 0 => rfl
  | n + 1 => by
    rw [List.range_succ, List.map_append, List.flatMap_append, List.length_append, step_pick gn gp hz n]
    have e : (([n].map fun (c : Nat) => w ++ [(c : Int)]).flatMap (pick g)).length = if z = n then 0 else 1 := by
      show (pick g (w ++ [(n : Int)]) ++ []).length = _
      rw [List.append_nil]
      unfold pick
      by_cases c : z = n
      · rw [if_pos c, if_neg]
        · rfl
        · intro h
          obtain ⟨_, q⟩ := (red_pick gn).mp h
          rcases q with q | q
          · simp at q
          · apply q
            rw [last_of, hz, c]
      · rw [if_neg c, if_pos]
        · rfl
        · refine (red_pick gn).mpr ⟨gp, .inr ?_⟩
          rw [last_of, hz]
          intro q
          have := Option.some.inj q
          omega
    rw [e]
    by_cases c1 : z < n
    · rw [if_pos c1, if_neg (by omega), if_pos (by omega)]; omega
    · by_cases c2 : z = n
      · rw [if_neg c1, if_pos c2, if_pos (by omega)]; omega
      · rw [if_neg c1, if_neg c2, if_neg (by omega)]
def firstsN (k : Nat) : Nat → Nat
  | 0 => 1
  | m + 1 => firstsN k m + k ^ m * (k - 1)
def primC (k n : Nat) : Nat := ((wordsL k n).filter fun g => decide (lloop g = g)).length
def primT (k : Nat) : Nat → Nat
  | 0 => 0
  | t + 1 => primT k t + primC k (1 + t)
theorem rows1_len {k : Nat} {g : List Int} (gn : g ≠ []) (gb : Below k g) (gp : lloop g = g) : ∀ m, (rows1 k m g).length = firstsN k m
  | 0 => by
    show ((List.range 1).flatMap (rows2 k g)).length = 1
    have : rows2 k g 0 = [([], g)] := by
      show pick g [] ++ [] = _
      unfold pick
      rw [if_pos ((red_pick gn).mpr ⟨gp, .inl rfl⟩)]
      rfl
    show (rows2 k g 0 ++ []).length = 1
    rw [this]
    rfl
  | m + 1 => by
    have g0 : 0 < g.length := List.length_pos_iff.mpr gn
    obtain ⟨z0, z1⟩ := gb _ (List.getElem_mem (show g.length - 1 < g.length by omega))
    have hz : g[g.length - 1]? = some (((g[g.length - 1]'(by omega)).toNat : Nat) : Int) := by
      rw [List.getElem?_eq_getElem (by omega), Int.toNat_of_nonneg z0]
    have e2 : (rows2 k g (m + 1)).length = k ^ m * (k - 1) := by
      show (((wordsL k m).flatMap (step1 k)).flatMap (pick g)).length = _
      rw [List.flatMap_assoc, flat_const (c := k - 1), wordsL_len]
      intro w _
      have := step_pick (w := w) gn gp hz k
      rw [if_pos (by omega)] at this
      exact this
    show ((List.range (m + 1 + 1)).flatMap (rows2 k g)).length = _
    rw [List.range_succ, List.flatMap_append, List.length_append]
    show (rows1 k m g).length + (rows2 k g (m + 1) ++ []).length = _
    rw [rows1_len gn gb gp m, List.append_nil, e2]
    rfl
theorem rows1_none {k m : Nat} {g : List Int} (gn : g ≠ []) (gp : lloop g ≠ g) : rows1 k m g = [] := by
  unfold rows1 rows2
  apply List.flatMap_eq_nil_iff.mpr
  intro s _
  apply List.flatMap_eq_nil_iff.mpr
  intro f _
  unfold pick
  rw [if_neg]
  exact fun h => gp ((red_pick gn).mp h).1
theorem rowsT_len {k m i : Nat} : (rowsT k m i).length = primC k (1 + i) * firstsN k m := by
  unfold rowsT primC
  apply flat_filt
  intro g hg
  obtain ⟨gl, gb⟩ := wordsL_size hg
  have gn : g ≠ [] := fun z => by rw [z] at gl; simp at gl; omega
  by_cases c : lloop g = g
  · rw [if_pos (decide_eq_true c), rows1_len gn gb c]
  · rw [if_neg (fun h => c (of_decide_eq_true h)), rows1_none gn c]
    rfl
theorem lassoL_len {k m : Nat} : ∀ t, (lassoL k m t).length = primT k t * firstsN k m
  | 0 => by simp [lassoL, primT]
  | t + 1 => by
    show ((List.range (t + 1)).flatMap (rowsT k m)).length = _
    rw [List.range_succ, List.flatMap_append, List.length_append]
    show (lassoL k m t).length + (rowsT k m t ++ []).length = _
    rw [lassoL_len t, List.append_nil, rowsT_len, ← Nat.add_mul]
    rfl
theorem firsts_eq {k : Nat} (k0 : 0 < k) : ∀ m, ((firstsN k m : Nat) : Int) = firstsI k m
  | 0 => rfl
  | m + 1 => by
    show ((firstsN k m + k ^ m * (k - 1) : Nat) : Int) = firstsI k m + ((k ^ m : Nat) : Int) * ((k : Int) - 1)
    rw [Int.natCast_add, firsts_eq k0 m, Int.natCast_mul, Int.natCast_sub k0]
    rfl
/-! ### the order -/
def wlt : List Int → List Int → Bool
  | x :: xs, y :: ys => decide (x < y) || (decide (x = y) && wlt xs ys)
  | _, _ => false
def wge : List Int → List Int → Bool
  | _, [] => true
  | [], _ :: _ => false
  | x :: xs, y :: ys => if x = y then wge xs ys else decide (y ≤ x)
theorem wlt_ge : ∀ {v w : List Int}, wlt v w = true → wge v w = false ∧ v ≠ w
  | [], _, h => by cases h
  | _ :: _, [], h => by cases h
  | x :: xs, y :: ys, h => by
    have h' : (decide (x < y) || (decide (x = y) && wlt xs ys)) = true := h
    rw [Bool.or_eq_true, Bool.and_eq_true, decide_eq_true_eq, decide_eq_true_eq] at h'
    rcases h' with h' | ⟨rfl, h'⟩
    · refine ⟨?_, fun z => ?_⟩
      · show (if x = y then wge xs ys else decide (y ≤ x)) = false
        rw [if_neg (by omega)]
        exact decide_eq_false (by omega)
      · have := (List.cons.inj z).1
        omega
    · obtain ⟨h1, h2⟩ := wlt_ge h'
      refine ⟨?_, fun z => h2 (List.cons.inj z).2⟩
      show (if x = x then wge xs ys else decide (x ≤ x)) = false
      rw [if_pos rfl, h1]
theorem wlt_app : ∀ {v w : List Int} {a b : List Int}, wlt v w = true → wlt (v ++ a) (w ++ b) = true
  | [], _, _, _, h => by cases h
  | _ :: _, [], _, _, h => by cases h
  | x :: xs, y :: ys, a, b, h => by
    have h' : (decide (x < y) || (decide (x = y) && wlt xs ys)) = true := h
    show (decide (x < y) || (decide (x = y) && wlt (xs ++ a) (ys ++ b))) = true
    rw [Bool.or_eq_true, Bool.and_eq_true] at *
    rcases h' with h' | ⟨h1, h2⟩
    · exact .inl h'
    · exact .inr ⟨h1, wlt_app h2⟩
theorem wlt_end {c d : Int} (h : c < d) : ∀ w : List Int, wlt (w ++ [c]) (w ++ [d]) = true
  | [] => by
    show (decide (c < d) || _) = true
    rw [decide_eq_true h]
    rfl
  | x :: xs => by
    show (decide (x < x) || (decide (x = x) && wlt (xs ++ [c]) (xs ++ [d]))) = true
    rw [wlt_end h xs, decide_eq_true rfl, Bool.or_eq_true]
    exact .inr rfl
theorem range_lt (n : Nat) : (List.range n).Pairwise (· < ·) := List.pairwise_lt_range
theorem wordsL_ord {k : Nat} : ∀ n, (wordsL k n).Pairwise (fun v w => wlt v w = true)
  | 0 => List.pairwise_singleton _ _
  | n + 1 => by
    show ((wordsL k n).flatMap (step1 k)).Pairwise _
    rw [List.pairwise_flatMap]
    constructor
    · intro w _
      unfold step1
      rw [List.pairwise_map]
      exact (range_lt k).imp fun h => wlt_end (Int.ofNat_lt.mpr h) w
    · refine (wordsL_ord n).imp fun {v w} h => ?_
      intro x hx y hy
      unfold step1 at hx hy
      obtain ⟨c, _, rfl⟩ := List.mem_map.mp hx
      obtain ⟨d, _, rfl⟩ := List.mem_map.mp hy
      exact wlt_app h
def klt (a b : Ls) : Prop := a.2.length < b.2.length ∨ (a.2.length = b.2.length ∧ (wlt a.2 b.2 = true ∨ (a.2 = b.2 ∧ (a.1.length < b.1.length ∨ (a.1.length = b.1.length ∧ wlt a.1 b.1 = true)))))
theorem rows2_mem {k s : Nat} {g : List Int} {x : Ls} (h : x ∈ rows2 k g s) : x.2 = g ∧ x.1.length = s ∧ Below k x.1 ∧ lleast x = x := by
  obtain ⟨f, hf, hx⟩ := List.mem_flatMap.mp h
  obtain ⟨rfl, e⟩ := pick_mem hx
  obtain ⟨h1, h2⟩ := wordsL_size hf
  exact ⟨rfl, h1, h2, e⟩
theorem rows1_mem {k m : Nat} {g : List Int} {x : Ls} (h : x ∈ rows1 k m g) : x.2 = g ∧ x.1.length ≤ m ∧ Below k x.1 ∧ lleast x = x := by
  obtain ⟨s, hs, hx⟩ := List.mem_flatMap.mp h
  obtain ⟨h1, h2, h3, h4⟩ := rows2_mem hx
  have := List.mem_range.mp hs
  exact ⟨h1, by omega, h3, h4⟩
theorem rowsT_mem {k m i : Nat} {x : Ls} (h : x ∈ rowsT k m i) : x.2.length = 1 + i ∧ Below k x.2 ∧ x.1.length ≤ m ∧ Below k x.1 ∧ lleast x = x := by
  obtain ⟨g, hg, hx⟩ := List.mem_flatMap.mp h
  obtain ⟨rfl, h2, h3, h4⟩ := rows1_mem hx
  obtain ⟨h5, h6⟩ := wordsL_size hg
  exact ⟨h5, h6, h2, h3, h4⟩
theorem lassoL_mem {k m t : Nat} {x : Ls} (h : x ∈ lassoL k m t) : 0 < x.2.length ∧ x.2.length ≤ t ∧ Below k x.2 ∧ x.1.length ≤ m ∧ Below k x.1 ∧ lleast x = x := by
  obtain ⟨i, hi, hx⟩ := List.mem_flatMap.mp h
  obtain ⟨h1, h2, h3, h4, h5⟩ := rowsT_mem hx
  have := List.mem_range.mp hi
  exact ⟨by omega, by omega, h2, h3, h4, h5⟩
theorem lassoL_in {k m t : Nat} {x : Ls} (h0 : 0 < x.2.length) (h1 : x.2.length ≤ t) (h2 : Below k x.2) (h3 : x.1.length ≤ m) (h4 : Below k x.1) (h5 : lleast x = x) : x ∈ lassoL k m t := by
  obtain ⟨f, g⟩ := x
  refine List.mem_flatMap.mpr ⟨g.length - 1, List.mem_range.mpr (by simp only at h0 h1; omega), ?_⟩
  refine List.mem_flatMap.mpr ⟨g, wordsL_mem (by simp only at h0; omega) h2, ?_⟩
  refine List.mem_flatMap.mpr ⟨f.length, List.mem_range.mpr (by simp only at h3; omega), ?_⟩
  refine List.mem_flatMap.mpr ⟨f, wordsL_mem rfl h4, ?_⟩
  unfold pick
  rw [if_pos h5]
  exact List.mem_singleton.mpr rfl
theorem lassoL_ord {k m t : Nat} : (lassoL k m t).Pairwise klt := by
  unfold lassoL
  rw [List.pairwise_flatMap]
  constructor
  · intro i _
    unfold rowsT
    rw [List.pairwise_flatMap]
    constructor
    · intro g _
      unfold rows1
      rw [List.pairwise_flatMap]
      constructor
      · intro s _
        unfold rows2
        rw [List.pairwise_flatMap]
        constructor
        · intro f _
          unfold pick
          split
          · exact List.pairwise_singleton _ _
          · exact List.Pairwise.nil
        · refine List.Pairwise.imp_of_mem ?_ (wordsL_ord s)
          intro v w hv hw h x hx y hy
          obtain ⟨rfl, _⟩ := pick_mem hx
          obtain ⟨rfl, _⟩ := pick_mem hy
          exact .inr ⟨rfl, .inr ⟨rfl, .inr ⟨(wordsL_size hv).1.trans (wordsL_size hw).1.symm, h⟩⟩⟩
      · refine (range_lt (m + 1)).imp fun {a b} h => ?_
        intro x hx y hy
        obtain ⟨h1, h2, _⟩ := rows2_mem hx
        obtain ⟨h3, h4, _⟩ := rows2_mem hy
        exact .inr ⟨by rw [h1, h3], .inr ⟨by rw [h1, h3], .inl (by omega)⟩⟩
    · refine List.Pairwise.imp_of_mem ?_ (wordsL_ord (1 + i))
      intro v w hv hw h x hx y hy
      obtain ⟨h1, _⟩ := rows1_mem hx
      obtain ⟨h3, _⟩ := rows1_mem hy
      exact .inr ⟨by rw [h1, h3]; exact (wordsL_size hv).1.trans (wordsL_size hw).1.symm, .inl (by rw [h1, h3]; exact h)⟩
  · refine (range_lt t).imp fun {a b} h => ?_
    intro x hx y hy
    obtain ⟨h1, _⟩ := rowsT_mem hx
    obtain ⟨h3, _⟩ := rowsT_mem hy
    exact .inl (by omega)
/-! ### keys -/
def keyD (l : Ls) : D := .tup [.int (l.2.length : Nat), W l.2, .int (l.1.length : Nat), W l.1]
def keyP (l : Ls) : PyData := .tuple [.int (l.2.length : Nat), .tuple (l.2.map PyData.int), .int (l.1.length : Nat), .tuple (l.1.map PyData.int)]
theorem pd_key {S : Sto} {k : Nat} (l : Ls) : pd S (k + 3) (keyD l) = some (keyP l) := by
  show ((([.int (l.2.length : Nat), W l.2, .int (l.1.length : Nat), W l.1] : List D).mapM (pd S (k + 2))).map PyData.tuple) = _
  rw [List.mapM_cons, List.mapM_cons, List.mapM_cons, List.mapM_cons, List.mapM_nil, pd_W, pd_W]
  rfl
theorem shp_key (l : Ls) : shp (keyP l) := by
  refine shp_tup ?_ ?_
  · show (true && (PyData.canLayAll0 (l.2.map PyData.int) && (true && (PyData.canLayAll0 (l.1.map PyData.int) && true)))) = true
    rw [lay_ints, lay_ints]
    rfl
  · show max 0 (max (PyData.depthAll (l.2.map PyData.int) + 1) (max 0 (max (PyData.depthAll (l.1.map PyData.int) + 1) 0))) ≤ 63
    rw [dep_ints, dep_ints]
    decide
theorem ge_ints (n : Nat) : ∀ v w : List Int, geL (geP (n + 1)) (v.map PyData.int) (w.map PyData.int) = some (wge v w)
  | [], [] => rfl
  | [], _ :: _ => rfl
  | _ :: _, [] => rfl
  | x :: xs, y :: ys => by
    show (match geP (n + 1) (.int x) (.int y), geL (geP (n + 1)) (xs.map PyData.int) (ys.map PyData.int) with
      | some g, some r => some (if PyData.eqv (.int x) (.int y) = true then r else g)
      | _, _ => none) = _
    rw [ge_ints n xs ys]
    show some (if (x == y) = true then wge xs ys else decide (y ≤ x)) = some (if x = y then wge xs ys else decide (y ≤ x))
    congr 1
    by_cases c : x = y
    · rw [if_pos c, if_pos (beq_iff_eq.mpr c)]
    · rw [if_neg c, if_neg (fun z => c (beq_iff_eq.mp z))]
theorem ge_key {S : Sto} {a b : Ls} (h : klt a b) : cmpD .ge (keyD a) (keyD b) S = some false := by
  show geD S (keyD a) (keyD b) = _
  unfold geD
  rw [pd_key (k := 61), pd_key (k := 61)]
  show (if shp (keyP a) ∧ shp (keyP b) then geP 8 (keyP a) (keyP b) else none) = _
  rw [if_pos ⟨shp_key a, shp_key b⟩]
  have e1 : geP 7 (.int (a.2.length : Nat)) (.int (b.2.length : Nat)) = some (decide ((b.2.length : Int) ≤ a.2.length)) := rfl
  have e2 : geP 7 (.tuple (a.2.map PyData.int)) (.tuple (b.2.map PyData.int)) = some (wge a.2 b.2) := ge_ints 5 _ _
  have e3 : geP 7 (.int (a.1.length : Nat)) (.int (b.1.length : Nat)) = some (decide ((b.1.length : Int) ≤ a.1.length)) := rfl
  have e4 : geP 7 (.tuple (a.1.map PyData.int)) (.tuple (b.1.map PyData.int)) = some (wge a.1 b.1) := ge_ints 5 _ _
  have q1 : PyData.eqv (.int (a.2.length : Nat)) (.int (b.2.length : Nat)) = ((a.2.length : Int) == b.2.length) := rfl
  have q2 : PyData.eqv (.tuple (a.2.map PyData.int)) (.tuple (b.2.map PyData.int)) = decide (a.2 = b.2) := eqv_ints _ _
  have q3 : PyData.eqv (.int (a.1.length : Nat)) (.int (b.1.length : Nat)) = ((a.1.length : Int) == b.1.length) := rfl
  have q4 : PyData.eqv (.tuple (a.1.map PyData.int)) (.tuple (b.1.map PyData.int)) = decide (a.1 = b.1) := eqv_ints _ _
  show geL (geP 7) [.int (a.2.length : Nat), .tuple (a.2.map PyData.int), .int (a.1.length : Nat), .tuple (a.1.map PyData.int)] [.int (b.2.length : Nat), .tuple (b.2.map PyData.int), .int (b.1.length : Nat), .tuple (b.1.map PyData.int)] = _
  simp only [geL, e1, e2, e3, e4, q1, q2, q3, q4]
  rcases h with h | ⟨h1, h⟩
  · rw [if_neg (by rw [beq_iff_eq]; omega), decide_eq_false (by omega)]
  · rw [if_pos (by rw [beq_iff_eq]; omega)]
    rcases h with h | ⟨h2, h⟩
    · obtain ⟨g1, g2⟩ := wlt_ge h
      rw [if_neg (by rw [decide_eq_true_eq]; exact g2), g1]
    · rw [if_pos (by rw [decide_eq_true_eq]; exact h2)]
      rcases h with h | ⟨h3, h⟩
      · rw [if_neg (by rw [beq_iff_eq]; omega), decide_eq_false (by omega)]
      · rw [if_pos (by rw [beq_iff_eq]; omega)]
        obtain ⟨g1, g2⟩ := wlt_ge h
        rw [if_neg (by rw [decide_eq_true_eq]; exact g2), g1]
noncomputable def F_key : Fn := fnD [] 1 1 ir_law_key
theorem key_ok {S : Sto} {l : Ls} : F_key [La l] S = some (keyD l, S) := by
  have e1 : ((iD l.1).length : Int) = ((l.1.length : Nat) : Int) := by rw [W_len]
  have e2 : ((iD l.2).length : Int) = ((l.2.length : Nat) : Int) := by rw [W_len]
  have n4 : 0 + 1 + 1 + 1 + 1 ≤ LIM := by decide
  unfold F_key fnD ir_law_key keyD
  simp only [x_nil, x_cons, x_set, x_setp, x_ret, x_par, x_expr, x_setI, x_aug, x_ite, x_for, x_whl, x_brk, x_cnt, x_pass, x_retN, seq_nx, seq_ret, seq_brk, seq_cnt, seq_none, seq_bnd, seq_if, v_var, v_int, v_bl, v_non, v_str, v_bin, v_neg, v_cmp, v_chn, v_boo, v_not, v_ite, v_tup0, v_tup1, v_tup2, v_idx, v_slc, v_call, v_bi, v_isi, v_lst, v_tupL, v_nilL, v_app, v_ext, a_nil, a_cons, a_disp1, a_disp2, a_disp3, a_comp, o_nil, o_var, o_int, o_neg, o_bin, o_bi, vb_one, vb_more, tb_one, tb_more, t_nil, t_boo, t_not, t_cmp, t_chn, t_call, t_isi, t_nilL, t_var, i_seq, i_rng1, i_rng2, i_enm, b_add, b_sub, b_mul, b_fdiv, b_mod, b_pow, b_cat, b_rep, c_lt, c_le, c_gt, c_ge, c_eq, c_ne, c_isn, q_int, len_tup, len_ref, k_min, k_max, k_int, k_tup, k_tupr, k_lst, ix_tup, ix_ref, sl_tup, end_ret, end_nx, end_if, end_none, bnd_grd, bnd_bnd, bnd_match, bnd_some, bnd_none, getv, setv, setvs, wipev, asg, Option.map_some, Option.map_none, List.length_cons, List.length_nil, List.getElem?_cons_zero, List.getElem?_cons_succ, if_true, truD, decide_eq_true_eq, List.replicate, List.map_cons, List.map_nil, List.cons_append, List.nil_append, ite_true, ite_false, if_false, decide_true, decide_false, and_self, true_and, and_true, true_or, or_true, or_self, reduceCtorEq, Bool.false_eq_true, Bool.true_eq_false, Bool.not_true, Bool.not_false, false_and, and_false, false_or, or_false, gc_same, Int.sub_zero, Int.toNat_natCast, Int.reduceToNat, okS, rngD, v_tup, at2_0, at2_1, e1, e2, n4]
/-! ### the shapes -/
def Shape (k m t : Nat) : Prop := 0 < k ∧ k ≤ 16 ∧ m ≤ 6 ∧ 0 < t ∧ t ≤ 8 ∧ k ^ m ≤ 1000000 ∧ k ^ t ≤ 1000000 ∧ small (firstsI k m) ∧ primT k t * firstsN k m ≤ 900000 ∧ ((primT k t : Nat) : Int) = (plainL k t).sum
instance (k m t : Nat) : Decidable (Shape k m t) := inferInstanceAs (Decidable (_ ∧ _))
end M

namespace M
theorem shape1 : Shape 16 1 2 := by decide +kernel
theorem shape2 : Shape 16 2 1 := by decide +kernel
theorem shape3 : Shape 9 1 3 := by decide +kernel
theorem shape4 : Shape 7 2 2 := by decide +kernel
theorem shape5 : Shape 5 1 4 := by decide +kernel
theorem shape6 : Shape 3 1 6 := by decide +kernel
theorem shape7 : Shape 2 4 8 := by decide +kernel
theorem shape8 : Shape 2 6 3 := by decide +kernel
theorem shape9 : Shape 1 5 5 := by decide +kernel
theorem shape10 : Shape 12 0 2 := by decide +kernel
theorem shape11 : Shape 4 3 3 := by decide +kernel
end M

/-! K03: the law of least lassos counted. -/
namespace M
open PySem (Str PyData)
open L2 (atI ixN)
/-- law(script): script=0 state=1 shapes=2 k=3 most=4 turn=5 told=6 lasso=7 at=8 wanted=9 size=10 length=11; calls _law_start _law_pick lassos_of _law_due_count _law_is_lasso _law_least _law_key _law_word _law_take _law_same words_of _law_words -/
def ir_k03_e1 : E :=
  (.lst (.disp (.cons (.tup (.cons (.int 16) (.cons (.int 1) (.cons (.int 2) .nil)))) (.cons (.tup (.cons (.int 16) (.cons (.int 2) (.cons (.int 1) .nil)))) (.cons (.tup (.cons (.int 9) (.cons (.int 1) (.cons (.int 3) .nil)))) (.cons (.tup (.cons (.int 7) (.cons (.int 2) (.cons (.int 2) .nil)))) (.cons (.tup (.cons (.int 5) (.cons (.int 1) (.cons (.int 4) .nil)))) (.cons (.tup (.cons (.int 3) (.cons (.int 1) (.cons (.int 6) .nil)))) (.cons (.tup (.cons (.int 2) (.cons (.int 4) (.cons (.int 8) .nil)))) (.cons (.tup (.cons (.int 2) (.cons (.int 6) (.cons (.int 3) .nil)))) (.cons (.tup (.cons (.int 1) (.cons (.int 5) (.cons (.int 5) .nil)))) (.cons (.tup (.cons (.int 12) (.cons (.int 0) (.cons (.int 2) .nil)))) (.cons (.tup (.cons (.int 4) (.cons (.int 3) (.cons (.int 3) .nil)))) .nil)))))))))))))
def ir_k03_b1 : Stm :=
  (.cons (.ite (.boo false (.cons (.not (.call 4 (.cons (.var 7) (.cons (.var 3) .nil)))) (.cons (.cmp .gt (.bi .len (.cons (.idx (.var 7) (.int 0)) .nil)) (.var 4)) (.cons (.cmp .gt (.bi .len (.cons (.idx (.var 7) (.int 1)) .nil)) (.var 5)) (.cons (.cmp .ne (.call 5 (.cons (.var 7) .nil)) (.var 7)) .nil))))) (.cons (.ret (.bl false))
    .nil) .nil)
    .nil)
def ir_k03_e2 : E :=
  (.cmp .ge (.call 6 (.cons (.idx (.var 6) (.bin .sub (.var 8) (.int 1))) .nil)) (.call 6 (.cons (.idx (.var 6) (.var 8)) .nil)))
def ir_k03_e3 : E :=
  (.lst (.disp (.cons (.tup (.cons (.int 16) (.cons (.int 3) .nil))) (.cons (.tup (.cons (.int 2) (.cons (.int 11) .nil))) (.cons (.tup (.cons (.int 1) (.cons (.int 40) .nil))) (.cons (.tup (.cons (.int 13) (.cons (.int 2) .nil))) (.cons (.tup (.cons (.int 7) (.cons (.int 4) .nil))) (.cons (.tup (.cons (.int 4) (.cons (.int 0) .nil))) (.cons (.tup (.cons (.int 3) (.cons (.int 7) .nil))) (.cons (.tup (.cons (.int 16) (.cons (.int 1) .nil))) (.cons (.tup (.cons (.int 5) (.cons (.int 5) .nil))) .nil)))))))))))
def ir_k03 : Stm :=
  (.cons (.set (.nm 1) (.call 0 (.cons (.var 0) .nil)))
    (.cons (.set (.nm 2) ir_k03_e1)
    (.cons (.set (.tp [3, 4, 5]) (.call 1 (.cons (.var 1) (.cons (.var 2) .nil))))
    (.cons (.set (.nm 6) (.call 2 (.cons (.var 3) (.cons (.var 4) (.cons (.var 5) .nil)))))
    (.cons (.ite (.boo false (.cons (.not (.isi (.var 6) .list)) (.cons (.cmp .ne (.bi .len (.cons (.var 6) .nil)) (.call 3 (.cons (.var 3) (.cons (.var 4) (.cons (.var 5) .nil))))) .nil))) (.cons (.ret (.bl false))
    .nil) .nil)
    (.cons (.for_ (.nm 7) (.seq (.var 6)) ir_k03_b1)
    (.cons (.ite (.nilL true (.comp [8] (.nm 8) (.rng2 (.int 1) (.bi .len (.cons (.var 6) .nil))) ir_k03_e2 (.var 8))) (.cons (.ret (.bl false))
    .nil) .nil)
    (.cons (.set (.nm 9) (.call 5 (.cons (.tup (.cons (.call 7 (.cons (.var 1) (.cons (.var 3) (.cons (.call 8 (.cons (.var 1) (.cons (.bin .add (.var 4) (.int 1)) .nil))) .nil)))) (.cons (.call 7 (.cons (.var 1) (.cons (.var 3) (.cons (.bin .add (.int 1) (.call 8 (.cons (.var 1) (.cons (.var 5) .nil)))) .nil)))) .nil))) .nil)))
    (.cons (.ite (.cmp .nin (.var 9) (.var 6)) (.cons (.ret (.bl false))
    .nil) .nil)
    (.cons (.set (.tp [10, 11]) (.call 1 (.cons (.var 1) (.cons ir_k03_e3 .nil))))
    (.cons (.ret (.call 9 (.cons (.call 10 (.cons (.var 10) (.cons (.var 11) .nil))) (.cons (.call 11 (.cons (.var 10) (.cons (.var 11) .nil))) .nil))))
    .nil)))))))))))
noncomputable def T03 : List Fn := [F_start, F_pick, F_lassos, F_due, F_isl, F_least, F_key, F_word, F_take, F_same 3, F_words, F_lwords]
theorem T03_0 : T03[0]? = some F_start := (rfl)
theorem T03_1 : T03[1]? = some F_pick := (rfl)
theorem T03_2 : T03[2]? = some F_lassos := (rfl)
theorem T03_3 : T03[3]? = some F_due := (rfl)
theorem T03_4 : T03[4]? = some F_isl := (rfl)
theorem T03_5 : T03[5]? = some F_least := (rfl)
theorem T03_6 : T03[6]? = some F_key := (rfl)
theorem T03_7 : T03[7]? = some F_word := (rfl)
theorem T03_8 : T03[8]? = some F_take := (rfl)
theorem T03_9 : T03[9]? = some (F_same 3) := (rfl)
theorem T03_10 : T03[10]? = some F_words := (rfl)
theorem T03_11 : T03[11]? = some F_lwords := (rfl)
noncomputable def F_k03 : Fn := fnD T03 12 1 ir_k03
def tri3 (p q r : Int) : D := .tup [.int p, .int q, .int r]
def shapesD : List D := [tri3 16 1 2, tri3 16 2 1, tri3 9 1 3, tri3 7 2 2, tri3 5 1 4, tri3 3 1 6, tri3 2 4 8, tri3 2 6 3, tri3 1 5 5, tri3 12 0 2, tri3 4 3 3]
theorem shapes_v {e : Ev} {S : Sto} : (sem T03 ir_k03_e1).v e S = some (.ref S.length, S ++ [.lst shapesD]) := (rfl)
theorem shape_of {i : Nat} {y : D} (h : shapesD[i]? = some y) : ∃ k m t : Nat, y = .tup [.int k, .int m, .int t] ∧ Shape k m t := by
  have := List.mem_of_getElem? h
  unfold shapesD at this
  simp only [List.mem_cons, List.not_mem_nil, or_false] at this
  rcases this with rfl | rfl | rfl | rfl | rfl | rfl | rfl | rfl | rfl | rfl | rfl
  · exact ⟨16, 1, 2, rfl, shape1⟩
  · exact ⟨16, 2, 1, rfl, shape2⟩
  · exact ⟨9, 1, 3, rfl, shape3⟩
  · exact ⟨7, 2, 2, rfl, shape4⟩
  · exact ⟨5, 1, 4, rfl, shape5⟩
  · exact ⟨3, 1, 6, rfl, shape6⟩
  · exact ⟨2, 4, 8, rfl, shape7⟩
  · exact ⟨2, 6, 3, rfl, shape8⟩
  · exact ⟨1, 5, 5, rfl, shape9⟩
  · exact ⟨12, 0, 2, rfl, shape10⟩
  · exact ⟨4, 3, 3, rfl, shape11⟩
def two3 (p q : Int) : D := .tup [.int p, .int q]
def sizesD : List D := [two3 16 3, two3 2 11, two3 1 40, two3 13 2, two3 7 4, two3 4 0, two3 3 7, two3 16 1, two3 5 5]
theorem sizes_v {e : Ev} {S : Sto} : (sem T03 ir_k03_e3).v e S = some (.ref S.length, S ++ [.lst sizesD]) := (rfl)
theorem size_of {i : Nat} {y : D} (h : sizesD[i]? = some y) : ∃ k n : Nat, y = .tup [.int k, .int n] ∧ 0 < k ∧ k ≤ 1000 ∧ n ≤ 1000 ∧ k ^ n ≤ 1000000 := by
  have := List.mem_of_getElem? h
  unfold sizesD at this
  simp only [List.mem_cons, List.not_mem_nil, or_false] at this
  rcases this with rfl | rfl | rfl | rfl | rfl | rfl | rfl | rfl | rfl
  · exact ⟨16, 3, rfl, by decide⟩
  · exact ⟨2, 11, rfl, by decide⟩
  · exact ⟨1, 40, rfl, by decide⟩
  · exact ⟨13, 2, rfl, by decide⟩
  · exact ⟨7, 4, rfl, by decide⟩
  · exact ⟨4, 0, rfl, by decide⟩
  · exact ⟨3, 7, rfl, by decide⟩
  · exact ⟨16, 1, rfl, by decide⟩
  · exact ⟨5, 5, rfl, by decide⟩
theorem lat_below {k : Int} {l : Ls} (ln : l.2 ≠ []) (b1 : Below k l.1) (b2 : Below k l.2) (p : Nat) : 0 ≤ lat l p ∧ lat l p < k := by
  have l0 : 0 < l.2.length := List.length_pos_iff.mpr ln
  have g : ∀ {w : List Int} {i : Nat}, Below k w → i < w.length → 0 ≤ w.getD i 0 ∧ w.getD i 0 < k := fun {w i} b hi => by
    rw [List.getD_eq_getElem?_getD, List.getElem?_eq_getElem hi]
    exact b _ (List.getElem_mem hi)
  unfold lat
  split
  · rename_i h
    exact g b1 h
  · exact g b2 (Nat.mod_lt _ l0)
theorem lat_in {l : Ls} {x : Int} (h : x ∈ l.1 ∨ x ∈ l.2) : ∃ p, lat l p = x := by
  obtain ⟨f, g⟩ := l
  rcases h with h | h
  · obtain ⟨i, hi⟩ := List.mem_iff_getElem?.mp h
    replace hi : f[i]? = some x := hi
    have hl := (List.getElem?_eq_some_iff.mp hi).1
    exact ⟨i, by rw [lat_first hl, List.getD_eq_getElem?_getD, hi]; rfl⟩
  · obtain ⟨i, hi⟩ := List.mem_iff_getElem?.mp h
    replace hi : g[i]? = some x := hi
    have hl := (List.getElem?_eq_some_iff.mp hi).1
    exact ⟨f.length + i, by rw [lat_loop, Nat.mod_eq_of_lt hl, List.getD_eq_getElem?_getD, hi]; rfl⟩
theorem lleast_below {k : Int} {l : Ls} (ln : l.2 ≠ []) (b1 : Below k l.1) (b2 : Below k l.2) : Below k (lleast l).1 ∧ Below k (lleast l).2 := by
  obtain ⟨h, _⟩ := lleast_red ln
  constructor
  · intro x hx
    obtain ⟨p, rfl⟩ := lat_in (l := lleast l) (.inl hx)
    rw [h]
    exact lat_below ln b1 b2 p
  · intro x hx
    obtain ⟨p, rfl⟩ := lat_in (l := lleast l) (.inr hx)
    rw [h]
    exact lat_below ln b1 b2 p
theorem nil_false {S : Sto} : nilD true [] S = some (.bl false, S) := by
  unfold nilD
  rw [if_pos]
  · rfl
  · exact ⟨[], rfl, by decide +kernel⟩
def laP (l : Ls) : PyData := .tuple [.tuple (l.1.map PyData.int), .tuple (l.2.map PyData.int)]
theorem pd_las (S : Sto) (k : Nat) : ∀ L : List Ls, (L.map fun l => La l).mapM (pd S (k + 3)) = some (L.map laP)
  | [] => rfl
  | x :: r => by
    rw [List.map_cons, List.mapM_cons, pd_La, pd_las S k r]
    rfl
theorem lay_las : ∀ L : List Ls, PyData.canLayAll0 (L.map laP) = true
  | [] => rfl
  | x :: r => by
    show ((laP x).canLay0 && PyData.canLayAll0 (r.map laP)) = true
    rw [lay_las r, (shp_La x).1 |> fun h => (show (laP x).canLay0 = true from h)]
    rfl
theorem dep_las : ∀ L : List Ls, PyData.depthAll (L.map laP) ≤ 3
  | [] => Nat.zero_le _
  | x :: r => by
    show max (laP x).depth (PyData.depthAll (r.map laP)) ≤ 3
    refine Nat.max_le.mpr ⟨?_, dep_las r⟩
    show max (PyData.depthAll (x.1.map PyData.int) + 1) (max (PyData.depthAll (x.2.map PyData.int) + 1) 0) + 1 ≤ 3
    rw [dep_ints, dep_ints]
    decide
theorem nin_las {S : Sto} {n : Nat} {L : List Ls} {w : Ls} (it : itemsAt S n = some (L.map fun l => La l)) (h : w ∈ L) : cmpD .nin (La w) (.ref n) S = some false := by
  have e1 : pd S 64 (La w) = some (laP w) := pd_La S 61 w
  have e2 : pd S 64 (.ref n) = some (.list (L.map laP)) := by
    show (match itemsAt S n with | some xs => (xs.mapM (pd S 63)).map PyData.list | none => none) = _
    rw [it]
    show ((L.map fun l => La l).mapM (pd S 63)).map PyData.list = _
    rw [pd_las S 60 L]
    rfl
  have sL : shp (.list (L.map laP)) := ⟨lay_las L, by
    have := dep_las L
    show PyData.depthAll (L.map laP) + 1 ≤ 64
    omega⟩
  have q : PyData.eqv (laP w) (laP w) = true := by
    have := q_La (S := S) (l := w) (m := w)
    rw [eqD_of e1 e1 (shp_La w) (shp_La w)] at this
    have := Option.some.inj this
    rw [this]
    exact decide_eq_true rfl
  show (match pd S 64 (La w), pd S 64 (.ref n) with
    | some p, some (.list qs) => if shp p ∧ shp (.list qs) then some (qs.any fun z => PyData.eqv z p) else none
    | _, _ => none).map (!·) = _
  rw [e1, e2]
  show (if shp (laP w) ∧ shp (.list (L.map laP)) then some ((L.map laP).any fun z => PyData.eqv z (laP w)) else none).map (!·) = _
  rw [if_pos ⟨shp_La w, sL⟩]
  have : ((L.map laP).any fun z => PyData.eqv z (laP w)) = true := List.any_eq_true.mpr ⟨laP w, List.mem_map.mpr ⟨w, h, rfl⟩, q⟩
  rw [this]
  rfl
theorem Drw.keep {S S' : Sto} {h : Nat} (d : Drw S h) (k : S'[h]? = S[h]?) : Drw S' h := by
  obtain ⟨g, s, n, e, r⟩ := d
  exact ⟨g, s, n, by rw [k]; exact e, r⟩
theorem k03_ok {ns : List Int} (hl : ns.length ≤ 63) : ∃ S', F_k03 [.ref 0] [.rdl (iD ns)] = some (.bl true, S') := by
  obtain ⟨g, s, hg, hs0, hs1, e0⟩ := start_ok (S := [.rdl (iD ns)]) (n := 0) (ns := ns) rfl hl
  have D0 : Drw ([.rdl (iD ns)] ++ [.lst [.int g, .int s, .int 0]]) 1 := ⟨g, s, 0, rfl, hg, hs0, hs1, by decide⟩
  generalize hS : ([.rdl (iD ns)] ++ [.lst [.int g, .int s, .int 0]] : Sto) = S at D0 e0
  have el : ([Ob.rdl (iD ns)] : Sto).length = 1 := rfl
  rw [el] at e0
  have lt0 := D0.lt
  have dT := D0.app (t := [.lst shapesD])
  have aT : (S ++ [Ob.lst shapesD])[S.length]? = some (.lst shapesD) := at_last
  obtain ⟨i, o1, y, hy, e1, d1⟩ := pick_ok dT aT (by omega) (by decide) (by decide)
  obtain ⟨k, m, t, rfl, k0, k1, m1, t0, t1, hp, hq, hsm, hN, hE⟩ := shape_of hy
  generalize hST : S ++ [Ob.lst shapesD] = ST at e1 d1 dT aT
  generalize hS1 : ST.set 1 o1 = S1 at e1 d1
  have ll := lassoL_len (k := k) (m := m) t
  obtain ⟨f, S2, hf, e2, at2, keep2⟩ := lassos_ok (S := S1) (k := k) (m := m) (t := t) k0 (by omega) (by omega) (by omega) hp hq (by omega)
  have d2 : Drw S2 1 := d1.keep (keep2 1 d1.lt)
  have f1 : f ≠ 1 := by have := d1.lt; omega
  have e3 := due_ok (S := S2) (k := k) (m := m) (t := t) k0 (by omega) (by omega) (by omega) hsm
  have hlen : (((lassoL k m t).map fun l => La l).length : Int) = dueI k m t := by
    rw [List.length_map, ll, Int.natCast_mul, hE, firsts_eq k0]
    rfl
  have it2 := items_lst at2
  have mem := fun x (hx : x ∈ lassoL k m t) => lassoL_mem hx
  have ord := lassoL_ord (k := k) (m := m) (t := t)
  have isin := fun x h0 h1 h2 h3 h4 h5 => lassoL_in (k := k) (m := m) (t := t) (x := x) h0 h1 h2 h3 h4 h5
  have small9 : (lassoL k m t).length ≤ 900000 := by omega
  generalize lassoL k m t = L at at2 it2 hlen mem ord isin small9
  -- each of them
  obtain ⟨e', S', hfor, rfl, a7, rfl⟩ := for_inv (b := bodyF (.nm 7) (exec T03 ir_k03_b1)) (ok := fun S' => itemsAt S' f = some (L.map fun l => La l)) (fun i e S' => S' = S2 ∧ ∃ a7, e = [some (.ref 0), some (.ref 1), some (.ref S.length), some (.int k), some (.int m), some (.int t), some (.ref f), a7, none, none, none, none]) (ds := L.map fun l => La l) (k := 0)
    (e := [some (.ref 0), some (.ref 1), some (.ref S.length), some (.int k), some (.int m), some (.int t), some (.ref f), none, none, none, none, none]) (S := S2)
    (fun i d e S' hd ⟨hS, a7, he⟩ => by
      subst hS he
      rw [List.getElem?_map] at hd
      obtain ⟨x, hx, rfl⟩ := Option.map_eq_some_iff.mp hd
      obtain ⟨h0, h1, h2, h3, h4, h5⟩ := mem x (List.mem_of_getElem? hx)
      have xn : x.2 ≠ [] := List.length_pos_iff.mp h0
      have i1 := isl_ok (S := S') (l := x) (k := k) xn h4 h2 (by unfold LIM; omega)
      have c1 : ¬ ((m : Int) < ((iD x.1).length : Int)) := by rw [W_len]; omega
      have c2 : ¬ ((t : Int) < ((iD x.2).length : Int)) := by rw [W_len]; omega
      have z := least_ok (S := S') (l := x) xn (by omega) (by omega)
      rw [h5] at z
      have q : eqD S' (La x) (La x) = some true := q_La.trans (by rw [decide_eq_true rfl])
      refine ⟨it2, [some (.ref 0), some (.ref 1), some (.ref S.length), some (.int k), some (.int m), some (.int t), some (.ref f), some (La x), none, none, none, none], _, ?_, rfl, _, rfl⟩
      unfold bodyF ir_k03_b1
      simp only [x_nil, x_cons, x_set, x_setp, x_ret, x_par, x_expr, x_setI, x_aug, x_ite, x_for, x_whl, x_brk, x_cnt, x_pass, x_retN, seq_nx, seq_ret, seq_brk, seq_cnt, seq_none, seq_bnd, seq_if, v_var, v_int, v_bl, v_non, v_str, v_bin, v_neg, v_cmp, v_chn, v_boo, v_not, v_ite, v_tup0, v_tup1, v_tup2, v_idx, v_slc, v_call, v_bi, v_isi, v_lst, v_tupL, v_nilL, v_app, v_ext, a_nil, a_cons, a_disp1, a_disp2, a_disp3, a_comp, o_nil, o_var, o_int, o_neg, o_bin, o_bi, vb_one, vb_more, tb_one, tb_more, t_nil, t_boo, t_not, t_cmp, t_chn, t_call, t_isi, t_nilL, t_var, i_seq, i_rng1, i_rng2, i_enm, b_add, b_sub, b_mul, b_fdiv, b_mod, b_pow, b_cat, b_rep, c_lt, c_le, c_gt, c_ge, c_eq, c_ne, c_isn, q_int, len_tup, len_ref, k_min, k_max, k_int, k_tup, k_tupr, k_lst, ix_tup, ix_ref, sl_tup, end_ret, end_nx, end_if, end_none, bnd_grd, bnd_bnd, bnd_match, bnd_some, bnd_none, getv, setv, setvs, wipev, asg, Option.map_some, Option.map_none, List.length_cons, List.length_nil, List.getElem?_cons_zero, List.getElem?_cons_succ, if_true, truD, decide_eq_true_eq, List.replicate, List.map_cons, List.map_nil, List.cons_append, List.nil_append, ite_true, ite_false, if_false, decide_true, decide_false, and_self, true_and, and_true, true_or, or_true, or_self, reduceCtorEq, Bool.false_eq_true, Bool.true_eq_false, Bool.not_true, Bool.not_false, false_and, and_false, false_or, or_false, gc_same, Int.sub_zero, Int.toNat_natCast, Int.reduceToNat, okS, rngD, T03_4, T03_5, i1, at2_0, at2_1, c1, c2, z, q])
    (fun e S' ⟨hS, _⟩ => by
      subst hS
      exact it2) ⟨rfl, none, rfl⟩
  -- each two of them
  have lim1 : lim62 1 := lim_ok (by decide)
  have limn : lim62 (((L.map fun l => La l).length : Nat) : Int) := lim_ok (by rw [List.length_map]; omega)
  have hc : compD (turnF [8] (.nm 8) (sem T03 ir_k03_e2).t (sem T03 (.var 8)).v [some (.ref 0), some (.ref 1), some (.ref S.length), some (.int k), some (.int m), some (.int t), some (.ref f), a7, none, none, none, none]) (fun _ => True) (rng 1 ((((L.map fun l => La l).length : Nat) : Int) - 1).toNat) [] S' = some ([], S') := by
    refine comp_none trivial fun d hd => ?_
    obtain ⟨j, hj⟩ := List.mem_iff_getElem?.mp hd
    obtain ⟨hj2, rfl⟩ := rng_get hj
    rw [List.length_map] at hj2
    have j1 : j < L.length := by omega
    have j2 : j + 1 < L.length := by omega
    have b1 : atI (L.map fun l => La l) (1 + (j : Int) - 1) = some (La L[j]) := by
      rw [show (1 + (j : Int) - 1) = (j : Int) by omega, at_pos (by omega), Int.toNat_natCast, List.getElem?_map, List.getElem?_eq_getElem j1]
      rfl
    have b2 : atI (L.map fun l => La l) (1 + (j : Int)) = some (La L[j + 1]) := by
      rw [show (1 + (j : Int)) = ((j + 1 : Nat) : Int) by omega, at_pos (by omega), Int.toNat_natCast, List.getElem?_map, List.getElem?_eq_getElem j2]
      rfl
    have lt := List.pairwise_iff_getElem.mp ord j (j + 1) j1 j2 (by omega)
    have ge := ge_key (S := S') lt
    have g1 := key_ok (S := S') (l := L[j])
    have g2 := key_ok (S := S') (l := L[j + 1])
    generalize L[j] = x at b1 ge g1 lt
    generalize L[j + 1] = x' at b2 ge g2 lt
    unfold turnF ir_k03_e2
    simp only [x_nil, x_cons, x_set, x_setp, x_ret, x_par, x_expr, x_setI, x_aug, x_ite, x_for, x_whl, x_brk, x_cnt, x_pass, x_retN, seq_nx, seq_ret, seq_brk, seq_cnt, seq_none, seq_bnd, seq_if, v_var, v_int, v_bl, v_non, v_str, v_bin, v_neg, v_cmp, v_chn, v_boo, v_not, v_ite, v_tup0, v_tup1, v_tup2, v_idx, v_slc, v_call, v_bi, v_isi, v_lst, v_tupL, v_nilL, v_app, v_ext, a_nil, a_cons, a_disp1, a_disp2, a_disp3, a_comp, o_nil, o_var, o_int, o_neg, o_bin, o_bi, vb_one, vb_more, tb_one, tb_more, t_nil, t_boo, t_not, t_cmp, t_chn, t_call, t_isi, t_nilL, t_var, i_seq, i_rng1, i_rng2, i_enm, b_add, b_sub, b_mul, b_fdiv, b_mod, b_pow, b_cat, b_rep, c_lt, c_le, c_gt, c_ge, c_eq, c_ne, c_isn, q_int, len_tup, len_ref, k_min, k_max, k_int, k_tup, k_tupr, k_lst, ix_tup, ix_ref, sl_tup, end_ret, end_nx, end_if, end_none, bnd_grd, bnd_bnd, bnd_match, bnd_some, bnd_none, getv, setv, setvs, wipev, asg, Option.map_some, Option.map_none, List.length_cons, List.length_nil, List.getElem?_cons_zero, List.getElem?_cons_succ, if_true, truD, decide_eq_true_eq, List.replicate, List.map_cons, List.map_nil, List.cons_append, List.nil_append, ite_true, ite_false, if_false, decide_true, decide_false, and_self, true_and, and_true, true_or, or_true, or_self, reduceCtorEq, Bool.false_eq_true, Bool.true_eq_false, Bool.not_true, Bool.not_false, false_and, and_false, false_or, or_false, gc_same, Int.sub_zero, Int.toNat_natCast, Int.reduceToNat, okS, rngD, T03_6, it2, b1, b2, g1, g2, ge]
  -- the wanted one
  obtain ⟨x3, o3, x30, x31, e4, d3⟩ := take_ok d2 (m := (m : Int) + 1) (by omega) (by omega)
  obtain ⟨w1, o4, w1l, w1b, e5, d4⟩ := word_ok d3 (k := k) (n := x3) (by omega) (by omega) (by omega) (by omega)
  rw [set_set'] at e5 d4
  obtain ⟨x5, o5, x50, x51, e6, d5⟩ := take_ok d4 (m := (t : Int)) (by omega) (by omega)
  rw [set_set'] at e6 d5
  obtain ⟨w2, o6, w2l, w2b, e7, d6⟩ := word_ok d5 (k := k) (n := 1 + x5) (by omega) (by omega) (by omega) (by omega)
  rw [set_set'] at e7 d6
  have wn : w2 ≠ [] := fun z => by rw [z] at w2l; simp at w2l; omega
  have e8 : F_least [.tup [W w1, W w2]] (S'.set 1 o6) = some (La (lleast (w1, w2)), S'.set 1 o6) := least_ok (l := (w1, w2)) wn (by simp only; omega) (by simp only; omega)
  obtain ⟨r1, r2, r3, r4⟩ := lleast_red (l := (w1, w2)) wn
  obtain ⟨rb1, rb2⟩ := lleast_below (k := k) (l := (w1, w2)) wn w1b w2b
  have rid : lleast (lleast (w1, w2)) = lleast (w1, w2) := (lleast_same r2.ne wn).mpr r1
  have win : lleast (w1, w2) ∈ L := isin _ (List.length_pos_iff.mpr r2.ne) (by simp only at r4; omega) rb2 (by simp only at r3; omega) rb1 rid
  have it6 : itemsAt (S'.set 1 o6) f = some (L.map fun l => La l) := items_lst (by rw [List.getElem?_set_ne (Ne.symm f1)]; exact at2)
  have nin := nin_las it6 win
  generalize lleast (w1, w2) = w at e8 nin
  -- the words
  generalize hS6 : S'.set 1 o6 = S6 at e7 e8 d6 nin it6
  have lt6 := d6.lt
  have dZ := d6.app (t := [.lst sizesD])
  have aZ : (S6 ++ [Ob.lst sizesD])[S6.length]? = some (.lst sizesD) := at_last
  obtain ⟨i2, o7, y2, hy2, e9, d7⟩ := pick_ok dZ aZ (by omega) (by decide) (by decide)
  obtain ⟨k2, n2, rfl, k20, k21, n21, hp2⟩ := size_of hy2
  generalize hSZ : S6 ++ [Ob.lst sizesD] = SZ at e9 d7 dZ aZ
  generalize hS7 : SZ.set 1 o7 = S7 at e9 d7
  obtain ⟨a, u1, ha, e10, ia⟩ := words_ok (S := S7) (k := k2) (n := n2) k20 k21 n21 hp2
  obtain ⟨b, u2, hb, e11, ib⟩ := lwords_ok (S := S7 ++ u1) (k := k2) (n := n2) k20 k21 n21 hp2
  have an : a < (S7 ++ u1).length := by
    unfold itemsAt at ia
    cases e : (S7 ++ u1)[a]? with
    | none => rw [e] at ia; cases ia
    | some o => exact (List.getElem?_eq_some_iff.mp e).1
  have ia2 : itemsAt (S7 ++ u1 ++ u2) a = some ((wordsL k2 n2).map W) := Ext.app.items (f := (S7 ++ u1).length) (by omega) ia
  have sm : F_same 3 [.ref a, .ref b] (S7 ++ u1 ++ u2) = some (.bl true, S7 ++ u1 ++ u2) := same_items (n := 2) (xs := (wordsL k2 n2).map W) (t := .list) ia2 ib (fun _ => i_ref ia2) (fun _ => i_ref ib) (.inl rfl) (by rw [List.length_map, wordsL_len]; exact hp2) fun x hx => by
    obtain ⟨v, hv, rfl⟩ := List.mem_map.mp hx
    exact same_W (n := 0) (by rw [(wordsL_size hv).1]; omega)
  have fin : ∀ {S' : Sto}, ∃ S'', gcD ([.rdl (iD ns)] : Sto) (.bl true) S' = (.bl true, S'') := by
    intro S'
    unfold gcD
    split
    · exact ⟨_, rfl⟩
    · exact ⟨_, rfl⟩
  obtain ⟨S'', ef⟩ := fin (S' := S7 ++ u1 ++ u2)
  rw [hlen] at limn hc
  refine ⟨S'', ?_⟩
  unfold F_k03 fnD ir_k03
  simp only [x_nil, x_cons, x_set, x_setp, x_ret, x_par, x_expr, x_setI, x_aug, x_ite, x_for, x_whl, x_brk, x_cnt, x_pass, x_retN, seq_nx, seq_ret, seq_brk, seq_cnt, seq_none, seq_bnd, seq_if, v_var, v_int, v_bl, v_non, v_str, v_bin, v_neg, v_cmp, v_chn, v_boo, v_not, v_ite, v_tup0, v_tup1, v_tup2, v_idx, v_slc, v_call, v_bi, v_isi, v_lst, v_tupL, v_nilL, v_app, v_ext, a_nil, a_cons, a_disp1, a_disp2, a_disp3, a_comp, o_nil, o_var, o_int, o_neg, o_bin, o_bi, vb_one, vb_more, tb_one, tb_more, t_nil, t_boo, t_not, t_cmp, t_chn, t_call, t_isi, t_nilL, t_var, i_seq, i_rng1, i_rng2, i_enm, b_add, b_sub, b_mul, b_fdiv, b_mod, b_pow, b_cat, b_rep, c_lt, c_le, c_gt, c_ge, c_eq, c_ne, c_isn, q_int, len_tup, len_ref, k_min, k_max, k_int, k_tup, k_tupr, k_lst, ix_tup, ix_ref, sl_tup, end_ret, end_nx, end_if, end_none, bnd_grd, bnd_bnd, bnd_match, bnd_some, bnd_none, getv, setv, setvs, wipev, asg, Option.map_some, Option.map_none, List.length_cons, List.length_nil, List.getElem?_cons_zero, List.getElem?_cons_succ, if_true, truD, decide_eq_true_eq, List.replicate, List.map_cons, List.map_nil, List.cons_append, List.nil_append, ite_true, ite_false, if_false, decide_true, decide_false, and_self, true_and, and_true, true_or, or_true, or_self, reduceCtorEq, Bool.false_eq_true, Bool.true_eq_false, Bool.not_true, Bool.not_false, false_and, and_false, false_or, or_false, gc_same, Int.sub_zero, Int.toNat_natCast, Int.reduceToNat, okS, rngD, T03_0, T03_1, T03_2, T03_3, T03_5, T03_7, T03_8, T03_9, T03_10, T03_11, e0, shapes_v, hST, e1, hS1, e2, i_ref it2, show (Ty.list == Ty.list) = true from rfl, it2, e3, hlen, beq_self_eq_true, seqD, hfor, lim1, limn, hc, nil_false, e4, e5, e6, e7, hS6, e8, nin, sizes_v, hSZ, e9, hS7, e10, e11, sm, ef]
end M

/-! M13: tables of callees, put together; the end of a law. -/
namespace M
open PySem PySem.Spec PyProof.Rows L2
section
variable {P : Program} {w : World} {K : PySem.W.Frag} {mg : Str → Option Value} {base : Heap}
/-- a callee -/
def Cal1 (P : Program) (w : World) (K : PySem.W.Frag) (mg : Str → Option Value) (base : Heap) (k : Nat) (x : Str) (F : Fn) : Prop :=
  ∃ f fd ps, mg x = some (.ref f) ∧ PySem.W.keepIn K (.ref f) = true ∧ Binds K fd ps [] ∧ FnOk P w K mg base CX0 k f fd ps (spD K F)
theorem tab_nil {k : Nat} {T : List Fn} : Tab P w K mg base k [] T := fun j x F h _ => by cases h
theorem tab_cons {k : Nat} {x : Str} {F : Fn} {cn : List Str} {T : List Fn} (c : Cal1 P w K mg base k x F) (t : Tab P w K mg base k cn T) : Tab P w K mg base k (x :: cn) (F :: T) := fun j y G h1 h2 => by
  cases j with
  | zero =>
    cases h1
    cases h2
    exact c
  | succ j => exact t j y G h1 h2
theorem fnok_none {k : Nat} {f : Addr} {fd : FuncData} {ps : List Str} : FnOk P w K mg base CX0 k f fd ps (spD K fun _ _ => none) := by
  have no : ∀ vs H Q E, ¬ spD K (fun _ _ => none) vs H Q E := fun vs H Q E h => by
    obtain ⟨R, S, ds, d, S', _, _, h, _⟩ := h
    cases h
  exact ⟨fun vs H Q E h => absurd h (no vs H Q E), fun A outer s H args us vs Q E _ _ _ _ h => absurd h (no vs H Q E)⟩
theorem bi_of (h : ∀ x ∈ biAll, mg x = none) : ∀ x ∈ biAll, mg x = none := h
theorem bi_mk (h0 : mg "len" = none) (h1 : mg "min" = none) (h2 : mg "max" = none) (h3 : mg "int" = none) (h4 : mg "list" = none) (h5 : mg "tuple" = none) (h6 : mg "range" = none) (h7 : mg "enumerate" = none) (h8 : mg "isinstance" = none) (h9 : mg "bool" = none) (h10 : mg "str" = none) (h11 : mg "sum" = none) : ∀ x ∈ biAll, mg x = none := fun x hx => by
  simp only [biAll, List.mem_cons, List.not_mem_nil, or_false] at hx
  rcases hx with rfl | rfl | rfl | rfl | rfl | rfl | rfl | rfl | rfl | rfl | rfl | rfl <;> assumption
end
theorem rep_ints {K : PySem.W.Frag} {R : List Addr} {H : Hp} : ∀ ns : List Int, Reps K R H (ns.map V.int) (ns.map D.int)
  | [] => rfl
  | x :: r => ⟨_, _, rfl, rfl, rep_ints r⟩
theorem law_sp {K : PySem.W.Frag} {F : Fn} {n : Nat} (hF : ∀ ns : List Int, ns.length ≤ n → ∃ S', F [.ref 0] [.rdl (ns.map D.int)] = some (.bl true, S')) (H : Hp) (a : Addr) (ns : List Int) (hl : ns.length ≤ n) (hO : Only H) (hS : SqL K H a (ns.map V.int)) :
    spD K F [.ref a] H (fun v _ => v = .bl true) fun _ _ _ => False := by
  obtain ⟨S', e⟩ := hF ns hl
  refine ⟨[a], [.rdl (ns.map D.int)], [.ref 0], .bl true, S', ⟨rfl, ?_, ?_⟩, ⟨_, _, rfl, ⟨a, rfl, rfl⟩, rfl⟩, e, fun R' H' v _ _ r => r⟩
  · intro n m a xs ys h1 h2 h3 h4
    cases n with
    | zero => cases h3
    | succ n => cases h3
  · intro n o h
    cases n with
    | zero =>
      cases h
      refine ⟨a, rfl, ns.map V.int, ?_, rep_ints ns⟩
      rcases hS with h | h
      · left
        rcases hO a with h0 | ⟨o, xs, h0⟩
        · rcases h with h | ⟨o, h⟩
          · rw [h0] at h; cases h
          · rw [h0] at h; cases h
        · rcases h with h | ⟨o', h⟩
          · rw [h0] at h; cases h
          · exact ⟨_, h⟩
      · exact .inr h
    | succ n => cases h
theorem walk {l : PySem.W.OpenLaw} {q : Program} {loose : List Str} {XP : (Str → Option Value) → Heap → Prop} {YP : World → Heap → Prop} {d : DefRec} {K : Params → PySem.W.Frag} {n k : Nat} {F0 : Fn} (hn : l.most = some n) (hn2 : n ≤ sizeLine) (hdf : d.params.defaults = []) (hr : Room k callerA)
    (hF : ∀ ns : List Int, ns.length ≤ n → ∃ S', F0 [.ref 0] [.rdl (ns.map D.int)] = some (.bl true, S'))
    (hY : ∀ (w : World) (h : Heap), YP w h → (K w.params).In h)
    (F : ∀ (w : World) (mg : Str → Option Value) (fa : Addr) (h : Heap), (K w.params).In h → h.Ns mainGlobals mg → mg d.name = some (.ref fa) →
      ∃ fd : FuncData, (∀ (s : Shared) (u : Value), BindsTo s fd ⟨[u], []⟩ [("script", u)]) ∧ ∀ base : Heap, (K w.params).In base → base.Ns mainGlobals mg → FnOk l.prog w (K w.params) mg base CX0 k fa fd ["script"] (spD (K w.params) F0)) :
    PySem.W.WalkO q loose XP YP l.row.toRowW d [] (fun f vs => PySem.call f vs) :=
  L2.walk_of (n := n) (k := k) (x := "script") (CX := fun _ => CX0) (sp := fun w => spD (K w.params) F0) hn hn2 hdf hr hY F (fun w H a ns hl hO hS => law_sp hF H a ns hl hO hS) fun _ _ _ _ _ z => z
end M

namespace M
open PySem PySem.Spec PyProof.Rows L2
def top (i : Nat) : Stmt := PySem.Challenge.pw_lassohold_k03_least_lassos_are_counted.main.body.getD i (.Pass ⟨0, 0, 0, 0⟩)
abbrev s_least_loop : Stmt := top 1
theorem sc_least_loop : FnScope ["loop", "length"] ["loop"] (defScope s_least_loop) := ⟨rfl, rfl, rfl, by decide +kernel, rfl, by decide +kernel, by decide +kernel⟩
theorem ck_least_loop : (cks ["loop", "length"] [] (defScope s_least_loop) ir_least_loop).b (defBody s_least_loop) = true := by decide +kernel
abbrev s_least_lasso : Stmt := top 2
theorem sc_least_lasso : FnScope ["lasso", "beginning", "loop"] ["lasso"] (defScope s_least_lasso) := ⟨rfl, rfl, rfl, by decide +kernel, rfl, by decide +kernel, by decide +kernel⟩
theorem ck_least_lasso : (cks ["lasso", "beginning", "loop"] ["least_loop"] (defScope s_least_lasso) ir_least_lasso).b (defBody s_least_lasso) = true := by decide +kernel
abbrev s_words_of : Stmt := top 3
theorem sc_words_of : FnScope ["letters", "length", "found", "_", "longer", "word", "letter"] ["letters", "length"] (defScope s_words_of) := ⟨rfl, rfl, rfl, by decide +kernel, rfl, by decide +kernel, by decide +kernel⟩
theorem ck_words_of : (cks ["letters", "length", "found", "_", "longer", "word", "letter"] [] (defScope s_words_of) ir_words_of).b (defBody s_words_of) = true := by decide +kernel
abbrev s_lassos_of : Stmt := top 4
theorem sc_lassos_of : FnScope ["letters", "beginning", "loop", "found", "turn", "last", "start", "first"] ["letters", "beginning", "loop"] (defScope s_lassos_of) := ⟨rfl, rfl, rfl, by decide +kernel, rfl, by decide +kernel, by decide +kernel⟩
theorem ck_lassos_of : (cks ["letters", "beginning", "loop", "found", "turn", "last", "start", "first"] ["words_of", "least_lasso"] (defScope s_lassos_of) ir_lassos_of).b (defBody s_lassos_of) = true := by decide +kernel
abbrev s_law_start : Stmt := top 6
theorem sc_law_start : FnScope ["script", "great", "seed", "place", "cell", "turn"] ["script"] (defScope s_law_start) := ⟨rfl, rfl, rfl, by decide +kernel, rfl, by decide +kernel, by decide +kernel⟩
theorem ck_law_start : (cks ["script", "great", "seed", "place", "cell", "turn"] [] (defScope s_law_start) ir_law_start).b (defBody s_law_start) = true := by decide +kernel
abbrev s_law_take : Stmt := top 7
theorem sc_law_take : FnScope ["state", "m", "x", "cell"] ["state", "m"] (defScope s_law_take) := ⟨rfl, rfl, rfl, by decide +kernel, rfl, by decide +kernel, by decide +kernel⟩
theorem ck_law_take : (cks ["state", "m", "x", "cell"] [] (defScope s_law_take) ir_law_take).b (defBody s_law_take) = true := by decide +kernel
abbrev s_law_pick : Stmt := top 8
theorem sc_law_pick : FnScope ["state", "row"] ["state", "row"] (defScope s_law_pick) := ⟨rfl, rfl, rfl, by decide +kernel, rfl, by decide +kernel, by decide +kernel⟩
theorem ck_law_pick : (cks ["state", "row"] ["_law_take"] (defScope s_law_pick) ir_law_pick).b (defBody s_law_pick) = true := by decide +kernel
abbrev s_law_same : Stmt := top 9
theorem sc_law_same : FnScope ["told", "due", "k"] ["told", "due"] (defScope s_law_same) := ⟨rfl, rfl, rfl, by decide +kernel, rfl, by decide +kernel, by decide +kernel⟩
theorem ck_law_same : (cks ["told", "due", "k"] ["_law_same"] (defScope s_law_same) ir_law_same).b (defBody s_law_same) = true := by decide +kernel
abbrev s_law_word : Stmt := top 10
theorem sc_law_word : FnScope ["state", "k", "size", "turn"] ["state", "k", "size"] (defScope s_law_word) := ⟨rfl, rfl, rfl, by decide +kernel, rfl, by decide +kernel, by decide +kernel⟩
theorem ck_law_word : (cks ["state", "k", "size", "turn"] ["_law_take"] (defScope s_law_word) ir_law_word).b (defBody s_law_word) = true := by decide +kernel
abbrev s_law_least : Stmt := top 11
theorem sc_law_least : FnScope ["lasso", "first", "loop", "size", "turn"] ["lasso"] (defScope s_law_least) := ⟨rfl, rfl, rfl, by decide +kernel, rfl, by decide +kernel, by decide +kernel⟩
theorem ck_law_least : (cks ["lasso", "first", "loop", "size", "turn"] [] (defScope s_law_least) ir_law_least).b (defBody s_law_least) = true := by decide +kernel
abbrev s_law_words : Stmt := top 12
theorem sc_law_words : FnScope ["k", "size", "found", "turn", "longer", "word", "letter"] ["k", "size"] (defScope s_law_words) := ⟨rfl, rfl, rfl, by decide +kernel, rfl, by decide +kernel, by decide +kernel⟩
theorem ck_law_words : (cks ["k", "size", "found", "turn", "longer", "word", "letter"] [] (defScope s_law_words) ir_law_words).b (defBody s_law_words) = true := by decide +kernel
abbrev s_law_is_lasso : Stmt := top 13
theorem sc_law_is_lasso : FnScope ["lasso", "k", "letter"] ["lasso", "k"] (defScope s_law_is_lasso) := ⟨rfl, rfl, rfl, by decide +kernel, rfl, by decide +kernel, by decide +kernel⟩
theorem ck_law_is_lasso : (cks ["lasso", "k", "letter"] [] (defScope s_law_is_lasso) ir_law_is_lasso).b (defBody s_law_is_lasso) = true := by decide +kernel
abbrev s_law_power : Stmt := top 14
theorem sc_law_power : FnScope ["k", "size", "found", "turn"] ["k", "size"] (defScope s_law_power) := ⟨rfl, rfl, rfl, by decide +kernel, rfl, by decide +kernel, by decide +kernel⟩
theorem ck_law_power : (cks ["k", "size", "found", "turn"] [] (defScope s_law_power) ir_law_power).b (defBody s_law_power) = true := by decide +kernel
abbrev s_law_due_count : Stmt := top 15
theorem sc_law_due_count : FnScope ["k", "most", "turn", "plain", "size", "part", "firsts"] ["k", "most", "turn"] (defScope s_law_due_count) := ⟨rfl, rfl, rfl, by decide +kernel, rfl, by decide +kernel, by decide +kernel⟩
theorem ck_law_due_count : (cks ["k", "most", "turn", "plain", "size", "part", "firsts"] ["_law_power"] (defScope s_law_due_count) ir_law_due_count).b (defBody s_law_due_count) = true := by decide +kernel
abbrev s_law_key : Stmt := top 16
theorem sc_law_key : FnScope ["lasso"] ["lasso"] (defScope s_law_key) := ⟨rfl, rfl, rfl, by decide +kernel, rfl, by decide +kernel, by decide +kernel⟩
theorem ck_law_key : (cks ["lasso"] [] (defScope s_law_key) ir_law_key).b (defBody s_law_key) = true := by decide +kernel
abbrev s_k03 : Stmt := top 17
theorem sc_k03 : FnScope ["script", "state", "shapes", "k", "most", "turn", "told", "lasso", "at", "wanted", "size", "length"] ["script"] (defScope s_k03) := ⟨rfl, rfl, rfl, by decide +kernel, rfl, by decide +kernel, by decide +kernel⟩
theorem ck_k03 : (cks ["script", "state", "shapes", "k", "most", "turn", "told", "lasso", "at", "wanted", "size", "length"] ["_law_start", "_law_pick", "lassos_of", "_law_due_count", "_law_is_lasso", "_law_least", "_law_key", "_law_word", "_law_take", "_law_same", "words_of", "_law_words"] (defScope s_k03) ir_k03).b (defBody s_k03) = true := by decide +kernel
theorem all_mk {l : PySem.W.OpenLaw} {w : World} {K : PySem.W.Frag} {h : Heap} {mg : Str → Option Value} {fa f0 f1 f2 f3 f4 f5 f6 f7 f8 f9 f10 f11 f12 f13 f14 f15 : Addr} (X : K.In h) (G : h.Ns mainGlobals mg) (hfa : mg "law" = some (.ref fa))
    {od0 an0 od1 an1 od2 an2 od3 an3 od4 an4 od5 an5 od6 an6 od7 an7 od8 an8 od9 an9 od10 an10 od11 an11 od12 an12 od13 an13 od14 an14 od15 an15 : Option Addr} {sl0 sl1 sl2 sl3 sl4 sl5 sl6 sl7 sl8 sl9 sl10 sl11 sl12 sl13 sl14 sl15 : Array (Option Value)} {oc0 kV0 dc0 pm0 cd0 ct0 oc1 kV1 dc1 pm1 cd1 ct1 oc2 kV2 dc2 pm2 cd2 ct2 oc3 kV3 dc3 pm3 cd3 ct3 oc4 kV4 dc4 pm4 cd4 ct4 oc5 kV5 dc5 pm5 cd5 ct5 oc6 kV6 dc6 pm6 cd6 ct6 oc7 kV7 dc7 pm7 cd7 ct7 oc8 kV8 dc8 pm8 cd8 ct8 oc9 kV9 dc9 pm9 cd9 ct9 oc10 kV10 dc10 pm10 cd10 ct10 oc11 kV11 dc11 pm11 cd11 ct11 oc12 kV12 dc12 pm12 cd12 ct12 oc13 kV13 dc13 pm13 cd13 ct13 oc14 kV14 dc14 pm14 cd14 ct14 oc15 kV15 dc15 pm15 cd15 ct15 : Value}
    (a0 : PySem.W.nsIn K mainGlobals "least_loop" = some (some (.ref f0))) (l0 : K.lookup f0 = some ⟨oc0, od0, .func (PySem.W.fnOf "least_loop" "least_loop" (defArgs s_least_loop) (defBody s_least_loop) (defScope s_least_loop) .none kV0 dc0 pm0 an0 cd0 ct0), sl0⟩) (c0 : PySem.W.codeIn K cd0 "least_loop" = true) (k0 : PySem.W.keepIn K (.ref f0) = true)
    (a1 : PySem.W.nsIn K mainGlobals "least_lasso" = some (some (.ref f1))) (l1 : K.lookup f1 = some ⟨oc1, od1, .func (PySem.W.fnOf "least_lasso" "least_lasso" (defArgs s_least_lasso) (defBody s_least_lasso) (defScope s_least_lasso) .none kV1 dc1 pm1 an1 cd1 ct1), sl1⟩) (c1 : PySem.W.codeIn K cd1 "least_lasso" = true) (k1 : PySem.W.keepIn K (.ref f1) = true)
    (a2 : PySem.W.nsIn K mainGlobals "words_of" = some (some (.ref f2))) (l2 : K.lookup f2 = some ⟨oc2, od2, .func (PySem.W.fnOf "words_of" "words_of" (defArgs s_words_of) (defBody s_words_of) (defScope s_words_of) .none kV2 dc2 pm2 an2 cd2 ct2), sl2⟩) (c2 : PySem.W.codeIn K cd2 "words_of" = true) (k2 : PySem.W.keepIn K (.ref f2) = true)
    (a3 : PySem.W.nsIn K mainGlobals "lassos_of" = some (some (.ref f3))) (l3 : K.lookup f3 = some ⟨oc3, od3, .func (PySem.W.fnOf "lassos_of" "lassos_of" (defArgs s_lassos_of) (defBody s_lassos_of) (defScope s_lassos_of) .none kV3 dc3 pm3 an3 cd3 ct3), sl3⟩) (c3 : PySem.W.codeIn K cd3 "lassos_of" = true) (k3 : PySem.W.keepIn K (.ref f3) = true)
    (a4 : PySem.W.nsIn K mainGlobals "_law_start" = some (some (.ref f4))) (l4 : K.lookup f4 = some ⟨oc4, od4, .func (PySem.W.fnOf "_law_start" "_law_start" (defArgs s_law_start) (defBody s_law_start) (defScope s_law_start) .none kV4 dc4 pm4 an4 cd4 ct4), sl4⟩) (c4 : PySem.W.codeIn K cd4 "_law_start" = true) (k4 : PySem.W.keepIn K (.ref f4) = true)
    (a5 : PySem.W.nsIn K mainGlobals "_law_take" = some (some (.ref f5))) (l5 : K.lookup f5 = some ⟨oc5, od5, .func (PySem.W.fnOf "_law_take" "_law_take" (defArgs s_law_take) (defBody s_law_take) (defScope s_law_take) .none kV5 dc5 pm5 an5 cd5 ct5), sl5⟩) (c5 : PySem.W.codeIn K cd5 "_law_take" = true) (k5 : PySem.W.keepIn K (.ref f5) = true)
    (a6 : PySem.W.nsIn K mainGlobals "_law_pick" = some (some (.ref f6))) (l6 : K.lookup f6 = some ⟨oc6, od6, .func (PySem.W.fnOf "_law_pick" "_law_pick" (defArgs s_law_pick) (defBody s_law_pick) (defScope s_law_pick) .none kV6 dc6 pm6 an6 cd6 ct6), sl6⟩) (c6 : PySem.W.codeIn K cd6 "_law_pick" = true) (k6 : PySem.W.keepIn K (.ref f6) = true)
    (a7 : PySem.W.nsIn K mainGlobals "_law_same" = some (some (.ref f7))) (l7 : K.lookup f7 = some ⟨oc7, od7, .func (PySem.W.fnOf "_law_same" "_law_same" (defArgs s_law_same) (defBody s_law_same) (defScope s_law_same) .none kV7 dc7 pm7 an7 cd7 ct7), sl7⟩) (c7 : PySem.W.codeIn K cd7 "_law_same" = true) (k7 : PySem.W.keepIn K (.ref f7) = true)
    (a8 : PySem.W.nsIn K mainGlobals "_law_word" = some (some (.ref f8))) (l8 : K.lookup f8 = some ⟨oc8, od8, .func (PySem.W.fnOf "_law_word" "_law_word" (defArgs s_law_word) (defBody s_law_word) (defScope s_law_word) .none kV8 dc8 pm8 an8 cd8 ct8), sl8⟩) (c8 : PySem.W.codeIn K cd8 "_law_word" = true) (k8 : PySem.W.keepIn K (.ref f8) = true)
    (a9 : PySem.W.nsIn K mainGlobals "_law_least" = some (some (.ref f9))) (l9 : K.lookup f9 = some ⟨oc9, od9, .func (PySem.W.fnOf "_law_least" "_law_least" (defArgs s_law_least) (defBody s_law_least) (defScope s_law_least) .none kV9 dc9 pm9 an9 cd9 ct9), sl9⟩) (c9 : PySem.W.codeIn K cd9 "_law_least" = true) (k9 : PySem.W.keepIn K (.ref f9) = true)
    (a10 : PySem.W.nsIn K mainGlobals "_law_words" = some (some (.ref f10))) (l10 : K.lookup f10 = some ⟨oc10, od10, .func (PySem.W.fnOf "_law_words" "_law_words" (defArgs s_law_words) (defBody s_law_words) (defScope s_law_words) .none kV10 dc10 pm10 an10 cd10 ct10), sl10⟩) (c10 : PySem.W.codeIn K cd10 "_law_words" = true) (k10 : PySem.W.keepIn K (.ref f10) = true)
    (a11 : PySem.W.nsIn K mainGlobals "_law_is_lasso" = some (some (.ref f11))) (l11 : K.lookup f11 = some ⟨oc11, od11, .func (PySem.W.fnOf "_law_is_lasso" "_law_is_lasso" (defArgs s_law_is_lasso) (defBody s_law_is_lasso) (defScope s_law_is_lasso) .none kV11 dc11 pm11 an11 cd11 ct11), sl11⟩) (c11 : PySem.W.codeIn K cd11 "_law_is_lasso" = true) (k11 : PySem.W.keepIn K (.ref f11) = true)
    (a12 : PySem.W.nsIn K mainGlobals "_law_power" = some (some (.ref f12))) (l12 : K.lookup f12 = some ⟨oc12, od12, .func (PySem.W.fnOf "_law_power" "_law_power" (defArgs s_law_power) (defBody s_law_power) (defScope s_law_power) .none kV12 dc12 pm12 an12 cd12 ct12), sl12⟩) (c12 : PySem.W.codeIn K cd12 "_law_power" = true) (k12 : PySem.W.keepIn K (.ref f12) = true)
    (a13 : PySem.W.nsIn K mainGlobals "_law_due_count" = some (some (.ref f13))) (l13 : K.lookup f13 = some ⟨oc13, od13, .func (PySem.W.fnOf "_law_due_count" "_law_due_count" (defArgs s_law_due_count) (defBody s_law_due_count) (defScope s_law_due_count) .none kV13 dc13 pm13 an13 cd13 ct13), sl13⟩) (c13 : PySem.W.codeIn K cd13 "_law_due_count" = true) (k13 : PySem.W.keepIn K (.ref f13) = true)
    (a14 : PySem.W.nsIn K mainGlobals "_law_key" = some (some (.ref f14))) (l14 : K.lookup f14 = some ⟨oc14, od14, .func (PySem.W.fnOf "_law_key" "_law_key" (defArgs s_law_key) (defBody s_law_key) (defScope s_law_key) .none kV14 dc14 pm14 an14 cd14 ct14), sl14⟩) (c14 : PySem.W.codeIn K cd14 "_law_key" = true) (k14 : PySem.W.keepIn K (.ref f14) = true)
    (a15 : PySem.W.nsIn K mainGlobals "law" = some (some (.ref f15))) (l15 : K.lookup f15 = some ⟨oc15, od15, .func (PySem.W.fnOf "law" "law" (defArgs s_k03) (defBody s_k03) (defScope s_k03) .none kV15 dc15 pm15 an15 cd15 ct15), sl15⟩) (c15 : PySem.W.codeIn K cd15 "law" = true) (k15 : PySem.W.keepIn K (.ref f15) = true)
    (z0 : PySem.W.nsIn K mainGlobals "len" = some none) (z1 : PySem.W.nsIn K mainGlobals "min" = some none) (z2 : PySem.W.nsIn K mainGlobals "max" = some none) (z3 : PySem.W.nsIn K mainGlobals "int" = some none) (z4 : PySem.W.nsIn K mainGlobals "list" = some none) (z5 : PySem.W.nsIn K mainGlobals "tuple" = some none) (z6 : PySem.W.nsIn K mainGlobals "range" = some none) (z7 : PySem.W.nsIn K mainGlobals "enumerate" = some none) (z8 : PySem.W.nsIn K mainGlobals "isinstance" = some none) (z9 : PySem.W.nsIn K mainGlobals "bool" = some none) (z10 : PySem.W.nsIn K mainGlobals "str" = some none) (z11 : PySem.W.nsIn K mainGlobals "sum" = some none) :
    ∃ fd : FuncData, (∀ (s : Shared) (v : Value), BindsTo s fd ⟨[v], []⟩ [("script", v)]) ∧ ∀ base : Heap, K.In base → base.Ns mainGlobals mg → FnOk l.prog w K mg base CX0 4 fa fd ["script"] (spD K F_k03) := by
  have e := hfa.symm.trans (PySem.W.mg_of X G a15)
  cases e
  have bi := bi_mk (PySem.W.mg_none_of X G z0) (PySem.W.mg_none_of X G z1) (PySem.W.mg_none_of X G z2) (PySem.W.mg_none_of X G z3) (PySem.W.mg_none_of X G z4) (PySem.W.mg_none_of X G z5) (PySem.W.mg_none_of X G z6) (PySem.W.mg_none_of X G z7) (PySem.W.mg_none_of X G z8) (PySem.W.mg_none_of X G z9) (PySem.W.mg_none_of X G z10) (PySem.W.mg_none_of X G z11)
  have G0 := fun_mk (st := s_least_loop) l0 c0 k0
  have B0 := G0.binds (ps := ["loop"]) fun _ _ _ _ _ _ us hl => match us, hl with | [_], _ => rfl
  have m0 := PySem.W.mg_of X G a0
  have G1 := fun_mk (st := s_least_lasso) l1 c1 k1
  have B1 := G1.binds (ps := ["lasso"]) fun _ _ _ _ _ _ us hl => match us, hl with | [_], _ => rfl
  have m1 := PySem.W.mg_of X G a1
  have G2 := fun_mk (st := s_words_of) l2 c2 k2
  have B2 := G2.binds (ps := ["letters", "length"]) fun _ _ _ _ _ _ us hl => match us, hl with | [_, _], _ => rfl
  have m2 := PySem.W.mg_of X G a2
  have G3 := fun_mk (st := s_lassos_of) l3 c3 k3
  have B3 := G3.binds (ps := ["letters", "beginning", "loop"]) fun _ _ _ _ _ _ us hl => match us, hl with | [_, _, _], _ => rfl
  have m3 := PySem.W.mg_of X G a3
  have G4 := fun_mk (st := s_law_start) l4 c4 k4
  have B4 := G4.binds (ps := ["script"]) fun _ _ _ _ _ _ us hl => match us, hl with | [_], _ => rfl
  have m4 := PySem.W.mg_of X G a4
  have G5 := fun_mk (st := s_law_take) l5 c5 k5
  have B5 := G5.binds (ps := ["state", "m"]) fun _ _ _ _ _ _ us hl => match us, hl with | [_, _], _ => rfl
  have m5 := PySem.W.mg_of X G a5
  have G6 := fun_mk (st := s_law_pick) l6 c6 k6
  have B6 := G6.binds (ps := ["state", "row"]) fun _ _ _ _ _ _ us hl => match us, hl with | [_, _], _ => rfl
  have m6 := PySem.W.mg_of X G a6
  have G7 := fun_mk (st := s_law_same) l7 c7 k7
  have B7 := G7.binds (ps := ["told", "due"]) fun _ _ _ _ _ _ us hl => match us, hl with | [_, _], _ => rfl
  have m7 := PySem.W.mg_of X G a7
  have G8 := fun_mk (st := s_law_word) l8 c8 k8
  have B8 := G8.binds (ps := ["state", "k", "size"]) fun _ _ _ _ _ _ us hl => match us, hl with | [_, _, _], _ => rfl
  have m8 := PySem.W.mg_of X G a8
  have G9 := fun_mk (st := s_law_least) l9 c9 k9
  have B9 := G9.binds (ps := ["lasso"]) fun _ _ _ _ _ _ us hl => match us, hl with | [_], _ => rfl
  have m9 := PySem.W.mg_of X G a9
  have G10 := fun_mk (st := s_law_words) l10 c10 k10
  have B10 := G10.binds (ps := ["k", "size"]) fun _ _ _ _ _ _ us hl => match us, hl with | [_, _], _ => rfl
  have m10 := PySem.W.mg_of X G a10
  have G11 := fun_mk (st := s_law_is_lasso) l11 c11 k11
  have B11 := G11.binds (ps := ["lasso", "k"]) fun _ _ _ _ _ _ us hl => match us, hl with | [_, _], _ => rfl
  have m11 := PySem.W.mg_of X G a11
  have G12 := fun_mk (st := s_law_power) l12 c12 k12
  have B12 := G12.binds (ps := ["k", "size"]) fun _ _ _ _ _ _ us hl => match us, hl with | [_, _], _ => rfl
  have m12 := PySem.W.mg_of X G a12
  have G13 := fun_mk (st := s_law_due_count) l13 c13 k13
  have B13 := G13.binds (ps := ["k", "most", "turn"]) fun _ _ _ _ _ _ us hl => match us, hl with | [_, _, _], _ => rfl
  have m13 := PySem.W.mg_of X G a13
  have G14 := fun_mk (st := s_law_key) l14 c14 k14
  have B14 := G14.binds (ps := ["lasso"]) fun _ _ _ _ _ _ us hl => match us, hl with | [_], _ => rfl
  have m14 := PySem.W.mg_of X G a14
  have G15 := fun_mk (st := s_k03) l15 c15 k15
  have B15 := G15.binds (ps := ["script"]) fun _ _ _ _ _ _ us hl => match us, hl with | [_], _ => rfl
  have m15 := PySem.W.mg_of X G a15
  refine ⟨PySem.W.fnOf "law" "law" (defArgs s_k03) (defBody s_k03) (defScope s_k03) .none kV15 dc15 pm15 an15 cd15 ct15, fun s v => .of_eq rfl, fun base _ _ => ?_⟩
  have C0 : FnOk l.prog w K mg base CX0 1 f0 (PySem.W.fnOf "least_loop" "least_loop" (defArgs s_least_loop) (defBody s_least_loop) (defScope s_least_loop) .none kV0 dc0 pm0 an0 cd0 ct0) ["loop"] (spD K F_lloop) := def_ok G0 sc_least_loop ck_least_loop (by decide) bi tab_nil
  have C1 : FnOk l.prog w K mg base CX0 2 f1 (PySem.W.fnOf "least_lasso" "least_lasso" (defArgs s_least_lasso) (defBody s_least_lasso) (defScope s_least_lasso) .none kV1 dc1 pm1 an1 cd1 ct1) ["lasso"] (spD K F_lleast) := def_ok G1 sc_least_lasso ck_least_lasso (by decide) bi (tab_cons ⟨_, _, _, m0, G0.kp, B0, C0.mono (by decide)⟩ tab_nil)
  have C2 : FnOk l.prog w K mg base CX0 1 f2 (PySem.W.fnOf "words_of" "words_of" (defArgs s_words_of) (defBody s_words_of) (defScope s_words_of) .none kV2 dc2 pm2 an2 cd2 ct2) ["letters", "length"] (spD K F_words) := def_ok G2 sc_words_of ck_words_of (by decide) bi tab_nil
  have C3 : FnOk l.prog w K mg base CX0 3 f3 (PySem.W.fnOf "lassos_of" "lassos_of" (defArgs s_lassos_of) (defBody s_lassos_of) (defScope s_lassos_of) .none kV3 dc3 pm3 an3 cd3 ct3) ["letters", "beginning", "loop"] (spD K F_lassos) := def_ok G3 sc_lassos_of ck_lassos_of (by decide) bi (tab_cons ⟨_, _, _, m2, G2.kp, B2, C2.mono (by decide)⟩ (tab_cons ⟨_, _, _, m1, G1.kp, B1, C1.mono (by decide)⟩ tab_nil))
  have C4 : FnOk l.prog w K mg base CX0 1 f4 (PySem.W.fnOf "_law_start" "_law_start" (defArgs s_law_start) (defBody s_law_start) (defScope s_law_start) .none kV4 dc4 pm4 an4 cd4 ct4) ["script"] (spD K F_start) := def_ok G4 sc_law_start ck_law_start (by decide) bi tab_nil
  have C5 : FnOk l.prog w K mg base CX0 1 f5 (PySem.W.fnOf "_law_take" "_law_take" (defArgs s_law_take) (defBody s_law_take) (defScope s_law_take) .none kV5 dc5 pm5 an5 cd5 ct5) ["state", "m"] (spD K F_take) := def_ok G5 sc_law_take ck_law_take (by decide) bi tab_nil
  have C6 : FnOk l.prog w K mg base CX0 2 f6 (PySem.W.fnOf "_law_pick" "_law_pick" (defArgs s_law_pick) (defBody s_law_pick) (defScope s_law_pick) .none kV6 dc6 pm6 an6 cd6 ct6) ["state", "row"] (spD K F_pick) := def_ok G6 sc_law_pick ck_law_pick (by decide) bi (tab_cons ⟨_, _, _, m5, G5.kp, B5, C5.mono (by decide)⟩ tab_nil)
  have C7_0 : FnOk l.prog w K mg base CX0 0 f7 (PySem.W.fnOf "_law_same" "_law_same" (defArgs s_law_same) (defBody s_law_same) (defScope s_law_same) .none kV7 dc7 pm7 an7 cd7 ct7) ["told", "due"] (spD K (F_same 0)) := fnok_none
  have C7_1 : FnOk l.prog w K mg base CX0 1 f7 (PySem.W.fnOf "_law_same" "_law_same" (defArgs s_law_same) (defBody s_law_same) (defScope s_law_same) .none kV7 dc7 pm7 an7 cd7 ct7) ["told", "due"] (spD K (F_same 1)) := def_ok G7 sc_law_same ck_law_same (by decide) bi (tab_cons ⟨_, _, _, m7, G7.kp, B7, C7_0.mono (by decide)⟩ tab_nil)
  have C7_2 : FnOk l.prog w K mg base CX0 2 f7 (PySem.W.fnOf "_law_same" "_law_same" (defArgs s_law_same) (defBody s_law_same) (defScope s_law_same) .none kV7 dc7 pm7 an7 cd7 ct7) ["told", "due"] (spD K (F_same 2)) := def_ok G7 sc_law_same ck_law_same (by decide) bi (tab_cons ⟨_, _, _, m7, G7.kp, B7, C7_1.mono (by decide)⟩ tab_nil)
  have C7_3 : FnOk l.prog w K mg base CX0 3 f7 (PySem.W.fnOf "_law_same" "_law_same" (defArgs s_law_same) (defBody s_law_same) (defScope s_law_same) .none kV7 dc7 pm7 an7 cd7 ct7) ["told", "due"] (spD K (F_same 3)) := def_ok G7 sc_law_same ck_law_same (by decide) bi (tab_cons ⟨_, _, _, m7, G7.kp, B7, C7_2.mono (by decide)⟩ tab_nil)
  have C7 := C7_3
  have C8 : FnOk l.prog w K mg base CX0 2 f8 (PySem.W.fnOf "_law_word" "_law_word" (defArgs s_law_word) (defBody s_law_word) (defScope s_law_word) .none kV8 dc8 pm8 an8 cd8 ct8) ["state", "k", "size"] (spD K F_word) := def_ok G8 sc_law_word ck_law_word (by decide) bi (tab_cons ⟨_, _, _, m5, G5.kp, B5, C5.mono (by decide)⟩ tab_nil)
  have C9 : FnOk l.prog w K mg base CX0 1 f9 (PySem.W.fnOf "_law_least" "_law_least" (defArgs s_law_least) (defBody s_law_least) (defScope s_law_least) .none kV9 dc9 pm9 an9 cd9 ct9) ["lasso"] (spD K F_least) := def_ok G9 sc_law_least ck_law_least (by decide) bi tab_nil
  have C10 : FnOk l.prog w K mg base CX0 1 f10 (PySem.W.fnOf "_law_words" "_law_words" (defArgs s_law_words) (defBody s_law_words) (defScope s_law_words) .none kV10 dc10 pm10 an10 cd10 ct10) ["k", "size"] (spD K F_lwords) := def_ok G10 sc_law_words ck_law_words (by decide) bi tab_nil
  have C11 : FnOk l.prog w K mg base CX0 1 f11 (PySem.W.fnOf "_law_is_lasso" "_law_is_lasso" (defArgs s_law_is_lasso) (defBody s_law_is_lasso) (defScope s_law_is_lasso) .none kV11 dc11 pm11 an11 cd11 ct11) ["lasso", "k"] (spD K F_isl) := def_ok G11 sc_law_is_lasso ck_law_is_lasso (by decide) bi tab_nil
  have C12 : FnOk l.prog w K mg base CX0 1 f12 (PySem.W.fnOf "_law_power" "_law_power" (defArgs s_law_power) (defBody s_law_power) (defScope s_law_power) .none kV12 dc12 pm12 an12 cd12 ct12) ["k", "size"] (spD K F_pow) := def_ok G12 sc_law_power ck_law_power (by decide) bi tab_nil
  have C13 : FnOk l.prog w K mg base CX0 2 f13 (PySem.W.fnOf "_law_due_count" "_law_due_count" (defArgs s_law_due_count) (defBody s_law_due_count) (defScope s_law_due_count) .none kV13 dc13 pm13 an13 cd13 ct13) ["k", "most", "turn"] (spD K F_due) := def_ok G13 sc_law_due_count ck_law_due_count (by decide) bi (tab_cons ⟨_, _, _, m12, G12.kp, B12, C12.mono (by decide)⟩ tab_nil)
  have C14 : FnOk l.prog w K mg base CX0 1 f14 (PySem.W.fnOf "_law_key" "_law_key" (defArgs s_law_key) (defBody s_law_key) (defScope s_law_key) .none kV14 dc14 pm14 an14 cd14 ct14) ["lasso"] (spD K F_key) := def_ok G14 sc_law_key ck_law_key (by decide) bi tab_nil
  have C15 : FnOk l.prog w K mg base CX0 4 fa (PySem.W.fnOf "law" "law" (defArgs s_k03) (defBody s_k03) (defScope s_k03) .none kV15 dc15 pm15 an15 cd15 ct15) ["script"] (spD K F_k03) := def_ok G15 sc_k03 ck_k03 (by decide) bi (tab_cons ⟨_, _, _, m4, G4.kp, B4, C4.mono (by decide)⟩ (tab_cons ⟨_, _, _, m6, G6.kp, B6, C6.mono (by decide)⟩ (tab_cons ⟨_, _, _, m3, G3.kp, B3, C3.mono (by decide)⟩ (tab_cons ⟨_, _, _, m13, G13.kp, B13, C13.mono (by decide)⟩ (tab_cons ⟨_, _, _, m11, G11.kp, B11, C11.mono (by decide)⟩ (tab_cons ⟨_, _, _, m9, G9.kp, B9, C9.mono (by decide)⟩ (tab_cons ⟨_, _, _, m14, G14.kp, B14, C14.mono (by decide)⟩ (tab_cons ⟨_, _, _, m8, G8.kp, B8, C8.mono (by decide)⟩ (tab_cons ⟨_, _, _, m5, G5.kp, B5, C5.mono (by decide)⟩ (tab_cons ⟨_, _, _, m7, G7.kp, B7, C7.mono (by decide)⟩ (tab_cons ⟨_, _, _, m2, G2.kp, B2, C2.mono (by decide)⟩ (tab_cons ⟨_, _, _, m10, G10.kp, B10, C10.mono (by decide)⟩ tab_nil))))))))))))
  exact C15
end M
open PySem PySem.W PyProof.Rows
set_option maxRecDepth 100000 in
set_option maxHeartbeats 0 in
theorem PySem.Challenge.cw_lassohold_k03_least_lassos_are_counted_holds : PySem.Challenge.rw_lassohold_k03_least_lassos_are_counted.Holds := by
  w_on; o_law; k_head; (case hw => w_witness2)
  k_fill
  refine M.walk (l := PySem.Challenge.rw_lassohold_k03_least_lassos_are_counted) (n := 63) (k := 4) (F0 := M.F_k03) rfl (by decide) rfl ⟨rfl, by decide, by decide⟩ (fun ns h => M.k03_ok h) (fun w h Y => PySem.W.kIn_of Y) ?F
  case F =>
    intro w mg fa h KX G hmg
    refine' M.all_mk KX G hmg ?a0 ?l0 ?c0 ?k0 ?a1 ?l1 ?c1 ?k1 ?a2 ?l2 ?c2 ?k2 ?a3 ?l3 ?c3 ?k3 ?a4 ?l4 ?c4 ?k4 ?a5 ?l5 ?c5 ?k5 ?a6 ?l6 ?c6 ?k6 ?a7 ?l7 ?c7 ?k7 ?a8 ?l8 ?c8 ?k8 ?a9 ?l9 ?c9 ?k9 ?a10 ?l10 ?c10 ?k10 ?a11 ?l11 ?c11 ?k11 ?a12 ?l12 ?c12 ?k12 ?a13 ?l13 ?c13 ?k13 ?a14 ?l14 ?c14 ?k14 ?a15 ?l15 ?c15 ?k15 ?z0 ?z1 ?z2 ?z3 ?z4 ?z5 ?z6 ?z7 ?z8 ?z9 ?z10 ?z11
    (case a0 => k_is)
    (case l0 => k_is)
    (case c0 => k_is)
    (case k0 => k_is)
    (case a1 => k_is)
    (case l1 => k_is)
    (case c1 => k_is)
    (case k1 => k_is)
    (case a2 => k_is)
    (case l2 => k_is)
    (case c2 => k_is)
    (case k2 => k_is)
    (case a3 => k_is)
    (case l3 => k_is)
    (case c3 => k_is)
    (case k3 => k_is)
    (case a4 => k_is)
    (case l4 => k_is)
    (case c4 => k_is)
    (case k4 => k_is)
    (case a5 => k_is)
    (case l5 => k_is)
    (case c5 => k_is)
    (case k5 => k_is)
    (case a6 => k_is)
    (case l6 => k_is)
    (case c6 => k_is)
    (case k6 => k_is)
    (case a7 => k_is)
    (case l7 => k_is)
    (case c7 => k_is)
    (case k7 => k_is)
    (case a8 => k_is)
    (case l8 => k_is)
    (case c8 => k_is)
    (case k8 => k_is)
    (case a9 => k_is)
    (case l9 => k_is)
    (case c9 => k_is)
    (case k9 => k_is)
    (case a10 => k_is)
    (case l10 => k_is)
    (case c10 => k_is)
    (case k10 => k_is)
    (case a11 => k_is)
    (case l11 => k_is)
    (case c11 => k_is)
    (case k11 => k_is)
    (case a12 => k_is)
    (case l12 => k_is)
    (case c12 => k_is)
    (case k12 => k_is)
    (case a13 => k_is)
    (case l13 => k_is)
    (case c13 => k_is)
    (case k13 => k_is)
    (case a14 => k_is)
    (case l14 => k_is)
    (case c14 => k_is)
    (case k14 => k_is)
    (case a15 => k_is)
    (case l15 => k_is)
    (case c15 => k_is)
    (case k15 => k_is)
    (case z0 => k_is)
    (case z1 => k_is)
    (case z2 => k_is)
    (case z3 => k_is)
    (case z4 => k_is)
    (case z5 => k_is)
    (case z6 => k_is)
    (case z7 => k_is)
    (case z8 => k_is)
    (case z9 => k_is)
    (case z10 => k_is)
    (case z11 => k_is)

