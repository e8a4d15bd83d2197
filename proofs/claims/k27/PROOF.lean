import PyProof.Rows.All
import Wide.All
import OpenK.AllK
import Wide.FinOn
import PyProof.EqLayable
import PyProof.ReprReads
import KE.SortData
import HandS.Text
import HandS.ForMost
import HandS.Exc
import HandS.TryOnly
import HandS.ExcOwn
import HandS.WordsExc
import HandS.Zip
import HandS.Flow
import HandS.NoneIn
import PyProof.TupleKey
import HandS.DictComp
import HandS.Conv
import KE.KDictKeyed
import KE.SortUse
import HandS.IsInst
import HandS.Style
import HandS.TupAny
import HandS.Dict
import HandS.RaiseMore
import KE.GoesNew
import KE.KDictZip
import KE.KDictItemsList
import HandS.Star
import HandS.ClsMeth
import OpenK.KOps
import KE.KCallOwn
import KE.KFmtOwn
import PyProof.InstNe
import HandS.FStr
import HandS.SortKw
import HandS.Defaults
import HandS.HeadHook1
import HandS.HeadNt
import HandS.Ends
import HandS.Head0
import HandS.Head1
import HandS.Head2
import HandS.HeadHook2
import PyProof.ReprLen
import PySem.Challenge.RW_firstofsome_k27_least_rows
set_option linter.all false
/-! The data level: values, a small syntax without places, its total evaluator. -/
namespace Zd
open PySem
/-- a value as data: lists are values; what is shared and changed is a place of the store (ref) -/
inductive D where
  | non | bl (b : Bool) | int (i : Int) | str (s : List Nat)
  | tup (l : List D) | lst (l : List D)
  | dic (ks vs : List D)
  | obj (c : Nat) (ns : List Nat) (vs : List D)
  | ref (n : Nat)
  | rdc (ks : List (List (Option Int)))
  deriving Inhabited
/-- a row of moments, as data -/
def mD : Option Int → D
  | none => .non
  | some i => .int i
def rwD (r : List (Option Int)) : D := .tup (r.map mD)
def moO : List D → Option (List (Option Int))
  | [] => some []
  | .non :: l => (moO l).map (none :: ·)
  | .int i :: l => (moO l).map (some i :: ·)
  | _ :: _ => none
def rwO : D → Option (List (Option Int))
  | .tup l => moO l
  | _ => none
theorem moO_eq : ∀ {l : List D} {r : List (Option Int)}, moO l = some r → l = r.map mD
  | [], r, h => by simp only [moO, Option.some.injEq] at h; subst h; rfl
  | d :: l, r, h => by
    cases d with
    | non =>
      simp only [moO, Option.map_eq_some_iff] at h
      obtain ⟨a, h1, rfl⟩ := h
      rw [moO_eq h1]; rfl
    | int i =>
      simp only [moO, Option.map_eq_some_iff] at h
      obtain ⟨a, h1, rfl⟩ := h
      rw [moO_eq h1]; rfl
    | _ => simp only [moO] at h; cases h
theorem rwO_eq {d : D} {r : List (Option Int)} (h : rwO d = some r) : d = rwD r := by
  cases d with
  | tup l => exact congrArg D.tup (moO_eq h)
  | _ => simp only [rwO] at h; cases h
theorem moO_map : ∀ r : List (Option Int), moO (r.map mD) = some r
  | [] => rfl
  | none :: r => by simp only [List.map_cons, mD, moO, moO_map r, Option.map_some]
  | some i :: r => by simp only [List.map_cons, mD, moO, moO_map r, Option.map_some]
@[simp] theorem rwO_rwD (r : List (Option Int)) : rwO (rwD r) = some r := moO_map r
/-- a row put into an ordered set of rows -/
def putR (k : List (Option Int)) (ks : List (List (Option Int))) : List (List (Option Int)) := if k ∈ ks then ks else ks ++ [k]
abbrev Store := List D
abbrev Ev := List (Option D)
inductive Res (α : Type) where
  | ok (a : α) (S : Store)
  | exc (e : D) (S : Store)
  | bad
def Res.bind {α β : Type} (r : Res α) (f : α → Store → Res β) : Res β := match r with
  | .ok a S => f a S
  | .exc e S => .exc e S
  | .bad => .bad
@[simp] theorem Res.bind_ok {α β : Type} (a : α) (S : Store) (f : α → Store → Res β) : (Res.ok a S).bind f = f a S := (rfl)
@[simp] theorem Res.bind_exc {α β : Type} (e : D) (S : Store) (f : α → Store → Res β) : (Res.exc e S : Res α).bind f = .exc e S := (rfl)
@[simp] theorem Res.bind_bad {α β : Type} (f : α → Store → Res β) : (Res.bad : Res α).bind f = .bad := (rfl)
/-- an option's value, or bad -/
def lift {α : Type} (o : Option α) (S : Store) : Res α := match o with
  | some a => .ok a S
  | none => .bad
@[simp] theorem lift_some {α : Type} (a : α) (S : Store) : lift (some a) S = .ok a S := (rfl)
@[simp] theorem lift_none {α : Type} (S : Store) : lift (none : Option α) S = .bad := (rfl)
abbrev CF := Nat → List D → Store → Res D
/-- the line that no list, no text passes -/
def line : Nat := 16777216
/-! ### operations on data -/
def D.truth : D → Option Bool
  | .non => some false
  | .bl b => some b
  | .int i => some (i != 0)
  | .str s => some (!s.isEmpty)
  | .tup l => some (!l.isEmpty)
  | .lst l => some (!l.isEmpty)
  | .dic ks _ => some (!ks.isEmpty)
  | _ => none
def D.seq : D → Option (List D)
  | .tup l => some l
  | .lst l => some l
  | _ => none
/-- what is gone through: a sequence, a text's signs -/
def D.its : D → Option (List D)
  | .str s => some (s.map fun c => .str [c])
  | d => d.seq
def D.len : D → Option Nat
  | .str s => some s.length
  | .tup l => some l.length
  | .lst l => some l.length
  | .dic ks _ => some ks.length
  | _ => none
/-- what is read at a place of the store -/
def rd (S : Store) : D → D
  | .ref n => S.getD n .non
  | d => d
mutual
def D.py : D → Option PyData
  | .non => some .none
  | .bl b => some (.bool b)
  | .int i => some (.int i)
  | .str s => some (.str ⟨s.toArray⟩)
  | .tup l => match D.pys l with | some xs => some (.tuple xs) | none => none
  | .lst l => match D.pys l with | some xs => some (.list xs) | none => none
  | _ => none
def D.pys : List D → Option (List PyData)
  | [] => some []
  | d :: l => match D.py d with
    | some x => (match D.pys l with | some xs => some (x :: xs) | none => none)
    | none => none
end
/-- == of plain data (depth at most 64); none where this layer does not say -/
def D.eqP (x y : D) : Option Bool := match x.py, y.py with
  | some a, some b => if SeqAt.shaped a && SeqAt.shaped b then some (PyData.eqv a b) else none
  | _, _ => none
def D.eq : D → D → Option Bool
  | .str a, .str b => some (a == b)
  | .int a, .int b => some (a == b)
  | .bl a, .bl b => some (a == b)
  | x, y => D.eqP x y
/-- a key of a dict -/
def D.isKey : D → Bool
  | .int _ => true
  | .str _ => true
  | _ => false
def D.keyEq : D → D → Bool
  | .int i, .int j => i == j
  | .str x, .str y => x == y
  | _, _ => false
/-- the place of a key -/
def keyAt (k : D) : List D → Option Nat
  | [] => none
  | x :: xs => if x.keyEq k then some 0 else (keyAt k xs).map (· + 1)
def lookD (k : D) : List D → List D → Option D
  | x :: xs, y :: ys => if x.keyEq k then some y else lookD k xs ys
  | _, _ => none
def putK (k : D) (ks : List D) : List D := if (ks.any fun x => x.keyEq k) = true then ks else ks ++ [k]
def putV (k v : D) (ks vs : List D) : List D := if (ks.any fun x => x.keyEq k) = true then List.zipWith (fun x y => if x.keyEq k = true then v else y) ks vs else vs ++ [v]
/-! ### operators -/
inductive BO where | add | sub | mul | fdiv | mod | pow
inductive CO where | eq | ne | lt | le | gt | ge | isN | notN | isB | ntB | inn | nin
def mulOk (i j : Int) : Bool := (decide (-18446744073709551616 < i) && decide (i < 18446744073709551616)) || (decide (-18446744073709551616 < j) && decide (j < 18446744073709551616))
def binD : BO → D → D → Option D
  | .add, .int i, .int j => some (.int (i + j))
  | .add, .str x, .str y => if x.length + y.length ≤ line then some (.str (x ++ y)) else none
  | .add, .lst x, .lst y => if x.length + y.length ≤ line then some (.lst (x ++ y)) else none
  | .add, .tup x, .tup y => if x.length + y.length ≤ line then some (.tup (x ++ y)) else none
  | .sub, .int i, .int j => some (.int (i - j))
  | .mul, .int i, .int j => if mulOk i j then some (.int (i * j)) else none
  | .mul, .lst x, .int k => if k < 1000000 ∧ -1000000 < k ∧ x.length * k.toNat ≤ line then some (.lst (List.replicate k.toNat x).flatten) else none
  | .fdiv, .int i, .int j => if 0 < j ∧ j < 1073741824 then some (.int (i / j)) else none
  | .mod, .int i, .int j => if 0 < j then some (.int (i % j)) else none
  | .pow, .int i, .int j => if 0 ≤ j ∧ j ≤ 1000000 ∧ i.natAbs < 18446744073709551616 then some (.int (i ^ j.toNat)) else none
  | _, _, _ => none
/-- a part of an f-string -/
def fmtT : D → Option (List Nat)
  | .str s => some s
  | .int i => if i.natAbs.log2 < 1920 then some (toString i : Str).cps.toList else none
  | _ => none
def inData (x : D) (l : List D) : Option Bool := match x.py, D.pys l with
  | some p, some ps => if SeqAt.shaped p && SeqAt.shaped (.list ps) then some (ps.any fun y => PyData.eqv y p) else none
  | _, _ => none
def inD : D → D → Option Bool
  | .str [c], .str s => some (decide (c ∈ s))
  | .str _, .str _ => none
  | k, .dic ks _ => if k.isKey then some (keyAt k ks).isSome else none
  | x, .tup l => inData x l
  | x, .lst l => inData x l
  | _, _ => none
def cmpD : CO → D → D → Option Bool
  | .eq, x, y => D.eq x y
  | .ne, x, y => (D.eq x y).map not
  | .lt, .int i, .int j => some (decide (i < j))
  | .le, .int i, .int j => some (decide (i ≤ j))
  | .gt, .int i, .int j => some (decide (j < i))
  | .ge, .int i, .int j => some (decide (j ≤ i))
  | .isN, .non, _ => some true
  | .isN, .bl _, _ | .isN, .int _, _ | .isN, .str _, _ | .isN, .tup _, _ | .isN, .lst _, _ | .isN, .dic _ _, _ | .isN, .obj _ _ _, _ | .isN, .ref _, _ | .isN, .rdc _, _ => some false
  | .notN, .non, _ => some false
  | .notN, .bl _, _ | .notN, .int _, _ | .notN, .str _, _ | .notN, .tup _, _ | .notN, .lst _, _ | .notN, .dic _ _, _ | .notN, .obj _ _ _, _ | .notN, .ref _, _ | .notN, .rdc _, _ => some true
  | .isB, .bl a, .bl b => some (decide (a = b))
  | .ntB, .bl a, .bl b => some (!decide (a = b))
  | .inn, x, y => inD x y
  | .nin, x, y => (inD x y).map not
  | _, _, _ => none
/-! ### places, cuts -/
def ixPlace (n : Nat) (i : Int) : Option Nat := if 0 ≤ i then (if i < n then some i.toNat else none) else if -(n : Int) ≤ i then some (i + n).toNat else none
def ixD : D → D → Option D
  | .tup l, .int i => (ixPlace l.length i).bind fun j => l[j]?
  | .lst l, .int i => (ixPlace l.length i).bind fun j => l[j]?
  | .str s, .int i => ((ixPlace s.length i).bind fun j => s[j]?).map fun c => .str [c]
  | .dic ks vs, k => if k.isKey then lookD k ks vs else none
  | _, _ => none
def cutAt (n d : Nat) : Option Int → Nat
  | none => d
  | some v => if v < 0 then (v + n).toNat else min v.toNat n
def cutL {α : Type} (l : List α) (lo hi : Option Int) : List α := (l.drop (cutAt l.length 0 lo)).take (cutAt l.length l.length hi - cutAt l.length 0 lo)
def sliceD : D → Option Int → Option Int → Option D
  | .lst l, lo, hi => some (.lst (cutL l lo hi))
  | .str s, lo, hi => some (.str (cutL s lo hi))
  | .tup l, lo, hi => some (.tup (cutL l lo hi))
  | _, _, _ => none
def revD : D → Option D
  | .lst l => some (.lst l.reverse)
  | _ => none
/-! ### built-ins -/
inductive BI where | len | all | any | tuple | list | dict | min1 | max1 | min2 | max2 | abs | int | str | repr | sorted
def allBl : List D → Option (List Bool)
  | [] => some []
  | .bl b :: l => (allBl l).map (b :: ·)
  | _ :: _ => none
def allInt : List D → Option (List Int)
  | [] => some []
  | .int b :: l => (allInt l).map (b :: ·)
  | _ :: _ => none
def leastI : List Int → Int
  | [] => 0
  | [x] => x
  | x :: xs => min x (leastI xs)
def mostI : List Int → Int
  | [] => 0
  | [x] => x
  | x :: xs => max x (mostI xs)
/-! ### methods of texts -/
inductive TX where | join | split | part | starts
def toS (a : List Nat) : Str := ⟨a.toArray⟩
def strsD : List D → Option (List (List Nat))
  | [] => some []
  | .str a :: l => (strsD l).map (a :: ·)
  | _ :: _ => none
def ofS (x : Str) : D := .str x.cps.toList
def fitS (x : Str) : Bool := decide (x.length ≤ line)
def txD : TX → List Nat → D → Option D
  | .join, a, y => match y.seq.bind strsD with
    | some ys => if decide ((ys.map (·.length)).sum + ys.length * a.length ≤ 16777216) && fitS (PySem.Txt.join (toS a) (ys.map toS)) then some (ofS (PySem.Txt.join (toS a) (ys.map toS))) else none
    | none => none
  | .split, a, .str b => if !b.isEmpty && decide (a.length + 2 ≤ line) && decide ((PySem.Txt.split (toS a) (toS b)).length ≤ line) && (PySem.Txt.split (toS a) (toS b)).all fitS then some (.lst ((PySem.Txt.split (toS a) (toS b)).map ofS)) else none
  | .part, a, .str b => if !b.isEmpty && decide (a.length ≤ line) && fitS (PySem.Txt.partition (toS a) (toS b)).1 && fitS (PySem.Txt.partition (toS a) (toS b)).2.1 && fitS (PySem.Txt.partition (toS a) (toS b)).2.2 then
      some (.tup [ofS (PySem.Txt.partition (toS a) (toS b)).1, ofS (PySem.Txt.partition (toS a) (toS b)).2.1, ofS (PySem.Txt.partition (toS a) (toS b)).2.2]) else none
  | .starts, a, .str b => some (.bl (PySem.Txt.startswith (toS a) (toS b)))
  | _, _, _ => none
def sortableB (ps : List PyData) : Bool := (ps.all fun d => match d with | .tuple (_ :: _) => true | _ => false) || ps.all fun d => match d with | .none => false | .tuple _ => false | _ => true
/-- merge, mergeSort by fuel: the kernel computes them -/
def mgF {α : Type} (le : α → α → Bool) : Nat → List α → List α → List α
  | 0, _, _ => []
  | n + 1, l, m => match l, m with
    | [], ys => ys
    | xs, [] => xs
    | x :: xs, y :: ys => if le x y = true then x :: mgF le n xs (y :: ys) else y :: mgF le n (x :: xs) ys
theorem mgF_eq {α : Type} (le : α → α → Bool) : ∀ (n : Nat) (l m : List α), l.length + m.length < n → mgF le n l m = List.merge l m le
  | 0, l, m, h => by omega
  | n + 1, [], ys, _ => by simp [mgF]
  | n + 1, x :: xs, [], _ => by simp [mgF]
  | n + 1, x :: xs, y :: ys, h => by
    simp only [List.length_cons] at h
    simp only [mgF, List.cons_merge_cons]
    rw [mgF_eq le n xs (y :: ys) (by simp only [List.length_cons]; omega), mgF_eq le n (x :: xs) ys (by simp only [List.length_cons]; omega)]
def msF {α : Type} (le : α → α → Bool) : Nat → List α → List α
  | 0, l => l
  | n + 1, l => match l with
    | [] => []
    | [a] => [a]
    | a :: b :: xs => mgF le (xs.length + 3) (msF le n ((a :: b :: xs).take ((xs.length + 2 + 1) / 2))) (msF le n ((a :: b :: xs).drop ((xs.length + 2 + 1) / 2)))
theorem msF_eq {α : Type} (le : α → α → Bool) : ∀ (n : Nat) (l : List α), l.length ≤ n → msF le n l = l.mergeSort le
  | 0, l, h => by
    have : l = [] := List.length_eq_zero_iff.mp (Nat.le_zero.mp h)
    subst this
    simp [msF]
  | n + 1, [], _ => by simp [msF]
  | n + 1, [a], _ => by simp [msF]
  | n + 1, a :: b :: xs, h => by
    rw [List.length_cons, List.length_cons] at h
    rw [List.mergeSort]
    simp only [List.MergeSort.Internal.splitInTwo_fst, List.MergeSort.Internal.splitInTwo_snd]
    show mgF le (xs.length + 3) (msF le n ((a :: b :: xs).take ((xs.length + 2 + 1) / 2))) (msF le n ((a :: b :: xs).drop ((xs.length + 2 + 1) / 2))) = _
    rw [msF_eq le n _ (by rw [List.length_take, List.length_cons, List.length_cons]; omega), msF_eq le n _ (by rw [List.length_drop, List.length_cons, List.length_cons]; omega)]
    rw [mgF_eq]
    · rfl
    · rw [List.length_mergeSort, List.length_mergeSort, List.length_take, List.length_drop, List.length_cons, List.length_cons]
      omega
/-- sorted: data that are alike -/
def sortedD (l : List D) : Option (List D) := match D.pys l with
  | some ps => if (ps.all fun d => ps.all fun e => PySem.W.alike d e) && sortableB ps && ps.all (fun d => decide (d.depth ≤ 100)) then some ((msF (PySem.W.dataLe false (·.2)) (l.zip ps).length (l.zip ps)).map (·.1)) else none
  | none => none
theorem sortedD_old (l : List D) : sortedD l = (match D.pys l with
  | some ps => if (ps.all fun d => ps.all fun e => PySem.W.alike d e) && sortableB ps && ps.all (fun d => decide (d.depth ≤ 100)) then some (((l.zip ps).mergeSort (PySem.W.dataLe false (·.2))).map (·.1)) else none
  | none => none) := by
  unfold sortedD
  simp only [msF_eq _ _ _ (Nat.le_refl _)]
/-- things and the data of their keys, sorted by these -/
def srtKD (l ks : List D) : Option (List D) := match D.pys ks with
  | some ps => if (ps.all fun d => ps.all fun e => PySem.W.alike d e) && sortableB ps && ps.all (fun d => decide (d.depth ≤ 100)) then some ((msF (PySem.W.dataLe false (·.2)) (l.zip ps).length (l.zip ps)).map (·.1)) else none
  | none => none
def pairD : D → Option (D × D)
  | .tup [k, v] => if k.isKey then some (k, v) else none
  | _ => none
def pairsD : List D → Option (List (D × D))
  | [] => some []
  | d :: l => match pairD d, pairsD l with
    | some p, some r => some (p :: r)
    | _, _ => none
/-- pairs put into a dict, one by one -/
def mergeD (ps : List (D × D)) (ks vs : List D) : List D × List D := ps.foldl (fun a p => (putK p.1 a.1, putV p.1 p.2 a.1 a.2)) (ks, vs)
def D.isStr : D → Bool
  | .str s => decide (s.length ≤ line)
  | _ => false
def D.flat : D → Bool
  | .non => true | .bl _ => true | .int _ => true | .str _ => true
  | _ => false
/-- data that repr serves: plain data, or a dict of flat values -/
def D.pyR : D → Option PyData
  | .dic ks vs => match D.pys ks, D.pys vs with
    | some a, some b => if vs.all D.flat = true then some (.dict (a.zip b)) else none
    | _, _ => none
  | d => d.py
/-- keys and values by turns: a dict's display -/
def dspD : List D → Option (List (D × D))
  | [] => some []
  | k :: v :: r => if k.isKey = true then (dspD r).map ((k, v) :: ·) else none
  | _ => none
def biD : BI → List D → Option D
  | .len, [x] => x.len.map fun n => .int n
  | .all, [.lst l] => (allBl l).map fun bs => .bl (bs.all id)
  | .any, [.lst l] => (allBl l).map fun bs => .bl (bs.any id)
  | .tuple, [x] => x.seq.map D.tup
  | .list, [x] => x.seq.map D.lst
  | .min1, [.lst l] => (allInt l).bind fun ns => if ns = [] then none else some (.int (leastI ns))
  | .max1, [.lst l] => (allInt l).bind fun ns => if ns = [] then none else some (.int (mostI ns))
  | .min2, [.int i, .int j] => some (.int (if j < i then j else i))
  | .max2, [.int i, .int j] => some (.int (if j > i then j else i))
  | .abs, [.int i] => some (.int (if i < 0 then -i else i))
  | .int, [.int i] => some (.int i)
  | .int, [.str s] => if s.length ≤ 640 then (PySem.intText? (toS s)).map D.int else none
  | .str, [.str s] => some (.str s)
  | .str, [.int i] => if i.natAbs.log2 < 1920 then some (.str (toString i : Str).cps.toList) else none
  | .repr, [x] => match x.pyR with
    | some p => if p.showable && decide (p.shown.length ≤ line) && decide (p.depth ≤ 60) then some (.str p.shown.cps.toList) else none
    | none => none
  | .dict, [.lst l] => (pairsD l).map fun ps => .dic (mergeD ps [] []).1 (mergeD ps [] []).2
  | .sorted, [x] => (x.seq.bind sortedD).map D.lst
  | _, _ => none
end Zd
set_option linter.all false
/-! The syntax without places, and its evaluator. -/
namespace Zd
open PySem
/-- what a thing of class k is compared with -/
def eqOk (k : Nat) : D → Bool
  | .obj d _ _ => d == k
  | .str _ => true
  | .tup _ => true
  | _ => false
/-- targets: one slot, or a tuple of slots -/
inductive Tg where | one (i : Nat) | many (l : List Nat)
mutual
inductive DE where
  | cst (d : D)
  | var (i : Nat)
  | glob (d : D)
  | neg (a : DE)
  | nt (a : DE)
  | bin (o : BO) (a b : DE)
  | cmp (o : CO) (a b : DE)
  | chn (o p : CO) (a b c : DE)
  | and (a b : DE)
  | or (a b : DE)
  | ite (c a b : DE)
  | tup (l : DA)
  | lst (l : DA)
  | tups (l : DL)
  | lsts (l : DL)
  | pl (a : DE)
  | att (a : DE) (n : Nat)
  | ix (a i : DE)
  | slc (a : DE) (lo hi : DO)
  | rev (a : DE)
  | call (f : Nat) (l : DA)
  | mth (c f : Nat) (a : DE) (l : DA)
  | new (c f : Nat) (l : DA)
  | bi (b : BI) (l : DA)
  | isi (a : DE) (cs : List Nat)
  | tx (m : TX) (o a : DE)
  | dz (a b : DE)
  | dsp (l : DA)
  | cmt (k f : Nat) (l : DA)
  | nwc (i k f : Nat) (l : DA)
  | lno (k f : Nat) (a : DE)
  | sto (k f : Nat) (a : DE)
  | oeq (k f : Nat) (ng : Bool) (a b : DE)
  | fst (l : DA)
  | dks (i j : Nat)
  | rnw
  | rls (i : Nat)
  | rcm (e : DE) (t : Tg) (it : DI)
  | srk (f : Nat) (a : DE)
  | lc (e : DE) (t : Tg) (it : DI)
  | lci (e c : DE) (t : Tg) (it : DI)
inductive DA where
  | nil
  | cons (a : DE) (l : DA)
inductive DL where
  | nil
  | one (a : DE) (l : DL)
  | star (a : DE) (l : DL)
inductive DO where
  | none
  | some (a : DE)
inductive DI where
  | seq (a : DE)
  | rng (a : DE)
  | rng2 (a b : DE)
  | zip (a b : DE)
  | enu (a : DE)
  | itm (a : DE)
end
mutual
inductive DS where
  | asg (t : Tg) (e : DE)
  | own (i : Nat) (e : DE)
  | par (i j : Nat) (oi oj : Bool) (a b : DE)
  | ex (e : DE)
  | app (x : Nat) (e : DE)
  | apop (x y : Nat) (e : DE)
  | ext (x : Nat) (e : DE)
  | rup (x : Nat) (e : DE)
  | seti (x : Nat) (k e : DE)
  | rapp (o e : DE)
  | rpop (o : DE)
  | rpopv (x : Nat) (o : DE)
  | rset (o k e : DE)
  | satt (x : Nat) (n : Nat) (e : DE)
  | iff (c : DE) (s u : DB)
  | wh (c : DE) (s : DB)
  | fr (t : Tg) (it : DI) (s : DB)
  | ret (e : DE)
  | retn
  | brk
  | cnt
  | pas
  | never
  | frz (x : Nat)
  | fgt (x : Nat)
inductive DB where
  | nil
  | cons (s : DS) (b : DB)
end
/-! ### what the program's classes are: filled in by tables (per text) -/
structure Tab where
  fld : Nat → Nat → Bool
  sub : Nat → Nat → Option Bool
/-- isinstance, one class: 0 int, 1 bool, 2 str, 3 list, 4 tuple, 100 + c an own one; none where this layer does not say -/
def isType (T : Tab) : Nat → D → Option Bool
  | 0, .int _ => some true
  | 0, .bl _ => some true
  | 1, .bl _ => some true
  | 2, .str _ => some true
  | 3, .lst _ => some true
  | 4, .tup _ => some true
  | n, .obj c _ _ => T.sub c n
  | _, .ref _ => none
  | _, .rdc _ => none
  | _, _ => some false
def isAny (T : Tab) (d : D) : List Nat → Option Bool
  | [] => some false
  | n :: ns => match isType T n d with
    | some true => some true
    | some false => isAny T d ns
    | none => none
def fieldD (n : Nat) : List Nat → List D → Option D
  | k :: ks, v :: vs => if k = n then some v else fieldD n ks vs
  | _, _ => none
def attD (T : Tab) : D → Nat → Option D
  | .obj c ns vs, n => if T.fld c n then fieldD n ns vs else none
  | _, _ => none
def putNs (n : Nat) : List Nat → List Nat
  | [] => [n]
  | k :: ks => if k = n then k :: ks else k :: putNs n ks
def putVs (n : Nat) (v : D) : List Nat → List D → List D
  | k :: ks, y :: ys => if k = n then v :: ys else y :: putVs n v ks ys
  | _, ys => ys ++ [v]
/-- slots stored, from the left -/
def sets {α : Type} (g : List (Option α)) : List Nat → List α → List (Option α)
  | i :: is, x :: xs => sets (g.set i (some x)) is xs
  | _, _ => g
def Tg.slots : Tg → List Nat
  | .one i => [i]
  | .many l => l
def bindT : Tg → D → Ev → Option Ev
  | .one i, x, g => some (g.set i (some x))
  | .many is, .tup l, g => if l.length = is.length then some (sets g is l) else none
  | .many is, .lst l, g => if l.length = is.length then some (sets g is l) else none
  | .many _, _, _ => none
/-- a comprehension's turns -/
def lcGo (f : Ev → Store → Res D) (t : Tg) (g : Ev) : List D → Store → Res (List D)
  | [], S => .ok [] S
  | x :: xs, S => match bindT t x g with
    | none => .bad
    | some g' => match f g' S with
      | .ok y S1 => (match lcGo f t g xs S1 with
        | .ok ys S2 => .ok (y :: ys) S2
        | _ => .bad)
      | _ => .bad
def lciGo (f c : Ev → Store → Res D) (t : Tg) (g : Ev) : List D → Store → Res (List D)
  | [], S => .ok [] S
  | x :: xs, S => match bindT t x g with
    | none => .bad
    | some g' => match c g' S with
      | .ok b S0 => (match (rd S0 b).truth with
        | some true => (match f g' S0 with
          | .ok y S1 => (match lciGo f c t g xs S1 with
            | .ok ys S2 => .ok (y :: ys) S2
            | _ => .bad)
          | _ => .bad)
        | some false => lciGo f c t g xs S0
        | none => .bad)
      | _ => .bad
/-- rows put into an ordered set, turn by turn -/
def rcGo (f : Ev → Store → Res D) (t : Tg) (g : Ev) : List D → List (List (Option Int)) → Store → Res (List (List (Option Int)))
  | [], acc, S => .ok acc S
  | x :: xs, acc, S => match bindT t x g with
    | none => .bad
    | some g' => match f g' S with
      | .ok y S1 => (match rwO y with
        | some k => if acc.length < line then rcGo f t g xs (putR k acc) S1 else .bad
        | none => .bad)
      | _ => .bad
/-- a key for each thing, one by one -/
def keysGo (f : D → Store → Res D) : List D → Store → Res (List D)
  | [], S => .ok [] S
  | x :: xs, S => match f x S with
    | .ok y S1 => (match keysGo f xs S1 with
      | .ok ys S2 => .ok (y :: ys) S2
      | _ => .bad)
    | _ => .bad
/-- the items of a range -/
def rngD (lo : Int) (n : Nat) : List D := (List.range n).map fun (k : Nat) => D.int (lo + (k : Int))
def zipD : List D → List D → List D
  | x :: xs, y :: ys => .tup [x, y] :: zipD xs ys
  | _, _ => []
/-- dict(zip(x, y)) -/
def dzD (x y : D) : Option D := match x.seq, y.seq with
  | some xs, some ys => (pairsD (zipD xs ys)).map fun ps => .dic (mergeD ps [] []).1 (mergeD ps [] []).2
  | _, _ => none
def enuD (k : Nat) : List D → List D
  | [] => []
  | x :: xs => .tup [.int k, x] :: enuD (k + 1) xs
def small62 (i : Int) : Bool := decide (-4611686018427387904 ≤ i) && decide (i < 4611686018427387904)
section
variable (T : Tab) (cf : CF)
mutual
def ev : DE → Ev → Store → Res D
  | .cst d, _, S => .ok d S
  | .var i, g, S => match g[i]? with | some (some d) => .ok d S | _ => .bad
  | .glob d, _, S => .ok d S
  | .neg a, g, S => (ev a g S).bind fun x S => match x with | .int i => .ok (.int (-i)) S | _ => .bad
  | .nt a, g, S => (ev a g S).bind fun x S => lift ((rd S x).truth.map fun b => .bl (!b)) S
  | .bin o a b, g, S => (ev a g S).bind fun x S => (ev b g S).bind fun y S => lift (binD o (rd S x) (rd S y)) S
  | .cmp o a b, g, S => (ev a g S).bind fun x S => (ev b g S).bind fun y S => lift ((cmpD o (rd S x) (rd S y)).map D.bl) S
  | .chn o p a b c, g, S => (ev a g S).bind fun x S => (ev b g S).bind fun y S => match cmpD o (rd S x) (rd S y) with
    | some true => (ev c g S).bind fun z S => lift ((cmpD p (rd S y) (rd S z)).map D.bl) S
    | some false => .ok (.bl false) S
    | none => .bad
  | .and a b, g, S => (ev a g S).bind fun x S => match (rd S x).truth with
    | some true => ev b g S
    | some false => .ok x S
    | none => .bad
  | .or a b, g, S => (ev a g S).bind fun x S => match (rd S x).truth with
    | some true => .ok x S
    | some false => ev b g S
    | none => .bad
  | .ite c a b, g, S => (ev c g S).bind fun x S => match (rd S x).truth with
    | some true => ev a g S
    | some false => ev b g S
    | none => .bad
  | .tup l, g, S => (eva l g S).bind fun xs S => .ok (.tup xs) S
  | .lst l, g, S => (eva l g S).bind fun xs S => .ok (.lst xs) S
  | .tups l, g, S => (evd l g S).bind fun xs S => if xs.length ≤ line then .ok (.tup xs) S else .bad
  | .lsts l, g, S => (evd l g S).bind fun xs S => if xs.length ≤ line then .ok (.lst xs) S else .bad
  | .pl a, g, S => (ev a g S).bind fun x S => .ok (.ref S.length) (S ++ [x])
  | .att a n, g, S => (ev a g S).bind fun x S => lift (attD T (rd S x) n) S
  | .ix a i, g, S => (ev a g S).bind fun x S => (ev i g S).bind fun k S => lift (ixD (rd S x) k) S
  | .slc a lo hi, g, S => (ev a g S).bind fun x S => (evo lo g S).bind fun l S => (evo hi g S).bind fun h S => lift (sliceD (rd S x) l h) S
  | .rev a, g, S => (ev a g S).bind fun x S => lift (revD (rd S x)) S
  | .call f l, g, S => (eva l g S).bind fun xs S => cf f xs S
  | .mth c f a l, g, S => (ev a g S).bind fun x S => match rd S x with
    | .obj k _ _ => if k = c then (eva l g S).bind fun xs S => cf f (x :: xs) S else .bad
    | _ => .bad
  | .new c f l, g, S => (eva l g S).bind fun xs S => cf f (.obj c [] [] :: xs) S
  | .bi b l, g, S => (eva l g S).bind fun xs S => lift (biD b (xs.map (rd S))) S
  | .tx m o a, g, S => (ev o g S).bind fun x S => match rd S x with
    | .str s => (ev a g S).bind fun y S => lift (txD m s (rd S y)) S
    | _ => .bad
  | .dz a b, g, S => (ev a g S).bind fun x S => (ev b g S).bind fun y S => lift (dzD (rd S x) (rd S y)) S
  | .lno k f a, g, S => (ev a g S).bind fun x S => match rd S x with
    | .obj c _ _ => if c = k then (cf f [x] S).bind fun v S => (match v with
      | .int n => if 0 ≤ n ∧ n < 9223372036854775808 then .ok (.int n) S else .bad
      | _ => .bad) else .bad
    | _ => .bad
  | .sto k f a, g, S => (ev a g S).bind fun x S => match rd S x with
    | .obj c _ _ => if c = k then (cf f [x] S).bind fun v S => (match v with
      | .str s => .ok (.str s) S
      | _ => .bad) else .bad
    | _ => .bad
  | .oeq k f ng a b, g, S => (ev a g S).bind fun x S => (ev b g S).bind fun y S => match rd S x with
    | .obj c _ _ => if c = k ∧ eqOk k (rd S y) = true then (cf f [x, y] S).bind fun v S => (match v with
        | .bl r => .ok (.bl (r != ng)) S
        | _ => .bad) else .bad
    | _ => .bad
  | .fst l, g, S => evf l [] g S
  | .dks i j, g, S => (match g[j]? with
    | some (some (.dic ks _)) => if (ks.all D.isStr && decide (i < g.length)) = true then .ok (.lst ks) S else .bad
    | _ => .bad)
  | .rnw, _, S => .ok (.rdc []) S
  | .rls i, g, S => (match g[i]? with
    | some (some (.rdc ks)) => .ok (.lst (ks.map rwD)) S
    | _ => .bad)
  | .rcm e t it, g, S => (evi it g S).bind fun xs S => match rcGo (ev e) t g xs [] S with | .ok ks S => .ok (.rdc ks) S | _ => .bad
  | .srk f a, g, S => (ev a g S).bind fun x S => match rd S x with
    | .lst xs => (match keysGo (fun y S => cf f [y] S) xs S with
      | .ok ks S1 => lift ((srtKD xs ks).map D.lst) S1
      | _ => .bad)
    | _ => .bad
  | .nwc i k f l, g, S => (match g[i]? with
    | some (some _) => (eva l g S).bind fun xs S => cf f (.obj k [] [] :: xs) S
    | _ => .bad)
  | .cmt _ f l, g, S => (eva l g S).bind fun xs S => cf f (.non :: xs) S
  | .dsp l, g, S => (eva l g S).bind fun xs S => lift ((dspD xs).map fun ps => D.dic (mergeD ps [] []).1 (mergeD ps [] []).2) S
  | .isi a cs, g, S => (ev a g S).bind fun x S => lift ((isAny T (rd S x) cs).map D.bl) S
  | .lc e t it, g, S => (evi it g S).bind fun xs S => match lcGo (ev e) t g xs S with | .ok ys S => .ok (.lst ys) S | _ => .bad
  | .lci e c t it, g, S => (evi it g S).bind fun xs S => match lciGo (ev e) (ev c) t g xs S with | .ok ys S => .ok (.lst ys) S | _ => .bad
def evf : DA → List Nat → Ev → Store → Res D
  | .nil, acc, _, S => .ok (.str acc) S
  | .cons a l, acc, g, S => (ev a g S).bind fun x S => match fmtT x with
    | some t => if acc.length + t.length ≤ line then evf l (acc ++ t) g S else .bad
    | none => .bad
def eva : DA → Ev → Store → Res (List D)
  | .nil, _, S => .ok [] S
  | .cons a l, g, S => (ev a g S).bind fun x S => (eva l g S).bind fun xs S => .ok (x :: xs) S
def evd : DL → Ev → Store → Res (List D)
  | .nil, _, S => .ok [] S
  | .one a l, g, S => (ev a g S).bind fun x S => (evd l g S).bind fun xs S => .ok (x :: xs) S
  | .star a l, g, S => (ev a g S).bind fun x S => (lift (rd S x).seq S).bind fun ys S => (evd l g S).bind fun xs S => .ok (ys ++ xs) S
def evo : DO → Ev → Store → Res (Option Int)
  | .none, _, S => .ok none S
  | .some a, g, S => (ev a g S).bind fun x S => match x with | .int i => .ok (some i) S | _ => .bad
def evi : DI → Ev → Store → Res (List D)
  | .seq a, g, S => (ev a g S).bind fun x S => lift x.its S
  | .rng a, g, S => (ev a g S).bind fun x S => match x with
    | .int i => if small62 i && decide (i ≤ 16777216) then .ok (rngD 0 i.toNat) S else .bad
    | _ => .bad
  | .rng2 a b, g, S => (ev a g S).bind fun x S => (ev b g S).bind fun y S => match x, y with
    | .int i, .int j => if small62 i && small62 j && decide (j - i ≤ 16777216) then .ok (rngD i (j - i).toNat) S else .bad
    | _, _ => .bad
  | .zip a b, g, S => (ev a g S).bind fun x S => (ev b g S).bind fun y S => match x.seq, y.seq with
    | some xs, some ys => .ok (zipD xs ys) S
    | _, _ => .bad
  | .enu a, g, S => (ev a g S).bind fun x S => lift (x.seq.map (enuD 0)) S
  | .itm a, g, S => (ev a g S).bind fun x S => match x with
    | .dic ks vs => .ok (zipD ks vs) S
    | _ => .bad
end
inductive SR where
  | nx (g : Ev) (S : Store)
  | rt (d : D) (S : Store)
  | bk (g : Ev) (S : Store)
  | ct (g : Ev) (S : Store)
  | ex (e : D) (g : Ev) (S : Store)
  | bad
/-- on with an expression's value -/
def Res.go (r : Res D) (g : Ev) (f : D → Store → SR) : SR := match r with
  | .ok a S => f a S
  | .exc e S => .ex e g S
  | .bad => .bad
@[simp] theorem Res.go_ok (a : D) (S : Store) (g : Ev) (f : D → Store → SR) : (Res.ok a S).go g f = f a S := (rfl)
@[simp] theorem Res.go_exc (a : D) (S : Store) (g : Ev) (f : D → Store → SR) : (Res.exc a S).go g f = .ex a g S := (rfl)
@[simp] theorem Res.go_bad (g : Ev) (f : D → Store → SR) : (Res.bad : Res D).go g f = .bad := (rfl)
def frGo (f : Ev → Store → SR) (t : Tg) : List D → Ev → Store → SR
  | [], g, S => .nx g S
  | x :: xs, g, S => match bindT t x g with
    | none => .bad
    | some g' => match f g' S with
      | .nx g1 S1 => frGo f t xs g1 S1
      | .ct g1 S1 => frGo f t xs g1 S1
      | .bk g1 S1 => .nx g1 S1
      | r => r
def whGo (c : Ev → Store → Res D) (f : Ev → Store → SR) : Nat → Ev → Store → SR
  | 0, _, _ => .bad
  | n + 1, g, S => match c g S with
    | .ok d S1 => (match (rd S1 d).truth with
      | some true => (match f g S1 with
        | .nx g1 S2 => whGo c f n g1 S2
        | .ct g1 S2 => whGo c f n g1 S2
        | .bk g1 S2 => .nx g1 S2
        | r => r)
      | some false => .nx g S1
      | none => .bad)
    | .exc e S1 => .ex e g S1
    | .bad => .bad
def wfuel : Nat := 1000000
mutual
def exs : DS → Ev → Store → SR
  | .asg t e, g, S => (ev T cf e g S).go g fun x S => match bindT t x g with | some g' => .nx g' S | none => .bad
  | .own i e, g, S => (ev T cf e g S).go g fun x S => .nx (g.set i (some x)) S
  | .par i j _ _ a b, g, S => (ev T cf a g S).go g fun x S => (ev T cf b g S).go g fun y S => .nx ((g.set i (some x)).set j (some y)) S
  | .ex e, g, S => (ev T cf e g S).go g fun _ S => .nx g S
  | .app x e, g, S => match g[x]? with
    | some (some (.lst l)) => (ev T cf e g S).go g fun v S => if l.length < line then .nx (g.set x (some (.lst (l ++ [v])))) S else .bad
    | _ => .bad
  | .apop x y e, g, S => match g[x]?, g[y]? with
    | some (some (.lst l)), some (some (.lst m)) => (ev T cf e g S).go g fun k S => (match k with
      | .int i => (match ixPlace m.length i with
        | some j => (match m[j]? with
          | some v => if l.length < line then .nx ((g.set y (some (.lst (m.eraseIdx j)))).set x (some (.lst (l ++ [v])))) S else .bad
          | none => .bad)
        | none => .bad)
      | _ => .bad)
    | _, _ => .bad
  | .ext x e, g, S => match g[x]? with
    | some (some (.lst l)) => (ev T cf e g S).go g fun v S => (match v with
      | .lst m => if l.length + m.length ≤ line then .nx (g.set x (some (.lst (l ++ m)))) S else .bad
      | _ => .bad)
    | _ => .bad
  | .rup x e, g, S => match g[x]? with
    | some (some (.rdc ks)) => (ev T cf e g S).go g fun v S => (match v with
      | .rdc ms => if (!ks.isEmpty || decide (ms.length ≤ 1)) && decide (ks.length + ms.length ≤ line) then .nx (g.set x (some (.rdc (ms.foldl (fun a k => putR k a) ks)))) S else .bad
      | _ => .bad)
    | _ => .bad
  | .seti x k e, g, S => match g[x]? with
    | some (some (.rdc ks)) => (ev T cf e g S).go g fun v S => (ev T cf k g S).go g fun k S => (match v, rwO k with
      | .bl true, some r => if ks.length < line then .nx (g.set x (some (.rdc (putR r ks)))) S else .bad
      | _, _ => .bad)
    | some (some (.dic ks vs)) => (ev T cf e g S).go g fun v S => (ev T cf k g S).go g fun k S => if k.isKey && decide (ks.length < line) then .nx (g.set x (some (.dic (putK k ks) (putV k v ks vs)))) S else .bad
    | some (some (.lst l)) => (ev T cf e g S).go g fun v S => (ev T cf k g S).go g fun k S => (match k with
      | .int i => (match ixPlace l.length i with
        | some j => .nx (g.set x (some (.lst (l.set j v)))) S
        | none => .bad)
      | _ => .bad)
    | _ => .bad
  | .rapp o e, g, S => (ev T cf o g S).go g fun r S => match r, rd S r with
    | .ref n, .lst _ => (ev T cf e g S).go g fun v S => (match rd S (.ref n) with
      | .lst l => if l.length < line then .nx g (S.set n (.lst (l ++ [v]))) else .bad
      | _ => .bad)
    | _, _ => .bad
  | .rpop o, g, S => (ev T cf o g S).go g fun r S => match r, rd S r with
    | .ref n, .lst l => if l = [] then .bad else .nx g (S.set n (.lst l.dropLast))
    | _, _ => .bad
  | .rpopv x o, g, S => (ev T cf o g S).go g fun r S => match r, rd S r with
    | .ref n, .lst l => (match l.getLast? with
      | some v => .nx (g.set x (some v)) (S.set n (.lst l.dropLast))
      | none => .bad)
    | _, _ => .bad
  | .rset o k e, g, S => (ev T cf e g S).go g fun v S => (ev T cf o g S).go g fun r S => (ev T cf k g S).go g fun k S => match r, rd S r, k with
    | .ref n, .lst l, .int i => (match ixPlace l.length i with
      | some j => .nx g (S.set n (.lst (l.set j v)))
      | none => .bad)
    | _, _, _ => .bad
  | .satt x n e, g, S => match g[x]? with
    | some (some (.obj c ns vs)) => (ev T cf e g S).go g fun v S => if T.fld c n && decide (ns.length < 900) then .nx (g.set x (some (.obj c (putNs n ns) (putVs n v ns vs)))) S else .bad
    | _ => .bad
  | .iff c s u, g, S => (ev T cf c g S).go g fun x S => match (rd S x).truth with
    | some true => exb s g S
    | some false => exb u g S
    | none => .bad
  | .wh c s, g, S => whGo (ev T cf c) (exb s) wfuel g S
  | .fr t it s, g, S => match evi T cf it g S with
    | .ok xs S => frGo (exb s) t xs g S
    | .exc e S => .ex e g S
    | .bad => .bad
  | .ret e, g, S => (ev T cf e g S).go g fun x S => .rt x S
  | .retn, _, S => .rt .non S
  | .brk, g, S => .bk g S
  | .cnt, g, S => .ct g S
  | .pas, g, S => .nx g S
  | .never, _, _ => .bad
  | .frz _, g, S => .nx g S
  | .fgt i, g, S => .nx (g.set i none) S
def exb : DB → Ev → Store → SR
  | .nil, g, S => .nx g S
  | .cons s b, g, S => match exs s g S with
    | .nx g1 S1 => exb b g1 S1
    | r => r
end
end
/-- a def: its parameters, all its slots, its body, the last parameters' defaults -/
structure Fn where
  np : Nat
  nl : Nat
  dflt : List D := []
  ini : Bool := false
  body : DB
def runFn (T : Tab) (cf : CF) (fn : Fn) (xs : List D) (S : Store) : Res D :=
  if xs.length + fn.dflt.length < fn.np ∨ fn.np < xs.length then .bad else
  let ys := xs ++ fn.dflt.drop (fn.dflt.length - (fn.np - xs.length))
  match exb T cf fn.body (ys.map some ++ List.replicate (fn.nl - fn.np) none) S with
  | .nx g S => if fn.ini then (match g[0]? with | some (some d) => .ok d S | _ => .bad) else .ok .non S
  | .rt d S => if fn.ini then .bad else .ok d S
  | .ex e _ S => .exc e S
  | _ => .bad
def callF (T : Tab) (FT : Nat → Option Fn) : Nat → CF
  | 0 => fun _ _ _ => .bad
  | n + 1 => fun f xs S => match FT f with
    | none => .bad
    | some fn => runFn T (callF T FT n) fn xs S
end Zd
set_option Elab.async false
set_option linter.all false
set_option maxRecDepth 100000
set_option maxHeartbeats 1000000
/-! What a value at the data level stands for in the abstract heap. -/
namespace Zd
open PySem PySem.Spec PyProof.Rows L2
/-- what the text's top has laid: the written part, where the classes stand, the fields' names -/
structure Lk where
  K : PySem.W.Frag
  ca : Nat → Addr
  fnm : Nat → Str
/-- what is shared and stays; where the store's places stand; how many they are -/
structure Wd where
  Hs : Hp
  rho : Nat → Addr
  n : Nat
  sf : Option Addr := none
def keyV : D → V
  | .int i => .int i
  | .str s => .str ⟨s.toArray⟩
  | _ => .non
def keyK : D → Option Key
  | .int i => some (.inl i)
  | .str s => some (.inr ⟨s.toArray⟩)
  | _ => none
/-! ### ordered sets of rows: dicts with tuples of ints and None as keys, True as values -/
def moV : Option Int → V
  | none => .non
  | some i => .int i
def rwV (r : List (Option Int)) : List V := r.map moV
def moH : Option Int → Int
  | none => reduceHash 0xFCA86420
  | some i => hashInt i
def rowH (r : List (Option Int)) : Int := reduceHash (Builtin.Tuple.tupleHashOf (r.map moH))
def rowE (e : List (Option Int) × Addr) : DictEntry := ⟨rowH e.1, .ref e.2, .bool true⟩
def RDp (es : List (List (Option Int) × Addr)) (a : Addr) (h : Heap) : Prop := (a == sysModules) = false ∧ ∃ o arr ep, h.get? a = some o ∧ o.ExactDict ∧ o.data = .dict arr ep ∧ arr.toList = es.map rowE
def RD (es : List (List (Option Int) × Addr)) (a : Addr) : HO := .ext (RDp es a)
/-- the keys stand there -/
def KsT (K : PySem.W.Frag) (H : Hp) (es : List (List (Option Int) × Addr)) : Prop := ∀ e ∈ es, SqT K H e.2 (rwV e.1) ∧ e.1.length ≤ line
section
variable (L : Lk) (w : Wd)
mutual
def Rep : D → V → Prop
  | .non, v => v = .non
  | .bl b, v => v = .bl b
  | .int i, v => v = .int i
  | .str s, v => v = .str ⟨s.toArray⟩ ∧ s.length ≤ line
  | .tup l, v => ∃ a vs, v = .ref a ∧ SqT L.K w.Hs a vs ∧ Reps l vs ∧ l.length ≤ line
  | .lst l, v => ∃ a vs, v = .ref a ∧ w.Hs a = some (.lst vs) ∧ Reps l vs ∧ l.length ≤ line
  | .dic ks l, v => ∃ a kvs, v = .ref a ∧ w.Hs a = some (.dK kvs) ∧ ks.map keyK = kvs.map (fun p => some p.1) ∧ Reps l (kvs.map (·.2)) ∧ ks.length ≤ line
  | .obj c ns l, v => ∃ a dx fs, v = .ref a ∧ w.Hs a = some (.ins (L.ca c) dx fs) ∧ fs.map (·.1) = ns.map L.fnm ∧ Reps l (fs.map (·.2))
  | .ref k, v => v = .ref (w.rho k) ∧ k < w.n
  | .rdc ks, v => ∃ (a : Addr) (es : List (List (Option Int) × Addr)), v = .ref a ∧ es.map (·.1) = ks ∧ w.Hs a = some (RD es a) ∧ KsT L.K w.Hs es ∧ ks.Nodup ∧ ks.length ≤ line
def Reps : List D → List V → Prop
  | [], vs => vs = []
  | d :: l, vs => ∃ v r, vs = v :: r ∧ Rep d v ∧ Reps l r
end
/-- what stands at a: a thing that may be changed -/
def Con (H : Hp) : D → Addr → Prop
  | .lst l, a => ∃ vs, H a = some (.lst vs) ∧ Reps L w l vs ∧ l.length ≤ line
  | .dic ks l, a => ∃ kvs, H a = some (.dK kvs) ∧ ks.map keyK = kvs.map (fun p => some p.1) ∧ Reps L w l (kvs.map (·.2)) ∧ ks.length ≤ line
  | .obj c ns l, a => ∃ dx fs, H a = some (.ins (L.ca c) dx fs) ∧ fs.map (·.1) = ns.map L.fnm ∧ Reps L w l (fs.map (·.2))
  | .rdc ks, a => ∃ es : List (List (Option Int) × Addr), es.map (·.1) = ks ∧ H a = some (RD es a) ∧ KsT L.K w.Hs es ∧ ks.Nodup ∧ ks.length ≤ line
  | _, _ => False
/-- a thing of its own, apart from what is shared and from the store -/
def Own (H : Hp) (d : D) (a : Addr) : Prop := w.Hs a = none ∧ Con L w H d a ∧ ∀ k, k < w.n → w.rho k ≠ a
/-- a value, or a thing of its own that is only read -/
def RepT (H : Hp) (d : D) (v : V) : Prop := Rep L w d v ∨ ∃ a, v = .ref a ∧ Own L w H d a
/-- what is read there -/
def RepC (H : Hp) (d : D) (v : V) : Prop := Rep L w d v ∨ ∃ a, v = .ref a ∧ Con L w H d a
structure Core (S : Store) (H : Hp) : Prop where
  sub : ∀ a o, w.Hs a = some o → H a = some o
  len : S.length = w.n
  st : ∀ k d, S[k]? = some d → w.Hs (w.rho k) = none ∧ Con L w H d (w.rho k)
  inj : ∀ k m, k < w.n → m < w.n → w.rho k = w.rho m → k = m
end
structure Le (w : Wd) (H : Hp) (w' : Wd) (H' : Hp) : Prop where
  hs : ∀ a o, w.Hs a = some o → w'.Hs a = some o
  n : w.n ≤ w'.n
  rho : ∀ k, k < w.n → w'.rho k = w.rho k
  keep : ∀ a o, H a = some o → (∀ k, k < w.n → w.rho k ≠ a) → H' a = some o
  there : ∀ a o, H a = some o → ∃ o', H' a = some o'
  out : ∀ a o, H a = some o → w.Hs a = none → w'.Hs a = none
  new : ∀ k, w.n ≤ k → k < w'.n → H (w'.rho k) = none
theorem Le.refl (w : Wd) (H : Hp) : Le w H w H := ⟨fun _ _ h => h, Nat.le_refl _, fun _ _ => rfl, fun _ _ h _ => h, fun _ o h => ⟨o, h⟩, fun _ _ _ h => h, fun k h1 h2 => by omega⟩
theorem Le.trans {w w1 w2 : Wd} {H H1 H2 : Hp} (a : Le w H w1 H1) (b : Le w1 H1 w2 H2) : Le w H w2 H2 where
  hs := fun c o h => b.hs c o (a.hs c o h)
  n := Nat.le_trans a.n b.n
  rho := fun k h => (b.rho k (Nat.lt_of_lt_of_le h a.n)).trans (a.rho k h)
  keep := fun c o h hk => b.keep c o (a.keep c o h hk) fun k hk1 e => by
    by_cases q : k < w.n
    · exact hk k q ((a.rho k q).symm.trans e)
    · have z := a.new k (by omega) hk1
      rw [e, h] at z
      cases z
  there := fun c o h => let ⟨o1, h1⟩ := a.there c o h; b.there c o1 h1
  out := fun c o h hn => let ⟨o1, h1⟩ := a.there c o h; b.out c o1 h1 (a.out c o h hn)
  new := fun k h1 h2 => by
    by_cases q : k < w1.n
    · rw [b.rho k q]
      exact a.new k h1 q
    · have z := b.new k (by omega) h2
      cases e : H (w2.rho k) with
      | none => rfl
      | some o =>
        obtain ⟨o1, e1⟩ := a.there _ o e
        rw [z] at e1
        cases e1
section
variable {L : Lk} {w w' : Wd} {H H' : Hp}
theorem SqT.mono {K : PySem.W.Frag} {Hs Hs' : Hp} {a : Addr} {xs : List V} (h : ∀ a o, Hs a = some o → Hs' a = some o) (q : SqT K Hs a xs) : SqT K Hs' a xs := by
  rcases q with (q | ⟨o, q⟩) | q
  · exact .inl (.inl (h _ _ q))
  · exact .inl (.inr ⟨o, h _ _ q⟩)
  · exact .inr q
theorem KsT.mono {K : PySem.W.Frag} {Hs Hs' : Hp} {es : List (List (Option Int) × Addr)} (h : ∀ a o, Hs a = some o → Hs' a = some o) (q : KsT K Hs es) : KsT K Hs' es := fun e he => ⟨SqT.mono h (q e he).1, (q e he).2⟩
mutual
theorem Rep.mono (hs : ∀ a o, w.Hs a = some o → w'.Hs a = some o) (hn : w.n ≤ w'.n) (hr : ∀ k, k < w.n → w'.rho k = w.rho k) : ∀ (d : D) (v : V), Rep L w d v → Rep L w' d v
  | .non, v, h => h
  | .bl b, v, h => h
  | .int i, v, h => h
  | .str s, v, h => h
  | .tup l, v, h => by
    simp only [Rep] at h ⊢
    obtain ⟨a, vs, e, q, r, z⟩ := h
    exact ⟨a, vs, e, SqT.mono hs q, Reps.mono hs hn hr l vs r, z⟩
  | .lst l, v, h => by
    simp only [Rep] at h ⊢
    obtain ⟨a, vs, e, q, r, z⟩ := h
    exact ⟨a, vs, e, hs _ _ q, Reps.mono hs hn hr l vs r, z⟩
  | .dic ks l, v, h => by
    simp only [Rep] at h ⊢
    obtain ⟨a, kvs, e, q, hk, r, z⟩ := h
    exact ⟨a, kvs, e, hs _ _ q, hk, Reps.mono hs hn hr l _ r, z⟩
  | .obj c ns l, v, h => by
    simp only [Rep] at h ⊢
    obtain ⟨a, dx, fs, e, q, hk, r⟩ := h
    exact ⟨a, dx, fs, e, hs _ _ q, hk, Reps.mono hs hn hr l _ r⟩
  | .ref k, v, h => by
    simp only [Rep] at h ⊢
    exact ⟨h.1.trans (by rw [hr k h.2]), Nat.lt_of_lt_of_le h.2 hn⟩
  | .rdc ks, v, h => by
    simp only [Rep] at h ⊢
    obtain ⟨a, es, e, e1, q, k, z⟩ := h
    exact ⟨a, es, e, e1, hs _ _ q, KsT.mono hs k, z⟩
theorem Reps.mono (hs : ∀ a o, w.Hs a = some o → w'.Hs a = some o) (hn : w.n ≤ w'.n) (hr : ∀ k, k < w.n → w'.rho k = w.rho k) : ∀ (l : List D) (vs : List V), Reps L w l vs → Reps L w' l vs
  | [], vs, h => h
  | d :: l, vs, h => by
    simp only [Reps] at h ⊢
    obtain ⟨v, r, e, h1, h2⟩ := h
    exact ⟨v, r, e, Rep.mono hs hn hr d v h1, Reps.mono hs hn hr l r h2⟩
end
theorem Rep.le {d : D} {v : V} (h : Rep L w d v) (l : Le w H w' H') : Rep L w' d v := Rep.mono l.hs l.n l.rho d v h
theorem Reps.le {d : List D} {v : List V} (h : Reps L w d v) (l : Le w H w' H') : Reps L w' d v := Reps.mono l.hs l.n l.rho d v h
theorem Con.le {d : D} {a : Addr} (h : Con L w H d a) (l : Le w H w' H') (hk : ∀ k, k < w.n → w.rho k ≠ a) : Con L w' H' d a := by
  cases d <;> simp only [Con] at h ⊢
  · obtain ⟨vs, e, r, z⟩ := h
    exact ⟨vs, l.keep _ _ e hk, r.le l, z⟩
  · obtain ⟨kvs, e, h1, r, z⟩ := h
    exact ⟨kvs, l.keep _ _ e hk, h1, r.le l, z⟩
  · obtain ⟨dx, fs, e, h1, r⟩ := h
    exact ⟨dx, fs, l.keep _ _ e hk, h1, r.le l⟩
  · obtain ⟨es, e1, e, r, n, z⟩ := h
    exact ⟨es, e1, l.keep _ _ e hk, r.mono l.hs, n, z⟩
theorem Con.there {d : D} {a : Addr} (h : Con L w H d a) : ∃ o, H a = some o := by
  cases d <;> simp only [Con] at h
  · obtain ⟨vs, e, r⟩ := h; exact ⟨_, e⟩
  · obtain ⟨kvs, e, h1, r⟩ := h; exact ⟨_, e⟩
  · obtain ⟨dx, fs, e, h1, r⟩ := h; exact ⟨_, e⟩
  · obtain ⟨es, e1, e, r⟩ := h; exact ⟨_, e⟩
theorem Own.le {d : D} {a : Addr} (h : Own L w H d a) (l : Le w H w' H') : Own L w' H' d a := by
  obtain ⟨h1, h2, h3⟩ := h
  obtain ⟨o, ho⟩ := h2.there
  refine ⟨l.out a o ho h1, h2.le l h3, fun k hk e => ?_⟩
  by_cases q : k < w.n
  · exact h3 k q ((l.rho k q).symm.trans e)
  · have z := l.new k (by omega) hk
    rw [e, ho] at z
    cases z
theorem RepT.le {d : D} {v : V} (h : RepT L w H d v) (l : Le w H w' H') : RepT L w' H' d v := by
  rcases h with h | ⟨a, e, h⟩
  · exact .inl (h.le l)
  · exact .inr ⟨a, e, h.le l⟩
theorem RepT.read {S : Store} {d : D} {v : V} (h : RepT L w H d v) (c : Core L w S H) : RepC L w H (rd S d) v := by
  rcases h with h | ⟨a, e, h⟩
  · cases d with
    | ref k =>
      simp only [Rep] at h
      obtain ⟨e, hk⟩ := h
      have hk' : k < S.length := by rw [c.len]; exact hk
      refine .inr ⟨_, e, ?_⟩
      have q := c.st k (S[k]) (List.getElem?_eq_getElem hk')
      show Con L w H (S.getD k .non) _
      rw [List.getD_eq_getElem?_getD, List.getElem?_eq_getElem hk']
      exact q.2
    | _ => exact .inl h
  · have q := h.2.1
    cases d <;> first
      | exact .inr ⟨a, e, q⟩
      | (simp only [Con] at q)
theorem Reps.length : ∀ {l : List D} {vs : List V}, Reps L w l vs → vs.length = l.length
  | [], vs, h => by simp only [Reps] at h; rw [h]; rfl
  | d :: l, vs, h => by
    simp only [Reps] at h
    obtain ⟨v, r, e, _, h2⟩ := h
    rw [e, List.length_cons, List.length_cons, h2.length]
theorem Reps.get : ∀ {l : List D} {vs : List V} {i : Nat} {d : D}, Reps L w l vs → l[i]? = some d → ∃ v, vs[i]? = some v ∧ Rep L w d v
  | [], vs, i, d, h, e => by simp at e
  | x :: l, vs, 0, d, h, e => by
    simp only [Reps] at h
    obtain ⟨v, r, rfl, h1, h2⟩ := h
    simp at e
    subst e
    exact ⟨v, rfl, h1⟩
  | x :: l, vs, i + 1, d, h, e => by
    simp only [Reps] at h
    obtain ⟨v, r, rfl, h1, h2⟩ := h
    simp at e
    obtain ⟨u, e1, e2⟩ := Reps.get h2 e
    exact ⟨u, by simpa using e1, e2⟩
theorem Reps.append : ∀ {l m : List D} {vs us : List V}, Reps L w l vs → Reps L w m us → Reps L w (l ++ m) (vs ++ us)
  | [], m, vs, us, h, q => by simp only [Reps] at h; subst h; exact q
  | d :: l, m, vs, us, h, q => by
    simp only [Reps] at h
    obtain ⟨v, r, rfl, h1, h2⟩ := h
    show Reps L w (d :: (l ++ m)) _
    simp only [Reps]
    exact ⟨v, r ++ us, rfl, h1, h2.append q⟩
theorem Reps.one {d : D} {v : V} (h : Rep L w d v) : Reps L w [d] [v] := by
  simp only [Reps]
  exact ⟨v, [], rfl, h, rfl⟩
theorem Reps.drop : ∀ {l : List D} {vs : List V} (k : Nat), Reps L w l vs → Reps L w (l.drop k) (vs.drop k)
  | l, vs, 0, h => h
  | [], vs, k + 1, h => by simp only [Reps] at h; subst h; simp [Reps]
  | d :: l, vs, k + 1, h => by
    simp only [Reps] at h
    obtain ⟨v, r, rfl, h1, h2⟩ := h
    exact h2.drop k
theorem Reps.take : ∀ {l : List D} {vs : List V} (k : Nat), Reps L w l vs → Reps L w (l.take k) (vs.take k)
  | l, vs, 0, h => by simp [Reps]
  | [], vs, k + 1, h => by simp only [Reps] at h; subst h; simp [Reps]
  | d :: l, vs, k + 1, h => by
    simp only [Reps] at h
    obtain ⟨v, r, rfl, h1, h2⟩ := h
    show Reps L w (d :: l.take k) _
    simp only [Reps]
    exact ⟨v, r.take k, rfl, h1, h2.take k⟩
theorem Reps.reverse : ∀ {l : List D} {vs : List V}, Reps L w l vs → Reps L w l.reverse vs.reverse
  | [], vs, h => by simp only [Reps] at h; subst h; simp [Reps]
  | d :: l, vs, h => by
    simp only [Reps] at h
    obtain ⟨v, r, rfl, h1, h2⟩ := h
    rw [List.reverse_cons, List.reverse_cons]
    exact h2.reverse.append (.one h1)
theorem Reps.set : ∀ {l : List D} {vs : List V} (k : Nat) {d : D} {v : V}, Reps L w l vs → Rep L w d v → Reps L w (l.set k d) (vs.set k v)
  | [], vs, k, d, v, h, q => by simp only [Reps] at h; subst h; simp [Reps]
  | x :: l, vs, 0, d, v, h, q => by
    simp only [Reps] at h
    obtain ⟨u, r, rfl, h1, h2⟩ := h
    show Reps L w (d :: l) _
    simp only [Reps]
    exact ⟨v, r, rfl, q, h2⟩
  | x :: l, vs, k + 1, d, v, h, q => by
    simp only [Reps] at h
    obtain ⟨u, r, rfl, h1, h2⟩ := h
    show Reps L w (x :: l.set k d) _
    simp only [Reps]
    exact ⟨u, r.set k v, rfl, h1, h2.set k q⟩
theorem Reps.erase : ∀ {l : List D} {vs : List V} (k : Nat), Reps L w l vs → Reps L w (l.eraseIdx k) (vs.eraseIdx k)
  | [], vs, k, h => by simp only [Reps] at h; subst h; simp [Reps]
  | x :: l, vs, 0, h => by
    simp only [Reps] at h
    obtain ⟨u, r, rfl, h1, h2⟩ := h
    exact h2
  | x :: l, vs, k + 1, h => by
    simp only [Reps] at h
    obtain ⟨u, r, rfl, h1, h2⟩ := h
    show Reps L w (x :: l.eraseIdx k) _
    simp only [Reps]
    exact ⟨u, r.eraseIdx k, rfl, h1, h2.erase k⟩
theorem Reps.dropLast {l : List D} {vs : List V} (h : Reps L w l vs) : Reps L w l.dropLast vs.dropLast := by
  rw [List.dropLast_eq_take, List.dropLast_eq_take, h.length]
  exact h.take _
end
end Zd
set_option Elab.async false
set_option linter.all false
set_option maxRecDepth 100000
set_option maxHeartbeats 1000000
/-! Ordered sets of rows: dicts with tuples of ints and None as keys, True as values. -/
namespace Zd
open PySem PySem.Spec PyProof.Rows L2
def moK : Option Int → Option Key
  | none => none
  | some i => some (.inl i)
def rwK (r : List (Option Int)) : List (Option Key) := r.map moK
theorem moK_inj : ∀ {a b : Option Int}, moK a = moK b → a = b
  | none, none, _ => rfl
  | none, some _, h => by cases h
  | some _, none, h => by cases h
  | some i, some j, h => by
    have h : (some (.inl i) : Option Key) = some (.inl j) := h
    injection h with h
    injection h with h
    rw [h]
theorem rwK_inj : ∀ {a b : List (Option Int)}, rwK a = rwK b → a = b
  | [], [], _ => rfl
  | [], _ :: _, h => by cases h
  | _ :: _, [], h => by cases h
  | x :: a, y :: b, h => by
    unfold rwK at h
    rw [List.map_cons, List.map_cons] at h
    injection h with h1 h2
    rw [moK_inj h1, rwK_inj h2]
abbrev kR (P : Program) (w : World) : HeapKind P w (List (Option Key)) := tupleKind (noneKind P w)
theorem kR_hash {P : Program} {w : World} (r : List (Option Int)) : (kR P w).hash (rwK r) = rowH r := by
  show reduceHash (Builtin.Tuple.tupleHashOf ((rwK r).map (noneKind P w).hash)) = _
  unfold rowH rwK
  rw [List.map_map]
  have e : (noneKind P w).hash ∘ moK = moH := by
    funext x
    cases x <;> rfl
  rw [e]
def xsR (es : List (List (Option Int) × Addr)) : List (List (Option Key) × Addr × Value) := es.map fun e => (rwK e.1, e.2, .bool true)
theorem entries {P : Program} {w : World} (es : List (List (Option Int) × Addr)) : (xsR es).map (entryOfKey (kR P w)) = es.map rowE := by
  unfold xsR
  rw [List.map_map]
  refine List.map_congr_left fun e _ => ?_
  show (⟨(kR P w).hash (rwK e.1), .ref e.2, .bool true⟩ : DictEntry) = rowE e
  rw [kR_hash]
  rfl
theorem xsR_keys (es : List (List (Option Int) × Addr)) : (xsR es).map (·.1) = (es.map (·.1)).map rwK := by
  unfold xsR
  rw [List.map_map, List.map_map]
  rfl
theorem nodup_rwK : ∀ {l : List (List (Option Int))}, l.Nodup → (l.map rwK).Nodup
  | [], _ => List.nodup_nil
  | x :: l, h => by
    rw [List.nodup_cons] at h
    rw [List.map_cons, List.nodup_cons]
    refine ⟨fun q => ?_, nodup_rwK h.2⟩
    obtain ⟨y, hy, e⟩ := List.mem_map.mp q
    exact h.1 (rwK_inj e ▸ hy)
theorem vals_mo {P : Program} {w : World} : ∀ {r : List (Option Int)} {its : List Value}, Vals (rwV r) its → ItemsAre (noneKind P w) (rwK r) its
  | [], its, h => by
    cases h
    exact .nil
  | x :: r, its, h => by
    have h : Vals (moV x :: rwV r) its := h
    cases h with
    | cons h1 h2 =>
      refine ItemsAre.cons ?_ (vals_mo h2)
      cases x with
      | none =>
        cases h1
        rfl
      | some i =>
        obtain ⟨t, rfl⟩ := h1
        exact keyIs_int i t
def putE (es : List (List (Option Int) × Addr)) (r : List (Option Int)) (u : Addr) : List (List (Option Int) × Addr) := if r ∈ es.map (·.1) then es else es ++ [(r, u)]
theorem putE_keys (es : List (List (Option Int) × Addr)) (r : List (Option Int)) (u : Addr) : (putE es r u).map (·.1) = putR r (es.map (·.1)) := by
  unfold putE putR
  by_cases h : r ∈ es.map (·.1)
  · rw [if_pos h, if_pos h]
  · rw [if_neg h, if_neg h, List.map_append]
    rfl
theorem mem_putE {es : List (List (Option Int) × Addr)} {r : List (Option Int)} {u : Addr} {e : List (Option Int) × Addr} (h : e ∈ putE es r u) : e ∈ es ∨ e = (r, u) := by
  unfold putE at h
  split at h
  · exact .inl h
  · rcases List.mem_append.mp h with h | h
    · exact .inl h
    · exact .inr (List.mem_singleton.mp h)
theorem nodup_putR {ks : List (List (Option Int))} {r : List (Option Int)} (h : ks.Nodup) : (putR r ks).Nodup := by
  unfold putR
  by_cases q : r ∈ ks
  · rw [if_pos q]; exact h
  · rw [if_neg q, List.nodup_append]
    refine ⟨h, by simp, fun a ha b hb e => ?_⟩
    rw [List.mem_singleton.mp hb] at e
    exact q (e ▸ ha)
theorem len_putR (ks : List (List (Option Int))) (r : List (Option Int)) : (putR r ks).length ≤ ks.length + 1 := by
  unfold putR
  by_cases q : r ∈ ks
  · rw [if_pos q]; omega
  · rw [if_neg q, List.length_append]; exact Nat.le_refl _
theorem len_putE (es : List (List (Option Int) × Addr)) (r : List (Option Int)) (u : Addr) : (putE es r u).length ≤ es.length + 1 := by
  have := len_putR (es.map (·.1)) r
  rw [← putE_keys es r u, List.length_map, List.length_map] at this
  exact this
theorem stored_xs (es : List (List (Option Int) × Addr)) (r : List (Option Int)) (u : Addr) : storedH (xsR es) (rwK r) u (.bool true) = xsR (putE es r u) := by
  have key : ((atKey (xsR es) (rwK r)).isSome = true) ↔ r ∈ es.map (·.1) := by
    unfold atKey
    rw [Option.isSome_map, List.find?_isSome]
    constructor
    · rintro ⟨x, hx, q⟩
      obtain ⟨e, he, rfl⟩ := List.mem_map.mp hx
      exact List.mem_map.mpr ⟨e, he, rwK_inj (of_decide_eq_true q)⟩
    · intro h
      obtain ⟨e, he, rfl⟩ := List.mem_map.mp h
      exact ⟨_, List.mem_map.mpr ⟨e, he, rfl⟩, decide_eq_true rfl⟩
  unfold storedH putE
  by_cases h : r ∈ es.map (·.1)
  · rw [if_pos h, if_pos (key.mpr h)]
    unfold xsR
    rw [List.map_map]
    refine List.map_congr_left fun e _ => ?_
    show putAt (rwK r) (.bool true) (rwK e.1, e.2, .bool true) = _
    unfold putAt
    split <;> rfl
  · rw [if_neg h, if_neg (fun q => h (key.mp q))]
    unfold xsR
    rw [List.map_append]
    rfl
section
variable {X : Cx} {pins : List (Addr × Obj)} {σ : L2.St} {H : Hp} {s : Shared} {a u : Addr} {es : List (List (Option Int) × Addr)} {r : List (Option Int)} {E : Value → Shared → Prop}
theorem row_is (I : L2.Inv X pins σ H s) (h : SqT X.K H u (rwV r)) : (kR X.prog X.w).is s.heap (rwK r) u := by
  obtain ⟨its, rv, ⟨o, e, c, n, d⟩, z⟩ := I.tuple h
  exact ⟨o, _, n, e, c, d, by simpa using vals_mo rv⟩
theorem RD_dict (I : L2.Inv X pins σ H s) (hD : H a = some (RD es a)) (hk : KsT X.K H es) (nd : (es.map (·.1)).Nodup) : (a == sysModules) = false ∧ s.heap.DictOfH (kR X.prog X.w) a (xsR es) := by
  obtain ⟨⟨hs, o, arr, ep, e, x, d, l⟩, _, _⟩ := (show ObjOk X.prog X.w H s.heap a (RD es a) from I.hok a _ hD)
  refine ⟨hs, o, arr, ep, e, x, d, by rw [entries]; exact l, fun y hy => ?_, ?_⟩
  · obtain ⟨e, he, rfl⟩ := List.mem_map.mp hy
    exact row_is I (hk e he).1
  · rw [xsR_keys]
    exact nodup_rwK nd
theorem RD_ok {P : Program} {w : World} {h : Heap} (hs : (a == sysModules) = false) (dd : h.DictOfH (kR P w) a (xsR es)) : ObjOk P w H h a (RD es a) := by
  obtain ⟨o, arr, ep, e, x, d, l, _⟩ := dd
  refine ⟨⟨hs, o, arr, ep, e, x, d, by rw [entries] at l; exact l⟩, ⟨o, e⟩, fun h1 h2 q k => ?_⟩
  obtain ⟨q1, o1, arr1, ep1, e1, r1⟩ := q
  exact ⟨q1, o1, arr1, ep1, k _ e1, r1⟩
theorem RD_empty {P : Program} {w : World} (h : Heap) (hb : sysModules < h.objs.size) : ObjOk P w H (h.push { cls := .type "dict", data := .dict #[] }) h.objs.size (RD [] h.objs.size) :=
  RD_ok (beq_eq_false_iff_ne.mpr (Ne.symm (Nat.ne_of_lt hb))) (Heap.DictOfH.new h)
theorem mut_RD : Mut (some (RD es a)) := True.intro
/-- d[row] = True -/
theorem R_set {A : Around} {Q : Unit → Shared → Prop} (hu : A.units + 1 < cLine) (I : L2.Inv X pins σ H s) (hD : H a = some (RD es a)) (hk : KsT X.K H es) (nd : (es.map (·.1)).Nodup) (hz : es.length ≤ sizeLine) (hr : SqT X.K H u (rwV r))
    (h : ∀ s', L2.Inv X pins σ (upd H a (RD (putE es r u) a)) s' → Q () s') : wpAny (model X.prog X.w) A (setItem (.ref a) (.ref u) (.bool true)) Q E s := by
  obtain ⟨hs, dd⟩ := RD_dict I hD hk nd
  refine wpAny_setItem_heap (hsz := by unfold xsR; rw [List.length_map]; exact hz) (tupleKind_room_in1 hu) (row_is I hr) dd fun h' dd' sb => h _ ?_
  have he : ∃ q, h'.get? a = some q := let ⟨q, _, _, hq, _⟩ := dd'; ⟨q, hq⟩
  rw [stored_xs] at dd'
  exact d_write I (by rw [hD]; exact mut_RD) sb he (RD_ok hs dd')
theorem R_dictSet {Q : Unit → Shared → Prop} (hu : X.A.units < cLine) (I : L2.Inv X pins σ H s) (hD : H a = some (RD es a)) (hk : KsT X.K H es) (nd : (es.map (·.1)).Nodup) (hz : es.length ≤ sizeLine) (hr : SqT X.K H u (rwV r))
    (h : ∀ s', L2.Inv X pins σ (upd H a (RD (putE es r u) a)) s' → Q () s') : wpAny (model X.prog X.w) X.A (dictSet a (.ref u) (.bool true)) Q E s := by
  obtain ⟨hs, dd⟩ := RD_dict I hD hk nd
  refine wpAny_dictSet_heap (hsz := by unfold xsR; rw [List.length_map]; exact hz) (show (kR X.prog X.w).room X.A from hu) (row_is I hr) dd fun h' dd' sb => h _ ?_
  have he : ∃ q, h'.get? a = some q := let ⟨q, _, _, hq, _⟩ := dd'; ⟨q, hq⟩
  rw [stored_xs] at dd'
  exact d_write I (by rw [hD]; exact mut_RD) sb he (RD_ok hs dd')
/-- {} -/
def tRNew : TE := fun _ H Q => ∀ p, H p = none → Q (.ref p) (upd H p (RD [] p))
theorem pe_rnw {pos : Pos} : PE X (.Dict [] [] pos) tRNew := ⟨fun pins s σ H Q I h =>
  wpAny_Dict_empty ⟨.ref s.heap.objs.size, _, I.laid (a := s.heap.objs.size) (o := RD [] s.heap.objs.size) (t' := s.toks) (fun _ _ q => Heap.get?_push_of_some _ q) (Nat.le_refl _) (RD_empty s.heap I.big), rfl, h _ (I.hok.fresh (Nat.le_refl _))⟩⟩
/-- list(d) -/
def rRls (K : PySem.W.Frag) : List V → Hp → VK → Prop := fun xs H Q => ∃ d es, xs = [V.ref d] ∧ H d = some (RD es d) ∧ KsT K H es ∧ (es.map (·.1)).Nodup ∧ es.length ≤ sizeLine ∧ ∀ p, H p = none → Q (.ref p) (upd H p (.lst (es.map fun e => V.ref e.2)))
theorem call_rls (hc : X.calm = true) : CallR X (.type "list") (rRls X.K) := by
  intro pins s σ H xs us Q I r h
  obtain ⟨d, es, rfl, hd, hk, nd, hz, q⟩ := h
  obtain ⟨u, rfl, rx⟩ := r.one
  cases rx
  obtain ⟨hs, o, arr, ep, ho, hx, hdt, he, _⟩ := RD_dict I hd hk nd
  have l1 : arr.size = (xsR es).length := size_of_entries he
  have l2 : (xsR es).length = es.length := by unfold xsR; rw [List.length_map]
  refine PySem.W.kdl_call (kdl_raw hs hx hdt) (I.ok.hd hc) ho (by omega) fun h' tk acc' c' kp e it => ?_
  have ea : acc'.toList = (xsR es).map fun x => Value.ref x.2.1 := by
    have hl : acc'.toList.length = (xsR es).length := by rw [Array.length_toList, it.1]; exact l1
    apply List.ext_getElem?
    intro j
    rw [List.getElem?_map]
    cases hj : acc'.toList[j]? with
    | none =>
      have h1 := List.getElem?_eq_none_iff.mp hj
      rw [List.getElem?_eq_none (by omega)]
      all_goals rfl
    | some v =>
      obtain ⟨en, hen, hv⟩ := it.2 j v (by rw [← Array.getElem?_toList]; exact hj)
      have qe := entry_at he j
      rw [hen] at qe
      cases hb : (xsR es)[j]? with
      | none =>
        rw [hb] at qe
        exact nomatch (show some en = none from qe)
      | some b =>
        rw [hb] at qe
        have e2 : en = entryOfKey (kR X.prog X.w) b := Option.some.inj qe
        rw [hv, e2]
        all_goals rfl
  have eb : acc'.toList = (es.map fun x => x.2).map Value.ref := by rw [ea]; unfold xsR; rw [List.map_map, List.map_map]; all_goals rfl
  have ec : (es.map fun e => V.ref e.2) = (es.map fun x => x.2).map V.ref := by rw [List.map_map]; rfl
  have rv : Vals (es.map fun e => V.ref e.2) acc'.toList := by rw [eb, ec]; exact vals_refs _
  have hz' : (es.map fun e => V.ref e.2).length ≤ sizeLine := by rw [List.length_map]; exact hz
  refine ⟨.ref s.heap.objs.size, _, I.laid (t' := tk) (o := .lst (es.map fun e => V.ref e.2)) kp (Nat.le_refl _) ?_, rfl, q _ (I.hok.fresh (Nat.le_refl _))⟩
  exact ⟨hz', acc'.toList, c', rv, by rw [Array.toArray_toList]; exact e⟩
end
end Zd
set_option Elab.async false
set_option linter.all false
set_option maxRecDepth 100000
set_option maxHeartbeats 2000000
/-! A dict comprehension that makes an ordered set of rows (statements and proofs follow those for dicts with texts as keys). -/
namespace Zd
open PySem PySem.Spec PyProof.Rows L2
section
variable {X : Cx}
/-- {row: True for target in iter if ..} -/
def tRc (K : PySem.W.Frag) (wi : TI) (g : TG) (tt : TT) (tk tv : TE) (vs : List Nat) : TE := fun σ H Q => wi σ H fun J H1 => ∀ D, H1 D = none → ∃ W : Nat → Nat → Hp → Prop, (∃ m, W 0 m (upd H1 D (RD [] D))) ∧ ∀ i m H, W i m H →
  (J.stop i H ∧ Q (.ref D) H) ∨ (J.go i H ∧ ∃ Nx : Hp → Prop, (∀ H', Nx H' → ∃ m', m' < m ∧ W (i + 1) m' H') ∧ ∀ x H', J.yld i H x H' → g x (wipe σ vs) H' fun σ2 H2 => wipe σ2 vs = wipe σ vs ∧ tt σ2 H2 fun b H3 =>
    if b = true then tk σ2 H3 fun y H4 => tv σ2 H4 fun z H5 => ∃ es r u, y = .ref u ∧ z = .bl true ∧ H5 D = some (RD es D) ∧ KsT K H5 es ∧ (es.map (·.1)).Nodup ∧ es.length < sizeLine ∧ SqT K H5 u (rwV r) ∧ Nx (upd H5 D (RD (putE es r u) D)) else Nx H3)
theorem rc_core {pins : List (Addr × Obj)} {s : Shared} {σ : L2.St} {H : Hp} {Q : VK} {kx vx tg iter : Expr} {ifs : List Expr} {scope : Scope} {own : List (Str × Nat)} {pos pos' : Pos} {wi : TI} {g : TG} {tt : TT} {tk tv : TE} {use : Option (Value → Sem Unit)} {Qf : Value → Shared → Prop}
    (hu : X.A.units < cLine) (hc : X.calm = true) (hN : X.N.Nodup) (I : L2.Inv X pins σ H s) (hi : PI X tg iter wi) (ok : BlkOk X.N X.env.scope scope own)
    (hg : ∀ (s : Shared) (H : Hp) (C : Addr) (cl : List (Str × Addr)) (fp : List Addr), PG (X.blk s H scope (compEnvC scope cl C X.env) fp) tg g) (ht : ∀ (s : Shared) (H : Hp) (C : Addr) (cl : List (Str × Addr)) (fp : List Addr), PTs (X.blk s H scope (compEnvC scope cl C X.env) fp) ifs tt)
    (hk : ∀ (s : Shared) (H : Hp) (C : Addr) (cl : List (Str × Addr)) (fp : List Addr), PE (X.blk s H scope (compEnvC scope cl C X.env) fp) kx tk)
    (he : ∀ (s : Shared) (H : Hp) (C : Addr) (cl : List (Str × Addr)) (fp : List Addr), PE (X.blk s H scope (compEnvC scope cl C X.env) fp) vx tv) (hs : ∀ x, foldedSetIterable iter X.env x = pure x)
    (h : tRc X.K wi g tt tk tv (own.map (·.2)) σ H Q)
    (hRR : ∀ D C s' m H', L2.Inv X pins σ H' s' → Q (.ref D) H' → s'.heap.Ns C m → FpOk X pins H' C → compPost (model X.prog X.w) X.A X.xe use Qf (.ref D) C (.ok .next) s') :
    wpAny (model X.prog X.w) X.A (comprehension (.DictComp kx vx [⟨tg, iter, ifs, 0⟩] scope pos) scope X.env pos' newDict false (eval iter X.env) use) Qf X.xe s := by
  have hfree : ∀ y ∈ scope.names, y.2 = .free → ∃ c, X.env.cells.lookup y.1 = some c := fun y hy e => by
    rcases ok.free y hy e with k | k
    · exact I.ok.has _ (.inl k)
    · exact I.ok.has _ (.inr k)
  refine wpAny_comprehension_free (use := use) rfl hs (closure_ok hfree) ok.kind (fun y hy e => by rw [ok.uniq y hy, e])
    (thn (hi.run pins s σ H _ I h) fun xv s1 hx => thn hx fun itv s2 h2 => ?_)
  obtain ⟨it, fp, tn, J, H2, e, I2, T, st2, f2, q⟩ := h2
  subst e
  refine wpAny_newObj_type (newEnv_comp ?_)
  generalize hD : s2.heap.objs.size = D
  have hDn : H2 D = none := I2.hok.fresh (Nat.le_of_eq hD)
  obtain ⟨W, ⟨m0, w0⟩, turn⟩ := q D hDn
  -- the new list
  generalize hs3 : ({ s2 with heap := s2.heap.push { cls := .type "dict", data := .dict #[] } } : Shared) = s3
  have I3 : L2.Inv X pins σ (upd H2 D (RD [] D)) s3 := by
    rw [← hs3]
    refine I2.laid (t' := s2.toks) (fun b o e => Heap.get?_push_of_some _ e) (Nat.le_of_eq hD) ?_
    rw [← hD]
    exact RD_empty s2.heap I2.big
  have h3 : s3.heap = s2.heap.push { cls := .type "dict", data := .dict #[] } := by rw [← hs3]
  have sz : ∀ b ∈ fp, b < s2.heap.objs.size := fun b hb => by
    obtain ⟨o, e, _⟩ := T.obj _ _ st2 b hb
    exact Heap.lt_size e
  have f3 : ∀ b ∈ fp, FpOk X pins (upd H2 D (RD [] D)) b ∧ b < s3.heap.objs.size := fun b hb => by
    have hlt := sz b hb
    refine ⟨⟨?_, (f2 b hb).2⟩, by rw [h3, Heap.size_push]; exact Nat.lt_succ_of_lt hlt⟩
    rw [upd_ne (by rw [← hD]; exact Nat.ne_of_lt hlt)]
    exact (f2 b hb).1
  have st3 : tn 0 s3.heap := T.keep _ _ _ st2 fun b _ o e => by rw [h3]; exact Heap.get?_push_of_some _ e
  have I4 := block_start I3 ok hN f3
  have pg := hg s3 (upd H2 D (RD [] D)) s3.heap.objs.size (cellsFrom (s3.heap.objs.size + 1) scope.names (cloFrom X.env.cells scope.names [])) fp
  have pt := ht s3 (upd H2 D (RD [] D)) s3.heap.objs.size (cellsFrom (s3.heap.objs.size + 1) scope.names (cloFrom X.env.cells scope.names [])) fp
  have pk := hk s3 (upd H2 D (RD [] D)) s3.heap.objs.size (cellsFrom (s3.heap.objs.size + 1) scope.names (cloFrom X.env.cells scope.names [])) fp
  have pe := he s3 (upd H2 D (RD [] D)) s3.heap.objs.size (cellsFrom (s3.heap.objs.size + 1) scope.names (cloFrom X.env.cells scope.names [])) fp
  show codeAny _ _ (.compStart (.DictComp kx vx [⟨tg, iter, ifs, 0⟩] scope pos) 0 (.ref it) (.ref D) (compEnvC scope (cellsFrom (s3.heap.objs.size + 1) scope.names (cloFrom X.env.cells scope.names [])) s3.heap.objs.size X.env)) (compPost (model X.prog X.w) X.A X.xe use Qf (.ref D) s3.heap.objs.size) { s3 with heap := pushCells (s3.heap.push { cls := .type "dict", data := .dict #[] }) scope.names }
  have nfp : ∀ b ∈ fp, (upd H2 D (RD [] D)) b = none := fun b hb => (f3 b hb).1.1
  generalize hce : compEnvC scope (cellsFrom (s3.heap.objs.size + 1) scope.names (cloFrom X.env.cells scope.names [])) s3.heap.objs.size X.env = ce at I4 pg pt pk pe ⊢
  have cL : ce.locals = s3.heap.objs.size := by subst hce; rfl
  generalize hH3 : upd H2 D (RD [] D) = H3 at I3 I4 pg pt pk pe w0 nfp f3
  generalize hs4 : ({ s3 with heap := pushCells (s3.heap.push { cls := .type "dict", data := .dict #[] }) scope.names } : Shared) = s4 at I4 ⊢
  have st4 : tn 0 s4.heap := T.keep _ _ _ st3 fun b _ o e => by rw [← hs4]; exact pushCells_keeps _ _ _ _ (Heap.get?_push_of_some _ e)
  have stat : ∀ {σ' : L2.St} {H' : Hp} {s' : Shared}, L2.Inv (X.blk s3 H3 scope ce fp) [] σ' H' s' → (∀ b ∈ fp, H' b = none) → ∀ b ∈ fp, FpOk (X.blk s3 H3 scope ce fp) [] H' b := fun {σ' H' s'} I' hn b hb =>
    ⟨hn b hb, (I'.ok.exf b hb).1, I'.ok.exfs b hb, .inl hb, fun x c e => (I'.ok.exf b hb).2 x c e, fun p hp => absurd (show p ∈ ([] : List (Addr × Obj)) ++ [] from hp) (by simp)⟩
  have loop : codeAny (model X.prog X.w) X.A (.compLoop (.DictComp kx vx [⟨tg, iter, ifs, 0⟩] scope pos) 0 (.ref it) (.ref D) ce) (compPost (model X.prog X.w) X.A X.xe use Qf (.ref D) s3.heap.objs.size) s4 := by
    refine compLoop_anyD (fun n s' => ∃ i H', L2.Inv (X.blk s3 H3 scope ce fp) [] (wipe σ (own.map (·.2))) H' s' ∧ tn i s'.heap ∧ (∀ b ∈ fp, H' b = none) ∧ W i n H') ?_ m0 ⟨0, H3, I4, st4, nfp, w0⟩
    rintro n s5 ⟨i, H5, I5, st5, n5, w5⟩
    rcases turn i n H5 w5 with ⟨stop, qq⟩ | ⟨go, Nx, hNx, step⟩
    · have td := T.done (X.blk s3 H3 scope ce fp) rfl rfl rfl hc i [] s5 _ H5 (fun _ _ => False) I5 (stat I5 n5) st5 stop
      refine thnF td fun r s6 ⟨hr, I6⟩ => ?_
      subst hr
      -- back in the def's context
      have I7 : L2.Inv X pins σ H5 s6 := I3.call' (ch := fp) I6.os I6.base I6.hok I6.bare fun b hb => ⟨(f3 b hb).1.2.2.2.1, (f3 b hb).1.2.1, (f3 b hb).1.2.2.2.2.1, (f3 b hb).1.2.2.2.2.2⟩
      have nC : H5 s3.heap.objs.size = none := by
        have z : H5 ce.locals = none := I6.free
        rw [cL] at z
        exact z
      obtain ⟨m, hn, _⟩ := I6.loc
      have hn : s6.heap.Ns ce.locals m := hn
      rw [cL] at hn
      exact hRR D s3.heap.objs.size s6 m H5 I7 qq hn (I3.fpOk (Nat.le_refl _) nC)
    · have ti := T.item (X.blk s3 H3 scope ce fp) rfl rfl rfl hc i [] s5 _ H5 (fun _ _ => False) I5 (stat I5 n5) st5 go
      refine thnF ti fun r s6 ⟨u, hr, h6⟩ => ?_
      subst hr
      refine thnF h6 fun _ s7 ⟨x, H7, I7, r7, y7, st7, n7⟩ => ?_
      have I7' := I7.pinned (stat I7 n7) (T.obj _ _ st7)
      refine thnF (pg.run _ s7 _ H7 x u _ I7' r7 (step x H7 y7)) fun _ s8 ⟨σ8, H8, I8, hw8, q8⟩ => ?_
      refine thnF (pt.run _ s8 σ8 H8 _ I8 q8) fun b s9 ⟨H9, I9, q9⟩ => ?_
      -- the turn's end
      have fin : ∀ {s' : Shared} {H' : Hp}, L2.Inv (X.blk s3 H3 scope ce fp) ([] ++ pinsAt fp s7.heap) σ8 H' s' → Nx H' → ∃ m, m < n ∧ ∃ i H', L2.Inv (X.blk s3 H3 scope ce fp) [] (wipe σ (own.map (·.2))) H' s' ∧ tn i s'.heap ∧ (∀ b ∈ fp, H' b = none) ∧ W i m H' := fun {s' H'} I' nx => by
        obtain ⟨m', hm, w'⟩ := hNx H' nx
        have pin' : ∀ b ∈ fp, ∀ o, s7.heap.get? b = some o → s'.heap.get? b = some o ∧ H' b = none := fun b hb o e =>
          let z := I'.pin (b, o) (List.mem_append_right _ (List.mem_append_right _ (mem_pinsAt hb e)))
          ⟨z.1, z.2.1⟩
        have hl : (wipe σ (own.map (·.2))).length = σ8.length := by rw [← hw8, wipe_length]
        refine ⟨m', hm, i + 1, H', (I'.unpinned (pins := [])).weak hl (fun j v e => ?_), T.keep _ _ _ st7 fun b hb o e => (pin' b hb o e).1, fun b hb => ?_, w'⟩
        · rw [← hw8] at e
          exact (wipe_some e).1
        · obtain ⟨o, e, _⟩ := T.obj _ _ st7 b hb
          exact (pin' b hb o e).2
      cases b with
      | false =>
        simp only [Bool.false_eq_true, if_false] at q9 ⊢
        exact fin I9 q9
      | true =>
        simp only [if_true] at q9 ⊢
        refine thnF (pk.run _ s9 σ8 H9 _ I9 q9) fun z s10 ⟨yk, H10, I10, r10, q10⟩ => ?_
        refine thnF (pe.run _ s10 σ8 H10 _ I10 q10) fun z2 s11 ⟨yv, H11, I11, r11, es, r, u', ek, ev, hD11, hk11, nd11, hz11, hr11, nx⟩ => ?_
        subst ek ev
        cases r10
        cases r11
        exact R_dictSet (X := X.blk s3 H3 scope ce fp) hu I11 hD11 hk11 nd11 (Nat.le_of_lt hz11) hr11 fun s12 I12 => fin I12 nx
  exact codeAny_compStart_dict loop (T.self X.A 0 _ _ _ st4 loop)
/-- as a value -/
theorem pe_rc {kx vx tg iter : Expr} {ifs : List Expr} {scope : Scope} {own : List (Str × Nat)} {pos : Pos} {wi : TI} {g : TG} {tt : TT} {tk tv : TE} (hu : X.A.units < cLine) (hc : X.calm = true) (hN : X.N.Nodup) (hi : PI X tg iter wi) (ok : BlkOk X.N X.env.scope scope own)
    (hg : ∀ (s : Shared) (H : Hp) (C : Addr) (cl : List (Str × Addr)) (fp : List Addr), PG (X.blk s H scope (compEnvC scope cl C X.env) fp) tg g) (ht : ∀ (s : Shared) (H : Hp) (C : Addr) (cl : List (Str × Addr)) (fp : List Addr), PTs (X.blk s H scope (compEnvC scope cl C X.env) fp) ifs tt)
    (hk : ∀ (s : Shared) (H : Hp) (C : Addr) (cl : List (Str × Addr)) (fp : List Addr), PE (X.blk s H scope (compEnvC scope cl C X.env) fp) kx tk)
    (he : ∀ (s : Shared) (H : Hp) (C : Addr) (cl : List (Str × Addr)) (fp : List Addr), PE (X.blk s H scope (compEnvC scope cl C X.env) fp) vx tv) (hs : ∀ x, foldedSetIterable iter X.env x = pure x := by intro _; rfl) :
    PE X (.DictComp kx vx [⟨tg, iter, ifs, 0⟩] scope pos) (tRc X.K wi g tt tk tv (own.map (·.2))) := by
  refine ⟨fun pins s σ H Q I h => ?_⟩
  rw [arm_eval_DictComp]
  refine rc_core hu hc hN I hi ok hg ht hk he hs h fun D C s' m H' I' q hn f => ⟨m, hn, fun h'' sb => ?_⟩
  obtain ⟨f0, f1, f2, f3, f4, f5⟩ := f
  exact ⟨.ref D, H', I'.turned (t' := s'.toks) (fun b o hb e => (sb.2 b hb).trans e) f0 f1 f3 f4 f5, rfl, q⟩
/-- name = {..} on one line, the name a local -/
theorem ps_setRc {i : Nat} {y : Str} {py : Pos} {kx vx tg iter : Expr} {ifs : List Expr} {scope : Scope} {own : List (Str × Nat)} {pos spos : Pos} {wi : TI} {g : TG} {tt : TT} {tk tv : TE} (hu : X.A.units < cLine) (hc : X.calm = true) (hN : X.N.Nodup) (hy : X.N[i]? = some y) (hyl : X.env.scope.names.lookup y = some .local)
    (hsw : swapsWith (.DictComp kx vx [⟨tg, iter, ifs, 0⟩] scope pos) (some (.Name y py)) spos.line X.env = pure true) (hi : PI X tg iter wi) (ok : BlkOk X.N X.env.scope scope own)
    (hg : ∀ (s : Shared) (H : Hp) (C : Addr) (cl : List (Str × Addr)) (fp : List Addr), PG (X.blk s H scope (compEnvC scope cl C X.env) fp) tg g) (ht : ∀ (s : Shared) (H : Hp) (C : Addr) (cl : List (Str × Addr)) (fp : List Addr), PTs (X.blk s H scope (compEnvC scope cl C X.env) fp) ifs tt)
    (hk : ∀ (s : Shared) (H : Hp) (C : Addr) (cl : List (Str × Addr)) (fp : List Addr), PE (X.blk s H scope (compEnvC scope cl C X.env) fp) kx tk)
    (he : ∀ (s : Shared) (H : Hp) (C : Addr) (cl : List (Str × Addr)) (fp : List Addr), PE (X.blk s H scope (compEnvC scope cl C X.env) fp) vx tv) (hs : ∀ x, foldedSetIterable iter X.env x = pure x := by intro _; rfl) :
    PS X (.Assign [.Name y py] (.DictComp kx vx [⟨tg, iter, ifs, 0⟩] scope pos) spos) (tAsg (tRc X.K wi g tt tk tv (own.map (·.2))) (gName i)) := by
  refine ⟨fun pins s σ H D I h => ?_⟩
  rw [exec_Assign_Name_used _ _ _ _ hsw]
  refine wpAny_bind (wpAny_standAt (wpAny_bind ?_))
  show wpAny _ X.A (do let _ ← comprehension (.DictComp kx vx [⟨tg, iter, ifs, 0⟩] scope pos) scope X.env (firstIterPos [⟨tg, iter, ifs, 0⟩] pos) newDict false (eval iter X.env) (some (assign (.Name y py) X.env))) _ _ s
  have h : tRc X.K wi g tt tk tv (own.map (·.2)) σ H (fun x H1 => gName i x σ H1 D.nx) := h
  refine wpAny_bind (thn (rc_core (Qf := fun _ s' => SP X pins D .next s') hu hc hN I hi ok hg ht hk he hs h fun L C s' m H' I' q hn f => ?_) fun _ s' hq => wpAny_pure (wpAny_pure hq))
  show wpAny _ _ (assign (.Name y py) X.env (.ref L)) _ _ _
  refine wpAny_assign_Name (store_ok2 (v := V.ref L) I' hN hy (.inl hyl) rfl (fun s2 I2 ⟨a, sb, ha⟩ => ?_) (.inr hyl))
  obtain ⟨f0, f1, f2, f3, f4, f5⟩ := f
  have haC : C ≠ a := by
    rcases ha with z | z
    · rw [z]; exact f1
    · exact fun e => f4 y a z e.symm
  refine ⟨m, hn.sameBut sb haC, fun h3 sb3 => ?_⟩
  exact ⟨_, H', I2.turned (t' := s2.toks) (fun b o hb e => (sb3.2 b hb).trans e) f0 f1 f3 f4 f5, q⟩
end
end Zd
set_option Elab.async false
set_option linter.all false
set_option maxRecDepth 100000
set_option maxHeartbeats 1000000
/-! sorted(xs, key=f), f a def, over the abstract heap: what the calls keep is what Inv says (frames' slots may change). -/
namespace Zd
open PySem PySem.Spec PyProof.Rows L2 PySem.Calls PySem.W
section
variable {X : Cx} {pins : List (Addr × Obj)} {σ : L2.St} {H : Hp} {s : Shared}
/-- an object laid since the frame's start is tracked from now on -/
theorem Inv.adopt {a : Addr} {ob : HO} (I : L2.Inv X pins σ H s) (hf : FpOk X pins H a) (ha : X.s_0.heap.objs.size ≤ a) (new : ObjOk X.prog X.w (upd H a ob) s.heap a ob) : L2.Inv X pins σ (upd H a ob) s := by
  obtain ⟨f0, f1, f2, f3, f4, f5⟩ := hf
  have na : ∀ b o, X.s_0.heap.get? b = some o → b ≠ a := fun b o e => Nat.ne_of_lt (Nat.lt_of_lt_of_le (Heap.lt_size e) ha)
  refine ⟨I.ok, I.os, I.bare, ⟨I.base.keep, I.base.slot, fun b o e n x => ?_, I.base.there, fun b xs e => ?_, fun b o u e => ?_, fun b ps e => ?_⟩, I.loc, I.cell, ?_, fun x c e => ?_, fun p hp => ?_, fun b u e => ?_, I.len⟩
  · rw [upd_ne (na b o e)]
    exact I.base.free b o e n x
  · have z := I.base.tups b xs e
    rw [upd_ne (ne_of_none z f0)]
    exact z
  · have z := I.base.frzs b o u e
    rw [upd_ne (ne_of_none z f0)]
    exact z
  · obtain ⟨more, z⟩ := I.base.tbls b ps e
    exact ⟨more, by rw [upd_ne (ne_of_none z f0)]; exact z⟩
  · rw [upd_ne (Ne.symm f1)]
    exact I.free
  · rw [upd_ne (f4 x c e)]
    exact I.freeC x c e
  · obtain ⟨q1, q2, q3⟩ := I.pin p hp
    exact ⟨q1, by rw [upd_ne (f5 p hp)]; exact q2, q3⟩
  · by_cases q : b = a
    · subst q
      rw [upd_same] at e
      cases e
      exact new
    · rw [upd_ne q] at e
      refine (I.hok b u e).stay (fun c v _ r => r) (fun c r => ?_) fun c xs r => ?_
      · rw [upd_ne (ne_of_none r f0)]; exact r
      · rw [upd_ne (ne_of_none r f0)]; exact r
end
/-- the heap without the object at a -/
def noAt (h : Heap) (a : Addr) : Heap := h.update a fun o => { o with data := .freed }
theorem noAt_ne {h : Heap} {a b : Addr} (hb : b ≠ a) : (noAt h a).get? b = h.get? b := Heap.get?_update_ne _ _ _ _ hb
theorem noAt_self (h : Heap) (a : Addr) : (noAt h a).get? a = none := by
  unfold noAt
  cases h
  simp only [Heap.update, Heap.get?, Array.getElem?_modify, if_true]
  cases hh : (_ : Array Obj)[a]? <;> simp
section
variable {X : Cx} {pins : List (Addr × Obj)} {σ : L2.St}
/-- the turns of the key's calls: T i H ys: ys are the keys so far -/
theorem keyI_rest {A : Around} {f : Value} {s : Shared} {H : Hp} {vs : List Value} {kz : List PyData} {a kS : Addr} {e1 : Nat} {T : Nat → Hp → List V → Prop} {P : PySem.Fin → Shared → Prop} {E : Value → Shared → Prop}
    (I : L2.Inv X (pins ++ [(kS, seqObj "list" #[] 0), (a, seqObj "list" #[] e1)]) σ H s) (hk : ∀ H, H kS = none → FpOk X pins H kS) (hka : kS ≠ a)
    (hlen : kz.length = vs.length) (hZ : vs.length ≤ sizeLine) (hal : AllAlike kz) (hsk : Sortable kz) (hu : ∀ d, d ∈ kz → A.units + d.depth < cLine)
    (t0 : T 0 H []) (td : ∀ i H ys, T i H ys → ys.length = i ∧ DpAll X.K H ys (kz.take i))
    (turn : ∀ (i : Nat) (v : Value) (ys : List V), vs[i]? = some v → ∀ (pins' : List (Addr × Obj)) (H : Hp) (s : Shared), L2.Inv X pins' σ H s → T i H ys →
      wpAny (model X.prog X.w) A (call f [v]) (fun u s' => ∃ y H', L2.Inv X pins' σ H' s' ∧ RelV y u ∧ T (i + 1) H' (ys ++ [y])) (fun _ _ => False) s)
    (h : ∀ h' tk out c s' H ys, L2.Inv X (pins ++ [(a, seqObj "list" #[] e1)]) σ H s' → T vs.length H ys → H kS = none → (∀ b o, b ≠ a → b ≠ kS → s'.heap.get? b = some o → h'.get? b = some o) → h'.get? a = some (seqObj "list" (List.toArray out) c) → KeyedOut false kz vs out → P (.done (.ret .none)) { s' with heap := h', toks := tk }) :
    wpAny (model X.prog X.w) A (ksk_rest a f false vs.toArray e1 (.ref kS)) P E s := by
  unfold ksk_rest
  refine wpAny_bind (wpAny_rule ?_)
  first
    | rw [List.forIn_toArray]
    | (rw [← Array.forIn_toList]; simp only [List.toList_toArray])
    | rw [← Array.forIn_toList]
  refine wpAny_bind (ksk_fold (fun i s' => ∃ H ys kA e, L2.Inv X (pins ++ [(kS, seqObj "list" kA e), (a, seqObj "list" #[] e1)]) σ H s' ∧ Vals ys kA.toList ∧ T i H ys) vs 0 s
    ⟨H, [], #[], 0, I, .nil, t0⟩ ?step ?done)
  case step =>
    rintro j x s' hx ⟨H1, ys, kA, e, I1, rv, t1⟩
    simp only [Nat.zero_add] at t1 ⊢
    have hj : j < vs.length := (List.getElem?_eq_some_iff.mp hx).1
    obtain ⟨ly, _⟩ := td j H1 ys t1
    have hz : kA.size ≤ vs.length := by
      have e : ys.length = kA.size := rv.length.trans (by simp)
      omega
    refine wpAny_bind (wpAny_attempt (wpAny_mono (turn j x ys hx _ H1 s' I1 t1) (fun v s2 he => ?_) fun _ _ hF => hF.elim))
    obtain ⟨y, H2, I2, ry, t2⟩ := he
    try dsimp only
    obtain ⟨nk, nk2, _⟩ := I2.pin (kS, seqObj "list" kA e) (List.mem_append_right _ (List.mem_append_right _ List.mem_cons_self))
    obtain ⟨na, na2, na3, na4, na5⟩ := I2.pin (a, seqObj "list" #[] e1) (List.mem_append_right _ (List.mem_append_right _ (List.mem_cons_of_mem _ List.mem_cons_self)))
    have s1 := Heap.SameBut.update s2.heap kS (Obj.mapSeq (·.push v))
    obtain ⟨c2, hc2⟩ : ∃ c2, (s2.heap.update kS (Obj.mapSeq (·.push v))).get? kS = some (seqObj "list" (kA.push v) c2) := ⟨_, get?_update_seq nk (·.push v)⟩
    refine wpAny_bind (listUpdate_at nk rfl ?_ (Nat.le_trans hz hZ) (Nat.le_trans (Nat.le_of_eq (Array.size_push ..)) (Nat.succ_le_succ (Nat.le_trans hz hZ))))
    have I3 : L2.Inv X pins σ H2 { s2 with heap := s2.heap.update kS (Obj.mapSeq (·.push v)), toks := s2.toks } := I2.unpinned.turnedL (ch := [kS]) (fun b o hb q => (s1.2 b (fun z => hb (by simp [z]))).trans q) fun b hb => by
      rw [List.mem_singleton.mp hb]
      exact hk H2 nk2
    obtain ⟨_, f1, f2, _, _, _⟩ := hk H2 nk2
    refine wpAny_pure ⟨rfl, H2, ys ++ [y], kA.push v, c2, I3.pins_of fun p hp => ?_, ?_, t2⟩
    · rcases List.mem_append.mp hp with z | z
      · exact I3.pin p (List.mem_append_right _ z)
      · rcases List.mem_cons.mp z with z | z
        · subst z
          exact ⟨hc2, nk2, f1, f2, fun v => by intro q; cases q⟩
        · rw [List.mem_singleton.mp z]
          exact ⟨(s1.2 a hka.symm).trans na, na2, na3, na4, na5⟩
    · rw [show (kA.push v).toList = kA.toList ++ [v] by simp]
      exact rv.append (.cons ry .nil)
  case done =>
    rintro s' ⟨H1, ys, kA, e, I1, rv, t1⟩
    simp only [Nat.zero_add] at t1
    obtain ⟨ly, dp⟩ := td _ H1 ys t1
    rw [List.take_of_length_le (by omega)] at dp
    obtain ⟨nk, nk2, _⟩ := I1.pin (kS, seqObj "list" kA e) (List.mem_append_right _ (List.mem_append_right _ List.mem_cons_self))
    obtain ⟨na, na2, na3, na4, na5⟩ := I1.pin (a, seqObj "list" #[] e1) (List.mem_append_right _ (List.mem_append_right _ (List.mem_cons_of_mem _ List.mem_cons_self)))
    obtain ⟨as, ra⟩ := L2.Dp.readsAll I1 kz ys kA.toList dp rv
    have hk' : EachIs (fun v k => ∃ as, Reads s'.heap v k as) kA.toList kz := by
      have := readsAll_each (β := PyData) id (bs := kz) (h := s'.heap) (vs := kA.toList) (as := as) (by rw [List.map_id]; exact ra)
      exact this
    have hsz : kA.size = vs.length := by
      have h1 := hk'.length
      rw [Array.length_toList] at h1
      omega
    try dsimp only
    refine wpAny_bind (listItems_at nk rfl ?_)
    have I4 : L2.Inv X (pins ++ [(a, seqObj "list" #[] e1)]) σ H1 s' := I1.pins_of fun p hp => by
      rcases List.mem_append.mp hp with z | z
      · exact I1.pin p (List.mem_append_right _ (List.mem_append_left _ z))
      · rw [List.mem_singleton.mp z]
        exact ⟨na, na2, na3, na4, na5⟩
    exact keyH_end (κ := dataKind s'.heap kz) (h₁ := noAt s'.heap kS) (fun b o hb q => by
        by_cases z : b = kS
        · rw [z, noAt_self _ _] at q; cases q
        · rwa [noAt_ne z] at q) (noAt_self _ _) nk na hka (SortsAt.data hk' hal hsk hu) hsz hZ fun h3 tk3 c k3 n3 =>
      h h3 tk3 _ c s' H1 ys I4 t1 nk2 (fun b o hb hb2 q => k3 b o hb (by rw [noAt_ne hb2]; exact q)) n3 ⟨s'.heap, kA.toList, hal, rfl, hk'⟩
theorem each_valsK {bs : List (V × PyData)} {out : List Value} (e : EachIs (fun (v : Value) (b : V × PyData) => RelV b.1 v) out bs) : Vals (bs.map (·.1)) out := by
  induction e with
  | nil => exact .nil
  | cons h _ ih => exact .cons h ih
theorem vals_eachK : ∀ {bs : List (V × PyData)} {vs : List Value}, Vals (bs.map (·.1)) vs → EachIs (fun (v : Value) (b : V × PyData) => RelV b.1 v) vs bs
  | [], vs, h => by cases h; exact .nil
  | b :: bs, vs, h => by
    cases h with
    | cons h1 h2 => exact .cons h1 (vals_eachK h2)
/-- sorted(xs, key=f) -/
theorem sorted_keyI {H : Hp} {s : Shared} {l f : Addr} {vs : List Value} {bs : List (V × PyData)} {T : Nat → Hp → List V → Prop} {Q : VK} (I : L2.Inv X pins σ H s) (hl : s.heap.IsList l vs.toArray) (rv : Vals (bs.map (·.1)) vs) (hZ : vs.length ≤ sizeLine)
    (hal : AllAlike (bs.map (·.2))) (hsk : Sortable (bs.map (·.2))) (hu : ∀ d, d ∈ bs.map (·.2) → X.A.in1.in1.units + d.depth < cLine)
    (t0 : T 0 H []) (td : ∀ i H ys, T i H ys → ys.length = i ∧ DpAll X.K H ys ((bs.map (·.2)).take i))
    (turn : ∀ (i : Nat) (v : Value) (x : V) (ys : List V), (bs.map (·.1))[i]? = some x → RelV x v → ∀ (pins' : List (Addr × Obj)) (H : Hp) (s : Shared), L2.Inv X pins' σ H s → T i H ys →
      wpAny (model X.prog X.w) X.A.in1.in1 (call (.ref f) [v]) (fun u s' => ∃ y H', L2.Inv X pins' σ H' s' ∧ RelV y u ∧ T (i + 1) H' (ys ++ [y])) (fun _ _ => False) s)
    (h : ∀ H' ys p, T vs.length H' ys → H' p = none → Q (.ref p) (upd H' p (.lst ((bs.mergeSort (dataLe false (·.2))).map (·.1))))) :
    wpAny (model X.prog X.w) X.A (call (.builtin "sorted") [.ref l] [(Str.ofString "key", .ref f)]) (EP X pins σ Q) X.xe s := by
  have bl : bs.length = vs.length := by have := rv.length; rwa [List.length_map] at this
  refine sorted_of_sort hl hZ (ksk_s1 _ _) (fun _ => ksk_l1 _ _) fun E' => ?_
  rw [ksk_t1]
  have Ic : L2.Inv X pins σ H { s with heap := copyHeap s.heap vs, toks := s.toks } := I.kept fun b o e => copyHeap_old e
  generalize ha : s.heap.objs.size + 1 = a
  have ho : (copyHeap s.heap vs).get? a = some (seqObj "list" vs.toArray 0) := by rw [← ha]; exact copyHeap_at s.heap vs
  have hn : H a = none := I.hok.fresh (by omega)
  have fa : ∀ H', H' a = none → FpOk X pins H' a := fun H' q => I.fpOk (by omega) q
  have as0 : X.s_0.heap.objs.size ≤ a := Nat.le_trans I.sz (by omega)
  generalize hs1 : ({ s with heap := copyHeap s.heap vs } : Shared) = s1
  have Ic : L2.Inv X pins σ H s1 := by rw [← hs1]; exact Ic
  have h1 : s1.heap = copyHeap s.heap vs := by rw [← hs1]
  rw [← h1] at ho
  obtain ⟨e1, ho1⟩ : ∃ e1, (s1.heap.update a (Obj.mapSeq fun _ => (#[] : Array Value))).get? a = some (seqObj "list" #[] e1) := ⟨_, get?_update_seq ho fun _ => #[]⟩
  unfold ksk_tree
  refine wpAny_bind (listItems_at ho rfl ?_)
  refine wpAny_bind (listUpdate_at ho rfl ?_ (by rw [List.size_toArray]; exact hZ) (Nat.zero_le _))
  refine wpAny_bind (seqEpoch_at ho1 rfl ?_)
  refine wpAny_bind (wpAny_newTuple ?_ (by show vs.length ≤ _; exact hZ))
  refine wpAny_bind (wpAny_newList ?_ (Nat.zero_le _))
  refine wpAny_holding ?_
  have szS : ((s1.heap.update a (Obj.mapSeq fun _ => (#[] : Array Value))).push (seqObj "tuple" vs.toArray 0)).objs.size = s1.heap.objs.size + 1 := by rw [size_push', Heap.size_update]
  generalize hkS : ((s1.heap.update a (Obj.mapSeq fun _ => (#[] : Array Value))).push (seqObj "tuple" vs.toArray 0)).objs.size = kS
  have alt : a < s1.heap.objs.size := Heap.lt_size ho
  have ksz : s1.heap.objs.size ≤ kS := by omega
  have hka : kS ≠ a := by omega
  have fk : ∀ H', H' kS = none → FpOk X pins H' kS := fun H' q => Ic.fpOk ksz q
  have I2 : L2.Inv X pins σ H { s1 with heap := sortingHeap s1.heap a vs, toks := s1.toks } := Ic.turnedL (ch := [a]) (fun b o hb q => sortingHeap_old (fun z => hb (by simp [z])) q) fun b hb => by
    rw [List.mem_singleton.mp hb]
    exact fa H hn
  have gk : (sortingHeap s1.heap a vs).get? kS = some (seqObj "list" #[] 0) := by rw [← hkS]; exact Heap.get?_push_size _ rfl
  have ga : (sortingHeap s1.heap a vs).get? a = some (seqObj "list" #[] e1) := Heap.get?_push_of_some _ (Heap.get?_push_of_some _ ho1)
  have hnk : H kS = none := Ic.hok.fresh ksz
  have I3 : L2.Inv X (pins ++ [(kS, seqObj "list" #[] 0), (a, seqObj "list" #[] e1)]) σ H { s1 with heap := sortingHeap s1.heap a vs, toks := s1.toks } := I2.pins_of fun p hp => by
    rcases List.mem_append.mp hp with z | z
    · exact I2.pin p (List.mem_append_right _ z)
    · rcases List.mem_cons.mp z with z | z
      · subst z
        obtain ⟨_, f1, f2, _⟩ := fk H hnk
        exact ⟨gk, hnk, f1, f2, fun v q => by cases q⟩
      · rw [List.mem_singleton.mp z]
        obtain ⟨_, f1, f2, _⟩ := fa H hn
        exact ⟨ga, hn, f1, f2, fun v q => by cases q⟩
  refine keyI_rest (kz := bs.map (·.2)) I3 fk hka (by rw [List.length_map]; exact bl) hZ hal hsk hu t0 td (fun i v ys hv pins' H s I t => ?_) fun h' tk out c s' H1 ys I4 t4 qk kp na ko => ⟨rfl, ?_⟩
  · have e : (vs : List Value)[i]? = some v := hv
    obtain ⟨x, hx⟩ : ∃ x, (bs.map (·.1))[i]? = some x := ⟨_, List.getElem?_eq_getElem (by have := (List.getElem?_eq_some_iff.mp e).1; rw [List.length_map]; omega)⟩
    obtain ⟨u, hu', ru⟩ := Vals.get rv hx
    rw [e] at hu'
    cases hu'
    exact turn i v x ys hx ru pins' H s I t
  · have eo := keyedOut_each (R := fun (v : Value) (b : V × PyData) => RelV b.1 v) (fun b : V × PyData => b.2) ko (vals_eachK rv)
    have rv2 := each_valsK eo
    obtain ⟨qa, qn, _⟩ := I4.pin (a, seqObj "list" #[] e1) (List.mem_append_right _ (List.mem_append_right _ (List.mem_singleton.mpr rfl)))
    have I5 : L2.Inv X pins σ H1 { s' with heap := h', toks := tk } := I4.unpinned.turnedL (ch := [a, kS]) (fun b o hb q => kp b o (fun z => hb (by simp [z])) (fun z => hb (by simp [z])) q) fun b hb => by
      rcases List.mem_cons.mp hb with z | z
      · rw [z]; exact fa H1 qn
      · rw [List.mem_singleton.mp z]; exact fk H1 qk
    have lz : ((bs.mergeSort (dataLe false (·.2))).map (·.1)).length ≤ sizeLine := by rw [List.length_map, List.length_mergeSort, bl]; exact hZ
    exact ⟨.ref a, _, Inv.adopt (ob := .lst ((bs.mergeSort (dataLe false (·.2))).map (·.1))) I5 (fa H1 qn) as0 (show ObjOk _ _ _ _ _ (.lst _) from ⟨lz, out, c, rv2, na⟩), rfl, h H1 ys a t4 qn⟩
end
end Zd
set_option Elab.async false
set_option linter.all false
set_option maxRecDepth 100000
set_option maxHeartbeats 1000000
/-! Where a body stands: the world. -/
namespace Zd
open PySem PySem.Spec PyProof.Rows L2
/-- a slot's mode: a value; a thing of its own; a thing that is only read; the script -/
inductive Md where | val | own | top | scr | slf | cls (k : Nat)
  deriving DecidableEq, Inhabited
/-- a thing of one's own; slf: the instance that a body makes -/
def Md.mine : Md → Bool
  | .own => true
  | .slf => true
  | _ => false
def Wd.add (w : Wd) (p : Addr) (o : HO) : Wd := { w with Hs := upd w.Hs p o }
def Wd.more (w : Wd) (p : Addr) : Wd := { w with rho := fun k => if k = w.n then p else w.rho k, n := w.n + 1 }
section
variable {L : Lk} {w w' : Wd} {H H' : Hp} {S : Store}
theorem Con.of {d : D} {a : Addr} (h : Con L w H d a) (hs : ∀ a o, w.Hs a = some o → w'.Hs a = some o) (hn : w.n ≤ w'.n) (hr : ∀ k, k < w.n → w'.rho k = w.rho k) (e : H' a = H a) : Con L w' H' d a := by
  cases d <;> simp only [Con] at h ⊢
  · obtain ⟨vs, q, r, z⟩ := h
    exact ⟨vs, e.trans q, Reps.mono hs hn hr _ _ r, z⟩
  · obtain ⟨kvs, q, h1, r, z⟩ := h
    exact ⟨kvs, e.trans q, h1, Reps.mono hs hn hr _ _ r, z⟩
  · obtain ⟨dx, fs, q, h1, r⟩ := h
    exact ⟨dx, fs, e.trans q, h1, Reps.mono hs hn hr _ _ r⟩
  · obtain ⟨es, e1, q, r, n, z⟩ := h
    exact ⟨es, e1, e.trans q, r.mono hs, n, z⟩
theorem Core.there (c : Core L w S H) {k : Nat} (hk : k < w.n) : ∃ o, H (w.rho k) = some o := by
  have hk' : k < S.length := by rw [c.len]; exact hk
  exact (c.st k (S[k]) (List.getElem?_eq_getElem hk')).2.there
theorem Core.rhoNe (c : Core L w S H) {k : Nat} (hk : k < w.n) {p : Addr} (hp : H p = none) : w.rho k ≠ p := fun e => by
  obtain ⟨o, ho⟩ := c.there hk
  rw [e, hp] at ho
  cases ho
theorem Wd.add_sub {p : Addr} {o : HO} (c : Core L w S H) (hp : H p = none) : ∀ a u, w.Hs a = some u → (w.add p o).Hs a = some u := fun a u h => by
  show upd w.Hs p o a = some u
  rw [upd_ne]
  · exact h
  · rintro rfl
    rw [c.sub _ _ h] at hp
    cases hp
/-- a new thing that is shared from now on -/
theorem Core.laid {p : Addr} {o : HO} (c : Core L w S H) (hp : H p = none) : Core L (w.add p o) S (upd H p o) where
  sub := fun a u h => by
    by_cases e : a = p
    · subst e
      have h' : upd w.Hs a o a = some u := h
      rw [upd_same] at h' ⊢
      exact h'
    · have h' : upd w.Hs p o a = some u := h
      rw [upd_ne e] at h' ⊢
      exact c.sub a u h'
  len := c.len
  st := fun k d h => by
    obtain ⟨h1, h2⟩ := c.st k d h
    have hk : k < w.n := by rw [← c.len]; exact (List.getElem?_eq_some_iff.mp h).1
    have ne := c.rhoNe hk hp
    refine ⟨?_, h2.of (w' := w.add p o) (Wd.add_sub c hp) (Nat.le_refl _) (fun _ _ => rfl) (upd_ne ne)⟩
    show upd w.Hs p o (w.rho k) = none
    rw [upd_ne ne]
    exact h1
  inj := c.inj
theorem Le.laid {p : Addr} {o : HO} (c : Core L w S H) (hp : H p = none) : Le w H (w.add p o) (upd H p o) where
  hs := Wd.add_sub c hp
  n := Nat.le_refl _
  rho := fun _ _ => rfl
  keep := fun a u h _ => by rw [upd_ne (ne_of_none h hp)]; exact h
  there := fun a u h => ⟨u, by rw [upd_ne (ne_of_none h hp)]; exact h⟩
  out := fun a u h hn => by
    show upd w.Hs p o a = none
    rw [upd_ne (ne_of_none h hp)]
    exact hn
  new := fun k h1 h2 => by
    have : k < w.n := h2
    omega
/-- a new thing of its own -/
theorem Core.fresh {p : Addr} {o : HO} (c : Core L w S H) (hp : H p = none) : Core L w S (upd H p o) where
  sub := fun a u h => by
    have := c.sub a u h
    rw [upd_ne (ne_of_none this hp)]
    exact this
  len := c.len
  st := fun k d h => by
    obtain ⟨h1, h2⟩ := c.st k d h
    have hk : k < w.n := by rw [← c.len]; exact (List.getElem?_eq_some_iff.mp h).1
    exact ⟨h1, h2.of (fun _ _ q => q) (Nat.le_refl _) (fun _ _ => rfl) (upd_ne (c.rhoNe hk hp))⟩
  inj := c.inj
theorem Le.fresh {p : Addr} {o : HO} (hp : H p = none) : Le w H w (upd H p o) where
  hs := fun _ _ h => h
  n := Nat.le_refl _
  rho := fun _ _ => rfl
  keep := fun a u h _ => by rw [upd_ne (ne_of_none h hp)]; exact h
  there := fun a u h => ⟨u, by rw [upd_ne (ne_of_none h hp)]; exact h⟩
  out := fun a u h hn => hn
  new := fun k h1 h2 => by omega
/-- a thing of its own is changed -/
theorem Core.change {p : Addr} {o : HO} (c : Core L w S H) (h1 : w.Hs p = none) (h2 : ∀ k, k < w.n → w.rho k ≠ p) : Core L w S (upd H p o) where
  sub := fun a u h => by
    rw [upd_ne]
    · exact c.sub a u h
    · rintro rfl
      rw [h1] at h
      cases h
  len := c.len
  st := fun k d h => by
    obtain ⟨q1, q2⟩ := c.st k d h
    have hk : k < w.n := by rw [← c.len]; exact (List.getElem?_eq_some_iff.mp h).1
    exact ⟨q1, q2.of (fun _ _ q => q) (Nat.le_refl _) (fun _ _ => rfl) (upd_ne (h2 k hk))⟩
  inj := c.inj
theorem Le.change {w0 : Wd} {H0 : Hp} {p : Addr} {o : HO} (l : Le w0 H0 w H) (hp : H0 p = none) : Le w0 H0 w (upd H p o) where
  hs := l.hs
  n := l.n
  rho := l.rho
  keep := fun a u h hk => by rw [upd_ne (ne_of_none h hp)]; exact l.keep a u h hk
  there := fun a u h => by rw [upd_ne (ne_of_none h hp)]; exact l.there a u h
  out := l.out
  new := l.new
/-- what stands at a place of the store is changed -/
theorem Core.put {k : Nat} {o : HO} {d : D} (c : Core L w S H) (hk : k < w.n) (hd : Con L w (upd H (w.rho k) o) d (w.rho k)) : Core L w (S.set k d) (upd H (w.rho k) o) where
  sub := fun a u h => by
    rw [upd_ne]
    · exact c.sub a u h
    · rintro rfl
      have hk' : k < S.length := by rw [c.len]; exact hk
      rw [(c.st k (S[k]) (List.getElem?_eq_getElem hk')).1] at h
      cases h
  len := by rw [List.length_set]; exact c.len
  st := fun m e h => by
    by_cases q : m = k
    · subst q
      have hk' : m < S.length := by rw [c.len]; exact hk
      rw [List.getElem?_set_self hk'] at h
      cases h
      exact ⟨(c.st m (S[m]) (List.getElem?_eq_getElem hk')).1, hd⟩
    · rw [List.getElem?_set_ne (Ne.symm q)] at h
      obtain ⟨h1, h2⟩ := c.st m e h
      have hm : m < w.n := by rw [← c.len]; exact (List.getElem?_eq_some_iff.mp h).1
      exact ⟨h1, h2.of (fun _ _ q => q) (Nat.le_refl _) (fun _ _ => rfl) (upd_ne fun e => q (c.inj _ _ hm hk e))⟩
  inj := c.inj
theorem Le.put {k : Nat} {o : HO} (hk : k < w.n) : Le w H w (upd H (w.rho k) o) where
  hs := fun _ _ h => h
  n := Nat.le_refl _
  rho := fun _ _ => rfl
  keep := fun a u h q => by rw [upd_ne (Ne.symm (q k hk))]; exact h
  there := fun a u h => by
    by_cases e : a = w.rho k
    · rw [e, upd_same]; exact ⟨_, rfl⟩
    · rw [upd_ne e]; exact ⟨u, h⟩
  out := fun a u h hn => hn
  new := fun k h1 h2 => by omega
/-- a new place of the store -/
theorem Core.place {p : Addr} {o : HO} {d : D} (c : Core L w S H) (hp : H p = none) (hd : Con L (w.more p) (upd H p o) d p) : Core L (w.more p) (S ++ [d]) (upd H p o) where
  sub := fun a u h => by
    have h' : w.Hs a = some u := h
    have := c.sub a u h'
    rw [upd_ne (ne_of_none this hp)]
    exact this
  len := by rw [List.length_append, c.len]; rfl
  st := fun m e h => by
    have hm : m < w.n + 1 := by
      have := (List.getElem?_eq_some_iff.mp h).1
      rw [List.length_append, c.len] at this
      exact this
    by_cases q : m = w.n
    · have e1 : (w.more p).rho m = p := by show (if m = w.n then p else w.rho m) = p; rw [if_pos q]
      rw [q, ← c.len, List.getElem?_append_right (Nat.le_refl _)] at h
      simp at h
      subst h
      rw [e1]
      refine ⟨?_, hd⟩
      show w.Hs p = none
      cases z : w.Hs p with
      | none => rfl
      | some u => rw [c.sub _ _ z] at hp; cases hp
    · have hm' : m < w.n := by omega
      have e1 : (w.more p).rho m = w.rho m := by show (if m = w.n then p else w.rho m) = w.rho m; rw [if_neg q]
      rw [List.getElem?_append_left (by rw [c.len]; exact hm')] at h
      obtain ⟨h1, h2⟩ := c.st m e h
      rw [e1]
      refine ⟨h1, h2.of (w' := w.more p) (fun _ _ q => q) (Nat.le_succ _) (fun k hk => ?_) (upd_ne (c.rhoNe hm' hp))⟩
      show (if k = w.n then p else w.rho k) = w.rho k
      rw [if_neg (by omega)]
  inj := fun a b ha hb e => by
    have ha : a < w.n + 1 := ha
    have hb : b < w.n + 1 := hb
    have e : (if a = w.n then p else w.rho a) = (if b = w.n then p else w.rho b) := e
    by_cases qa : a = w.n
    · by_cases qb : b = w.n
      · omega
      · rw [if_pos qa, if_neg qb] at e
        exact absurd e.symm (c.rhoNe (by omega) hp)
    · by_cases qb : b = w.n
      · rw [if_neg qa, if_pos qb] at e
        exact absurd e (c.rhoNe (by omega) hp)
      · rw [if_neg qa, if_neg qb] at e
        exact c.inj a b (by omega) (by omega) e
theorem Le.place {p : Addr} {o : HO} (hp : H p = none) : Le w H (w.more p) (upd H p o) where
  hs := fun _ _ h => h
  n := Nat.le_succ _
  rho := fun k hk => by show (if k = w.n then p else w.rho k) = w.rho k; rw [if_neg (by omega)]
  keep := fun a u h _ => by rw [upd_ne (ne_of_none h hp)]; exact h
  there := fun a u h => ⟨u, by rw [upd_ne (ne_of_none h hp)]; exact h⟩
  out := fun a u h hn => hn
  new := fun k h1 h2 => by
    have h2 : k < w.n + 1 := h2
    have e : k = w.n := by omega
    show H (if k = w.n then p else w.rho k) = none
    rw [if_pos e]
    exact hp
end
/-! ### slots -/
def scrAt (L : Lk) (w : Wd) (H : Hp) (a : Addr) (ns : List Int) : Prop :=
  ns.length ≤ line ∧ (((∃ o, H a = some o ∧ (o = .lst (ns.map V.int) ∨ ∃ ob, o = .frz ob (.lst (ns.map V.int)))) ∧ ∀ k, k < w.n → w.rho k ≠ a) ∨ SqL L.K (fun _ => none) a (ns.map V.int))
def SlotR (L : Lk) (w : Wd) (H0 H : Hp) : Md → D → V → Prop
  | .val, d, v => Rep L w d v
  | .own, d, v => ∃ a, v = .ref a ∧ Own L w H d a ∧ H0 a = none
  | .slf, d, v => ∃ a, v = .ref a ∧ Own L w H d a ∧ H0 a = none
  | .top, d, v => Rep L w d v ∨ ∃ a, v = .ref a ∧ Own L w H d a ∧ ∃ o, H0 a = some o
  | .scr, d, v => ∃ a ns, v = .ref a ∧ d = .lst (ns.map D.int) ∧ scrAt L w H a ns ∧ (H0 a = none → SqL L.K (fun _ => none) a (ns.map V.int))
  | .cls k, _, v => v = .ref (L.ca k)
theorem scrAt.le {L : Lk} {w w' : Wd} {H H' : Hp} {a : Addr} {ns : List Int} (h : scrAt L w H a ns) (l : Le w H w' H') : scrAt L w' H' a ns := by
  refine ⟨h.1, ?_⟩
  rcases h.2 with ⟨⟨o, ho, hc⟩, hk⟩ | h
  · refine .inl ⟨⟨o, l.keep a o ho hk, hc⟩, fun k hk1 e => ?_⟩
    by_cases q : k < w.n
    · exact hk k q ((l.rho k q).symm.trans e)
    · have z := l.new k (by omega) hk1
      rw [e, ho] at z
      cases z
  · exact .inr h
theorem scrAt.sq {L : Lk} {w : Wd} {H : Hp} {a : Addr} {ns : List Int} (h : scrAt L w H a ns) : SqL L.K H a (ns.map V.int) := by
  rcases h.2 with ⟨⟨o, ho, hc⟩, _⟩ | h
  · rcases hc with e | ⟨ob, e⟩
    · subst e; exact .inl (.inl ho)
    · subst e; exact .inl (.inr ⟨ob, ho⟩)
  · rcases h with (h | ⟨o, h⟩) | h
    · cases h
    · cases h
    · exact .inr h
theorem SlotR.le {L : Lk} {w w' : Wd} {H0 H H' : Hp} {md : Md} {d : D} {v : V} (h : SlotR L w H0 H md d v) (l : Le w H w' H') : SlotR L w' H0 H' md d v := by
  cases md with
  | val => exact Rep.le (H := H) (H' := H') h l
  | own => obtain ⟨a, e, o, z⟩ := h; exact ⟨a, e, o.le l, z⟩
  | slf => obtain ⟨a, e, o, z⟩ := h; exact ⟨a, e, o.le l, z⟩
  | top =>
    rcases h with h | ⟨a, e, o, z⟩
    · exact .inl (h.le l)
    · exact .inr ⟨a, e, o.le l, z⟩
  | scr => obtain ⟨a, ns, e, e2, z, z2⟩ := h; exact ⟨a, ns, e, e2, z.le l, z2⟩
  | cls k => exact h
theorem slot_mine {L : Lk} {w : Wd} {H0 H : Hp} {md : Md} {d : D} {v : V} (hm : md.mine = true) (h : SlotR L w H0 H md d v) : ∃ a, v = .ref a ∧ Own L w H d a ∧ H0 a = none := by
  cases md with
  | own => exact h
  | slf => exact h
  | val => cases hm
  | top => cases hm
  | scr => cases hm
  | cls k => cases hm
theorem mine_slot {L : Lk} {w : Wd} {H0 H : Hp} {md : Md} {d : D} {v : V} (hm : md.mine = true) (h : ∃ a, v = .ref a ∧ Own L w H d a ∧ H0 a = none) : SlotR L w H0 H md d v := by
  cases md with
  | own => exact h
  | slf => exact h
  | val => cases hm
  | top => cases hm
  | scr => cases hm
  | cls k => cases hm
theorem mine_own {md : Md} (h : md = .own) : md.mine = true := by rw [h]; rfl
abbrev Ms := Nat → Md
def Ms.put (M : Ms) (i : Nat) (md : Md) : Ms := fun j => if j = i then md else M j
structure World (L : Lk) (M : Ms) (w0 : Wd) (H0 : Hp) (w : Wd) (g : Ev) (S : Store) (σ : L2.St) (H : Hp) : Prop where
  core : Core L w S H
  le0 : Le w0 H0 w H
  len : g.length = σ.length
  slot : ∀ i d, g[i]? = some (some d) → ∃ v, σ[i]? = some (some v) ∧ SlotR L w H0 H (M i) d v
  pin : ∀ i, M i = .slf → i = 0 ∧ ∃ a, w0.sf = some a ∧ ∀ d, g[0]? = some (some d) → σ[0]? = some (some (V.ref a))
  apart : ∀ (i j : Nat) (a : Addr), i ≠ j → (M i).mine = true → (M j).mine = true → σ[i]? = some (some (V.ref a)) → σ[j]? = some (some (V.ref a)) → (∃ d, g[i]? = some (some d)) → (∃ d, g[j]? = some (some d)) → False
section
variable {L : Lk} {M : Ms} {w0 w w' : Wd} {H0 H H' : Hp} {g : Ev} {S S' : Store} {σ : L2.St}
theorem World.step (W : World L M w0 H0 w g S σ H) (c : Core L w' S' H') (l : Le w H w' H') : World L M w0 H0 w' g S' σ H' where
  core := c
  le0 := W.le0.trans l
  len := W.len
  slot := fun i d h => let ⟨v, e, r⟩ := W.slot i d h; ⟨v, e, r.le l⟩
  pin := W.pin
  apart := W.apart
theorem getset {α : Type} {l : List α} {i j : Nat} {a b : α} (h : (l.set i a)[j]? = some b) : (i = j ∧ a = b ∧ i < l.length) ∨ (i ≠ j ∧ l[j]? = some b) := by
  by_cases e : i = j
  · subst e
    by_cases hi : i < l.length
    · rw [List.getElem?_set_self hi] at h
      cases h
      exact .inl ⟨rfl, rfl, hi⟩
    · rw [List.getElem?_eq_none (by rw [List.length_set]; omega)] at h
      cases h
  · rw [List.getElem?_set_ne e] at h
    exact .inr ⟨e, h⟩
/-- a slot is stored -/
theorem World.set (W : World L M w0 H0 w g S σ H) (i : Nat) {d : D} {v : V} (md : Md) (h : SlotR L w H0 H md d v)
    (hs : md ≠ .slf) (ha : md = .own → ∀ (j : Nat) (a : Addr), j ≠ i → (M j).mine = true → v = .ref a → σ[j]? = some (some (V.ref a)) → (∃ d, g[j]? = some (some d)) → False) :
    World L (M.put i md) w0 H0 w (g.set i (some d)) S (σ.set i (some v)) H where
  core := W.core
  le0 := W.le0
  len := by rw [List.length_set, List.length_set]; exact W.len
  slot := fun j e q => by
    rcases getset q with ⟨rfl, e1, hi⟩ | ⟨ne, q⟩
    · cases e1
      refine ⟨v, List.getElem?_set_self (by rw [← W.len]; exact hi), ?_⟩
      show SlotR L w H0 H (if i = i then md else M i) d v
      rw [if_pos rfl]
      exact h
    · obtain ⟨u, e1, r⟩ := W.slot j e q
      refine ⟨u, by rw [List.getElem?_set_ne ne]; exact e1, ?_⟩
      show SlotR L w H0 H (if j = i then md else M j) e u
      rw [if_neg (Ne.symm ne)]
      exact r
  pin := fun k hk => by
    have hk : (if k = i then md else M k) = .slf := hk
    by_cases e : k = i
    · rw [if_pos e] at hk
      exact absurd hk hs
    · rw [if_neg e] at hk
      obtain ⟨k0, a, ea, q⟩ := W.pin k hk
      have n0 : i ≠ 0 := fun z => e (k0.trans z.symm)
      exact ⟨k0, a, ea, fun d hd => by
        rw [List.getElem?_set_ne n0] at hd ⊢
        exact q d hd⟩
  apart := fun a b x ne ma mb sa sb ga gb => by
    have ma : (if a = i then md else M a).mine = true := ma
    have mb : (if b = i then md else M b).mine = true := mb
    have ow : md.mine = true → md = .own := fun h => by
      cases md with
      | own => rfl
      | slf => exact absurd rfl hs
      | val => cases h
      | top => cases h
      | scr => cases h
      | cls k => cases h
    obtain ⟨da, ga⟩ := ga
    obtain ⟨db, gb⟩ := gb
    rcases getset sa with ⟨ea, va, _⟩ | ⟨na, sa'⟩
    · rcases getset sb with ⟨eb, vb, _⟩ | ⟨nb, sb'⟩
      · exact ne (ea.symm.trans eb)
      · rw [if_pos ea.symm] at ma
        rw [if_neg (Ne.symm nb)] at mb
        rw [List.getElem?_set_ne nb] at gb
        cases va
        exact ha (ow ma) b x (Ne.symm nb) mb rfl sb' ⟨db, gb⟩
    · rw [if_neg (Ne.symm na)] at ma
      rw [List.getElem?_set_ne na] at ga
      rcases getset sb with ⟨eb, vb, _⟩ | ⟨nb, sb'⟩
      · rw [if_pos eb.symm] at mb
        cases vb
        exact ha (ow mb) a x (Ne.symm na) ma rfl sa' ⟨da, ga⟩
      · rw [if_neg (Ne.symm nb)] at mb
        rw [List.getElem?_set_ne nb] at gb
        exact W.apart a b x ne ma mb sa' sb' ⟨da, ga⟩ ⟨db, gb⟩
theorem World.val (W : World L M w0 H0 w g S σ H) (i : Nat) {d : D} {v : V} (h : Rep L w d v) : World L (M.put i .val) w0 H0 w (g.set i (some d)) S (σ.set i (some v)) H :=
  W.set i .val h nofun fun e => nomatch e
/-- a new thing of its own goes to a slot -/
theorem World.newOwn (W : World L M w0 H0 w g S σ H) (i : Nat) {d : D} {p : Addr} {o : HO} (hp : H p = none) (hd : Con L w (upd H p o) d p) : World L (M.put i .own) w0 H0 w (g.set i (some d)) S (σ.set i (some (.ref p))) (upd H p o) := by
  have W1 := W.step (W.core.fresh (o := o) hp) (Le.fresh hp)
  refine W1.set i .own ⟨p, rfl, ⟨?_, hd, fun k hk => W.core.rhoNe hk hp⟩, ?_⟩ nofun fun _ j a ne mj e sj gj => ?_
  · cases z : w.Hs p with
    | none => rfl
    | some u => rw [W.core.sub _ _ z] at hp; cases hp
  · cases z : H0 p with
    | none => rfl
    | some u =>
      obtain ⟨o', h'⟩ := W.le0.there p u z
      rw [h'] at hp
      cases hp
  · cases e
    obtain ⟨dj, gj⟩ := gj
    obtain ⟨u, e1, r⟩ := W.slot j dj gj
    rw [sj] at e1
    cases e1
    obtain ⟨a, ea, ⟨_, hc, _⟩, _⟩ := slot_mine mj r
    cases ea
    obtain ⟨o', ho'⟩ := hc.there
    rw [ho'] at hp
    cases hp
/-- a thing of its own, in a slot, is changed -/
theorem World.change (W : World L M w0 H0 w g S σ H) {i : Nat} {d d' : D} {a : Addr} {o : HO} (hi : g[i]? = some (some d)) (hm : (M i).mine = true) (hs : σ[i]? = some (some (.ref a))) (hd : Con L w (upd H a o) d' a) :
    World L M w0 H0 w (g.set i (some d')) S σ (upd H a o) := by
  obtain ⟨v, e, r⟩ := W.slot i d hi
  rw [hs] at e
  cases e
  obtain ⟨a', ea, ⟨h1, h2, h3⟩, h0⟩ := slot_mine hm r
  cases ea
  have hlt : i < g.length := (List.getElem?_eq_some_iff.mp hi).1
  refine ⟨W.core.change h1 h3, W.le0.change h0, by rw [List.length_set]; exact W.len, fun j e q => ?_, fun k hk => ?_, fun x y b ne mx my sx sy gx gy => ?_⟩
  · rcases getset q with ⟨rfl, e1, _⟩ | ⟨ne, q⟩
    · cases e1
      exact ⟨_, hs, mine_slot hm ⟨a, rfl, ⟨h1, hd, h3⟩, h0⟩⟩
    · obtain ⟨u, e1, r⟩ := W.slot j e q
      refine ⟨u, e1, ?_⟩
      have other : ∀ b, Con L w H e b → b ≠ a → Con L w (upd H a o) e b := fun b hb nb => hb.of (fun _ _ q => q) (Nat.le_refl _) (fun _ _ => rfl) (upd_ne nb)
      cases mj : M j with
      | val => rw [mj] at r; exact r
      | own =>
        rw [mj] at r
        obtain ⟨b, eb, ⟨q1, q2, q3⟩, q0⟩ := r
        subst eb
        have nb : b ≠ a := fun z => by
          subst z
          exact W.apart i j b ne hm (mine_own mj) hs e1 ⟨_, hi⟩ ⟨_, q⟩
        exact ⟨b, rfl, ⟨q1, other b q2 nb, q3⟩, q0⟩
      | slf =>
        rw [mj] at r
        obtain ⟨b, eb, ⟨q1, q2, q3⟩, q0⟩ := r
        subst eb
        have nb : b ≠ a := fun z => by
          subst z
          exact W.apart i j b ne hm (by rw [mj]; rfl) hs e1 ⟨_, hi⟩ ⟨_, q⟩
        exact ⟨b, rfl, ⟨q1, other b q2 nb, q3⟩, q0⟩
      | top =>
        rw [mj] at r
        rcases r with r | ⟨b, eb, ⟨q1, q2, q3⟩, ob, q0⟩
        · exact .inl r
        · have nb : b ≠ a := fun z => by
            subst z
            rw [q0] at h0
            cases h0
          exact .inr ⟨b, eb, ⟨q1, other b q2 nb, q3⟩, ob, q0⟩
      | cls k => rw [mj] at r; exact r
      | scr =>
        rw [mj] at r
        obtain ⟨b, ns, eb, ed, z, z2⟩ := r
        refine ⟨b, ns, eb, ed, ?_, z2⟩
        refine ⟨z.1, ?_⟩
        rcases z.2 with ⟨⟨ob, hob, hc⟩, hk⟩ | z
        · by_cases nb : b = a
          · subst nb
            exact .inr (z2 h0)
          · exact .inl ⟨⟨ob, by rw [upd_ne nb]; exact hob, hc⟩, hk⟩
        · exact .inr z
  · obtain ⟨k0, a0, ea, q⟩ := W.pin k hk
    refine ⟨k0, a0, ea, fun d1 hd1 => ?_⟩
    rcases getset hd1 with ⟨rfl, _, _⟩ | ⟨_, hd1⟩
    · exact q d hi
    · exact q d1 hd1
  · refine W.apart x y b ne mx my sx sy ?_ ?_
    · obtain ⟨dx, gx⟩ := gx
      rcases getset gx with ⟨rfl, _, _⟩ | ⟨_, gx⟩
      · exact ⟨_, hi⟩
      · exact ⟨_, gx⟩
    · obtain ⟨dx, gx⟩ := gy
      rcases getset gx with ⟨rfl, _, _⟩ | ⟨_, gx⟩
      · exact ⟨_, hi⟩
      · exact ⟨_, gx⟩
end
end Zd
set_option Elab.async false
set_option linter.all false
set_option maxRecDepth 100000
set_option maxHeartbeats 1000000
/-! Readings, and what a context must have. -/
namespace Zd
open PySem PySem.Spec PyProof.Rows L2
/-- the fixed things of a body's reading: the links, the slots' modes, the entry, the wish about errors, the tables, the callees -/
structure Pr where
  L : Lk
  M : Ms
  w0 : Wd
  H0 : Hp
  W : WX
  T : Tab
  cf : CF
/-- an argument, by its parameter's mode -/
def ArgR1 (L : Lk) (w : Wd) (H : Hp) : Md → D → V → Prop
  | .val, d, v => Rep L w d v
  | .top, d, v => RepT L w H d v
  | .scr, d, v => ∃ a ns, v = .ref a ∧ d = .lst (ns.map D.int) ∧ scrAt L w H a ns
  | .cls k, _, v => v = .ref (L.ca k)
  | .own, _, _ => False
  | .slf, _, _ => False
theorem ArgR1.le {L : Lk} {w w' : Wd} {H H' : Hp} {md : Md} {d : D} {v : V} (h : ArgR1 L w H md d v) (l : Le w H w' H') : ArgR1 L w' H' md d v := by
  cases md with
  | val => exact Rep.le (H := H) (H' := H') h l
  | top => exact RepT.le h l
  | scr => obtain ⟨a, ns, e, e2, z⟩ := h; exact ⟨a, ns, e, e2, z.le l⟩
  | cls k => exact h
  | own => exact h
  | slf => exact h
def ArgR (L : Lk) (w : Wd) (H : Hp) : List Md → List D → List V → Prop
  | _, [], vs => vs = []
  | [], _ :: _, _ => False
  | md :: ms, d :: ds, vs => ∃ v r, vs = v :: r ∧ ArgR1 L w H md d v ∧ ArgR L w H ms ds r
theorem ArgR.le {L : Lk} {w w' : Wd} {H H' : Hp} (l : Le w H w' H') : ∀ {ms : List Md} {ds : List D} {vs : List V}, ArgR L w H ms ds vs → ArgR L w' H' ms ds vs
  | _, [], vs, h => by simpa [ArgR] using h
  | [], _ :: _, vs, h => by simp [ArgR] at h
  | md :: ms, d :: ds, vs, h => by
    simp only [ArgR] at h ⊢
    obtain ⟨v, r, e, h1, h2⟩ := h
    exact ⟨v, r, e, h1.le l, ArgR.le l h2⟩
/-- an error as it lies behind its raise: its class, its own dict -/
def ExR (L : Lk) (w : Wd) (e : D) (cls : Value) (dx : Option Addr) : Prop :=
  ∃ c ns vs, e = .obj c ns vs ∧ cls = .ref (L.ca c) ∧ ((dx = none ∧ ns = []) ∨ ∃ d fs, dx = some d ∧ w.Hs d = some (.xd fs) ∧ fs.map (·.1) = ns.map L.fnm ∧ Reps L w vs (fs.map (·.2)))
section
variable (P : Pr)
abbrev Pr.Wo (w : Wd) (g : Ev) (S : Store) (σ : L2.St) (H : Hp) : Prop := World P.L P.M P.w0 P.H0 w g S σ H
def Pr.X (w : Wd) (g : Ev) (σ : L2.St) (H : Hp) (e : D) (S' : Store) : Prop :=
  ∀ w' H' cls dx, P.Wo w' g S' σ H' → Le w H w' H' → ExR P.L w' e cls dx → P.W cls dx σ H'
def PostM (md : Md) (w : Wd) (g : Ev) (σ : L2.St) (H : Hp) (Q : VK) : Res D → Prop
  | .ok d S' => ∀ v w' H', P.Wo w' g S' σ H' → Le w H w' H' → ArgR1 P.L w' H' md d v → Q v H'
  | .exc e S' => P.X w g σ H e S'
  | .bad => False
def tM (md : Md) (d : DE) : TE := fun σ H Q => ∃ w g S, P.Wo w g S σ H ∧ PostM P md w g σ H Q (ev P.T P.cf d g S)
/-- a test -/
def PostB (w : Wd) (g : Ev) (σ : L2.St) (H : Hp) (Q : Bool → Hp → Prop) : Res D → Prop
  | .ok d S' => match (rd S' d).truth with
    | some b => ∀ w' H', P.Wo w' g S' σ H' → Le w H w' H' → Q b H'
    | none => False
  | .exc e S' => P.X w g σ H e S'
  | .bad => False
def tBo (d : DE) : TT := fun σ H Q => ∃ w g S, P.Wo w g S σ H ∧ PostB P w g σ H Q (ev P.T P.cf d g S)
def PostA (ms : List Md) (w : Wd) (g : Ev) (σ : L2.St) (H : Hp) (Q : List V → Hp → Prop) : Res (List D) → Prop
  | .ok ds S' => ∀ vs w' H', P.Wo w' g S' σ H' → Le w H w' H' → ArgR P.L w' H' ms ds vs → Q vs H'
  | .exc e S' => P.X w g σ H e S'
  | .bad => False
def tAr (ms : List Md) (l : DA) : TA := fun σ H Q => ∃ w g S, P.Wo w g S σ H ∧ PostA P ms w g σ H Q (eva P.T P.cf l g S)
def PostO (w : Wd) (g : Ev) (σ : L2.St) (H : Hp) (Q : Option Int → Hp → Prop) : Res (Option Int) → Prop
  | .ok d S' => ∀ w' H', P.Wo w' g S' σ H' → Le w H w' H' → Q d H'
  | .exc e S' => P.X w g σ H e S'
  | .bad => False
def tOp' (d : DO) : TO := fun σ H Q => ∃ w g S, P.Wo w g S σ H ∧ PostO P w g σ H Q (evo P.T P.cf d g S)
end
theorem PE.imp {X : Cx} {e : Expr} {t t' : TE} (h : PE X e t) (i : ∀ σ H Q, t' σ H Q → t σ H Q) : PE X e t' := ⟨fun pins s σ H Q I q => h.run pins s σ H Q I (i σ H Q q)⟩
theorem PT.imp {X : Cx} {e : Expr} {t t' : TT} (h : PT X e t) (i : ∀ σ H Q, t' σ H Q → t σ H Q) : PT X e t' := ⟨fun pins s σ H Q I q => h.run pins s σ H Q I (i σ H Q q)⟩
theorem PW.imp {X : Cx} {e : Expr} {t t' : TT} (h : PW X e t) (i : ∀ σ H Q, t' σ H Q → t σ H Q) : PW X e t' := ⟨fun wh pins s σ H Q I q => h.run wh pins s σ H Q I (i σ H Q q)⟩
theorem PA.imp {X : Cx} {e : List Expr} {t t' : TA} (h : PA X e t) (i : ∀ σ H Q, t' σ H Q → t σ H Q) : PA X e t' := ⟨fun pos pins s σ H Q I q => h.run pos pins s σ H Q I (i σ H Q q)⟩
theorem PO.imp {X : Cx} {e : Option Expr} {t t' : TO} (h : PO X e t) (i : ∀ σ H Q, t' σ H Q → t σ H Q) : PO X e t' := ⟨fun pins s σ H Q I q => h.run pins s σ H Q I (i σ H Q q)⟩
theorem PS.imp {X : Cx} {e : Stmt} {t t' : TS} (h : PS X e t) (i : ∀ D σ H, t' D σ H → t D σ H) : PS X e t' := ⟨fun pins s σ H D I q => h.run pins s σ H D I (i D σ H q)⟩
theorem PSs.imp {X : Cx} {e : List Stmt} {t t' : TS} (h : PSs X e t) (i : ∀ D σ H, t' D σ H → t D σ H) : PSs X e t' := ⟨fun pins s σ H D I q => h.run pins s σ H D I (i D σ H q)⟩
section
variable {P : Pr} {w w1 w' : Wd} {g : Ev} {σ : L2.St} {H H1 H' : Hp} {e : D} {S' : Store} {Q : VK} {md : Md}
theorem Pr.X.le (l : Le w H w1 H1) (x : P.X w g σ H e S') : P.X w1 g σ H1 e S' := fun w' H' cls dx W l' r => x w' H' cls dx W (l.trans l') r
/-- on with a part's value -/
theorem tM.part {d : DE} {g : Ev} {S : Store} {f : D → Store → Res D} {R : VK}
    (W : P.Wo w g S σ H) (h : PostM P md w g σ H Q ((ev P.T P.cf d g S).bind f)) {md' : Md}
    (k : ∀ x S1, ev P.T P.cf d g S = .ok x S1 → PostM P md w g σ H Q (f x S1) → ∀ v w1 H1, P.Wo w1 g S1 σ H1 → Le w H w1 H1 → ArgR1 P.L w1 H1 md' x v → R v H1) : tM P md' d σ H R := by
  refine ⟨w, g, S, W, ?_⟩
  cases e : ev P.T P.cf d g S with
  | ok x S1 =>
    rw [e] at h
    exact fun v w1 H1 W1 l1 r1 => k x S1 e h v w1 H1 W1 l1 r1
  | exc x S1 =>
    rw [e] at h
    exact h
  | bad =>
    rw [e] at h
    exact h.elim
end
end Zd
set_option Elab.async false
set_option linter.all false
set_option maxRecDepth 100000
set_option maxHeartbeats 2000000
/-! Operations by values: what the machine does on what stands for data. -/
namespace Zd
open PySem PySem.Spec PyProof.Rows L2
theorem line_eq : line = sizeLine := by rw [sizeLine_eq]; rfl
section
variable {L : Lk} {w w' : Wd} {S : Store} {H H' : Hp}
theorem SqT.up {K : PySem.W.Frag} {a : Addr} {xs : List V} (c : Core L w S H) (h : SqT K w.Hs a xs) : SqT K H a xs := SqT.mono c.sub h
theorem RepC.lst {l : List D} {v : V} (h : RepC L w H (.lst l) v) (c : Core L w S H) : ∃ a vs, v = .ref a ∧ H a = some (.lst vs) ∧ Reps L w l vs := by
  rcases h with h | ⟨a, e, h⟩
  · simp only [Rep] at h
    obtain ⟨a, vs, e, q, r, z⟩ := h
    exact ⟨a, vs, e, c.sub _ _ q, r⟩
  · simp only [Con] at h
    obtain ⟨vs, q, r, z⟩ := h
    exact ⟨a, vs, e, q, r⟩
theorem RepC.repTup {d : D} {l : List D} {v : V} (h : RepC L w H d v) (e : d = .tup l) : Rep L w (.tup l) v := by
  subst e
  rcases h with h | ⟨a, e, h⟩
  · exact h
  · simp only [Con] at h
theorem RepC.len {d : D} {l : List D} {v : V} (e : d.seq = some l) (h : RepC L w H d v) : l.length ≤ line := by
  rcases h with h | ⟨a, q, h⟩ <;> cases d <;> cases e
  · simp only [Rep] at h
    obtain ⟨a, vs, e, q, r, z⟩ := h
    exact z
  · simp only [Rep] at h
    obtain ⟨a, vs, e, q, r, z⟩ := h
    exact z
  · simp only [Con] at h
  · simp only [Con] at h
    obtain ⟨vs, q, r, z⟩ := h
    exact z
theorem RepC.lenD {ks l : List D} {v : V} (h : RepC L w H (.dic ks l) v) : ks.length ≤ line := by
  rcases h with h | ⟨a, q, h⟩
  · simp only [Rep] at h
    obtain ⟨a, vs, e, q, hk, r, z⟩ := h
    exact z
  · simp only [Con] at h
    obtain ⟨vs, q, hk, r, z⟩ := h
    exact z
theorem RepC.tup {l : List D} {v : V} (h : RepC L w H (.tup l) v) (c : Core L w S H) : ∃ a vs, v = .ref a ∧ SqT L.K H a vs ∧ Reps L w l vs := by
  rcases h with h | ⟨a, e, h⟩
  · simp only [Rep] at h
    obtain ⟨a, vs, e, q, r, z⟩ := h
    exact ⟨a, vs, e, SqT.up c q, r⟩
  · simp only [Con] at h
theorem RepC.dic {ks l : List D} {v : V} (h : RepC L w H (.dic ks l) v) (c : Core L w S H) : ∃ a kvs, v = .ref a ∧ H a = some (.dK kvs) ∧ ks.map keyK = kvs.map (fun p => some p.1) ∧ Reps L w l (kvs.map (·.2)) := by
  rcases h with h | ⟨a, e, h⟩
  · simp only [Rep] at h
    obtain ⟨a, vs, e, q, hk, r, z⟩ := h
    exact ⟨a, vs, e, c.sub _ _ q, hk, r⟩
  · simp only [Con] at h
    obtain ⟨vs, q, hk, r, z⟩ := h
    exact ⟨a, vs, e, q, hk, r⟩
theorem RepC.obj {k : Nat} {ns : List Nat} {l : List D} {v : V} (h : RepC L w H (.obj k ns l) v) (c : Core L w S H) : ∃ a dx fs, v = .ref a ∧ H a = some (.ins (L.ca k) dx fs) ∧ fs.map (·.1) = ns.map L.fnm ∧ Reps L w l (fs.map (·.2)) := by
  rcases h with h | ⟨a, e, h⟩
  · simp only [Rep] at h
    obtain ⟨a, dx, vs, e, q, r⟩ := h
    exact ⟨a, dx, vs, e, c.sub _ _ q, r⟩
  · simp only [Con] at h
    obtain ⟨dx, vs, q, r⟩ := h
    exact ⟨a, dx, vs, e, q, r⟩
theorem RepC.str {s : List Nat} {v : V} (h : RepC L w H (.str s) v) : v = .str ⟨s.toArray⟩ ∧ s.length ≤ line := by
  rcases h with h | ⟨a, e, h⟩
  · simpa only [Rep] using h
  · simp only [Con] at h
theorem RepC.int {i : Int} {v : V} (h : RepC L w H (.int i) v) : v = .int i := by
  rcases h with h | ⟨a, e, h⟩
  · simpa only [Rep] using h
  · simp only [Con] at h
theorem RepC.bl {i : Bool} {v : V} (h : RepC L w H (.bl i) v) : v = .bl i := by
  rcases h with h | ⟨a, e, h⟩
  · simpa only [Rep] using h
  · simp only [Con] at h
theorem RepC.non {v : V} (h : RepC L w H .non v) : v = .non := by
  rcases h with h | ⟨a, e, h⟩
  · simpa only [Rep] using h
  · simp only [Con] at h
theorem RepC.ref {k : Nat} {v : V} (h : RepC L w H (.ref k) v) : ∃ a, v = .ref a := by
  rcases h with h | ⟨a, e, h⟩
  · simp only [Rep] at h
    exact ⟨_, h.1⟩
  · simp only [Con] at h
theorem Reps.isEmpty {l : List D} {vs : List V} (h : Reps L w l vs) : vs.isEmpty = l.isEmpty := by
  cases l with
  | nil => simp only [Reps] at h; rw [h]; rfl
  | cons d l =>
    simp only [Reps] at h
    obtain ⟨v, r, e, _⟩ := h
    rw [e]
    rfl
theorem line_le {n : Nat} (h : n ≤ line) : n ≤ sizeLine := line_eq ▸ h
theorem strLen (s : List Nat) : (⟨s.toArray⟩ : Str).length = s.length := by
  show s.toArray.size = s.length
  simp
/-- truth -/
theorem truth_ok {K : PySem.W.Frag} (hK : K = L.K) {d : D} {v : V} {b : Bool} (c : Core L w S H) (h : RepC L w H d v) (e : d.truth = some b) : TruV K v H b := by
  cases d with
  | non => cases h.non; cases e; rfl
  | bl x => cases h.bl; cases e; rfl
  | int i => cases h.int; cases e; rfl
  | str s =>
    obtain ⟨rfl, hl⟩ := h.str
    cases e
    refine ⟨by rw [strLen]; exact line_le hl, ?_⟩
    rw [strLen]
    cases s <;> simp
    omega
  | tup l =>
    obtain ⟨a, vs, rfl, q, r⟩ := h.tup c
    cases e
    exact .inr (.inl ⟨vs, hK ▸ q, by rw [r.isEmpty]⟩)
  | lst l =>
    obtain ⟨a, vs, rfl, q, r⟩ := h.lst c
    cases e
    exact .inl ⟨vs, SqL.of q, by rw [r.isEmpty]⟩
  | dic ks l =>
    obtain ⟨a, kvs, rfl, q, hk, r⟩ := h.dic c
    cases e
    refine .inr (.inr ⟨kvs, q, ?_⟩)
    have := congrArg List.length hk
    simp only [List.length_map] at this
    cases ks <;> cases kvs <;> simp_all
  | obj => cases e
  | ref => cases e
  | rdc => cases e
mutual
theorem Rep.dp {K : PySem.W.Frag} (hK : K = L.K) (c : Core L w S H) : ∀ (d : D) (v : V) (p : PyData), Rep L w d v → d.py = some p → L2.Dp K H v p
  | .non, v, p, h, e => by simp only [Rep] at h; simp only [D.py] at e; subst h; cases e; exact .non
  | .bl b, v, p, h, e => by simp only [Rep] at h; simp only [D.py] at e; subst h; cases e; exact .bl b
  | .int b, v, p, h, e => by simp only [Rep] at h; simp only [D.py] at e; subst h; cases e; exact .int b
  | .str b, v, p, h, e => by simp only [Rep] at h; simp only [D.py] at e; obtain ⟨rfl, _⟩ := h; cases e; exact .str _
  | .tup l, v, p, h, e => by
    simp only [Rep] at h
    simp only [D.py] at e
    obtain ⟨a, vs, rfl, q, r, _⟩ := h
    split at e
    · rename_i xs he
      cases e
      exact .tup (hK ▸ SqT.up c q) (Reps.dp hK c l vs xs r he)
    · cases e
  | .lst l, v, p, h, e => by
    simp only [Rep] at h
    simp only [D.py] at e
    obtain ⟨a, vs, rfl, q, r, _⟩ := h
    split at e
    · rename_i xs he
      cases e
      exact .lst (SqL.of (c.sub _ _ q)) (Reps.dp hK c l vs xs r he)
    · cases e
  | .dic ks l, v, p, h, e => by simp [D.py] at e
  | .obj k ns l, v, p, h, e => by simp [D.py] at e
  | .ref k, v, p, h, e => by simp [D.py] at e
  | .rdc k, v, p, h, e => by simp [D.py] at e
theorem Reps.dp {K : PySem.W.Frag} (hK : K = L.K) (c : Core L w S H) : ∀ (l : List D) (vs : List V) (ps : List PyData), Reps L w l vs → D.pys l = some ps → L2.DpAll K H vs ps
  | [], vs, ps, h, e => by simp only [Reps] at h; simp only [D.pys] at e; subst h; cases e; exact .nil
  | d :: l, vs, ps, h, e => by
    simp only [Reps] at h
    obtain ⟨v, r, rfl, h1, h2⟩ := h
    simp only [D.pys] at e
    split at e
    · rename_i x hx
      split at e
      · rename_i xs hxs
        cases e
        exact .cons (Rep.dp hK c d v x h1 hx) (Reps.dp hK c l r xs h2 hxs)
      · cases e
    · cases e
end
theorem RepC.dp {K : PySem.W.Frag} (hK : K = L.K) {d : D} {v : V} {p : PyData} (c : Core L w S H) (h : RepC L w H d v) (e : d.py = some p) : L2.Dp K H v p := by
  rcases h with h | ⟨a, rfl, h⟩
  · exact Rep.dp hK c d v p h e
  · cases d <;> simp only [Con] at h
    · obtain ⟨vs, q, r, _⟩ := h
      simp only [D.py] at e
      split at e
      · rename_i xs he
        cases e
        exact .lst (SqL.of q) (Reps.dp hK c _ vs xs r he)
      · cases e
    all_goals simp [D.py] at e
end
/-! ### operators -/
def BO.op : BO → Operator
  | .add => .Add | .sub => .Sub | .mul => .Mult | .fdiv => .FloorDiv | .mod => .Mod | .pow => .Pow
def CO.op : CO → CmpOp
  | .eq => .Eq | .ne => .NotEq | .lt => .Lt | .le => .LtE | .gt => .Gt | .ge => .GtE | .isN => .Is | .notN => .IsNot | .isB => .Is | .ntB => .IsNot | .inn => .In | .nin => .NotIn
theorem Reps.rep {L : Lk} {w : Wd} {l : List D} {vs : List V} (h : Reps L w l vs) : ∀ k : Nat, Reps L w (List.replicate k l).flatten (List.replicate k vs).flatten
  | 0 => by simp [Reps]
  | k + 1 => by
    rw [List.replicate_succ, List.replicate_succ, List.flatten_cons, List.flatten_cons]
    exact h.append (Reps.rep h k)
section
variable {X : Cx} {P : Pr} (hK : X.K = P.L.K)
/-- the reading of an operation on data -/
def rD (P : Pr) (f : D → D → Option D) : R2 := fun x y H Q => ∃ w S d e r, Core P.L w S H ∧ RepC P.L w H d x ∧ RepC P.L w H e y ∧ f d e = some r ∧
  ∀ v w' H', Core P.L w' S H' → Le w H w' H' → Rep P.L w' r v → Q v H'
theorem app_str (x y : List Nat) : (⟨x.toArray⟩ : Str) ++ (⟨y.toArray⟩ : Str) = ⟨(x ++ y).toArray⟩ := by
  show (⟨x.toArray ++ y.toArray⟩ : Str) = _
  simp
theorem vals_nil {xs : List V} {us : List Value} (h : Vals xs us) : us = [] ↔ xs = [] := by
  cases h with
  | nil => exact ⟨fun _ => rfl, fun _ => rfl⟩
  | cons _ _ => exact ⟨(fun e => by cases e), (fun e => by cases e)⟩
/-- tuple + tuple -/
theorem op_catT : OpR X (binaryOp .Add) (fun x y H Q => ∃ a b xs ys, x = .ref a ∧ y = .ref b ∧ SqT X.K H a xs ∧ SqT X.K H b ys ∧ xs.length + ys.length ≤ sizeLine ∧ (xs = [] → Q (.ref b) H) ∧ (ys = [] → Q (.ref a) H) ∧ ∀ p, H p = none → Q (.ref p) (upd H p (.tup (xs ++ ys)))) := by
  intro pins s σ H x y v u Q I rx ry h
  obtain ⟨a, b, xs, ys, rfl, rfl, q1, q2, hz, k0, k1, k2⟩ := h
  cases rx
  cases ry
  obtain ⟨vs, rv, ⟨⟨cls, dd, data, sl⟩, ho, hc, n, hd⟩, _⟩ := I.tuple q1
  obtain ⟨ws, rw', ⟨⟨cls2, dd2, data2, sl2⟩, ho2, hc2, n2, hd2⟩, _⟩ := I.tuple q2
  simp only at hc hd hc2 hd2
  subst hc hd hc2 hd2
  have e : vs.toArray ++ ws.toArray = (vs ++ ws).toArray := by simp
  have l1 := rv.length
  have l2 := rw'.length
  by_cases hv : vs = []
  · exact concat_meets ⟨_, ho, rfl⟩ ⟨_, ho2, rfl⟩ noFill_tuple_add seq_tuple_add PySem.F.slot_tuple_add PySem.F.entry_tuple_add (PySem.F.args_tuple_add_2 _ _)
      (tuple_addW0 a b vs.toArray ws.toArray n n2 dd dd2 sl sl2 (by simp [hv])) ⟨ho, ho2, ⟨.ref b, H, I, rfl, k0 ((vals_nil rv).mp hv)⟩⟩
  · by_cases hw : ws = []
    · exact concat_meets ⟨_, ho, rfl⟩ ⟨_, ho2, rfl⟩ noFill_tuple_add seq_tuple_add PySem.F.slot_tuple_add PySem.F.entry_tuple_add (PySem.F.args_tuple_add_2 _ _)
        (tuple_addW1 a b vs.toArray ws.toArray n n2 dd dd2 sl sl2 (by simpa using hv) (by simp [hw])) ⟨ho, ho2, ⟨.ref a, H, I, rfl, k1 ((vals_nil rw').mp hw)⟩⟩
    · refine concat_meets ⟨_, ho, rfl⟩ ⟨_, ho2, rfl⟩ noFill_tuple_add seq_tuple_add PySem.F.slot_tuple_add PySem.F.entry_tuple_add (PySem.F.args_tuple_add_2 _ _)
        (tuple_addW2 a b vs.toArray ws.toArray n n2 dd dd2 sl sl2 (by simpa using hv) (by simpa using hw) (by rw [List.size_toArray, List.size_toArray]; omega)) ⟨ho, ho2, ?_⟩
      rw [e]
      have hp := I.hok.fresh (Nat.le_refl s.heap.objs.size)
      refine ⟨.ref s.heap.objs.size, _, I.laid (t' := s.toks) (o := .tup (xs ++ ys)) (fun _ _ q => Heap.get?_push_of_some _ q) (Nat.le_refl _) ⟨by rw [List.length_append]; exact hz, vs ++ ws, rv.append rw', ⟨_, Heap.get?_push_size _ rfl, rfl, _, rfl⟩⟩, rfl, k2 _ hp⟩
include hK in
theorem bin_ok (o : BO) : OpR X (binaryOp o.op) (rD P (binD o)) := by
  intro pins s σ H x y v u Q I rx ry h
  obtain ⟨w, S, d, e, r, c, h1, h2, hr, k⟩ := h
  cases o <;> cases d <;> cases e <;> simp only [binD] at hr <;> first
    | cases hr
    | skip
  · cases h1.int; cases h2.int
    exact op_add pins s σ H _ _ v u Q I rx ry ⟨_, _, rfl, rfl, k _ w H c (Le.refl _ _) rfl⟩
  · split at hr
    · rename_i hl
      cases hr
      obtain ⟨rfl, l1⟩ := h1.str
      obtain ⟨rfl, l2⟩ := h2.str
      refine op_add_str pins s σ H _ _ v u Q I rx ry ⟨_, _, rfl, rfl, by rw [strLen, strLen]; exact line_le hl, k _ w H c (Le.refl _ _) ?_⟩
      rw [app_str]
      exact ⟨rfl, by rw [List.length_append]; exact hl⟩
    · cases hr
  · split at hr
    · rename_i hl
      cases hr
      obtain ⟨a, xs, rfl, q1, r1⟩ := h1.tup c
      obtain ⟨b, ys, rfl, q2, r2⟩ := h2.tup c
      have t1 := h1.repTup rfl
      have t2 := h2.repTup rfl
      refine op_catT pins s σ H _ _ v u Q I rx ry ⟨a, b, xs, ys, rfl, rfl, hK ▸ q1, hK ▸ q2, by rw [r1.length, r2.length]; exact line_le hl, fun z => ?_, fun z => ?_, fun p hp => k _ _ _ (c.laid hp) (Le.laid c hp) ?_⟩
      · have zl := r1.length
        rw [z] at zl
        rw [List.length_eq_zero_iff.mp zl.symm, List.nil_append] at k
        exact k _ w H c (Le.refl _ _) t2
      · have zl := r2.length
        rw [z] at zl
        rw [List.length_eq_zero_iff.mp zl.symm, List.append_nil] at k
        exact k _ w H c (Le.refl _ _) t1
      · simp only [Rep]
        exact ⟨p, xs ++ ys, rfl, .inl (.inl upd_same), (Reps.le (r1.append r2) (Le.laid c hp) : _), by rw [List.length_append]; exact hl⟩
    · cases hr
  · split at hr
    · rename_i hl
      cases hr
      obtain ⟨a, xs, rfl, q1, r1⟩ := h1.lst c
      obtain ⟨b, ys, rfl, q2, r2⟩ := h2.lst c
      refine op_cat pins s σ H _ _ v u Q I rx ry ⟨a, b, xs, ys, rfl, rfl, q1, q2, by rw [r1.length, r2.length]; exact line_le hl, fun p hp => k _ _ _ (c.laid hp) (Le.laid c hp) ?_⟩
      simp only [Rep]
      refine ⟨p, xs ++ ys, rfl, upd_same, ?_, by rw [List.length_append]; exact hl⟩
      exact (Reps.le (r1.append r2) (Le.laid c hp) : _)
    · cases hr
  · cases h1.int; cases h2.int
    exact op_sub pins s σ H _ _ v u Q I rx ry ⟨_, _, rfl, rfl, k _ w H c (Le.refl _ _) rfl⟩
  · split at hr
    · rename_i hl
      cases hr
      cases h1.int; cases h2.int
      refine op_mul pins s σ H _ _ v u Q I rx ry ⟨_, _, rfl, rfl, ?_, k _ w H c (Le.refl _ _) rfl⟩
      simp only [mulOk, Bool.or_eq_true, Bool.and_eq_true, decide_eq_true_eq] at hl
      rcases hl with ⟨a, b⟩ | ⟨a, b⟩
      · exact .inl ⟨by simpa using a, by simpa using b⟩
      · exact .inr ⟨by simpa using a, by simpa using b⟩
    · cases hr
  · split at hr
    · rename_i hl
      cases hr
      cases h2.int
      obtain ⟨a, xs, rfl, q1, r1⟩ := h1.lst c
      obtain ⟨g1, g2, g3⟩ := hl
      refine op_rep pins s σ H _ _ v u Q I rx ry ⟨a, _, xs, rfl, rfl, q1, by omega, by omega, by rw [r1.length]; exact line_le g3, fun p hp => k _ _ _ (c.laid hp) (Le.laid c hp) ?_⟩
      simp only [Rep]
      exact ⟨p, _, rfl, upd_same, (Reps.le (r1.rep _) (Le.laid c hp) : _), by rw [List.length_flatten, List.map_replicate, List.sum_replicate_nat, Nat.mul_comm]; exact g3⟩
    · cases hr
  · split at hr
    · rename_i hl
      cases hr
      cases h1.int; cases h2.int
      exact op_fdiv pins s σ H _ _ v u Q I rx ry ⟨_, _, rfl, rfl, hl, k _ w H c (Le.refl _ _) rfl⟩
    · cases hr
  · split at hr
    · rename_i hl
      cases hr
      cases h1.int; cases h2.int
      exact op_mod pins s σ H _ _ v u Q I rx ry ⟨_, _, rfl, rfl, hl, k _ w H c (Le.refl _ _) rfl⟩
    · cases hr
  · split at hr
    · rename_i hl
      cases hr
      cases h1.int; cases h2.int
      exact op_pow pins s σ H _ _ v u Q I rx ry ⟨_, _, rfl, rfl, ⟨hl.1, hl.2.1, by simpa using hl.2.2⟩, k _ w H c (Le.refl _ _) rfl⟩
    · cases hr
end
end Zd
set_option Elab.async false
set_option linter.all false
set_option maxRecDepth 100000
set_option maxHeartbeats 2000000
namespace Zd
open PySem PySem.Spec PyProof.Rows L2
section
variable {L : Lk} {w : Wd} {S : Store} {H : Hp}
theorem keyK_v : ∀ {k : D} {j : Key}, keyK k = some j → ∃ v, kV j = v ∧ (∀ u, RepC L w H k u → u = v)
  | .int i, j, h => by simp only [keyK] at h; cases h; exact ⟨_, rfl, fun u r => r.int⟩
  | .str s, j, h => by simp only [keyK] at h; cases h; exact ⟨_, rfl, fun u r => r.str.1⟩
  | .non, j, h | .bl _, j, h | .tup _, j, h | .lst _, j, h | .dic _ _, j, h | .obj _ _ _, j, h | .ref _, j, h => by simp [keyK] at h
theorem keyK_some {k : D} (h : k.isKey = true) : ∃ j, keyK k = some j := by
  cases k <;> simp [D.isKey] at h <;> exact ⟨_, rfl⟩
theorem keyK_eq {k x : D} {j i : Key} (h : keyK k = some j) (h' : keyK x = some i) : x.keyEq k = decide (i = j) := by
  cases k <;> cases x <;> simp [keyK] at h h' <;> subst h <;> subst h' <;> simp only [D.keyEq] <;> first
    | (rw [key_ll])
    | (rw [Bool.eq_iff_iff]; simp)
    | simp
theorem keyAt_val {k : D} {j : Key} (h : keyK k = some j) : ∀ {ks : List D} {kvs : List (Key × V)}, ks.map keyK = kvs.map (fun p => some p.1) → (keyAt k ks).isSome = (valV kvs j).isSome
  | [], [], _ => rfl
  | [], p :: r, e => by simp at e
  | x :: ks, [], e => by simp at e
  | x :: ks, p :: r, e => by
    simp only [List.map_cons, List.cons.injEq] at e
    have q := keyK_eq h e.1
    unfold keyAt
    rw [q]
    by_cases z : p.1 = j
    · rw [valV_pos z]; simp [z]
    · rw [valV_neg z]
      simp only [z, decide_false, Bool.false_eq_true, if_false, Option.isSome_map]
      exact keyAt_val h e.2
theorem lookD_val {k : D} {j : Key} (h : keyK k = some j) : ∀ {ks l : List D} {kvs : List (Key × V)} {d : D}, ks.map keyK = kvs.map (fun p => some p.1) → Reps L w l (kvs.map (·.2)) → lookD k ks l = some d → ∃ v, valV kvs j = some v ∧ Rep L w d v
  | [], _, [], d, _, _, e => by simp [lookD] at e
  | [], _, p :: r, d, e, _, _ => by simp at e
  | x :: ks, _, [], d, e, _, _ => by simp at e
  | x :: ks, [], p :: r, d, _, _, e => by simp [lookD] at e
  | x :: ks, y :: l, p :: r, d, e, hr, hl => by
    simp only [List.map_cons, List.cons.injEq] at e
    have q := keyK_eq h e.1
    simp only [List.map_cons, Reps] at hr
    obtain ⟨v, r', ev, h1, h2⟩ := hr
    simp only [List.cons.injEq] at ev
    unfold lookD at hl
    rw [q] at hl
    by_cases z : p.1 = j
    · rw [valV_pos z]
      simp [z] at hl
      subst hl
      exact ⟨_, rfl, by rw [ev.1]; exact h1⟩
    · rw [valV_neg z]
      simp only [z, decide_false, Bool.false_eq_true, if_false] at hl
      exact lookD_val h e.2 (by rw [ev.2]; exact h2) hl
end
section
variable {X : Cx} {P : Pr} (hK : X.K = P.L.K)
/-- the reading of a test on data -/
def rB (P : Pr) (f : D → D → Option Bool) : R2 := fun x y H Q => ∃ w S d e b, Core P.L w S H ∧ RepC P.L w H d x ∧ RepC P.L w H e y ∧ f d e = some b ∧ Q (.bl b) H
include hK in
theorem eqs_ok {d e : D} {b : Bool} {w : Wd} {S : Store} {H : Hp} {x y : V} (c : Core P.L w S H) (h1 : RepC P.L w H d x) (h2 : RepC P.L w H e y) (hb : D.eqP d e = some b) :
    ∃ p q, L2.Dp X.K H x p ∧ L2.Dp X.K H y q ∧ SeqAt.shaped p = true ∧ SeqAt.shaped q = true ∧ b = PyData.eqv p q := by
  unfold D.eqP at hb
  split at hb
  · rename_i p q hp hq
    split at hb
    · rename_i hs
      cases hb
      rw [Bool.and_eq_true] at hs
      exact ⟨p, q, h1.dp hK c hp, h2.dp hK c hq, hs.1, hs.2, rfl⟩
    · cases hb
  · cases hb
include hK in
theorem in_ok {pins : List (Addr × Obj)} {s : Shared} {σ : L2.St} {H : Hp} {x y : V} {v u : Value} {d e : D} {b : Bool} {w : Wd} {S : Store} (hu : X.A.units + 200 < cLine) (I : Inv X pins σ H s) (rx : RelV x v) (ry : RelV y u)
    (c : Core P.L w S H) (h1 : RepC P.L w H d x) (h2 : RepC P.L w H e y) (hb : inD d e = some b) :
    (∀ Q : VK, Q (.bl b) H → wpAny (model X.prog X.w) X.A (compareOp .In v u) (EP X pins σ Q) X.xe s) ∧
    (∀ Q : VK, Q (.bl (!b)) H → wpAny (model X.prog X.w) X.A (compareOp .NotIn v u) (EP X pins σ Q) X.xe s) := by
  have data : ∀ l, inData d l = some b → (e = .tup l ∨ e = .lst l) →
    (∀ Q : VK, Q (.bl b) H → wpAny (model X.prog X.w) X.A (compareOp .In v u) (EP X pins σ Q) X.xe s) ∧
    (∀ Q : VK, Q (.bl (!b)) H → wpAny (model X.prog X.w) X.A (compareOp .NotIn v u) (EP X pins σ Q) X.xe s) := by
    intro l hl he
    unfold inData at hl
    split at hl
    · rename_i p ps hp hps
      split at hl
      · rename_i hs
        cases hl
        rw [Bool.and_eq_true] at hs
        obtain ⟨as, r1⟩ := L2.Dp.reads I _ _ _ (h1.dp hK c hp) rx
        have hc1 := SeqAt.canLay_of_shaped hs.1
        have hd1 := SeqAt.depth_of_shaped hs.1
        have hc2 : PyData.canLayAll0 ps = true := by simpa only [PyData.canLay0] using SeqAt.canLay_of_shaped hs.2
        have room : X.A.units + 1 + min (PyData.depthAll ps) p.depth < cLine := by
          have : min (PyData.depthAll ps) p.depth ≤ p.depth := Nat.min_le_right _ _
          omega
        rcases he with rfl | rfl
        · have e2 : (D.tup l).py = some (.tuple ps) := by simp only [D.py, hps]
          obtain ⟨bs, r2⟩ := L2.Dp.reads I _ _ _ (h2.dp hK c e2) ry
          exact ⟨fun Q q => SeqAt.in_tuple_reads r2 r1 hc2 hc1 room (fin_bl I q rfl), fun Q q => SeqAt.notIn_tuple_reads r2 r1 hc2 hc1 room (fin_bl I q rfl)⟩
        · have e2 : (D.lst l).py = some (.list ps) := by simp only [D.py, hps]
          obtain ⟨bs, r2⟩ := L2.Dp.reads I _ _ _ (h2.dp hK c e2) ry
          exact ⟨fun Q q => SeqAt.in_list_reads r2 r1 hc2 hc1 room (fin_bl I q rfl), fun Q q => SeqAt.notIn_list_reads r2 r1 hc2 hc1 room (fin_bl I q rfl)⟩
      · cases hl
    · cases hl
  have dict : ∀ ks l, e = .dic ks l → d.isKey = true → b = (keyAt d ks).isSome →
    (∀ Q : VK, Q (.bl b) H → wpAny (model X.prog X.w) X.A (compareOp .In v u) (EP X pins σ Q) X.xe s) ∧
    (∀ Q : VK, Q (.bl (!b)) H → wpAny (model X.prog X.w) X.A (compareOp .NotIn v u) (EP X pins σ Q) X.xe s) := by
    intro ks l he hk hbk
    subst he
    obtain ⟨j, hj⟩ := keyK_some hk
    obtain ⟨a, kvs, rfl, q, hks, r⟩ := h2.dic c
    obtain ⟨kv, ekv, hkv⟩ := keyK_v (L := P.L) (w := w) (H := H) hj
    have ex := hkv x h1
    have eb : b = (valV kvs j).isSome := by rw [hbk]; exact keyAt_val hj hks
    cases ry
    have g : DGet H a x (valV kvs j) := by rw [ex, ← ekv]; exact DGet.k q
    exact ⟨fun Q qq => d_in (by omega) I g rx fun s' I' => ⟨.bl _, H, I', rfl, by rw [← eb]; exact qq⟩, fun Q qq => d_notIn (by omega) I g rx fun s' I' => ⟨.bl _, H, I', rfl, by rw [← eb]; exact qq⟩⟩
  cases e with
  | tup l =>
    have hb' : inData d l = some b := by
      cases d <;> first
        | exact hb
        | (rename_i s; cases s with
            | nil => exact hb
            | cons c r => cases r <;> exact hb)
    exact data l hb' (.inl rfl)
  | lst l =>
    have hb' : inData d l = some b := by
      cases d <;> first
        | exact hb
        | (rename_i s; cases s with
            | nil => exact hb
            | cons c r => cases r <;> exact hb)
    exact data l hb' (.inr rfl)
  | dic ks l =>
    have hb' : (if d.isKey then some (keyAt d ks).isSome else none) = some b := by
      cases d <;> first
        | exact hb
        | (rename_i s; cases s with
            | nil => exact hb
            | cons c r => cases r <;> exact hb)
    split at hb'
    · rename_i hk
      cases hb'
      exact dict ks l rfl hk rfl
    · cases hb'
  | str z =>
    cases d with
    | str s =>
      cases s with
      | nil => simp [inD] at hb
      | cons c r =>
        cases r with
        | nil =>
          simp only [inD] at hb
          cases hb
          obtain ⟨rfl, _⟩ := h1.str
          obtain ⟨rfl, _⟩ := h2.str
          exact ⟨fun Q q => op_in_sign pins s σ H _ _ v u Q I rx ry ⟨c, _, rfl, rfl, by simpa using q⟩, fun Q q => op_notIn_sign pins s σ H _ _ v u Q I rx ry ⟨c, _, rfl, rfl, by simpa using q⟩⟩
        | cons _ _ => simp [inD] at hb
    | _ => simp [inD] at hb
  | _ =>
    cases d <;> first
      | (simp [inD] at hb)
      | (rename_i s; cases s with
          | nil => simp [inD] at hb
          | cons c r => cases r <;> simp [inD] at hb)
theorem isN_ne {L : Lk} {w : Wd} {S : Store} {H : Hp} {d : D} {x : V} (c : Core L w S H) (h : RepC L w H d x) (n : d ≠ .non) : x ≠ .non := by
  cases d with
  | non => exact absurd rfl n
  | bl b => rw [h.bl]; intro z; cases z
  | int b => rw [h.int]; intro z; cases z
  | str b => rw [h.str.1]; intro z; cases z
  | tup l => obtain ⟨a, _, e, _⟩ := h.tup c; rw [e]; intro z; cases z
  | lst l => obtain ⟨a, _, e, _⟩ := h.lst c; rw [e]; intro z; cases z
  | dic ks l => obtain ⟨a, _, e, _⟩ := h.dic c; rw [e]; intro z; cases z
  | obj k ns l => obtain ⟨a, _, _, e, _⟩ := h.obj c; rw [e]; intro z; cases z
  | ref k => obtain ⟨a, e⟩ := h.ref; rw [e]; intro z; cases z
  | rdc ks =>
    rcases h with h | ⟨a, e, _⟩
    · simp only [Rep] at h
      obtain ⟨a, es, e, _⟩ := h
      rw [e]; intro z; cases z
    · rw [e]; intro z; cases z
theorem str_ne {a b : List Nat} : decide (V.str ⟨a.toArray⟩ = V.str ⟨b.toArray⟩) = (a == b) := by
  rw [Bool.eq_iff_iff]
  simp
/-- equality: both answers -/
theorem eq_go {d e : D} {b : Bool} {w : Wd} {S : Store} {H : Hp} {x y : V} (c : Core P.L w S H) (h1 : RepC P.L w H d x) (h2 : RepC P.L w H e y) (hb : D.eq d e = some b) : (scal x y = true ∧ decide (x = y) = b) ∨ D.eqP d e = some b := by
  unfold D.eq at hb
  split at hb
  · cases hb
    obtain ⟨rfl, _⟩ := h1.str
    obtain ⟨rfl, _⟩ := h2.str
    exact .inl ⟨rfl, str_ne⟩
  · cases hb
    cases h1.int
    cases h2.int
    exact .inl ⟨rfl, dec_int⟩
  · cases hb
    cases h1.bl
    cases h2.bl
    exact .inl ⟨rfl, dec_bl⟩
  · exact .inr hb
include hK in
theorem cmp_ok (hu : X.A.units + 200 < cLine) (o : CO) : OpR X (compareOp o.op) (fun x y H Q => ((o = .isN ∨ o = .notN) → y = .non) ∧ rB P (cmpD o) x y H Q) := by
  intro pins s σ H x y v u Q I rx ry h
  obtain ⟨hn, w, S, d, e, b, c, h1, h2, hb, k⟩ := h
  cases o with
  | eq =>
    rcases eq_go c h1 h2 hb with ⟨z1, z2⟩ | hb
    · exact op_eq pins s σ H x y v u Q I rx ry ⟨z1, by rw [z2]; exact k⟩
    obtain ⟨p, q, d1, d2, s1, s2, rfl⟩ := eqs_ok hK c h1 h2 hb
    exact op_eqD (by omega) pins s σ H x y v u Q I rx ry ⟨p, q, d1, d2, s1, s2, k⟩
  | ne =>
    have hb : (D.eq d e).map not = some b := hb
    cases hq : D.eq d e with
    | none => rw [hq] at hb; cases hb
    | some b' =>
      rw [hq] at hb
      cases hb
      rcases eq_go c h1 h2 hq with ⟨z1, z2⟩ | hq
      · exact op_ne pins s σ H x y v u Q I rx ry ⟨z1, by rw [z2]; exact k⟩
      obtain ⟨p, q, d1, d2, s1, s2, rfl⟩ := eqs_ok hK c h1 h2 hq
      exact op_neD (by omega) pins s σ H x y v u Q I rx ry ⟨p, q, d1, d2, s1, s2, k⟩
  | lt =>
    cases d <;> cases e <;> simp only [cmpD] at hb <;> first
      | cases hb
      | skip
    cases h1.int; cases h2.int
    exact op_lt pins s σ H _ _ v u Q I rx ry ⟨_, _, rfl, rfl, k⟩
  | le =>
    cases d <;> cases e <;> simp only [cmpD] at hb <;> first
      | cases hb
      | skip
    cases h1.int; cases h2.int
    exact op_le pins s σ H _ _ v u Q I rx ry ⟨_, _, rfl, rfl, k⟩
  | gt =>
    cases d <;> cases e <;> simp only [cmpD] at hb <;> first
      | cases hb
      | skip
    cases h1.int; cases h2.int
    exact op_gt pins s σ H _ _ v u Q I rx ry ⟨_, _, rfl, rfl, k⟩
  | ge =>
    cases d <;> cases e <;> simp only [cmpD] at hb <;> first
      | cases hb
      | skip
    cases h1.int; cases h2.int
    exact op_ge pins s σ H _ _ v u Q I rx ry ⟨_, _, rfl, rfl, k⟩
  | isN =>
    refine op_isN pins s σ H x y v u Q I rx ry ⟨hn (.inl rfl), ?_⟩
    by_cases z : d = .non
    · subst z
      cases h1.non
      cases hb
      exact k
    · have ne := isN_ne c h1 z
      have e : b = false := by
        cases d <;> simp only [cmpD] at hb <;> first
          | exact absurd rfl z
          | (cases hb; rfl)
      rw [decide_eq_false ne, ← e]
      exact k
  | notN =>
    refine op_notN pins s σ H x y v u Q I rx ry ⟨hn (.inr rfl), ?_⟩
    by_cases z : d = .non
    · subst z
      cases h1.non
      cases hb
      exact k
    · have ne := isN_ne c h1 z
      have e : b = true := by
        cases d <;> simp only [cmpD] at hb <;> first
          | exact absurd rfl z
          | (cases hb; rfl)
      rw [decide_eq_false ne]
      rw [e] at k
      exact k
  | isB =>
    cases d <;> cases e <;> simp only [cmpD] at hb <;> first
      | cases hb
      | skip
    cases h1.bl; cases h2.bl
    exact op_isBl pins s σ H _ _ v u Q I rx ry ⟨_, _, rfl, rfl, k⟩
  | ntB =>
    cases d <;> cases e <;> simp only [cmpD] at hb <;> first
      | cases hb
      | skip
    cases h1.bl; cases h2.bl
    exact op_notBl pins s σ H _ _ v u Q I rx ry ⟨_, _, rfl, rfl, k⟩
  | inn => exact (in_ok hK hu I rx ry c h1 h2 hb).1 Q k
  | nin =>
    have hb : (inD d e).map not = some b := hb
    cases hq : inD d e with
    | none => rw [hq] at hb; cases hb
    | some b' =>
      rw [hq] at hb
      cases hb
      exact (in_ok hK hu I rx ry c h1 h2 hq).2 Q k
end
end Zd
set_option Elab.async false
set_option linter.all false
set_option maxRecDepth 100000
set_option maxHeartbeats 2000000
namespace Zd
open PySem PySem.Spec PyProof.Rows L2
theorem cutAt_eq (n d : Nat) (o : Option Int) : cutAt n d o = HT.sIx n d o := by cases o <;> rfl
theorem ixPlace_eq (n : Nat) (i : Int) : ixPlace n i = ixN n i := rfl
section
variable {L : Lk} {w : Wd} {S : Store} {H : Hp}
def RepCs (L : Lk) (w : Wd) (H : Hp) : List D → List V → Prop
  | [], vs => vs = []
  | d :: l, vs => ∃ v r, vs = v :: r ∧ RepC L w H d v ∧ RepCs L w H l r
theorem Reps.cut {l : List D} {vs : List V} (h : Reps L w l vs) (lo hi : Option Int) : Reps L w (cutL l lo hi) (cutV vs lo hi) := by
  unfold cutL cutV
  rw [cutAt_eq, cutAt_eq, h.length]
  exact (h.drop _).take _
theorem Reps.ints : ∀ ns : List Int, Reps L w (ns.map D.int) (ns.map V.int)
  | [] => by simp [Reps]
  | i :: ns => by
    rw [List.map_cons, List.map_cons]
    simp only [Reps]
    exact ⟨_, _, rfl, rfl, Reps.ints ns⟩
theorem Reps.ofInts : ∀ {l : List D} {vs : List V} {ns : List Int}, Reps L w l vs → allInt l = some ns → vs = ns.map V.int ∧ l = ns.map D.int
  | [], vs, ns, h, e => by simp only [Reps] at h; simp only [allInt] at e; cases e; exact ⟨h, rfl⟩
  | .int i :: l, vs, ns, h, e => by
    simp only [Reps] at h
    obtain ⟨v, r, rfl, h1, h2⟩ := h
    simp only [allInt] at e
    cases q : allInt l with
    | none => rw [q] at e; cases e
    | some ms =>
      rw [q] at e
      cases e
      obtain ⟨e1, e2⟩ := h2.ofInts q
      simp only [Rep] at h1
      exact ⟨by rw [h1, e1]; rfl, by rw [e2]; rfl⟩
  | .non :: l, _, _, _, e | .bl _ :: l, _, _, _, e | .str _ :: l, _, _, _, e | .tup _ :: l, _, _, _, e | .lst _ :: l, _, _, _, e | .dic _ _ :: l, _, _, _, e | .obj _ _ _ :: l, _, _, _, e | .ref _ :: l, _, _, _, e => by simp [allInt] at e
theorem Reps.ofBls : ∀ {l : List D} {vs : List V} {ns : List Bool}, Reps L w l vs → allBl l = some ns → vs = ns.map V.bl
  | [], vs, ns, h, e => by simp only [Reps] at h; simp only [allBl] at e; cases e; exact h
  | .bl i :: l, vs, ns, h, e => by
    simp only [Reps] at h
    obtain ⟨v, r, rfl, h1, h2⟩ := h
    simp only [allBl] at e
    cases q : allBl l with
    | none => rw [q] at e; cases e
    | some ms =>
      rw [q] at e
      cases e
      simp only [Rep] at h1
      rw [h1, h2.ofBls q]
      rfl
  | .non :: l, _, _, _, e | .int _ :: l, _, _, _, e | .str _ :: l, _, _, _, e | .tup _ :: l, _, _, _, e | .lst _ :: l, _, _, _, e | .dic _ _ :: l, _, _, _, e | .obj _ _ _ :: l, _, _, _, e | .ref _ :: l, _, _, _, e => by simp [allBl] at e
end
theorem leastI_mem : ∀ {ns : List Int}, ns ≠ [] → leastI ns ∈ ns ∧ ∀ x ∈ ns, leastI ns ≤ x
  | [], h => absurd rfl h
  | [x], _ => by simp [leastI]
  | x :: y :: r, _ => by
    obtain ⟨h1, h2⟩ := leastI_mem (ns := y :: r) (by simp)
    have e : leastI (x :: y :: r) = min x (leastI (y :: r)) := rfl
    rw [e]
    refine ⟨?_, fun z hz => ?_⟩
    · by_cases q : x ≤ leastI (y :: r)
      · rw [Int.min_eq_left q]; simp
      · rw [Int.min_eq_right (by omega)]; exact List.mem_cons_of_mem _ h1
    · rcases List.mem_cons.mp hz with rfl | hz
      · exact Int.min_le_left _ _
      · exact Int.le_trans (Int.min_le_right _ _) (h2 z hz)
theorem mostI_mem : ∀ {ns : List Int}, ns ≠ [] → mostI ns ∈ ns ∧ ∀ x ∈ ns, x ≤ mostI ns
  | [], h => absurd rfl h
  | [x], _ => by simp [mostI]
  | x :: y :: r, _ => by
    obtain ⟨h1, h2⟩ := mostI_mem (ns := y :: r) (by simp)
    have e : mostI (x :: y :: r) = max x (mostI (y :: r)) := rfl
    rw [e]
    refine ⟨?_, fun z hz => ?_⟩
    · by_cases q : mostI (y :: r) ≤ x
      · rw [Int.max_eq_left q]; simp
      · rw [Int.max_eq_right (by omega)]; exact List.mem_cons_of_mem _ h1
    · rcases List.mem_cons.mp hz with rfl | hz
      · exact Int.le_max_left _ _
      · exact Int.le_trans (h2 z hz) (Int.le_max_right _ _)
section
variable {X : Cx} {P : Pr} (hK : X.K = P.L.K)
include hK in
theorem ix_ok (hu : X.A.units + 200 < cLine) : IxR X (rD P ixD) := by
  intro value slice pins s σ H x y v u Q I rx ry h hs
  obtain ⟨w, S, d, e, r, c, h1, h2, hr, k⟩ := h
  have fin : ∀ {v' : V}, Rep P.L w r v' → Q v' H := fun q => k _ w H c (Le.refl _ _) q
  have dict : ∀ ks l, d = .dic ks l → (if e.isKey then lookD e ks l else none) = some r → wpAny (model X.prog X.w) X.A (subscriptTail value slice v u) (EP X pins σ Q) X.xe s := by
    intro ks l ed hrk
    subst ed
    split at hrk
    · rename_i hk
      obtain ⟨j, hj⟩ := keyK_some hk
      obtain ⟨a, kvs, rfl, q, hks, rr⟩ := h1.dic c
      obtain ⟨kv, ekv, hkv⟩ := keyK_v (L := P.L) (w := w) (H := H) hj
      have ey := hkv y h2
      obtain ⟨z, ez, rz⟩ := lookD_val hj hks rr hrk
      have g : DGet H a y (some z) := by rw [ey, ← ekv, ← ez]; exact DGet.k q
      cases rx
      exact tail_any (dict_typeIs I g) PySem.F.slot_dict_getitem.lookup (d_getItem (by omega) I g ry fun w' s' I' rw' => ⟨z, H, I', rw', fin rz⟩) hs
    · cases hrk
  cases d with
  | dic ks l => exact dict ks l rfl (by cases e <;> exact hr)
  | tup l =>
    cases e with
    | int i =>
      have hr : ((ixPlace l.length i).bind fun j => l[j]?) = some r := hr
      rw [ixPlace_eq] at hr
      cases h2.int
      obtain ⟨a, vs, rfl, q, rr⟩ := h1.tup c
      obtain ⟨j, hj, hl⟩ := Option.bind_eq_some_iff.mp hr
      obtain ⟨z, hz, rz⟩ := rr.get hl
      exact ix_tup value slice pins s σ H _ _ v u Q I rx ry ⟨a, vs, i, z, rfl, rfl, hK ▸ q, by show (ixN vs.length i).bind _ = _; rw [rr.length, hj]; exact hz, fin rz⟩ hs
    | _ => cases hr
  | lst l =>
    cases e with
    | int i =>
      have hr : ((ixPlace l.length i).bind fun j => l[j]?) = some r := hr
      rw [ixPlace_eq] at hr
      cases h2.int
      obtain ⟨a, vs, rfl, q, rr⟩ := h1.lst c
      obtain ⟨j, hj, hl⟩ := Option.bind_eq_some_iff.mp hr
      obtain ⟨z, hz, rz⟩ := rr.get hl
      exact ix_list value slice pins s σ H _ _ v u Q I rx ry ⟨a, vs, i, z, rfl, rfl, SqL.of q, by show (ixN vs.length i).bind _ = _; rw [rr.length, hj]; exact hz, fin rz⟩ hs
    | _ => cases hr
  | str l =>
    cases e with
    | int i =>
      have hr : (((ixPlace l.length i).bind fun j => l[j]?).map fun c => D.str [c]) = some r := hr
      rw [ixPlace_eq] at hr
      cases h2.int
      obtain ⟨rfl, hl⟩ := h1.str
      obtain ⟨ch, hc, rfl⟩ := Option.map_eq_some_iff.mp hr
      exact ix_str value slice pins s σ H _ _ v u Q I rx ry ⟨_, i, ch, rfl, rfl, by rw [strLen]; exact line_le hl, by simpa [atI] using hc, fin ⟨rfl, by show 1 ≤ line; decide⟩⟩ hs
    | _ => cases hr
  | _ => cases e <;> cases hr
/-- what may be cut: a list that is read, a text -/
def Cuts (L : Lk) (w : Wd) (H : Hp) (d : D) (v : V) : Prop := (∃ l a vs, d = .lst l ∧ v = .ref a ∧ SqL L.K H a vs ∧ Reps L w l vs ∧ l.length ≤ line) ∨ (∃ s, d = .str s ∧ v = .str ⟨s.toArray⟩ ∧ s.length ≤ line) ∨ ∃ l, d = .tup l ∧ Rep L w (.tup l) v
theorem RepC.cuts {L : Lk} {w : Wd} {S : Store} {H : Hp} {d r : D} {v : V} {lo hi : Option Int} (c : Core L w S H) (h : RepC L w H d v) (hr : sliceD d lo hi = some r) : Cuts L w H d v := by
  cases d with
  | lst l => have z := h.len (l := l) rfl; obtain ⟨a, vs, rfl, q, r⟩ := h.lst c; exact .inl ⟨l, a, vs, rfl, rfl, SqL.of q, r, z⟩
  | str s => exact .inr (.inl ⟨s, rfl, h.str⟩)
  | tup l =>
    rcases h with h | ⟨a, _, h⟩
    · exact .inr (.inr ⟨l, rfl, h⟩)
    · simp only [Con] at h
  | _ => cases hr
theorem cutL_length {α : Type} (l : List α) (lo hi : Option Int) : (cutL l lo hi).length ≤ l.length := by
  unfold cutL
  rw [List.length_take, List.length_drop]
  omega
include hK in
theorem sl_ok : SlR X (fun x lo hi H Q => ∃ w S d r, Core P.L w S H ∧ Cuts P.L w H d x ∧ sliceD d lo hi = some r ∧ ∀ v w' H', Core P.L w' S H' → Le w H w' H' → Rep P.L w' r v → Q v H') := by
  intro pins s σ H x v vl vu lo hi sl Q I rx hs pl pu h
  obtain ⟨w, S, d, r, c, hd, hr, k⟩ := h
  rcases hd with ⟨l, a, vs, rfl, rfl, q, rr, zz⟩ | ⟨z, rfl, rfl, hz⟩ | ⟨l, rfl, rp⟩
  · cases hr
    refine sl_list pins s σ H _ v vl vu lo hi sl Q I rx hs pl pu ⟨a, vs, rfl, hK ▸ q, fun p hp => k _ _ _ (c.laid hp) (Le.laid c hp) ?_⟩
    simp only [Rep]
    exact ⟨p, _, rfl, upd_same, (Reps.le (rr.cut lo hi) (Le.laid c hp) : _), Nat.le_trans (cutL_length _ _ _) zz⟩
  · cases hr
    refine sl_str pins s σ H _ v vl vu lo hi sl Q I rx hs pl pu ⟨_, rfl, by rw [strLen]; exact line_le hz, k _ w H c (Le.refl _ _) ?_⟩
    simp only [Rep]
    refine ⟨?_, Nat.le_trans (cutL_length _ _ _) hz⟩
    unfold cutS cutL
    rw [cutAt_eq, cutAt_eq, strLen]
  · cases hr
    have zz : l.length ≤ line := by simp only [Rep] at rp; obtain ⟨_, _, _, _, _, z⟩ := rp; exact z
    obtain ⟨a, vs, rfl, q, rr⟩ := RepC.tup (H := H) (.inl rp) c
    refine sl_tupA pins s σ H _ v vl vu lo hi sl Q I rx hs pl pu ⟨a, vs, rfl, hK ▸ q, fun hw => k _ w H c (Le.refl _ _) ?_, fun _ p hp => k _ _ _ (c.laid hp) (Le.laid c hp) ?_⟩
    · have e : cutL l lo hi = l := by
        unfold cutL
        rw [cutAt_eq, cutAt_eq, ← rr.length, hw.1, hw.2, List.drop_zero, Nat.sub_zero, rr.length, List.take_length]
      rw [e]
      exact rp
    · simp only [Rep]
      exact ⟨p, _, rfl, .inl (.inl upd_same), (Reps.le (rr.cut lo hi) (Le.laid c hp) : _), Nat.le_trans (cutL_length _ _ _) zz⟩
/-- e[::-1], the step an expression that is -1 -/
theorem rev_ok {e st : Expr} {p pos : Pos} {te tst : TE} (he : PE X e te) (hst : PE X st tst) (h1 : ∀ σ H Q, Q (.int (-1)) H → tst σ H Q) :
    PE X (.Subscript e (.Slice none none (some st) p) pos) (fun σ H Q => te σ H fun x H1 => ∃ a xs, x = .ref a ∧ SqL X.K H1 a xs ∧ ∀ q, H1 q = none → Q (.ref q) (upd H1 q (.lst xs.reverse))) := by
  constructor
  intro pins s σ H Q I h
  refine Subscript_ (thn (he.run pins s σ H _ I h) ?_)
  rintro v s1 ⟨x, H1, I1, r1, a, xs, rfl, hx, q⟩
  cases r1
  have none1 := fun (s' : Shared) (I' : L2.Inv X pins σ H1 s') => po_none.run pins s' σ H1 (fun o H2 => o = none ∧ H2 = H1) I' ⟨rfl, rfl⟩
  refine wpAny_Slice (thn (none1 s1 I1) ?_)
  rintro vl s2 ⟨l, H2, I2, pl, rfl, rfl⟩
  refine thn (none1 s2 I2) ?_
  rintro vu s3 ⟨l3, H3, I3, pu, rfl, rfl⟩
  refine thn ((po_some hst).run pins s3 σ H3 (fun o H4 => o = some (-1) ∧ H4 = H3) I3 (h1 σ H3 _ ⟨-1, rfl, rfl, rfl⟩)) ?_
  rintro vs s4 ⟨l4, H4, I4, ps, rfl, rfl⟩
  let hp : Heap := s4.heap.push { cls := .type "slice", data := .fields #[vl, vu, vs] }
  have I5 : L2.Inv X pins σ H4 { s4 with heap := hp } := I4.kept (t' := s4.toks) fun b ob z => Heap.get?_push_of_some _ z
  obtain ⟨its, rv, pl5, hz⟩ := I5.list hx
  have hlen := rv.length
  have hfr : H4 hp.objs.size = none := I5.hok.fresh (Nat.le_refl _)
  show wpAny _ X.A (subscriptTail e _ (Value.ref a) (Value.ref s4.heap.objs.size)) _ X.xe { s4 with heap := hp }
  refine tail_any (ops := [.ref a, .ref s4.heap.objs.size]) pl5.isList.typeIs slot_list_getitem.lookup ?_ (by with_unfolding_all rfl)
  refine wpAny_getItem_list_slice pl5.isList (Heap.IsSliceOf.new _ vl vu vs) pl pu ps (by decide) ?_ ?_
  · rw [PySem.W.krv_pick]
    refine ⟨.ref _, _, I5.laid (t' := s4.toks) (o := .lst xs.reverse) (fun b ob z => Heap.get?_push_of_some _ z) (Nat.le_refl _) ?_, rfl, q _ hfr⟩
    exact ⟨Nat.le_trans (Nat.le_of_eq List.length_reverse) hz, _, 0, rv.reverse, Heap.get?_push_size _ rfl⟩
  · rw [List.size_toArray]
    omega
end
end Zd
set_option Elab.async false
set_option linter.all false
set_option maxRecDepth 100000
set_option maxHeartbeats 2000000
/-! sorted(xs) of data that are alike: lists and tuples. -/
namespace Zd
open PySem PySem.Spec PyProof.Rows PySem.W PySem.Calls L2
section
variable {prog : Program} {w : PySem.World} {A : Around} {E : Value → Shared → Prop} {s : Shared}
theorem collect_tup {l : Addr} {vs : List Value} {Q : List Value → Shared → Prop} (hl : ∃ o, s.heap.get? l = some o ∧ o.cls = .type "tuple" ∧ ∃ n, o.data = .seq vs.toArray n)
    (h : Q vs { s with heap := (s.heap.push (seqObj "list" #[] 0)).update s.heap.objs.size (Obj.mapSeq (· ++ vs.toArray)) }) (hsz : vs.length ≤ sizeLine) :
    wpAny (model prog w) A (collect (.ref l)) Q E s := by
  obtain ⟨o, ho, hc, n, hd⟩ := id hl
  unfold collect
  refine wpAny_bind (wpAny_runValue (codeAny_builtin entry_proto_collect' ?_))
  show wpAny _ _ (do again (.builtin "list.__iadd__" ⟨[← newList [], .ref l], []⟩)) _ _ s
  refine wpAny_bind (wpAny_newList (wpAny_pure ⟨Code.quiet_builtin _ (by decide +kernel), codeAny_builtin entry_list_iadd' ?_⟩))
  show wpAny _ _ (Builtin.List.listExtendWith (.ref s.heap.objs.size) (.ref l) (.ref s.heap.objs.size)) _ _ { s with heap := s.heap.push (seqObj "list" #[] 0) }
  unfold Builtin.List.listExtendWith
  have ho' : (s.heap.push (seqObj "list" #[] 0)).get? l = some o := Heap.get?_push_of_some _ ho
  refine wpAny_bind (wpAny_typeOf (T := "tuple") ⟨o, ho', hc⟩ ?_)
  have ht : (Value.type "tuple" == Value.type "tuple") = true := by rfl
  rw [if_pos (by rw [ht]; simp)]
  refine wpAny_bind (listItems_at ho' hd ?_)
  refine wpAny_bind (listItems_at (xs := #[]) (n := 0) (Heap.get?_push_size _ rfl) rfl ?_)
  rw [if_neg (by simp)]
  refine wpAny_bind (listUpdate_at (xs := #[]) (n := 0) (Heap.get?_push_size _ rfl) rfl ?_ (Nat.zero_le _) (by show (#[] ++ vs.toArray).size ≤ sizeLine + 1; simp only [Array.size_append, List.size_toArray, List.length_nil]; omega))
  refine wpAny_pure ?_
  show wpAny (model prog w) A (do
      let o ← load s.heap.objs.size
      match o.data with
      | .seq xs _ => pure xs.toList
      | _ => unsupported "internal:collect") Q E { s with heap := (s.heap.push (seqObj "list" #[] 0)).update s.heap.objs.size (Obj.mapSeq (· ++ vs.toArray)) }
  refine wpAny_bind (wpAny_load (get?_update_seq (Heap.get?_push_size _ rfl) _) ?_)
  show wpAny _ _ (pure ((#[] : Array Value) ++ vs.toArray).toList) Q E _
  rw [show ((#[] : Array Value) ++ vs.toArray).toList = vs by simp]
  exact wpAny_pure h
theorem sorted_of_sortT {l : Addr} {vs : List Value} {Q : Value → Shared → Prop} (hl : ∃ o, s.heap.get? l = some o ∧ o.cls = .type "tuple" ∧ ∃ n, o.data = .seq vs.toArray n) (hL : vs.length ≤ sizeLine)
    (body : ∀ E' : Value → Shared → Prop, wpAny (model prog w) A.in1.in1 (Builtin.«list.sort» ⟨[.ref (s.heap.objs.size + 1)], []⟩) (fun f s' => f = .done (.ret .none) ∧ Q (.ref (s.heap.objs.size + 1)) s') E' { s with heap := copyHeap s.heap vs }) :
    wpAny (model prog w) A (call (.builtin "sorted") [.ref l]) Q E s := by
  refine call_function_entry_kw kind_sorted plain_sorted entry_sorted (args_sorted1 _) ?_
  unfold Builtin.«sorted»
  refine wpAny_bind (m := checkCount "sorted" 1 1 _) (wpAny_pure ?_)
  refine wpAny_bind (collect_tup hl ?_ hL)
  refine wpAny_bind (wpAny_newList ?_ hL)
  have hsz : ((s.heap.push (seqObj "list" #[] 0)).update s.heap.objs.size (Obj.mapSeq (· ++ vs.toArray))).objs.size = s.heap.objs.size + 1 := by
    rw [Heap.size_update, size_push']
  show wpAny _ _ _ _ _ { s with heap := copyHeap s.heap vs }
  rw [hsz]
  refine wpAny_bind (wpAny_holding (wpAny_call_entry_kw slot_list_sort ⟨_, copyHeap_at s.heap vs, rfl⟩ entry_list_sort ?body (args_list_sort _)))
  case body =>
    show wpAny (model prog w) A.in1.in1 (Builtin.«list.sort» ⟨[.ref (s.heap.objs.size + 1)], []⟩) _ _ _
    refine wpAny_mono (body _) (fun f s' hf => ?_) fun _ _ e => e
    obtain ⟨rfl, hq⟩ := hf
    exact ⟨_, rfl, wpAny_pure ⟨_, rfl, hq⟩⟩
theorem sorted_dataT {β : Type} {R : Value → β → Prop} {enc : β → PyData} {vs : List Value} {bs : List β} {l : Addr} {Q : Value → Shared → Prop} (hl : ∃ o, s.heap.get? l = some o ∧ o.cls = .type "tuple" ∧ ∃ n, o.data = .seq vs.toArray n) (e : EachIs R vs bs) (er : EachIs (fun v b => ∃ as, Reads s.heap v (enc b) as) vs bs) (hal : AllAlike (bs.map enc)) (hk : Sortable (bs.map enc)) (hL : bs.length ≤ sizeLine)
    (hu : ∀ b, b ∈ bs → A.units + 2 + (enc b).depth < cLine) (h : ∀ out, out.length = bs.length → EachIs R out (bs.mergeSort (dataLe false enc)) → Q (.ref (s.heap.objs.size + 1)) { s with heap := sortedAll s.heap vs (List.toArray out) }) :
    wpAny (model prog w) A (call (.builtin "sorted") [.ref l]) Q E s := by
  have er' : EachIs (fun v b => ∃ as, Reads (sortingHeap (copyHeap s.heap vs) (s.heap.objs.size + 1) vs) v (enc b) as) vs bs := er.mono fun _ _ ⟨as, r⟩ => ⟨as, PyProof.Rows.Reads.keeps (fun _ _ => sorting_copy_old) r⟩
  have S : SortsAt prog w A.in1.in1 { s with heap := sortingHeap (copyHeap s.heap vs) (s.heap.objs.size + 1) vs } (dataKind (sortingHeap (copyHeap s.heap vs) (s.heap.objs.size + 1) vs) (bs.map enc)) vs := SortsAt.data (s := { s with heap := sortingHeap (copyHeap s.heap vs) (s.heap.objs.size + 1) vs }) (each_map (R := fun v d => ∃ as, Reads (sortingHeap (copyHeap s.heap vs) (s.heap.objs.size + 1) vs) v d as) enc er') hal hk (bound_map hu)
  refine sorted_of_sortT hl (by rw [e.length]; exact hL) fun _ => list_sort_vals (s := { s with heap := copyHeap s.heap vs }) (copyHeap_at s.heap vs) S (by rw [e.length]; exact hL) ⟨rfl, ?_⟩
  exact h _ (by rw [sortVals_length false rfl]; exact e.length) (sortVals_data false e er' hal)
end
/-- the items of xs, sorted as their data say -/
def sortV (xs : List V) (ps : List PyData) : List V := ((xs.zip ps).mergeSort (dataLe false (·.2))).map (·.1)
def rSortD (K : PySem.W.Frag) : List V → Hp → VK → Prop := fun vs H Q => ∃ (a : Addr) (xs : List V) (ps : List PyData), vs = [V.ref a] ∧ (L2.SqL K H a xs ∨ L2.SqT K H a xs) ∧ L2.DpAll K H xs ps ∧ AllAlike ps ∧ Sortable ps ∧ (∀ d, d ∈ ps → d.depth ≤ 100) ∧
  ∀ p, H p = none → Q (.ref p) (upd H p (.lst (sortV xs ps)))
theorem each_pairs {h : Heap} : ∀ {xs : List V} {ps : List PyData} {us : List Value} {as : List Addr}, Vals xs us → ReadsAll h us ps as → EachIs (fun u (b : V × PyData) => RelV b.1 u) us (xs.zip ps) ∧ EachIs (fun u (b : V × PyData) => ∃ as, Reads h u b.2 as) us (xs.zip ps)
  | [], _, _, _, .nil, .nil => ⟨.nil, .nil⟩
  | x :: xs, _, _, _, .cons r rs, .cons q qs => by
    obtain ⟨h1, h2⟩ := each_pairs rs qs
    exact ⟨.cons r h1, .cons ⟨_, q⟩ h2⟩
theorem vals_each : ∀ {us : List Value} {bs : List (V × PyData)}, EachIs (fun u (b : V × PyData) => RelV b.1 u) us bs → Vals (bs.map (·.1)) us
  | _, _, .nil => .nil
  | _, _, .cons h t => .cons h (vals_each t)
theorem reads_len {h : Heap} : ∀ {us : List Value} {ps : List PyData} {as : List Addr}, ReadsAll h us ps as → ps.length = us.length
  | _, _, _, .nil => rfl
  | _, _, _, .cons _ r => by rw [List.length_cons, List.length_cons, reads_len r]
section
variable {X : Cx}
theorem cr_sortD (hu : X.A.units + 200 < cLine) : CallR X (.builtin "sorted") (rSortD X.K) := by
  intro pins s σ H vs us Q I r h
  obtain ⟨a, xs, ps, rfl, hs, hd, hal, hk, hdp, q⟩ := h
  obtain ⟨u, rfl, ru⟩ := L2.vals1 r
  obtain rfl : u = Value.ref a := ru
  have fin : ∀ (its : List Value), Vals xs its → its.length ≤ sizeLine → ∀ out : List Value, out.length = (xs.zip ps).length → EachIs (fun u (b : V × PyData) => RelV b.1 u) out ((xs.zip ps).mergeSort (dataLe false (·.2))) → EP X pins σ Q (.ref (s.heap.objs.size + 1)) { s with heap := sortedAll s.heap its (List.toArray out) } := fun its rv hz out ho hb => by
    obtain ⟨ep, he'⟩ := PyProof.Rows.sortedAll_at s.heap its (List.toArray out)
    have rv2 := vals_each hb
    have hlen : (sortV xs ps).length ≤ sizeLine := by
      rw [show (sortV xs ps).length = (xs.zip ps).length by unfold sortV; rw [List.length_map, List.length_mergeSort], List.length_zip]
      have := rv.length
      omega
    exact ⟨.ref _, upd H (s.heap.objs.size + 1) (.lst (sortV xs ps)), I.laid (t' := s.toks) (fun _ _ => PyProof.Rows.sortedAll_old) (Nat.le_succ _) ⟨hlen, out, ep, rv2, he'⟩, rfl, q _ (I.hok.fresh (Nat.le_succ _))⟩
  have lzip : ∀ its : List Value, Vals xs its → its.length ≤ sizeLine → (xs.zip ps).length ≤ sizeLine := fun its rv hz => by
    rw [List.length_zip]
    have := rv.length
    omega
  have hun : ∀ b, b ∈ xs.zip ps → X.A.units + 2 + (b.2).depth < cLine := fun b hb => by
    have := hdp _ (List.of_mem_zip hb).2
    omega
  have mz : ∀ {us : List Value} {as : List Addr}, ReadsAll s.heap us ps as → us.length = xs.length → (xs.zip ps).map (·.2) = ps := fun {us as} rd hl => by
    have hl2 := reads_len rd
    exact List.map_snd_zip (by omega)
  rcases hs with hs | hs
  · obtain ⟨its, rv, pl, hz⟩ := I.list hs
    obtain ⟨as, rd⟩ := L2.Dp.readsAll I ps xs its hd rv
    obtain ⟨e1, e2⟩ := each_pairs rv rd
    have em := mz rd rv.length.symm
    have hz : its.length ≤ sizeLine := by rw [← rv.length]; exact hz
    exact sorted_data (enc := fun b : V × PyData => b.2) pl.isList e1 e2 (by rw [em]; exact hal) (by rw [em]; exact hk) (lzip its rv hz) hun (fin its rv hz)
  · obtain ⟨its, rv, pl, hz⟩ := I.tuple hs
    obtain ⟨as, rd⟩ := L2.Dp.readsAll I ps xs its hd rv
    obtain ⟨e1, e2⟩ := each_pairs rv rd
    have em := mz rd rv.length.symm
    have hz : its.length ≤ sizeLine := by rw [← rv.length]; exact hz
    exact sorted_dataT (enc := fun b : V × PyData => b.2) pl e1 e2 (by rw [em]; exact hal) (by rw [em]; exact hk) (lzip its rv hz) hun (fin its rv hz)
end
theorem each_in {α β : Type} {R : α → β → Prop} : ∀ {as : List α} {bs : List β}, EachIs R as bs → ∀ p, p ∈ as.zip bs → R p.1 p.2
  | _, _, .nil, p, h => by cases h
  | _, _, .cons h t, p, m => by
    rw [List.zip_cons_cons] at m
    rcases List.mem_cons.mp m with rfl | m
    · exact h
    · exact each_in t p m
theorem reps_each {L : Lk} {w : Wd} : ∀ {l : List D} {vs : List V} {ps : List PyData}, Reps L w l vs → EachIs (fun (a : D × PyData) (b : V × PyData) => Rep L w a.1 b.1 ∧ a.2 = b.2) (l.zip ps) (vs.zip ps)
  | [], vs, ps, h => by
    simp only [Reps] at h
    subst h
    exact .nil
  | d :: l, vs, [], h => by
    rw [List.zip_nil_right, List.zip_nil_right]
    exact .nil
  | d :: l, vs, p :: ps, h => by
    simp only [Reps] at h
    obtain ⟨v, r, rfl, h1, h2⟩ := h
    exact .cons ⟨h1, rfl⟩ (reps_each h2)
theorem each_reps {L : Lk} {w : Wd} : ∀ {as : List (D × PyData)} {bs : List (V × PyData)}, EachIs (fun (a : D × PyData) (b : V × PyData) => Rep L w a.1 b.1 ∧ a.2 = b.2) as bs → Reps L w (as.map (·.1)) (bs.map (·.1))
  | _, _, .nil => by simp only [List.map_nil, Reps]
  | _, _, .cons h t => by
    simp only [List.map_cons, Reps]
    exact ⟨_, _, rfl, h.1, each_reps t⟩
theorem reps_sort {L : Lk} {w : Wd} {l : List D} {vs : List V} {ps : List PyData} (h : Reps L w l vs) : Reps L w (((l.zip ps).mergeSort (dataLe false (·.2))).map (·.1)) (sortV vs ps) := by
  refine each_reps (sort_each (reps_each h) fun p hp q hq => ?_)
  have e1 := (each_in (reps_each h) p hp).2
  have e2 := (each_in (reps_each h) q hq).2
  show dataLe false (fun a : D × PyData => a.2) p.1 q.1 = dataLe false (fun a : V × PyData => a.2) p.2 q.2
  unfold dataLe
  unfold sortLe
  simp only [e1, e2]
theorem alike_of {ps : List PyData} (h : (ps.all fun d => ps.all fun e => alike d e) = true) : AllAlike ps := fun d hd e he => List.all_eq_true.mp (List.all_eq_true.mp h d hd) e he
theorem sortable_of {ps : List PyData} (h : sortableB ps = true) : Sortable ps := by
  unfold sortableB at h
  rw [Bool.or_eq_true] at h
  rcases h with h | h
  · refine .inl fun d hd => ?_
    have z := List.all_eq_true.mp h d hd
    split at z
    · exact ⟨_, _, rfl⟩
    · cases z
  · refine .inr fun d hd => ?_
    have z := List.all_eq_true.mp h d hd
    split at z
    · cases z
    · cases z
    · rename_i h1 h2
      exact ⟨fun e => h1 e, fun xs e => h2 xs e⟩
end Zd
set_option Elab.async false
set_option linter.all false
set_option maxRecDepth 100000
set_option maxHeartbeats 2000000
/-! Dicts of pairs. -/
namespace Zd
open PySem PySem.Spec PyProof.Rows L2
theorem any_key {k : Zd.D} {j : Key} (h : keyK k = some j) : ∀ {ks : List Zd.D} {kvs : List (Key × V)}, ks.map keyK = kvs.map (fun p => some p.1) → (ks.any fun x => x.keyEq k) = kvs.any fun kv => decide (kv.1 = j)
  | [], [], _ => rfl
  | [], p :: r, e => by simp at e
  | x :: ks, [], e => by simp at e
  | x :: ks, p :: r, e => by
    simp only [List.map_cons, List.cons.injEq] at e
    rw [List.any_cons, List.any_cons, keyK_eq h e.1, any_key h e.2]
theorem map_put {j : Key} {v : V} (kvs : List (Key × V)) : (kvs.map fun kv => if kv.1 = j then (kv.1, v) else kv).map (fun p => some p.1) = kvs.map (fun p => some p.1) := by
  rw [List.map_map]
  apply List.map_congr_left
  intro p _
  show some (if p.1 = j then (p.1, v) else p).1 = some p.1
  split <;> rfl
theorem zip_put {L : Lk} {k d : Zd.D} {j : Key} {v : V} (h : keyK k = some j) (rv : Rep L w d v) : ∀ {ks l : List Zd.D} {kvs : List (Key × V)}, ks.map keyK = kvs.map (fun p => some p.1) → Reps L w l (kvs.map (·.2)) →
    Reps L w (List.zipWith (fun x y => if x.keyEq k = true then d else y) ks l) ((kvs.map fun kv => if kv.1 = j then (kv.1, v) else kv).map (·.2))
  | [], l, [], _, hr => by
    rw [List.zipWith_nil_left]
    rfl
  | [], l, p :: r, e, _ => by simp at e
  | x :: ks, l, [], e, _ => by simp at e
  | x :: ks, [], p :: r, e, hr => by simp [Reps] at hr
  | x :: ks, y :: l, p :: r, e, hr => by
    simp only [List.map_cons, List.cons.injEq] at e
    simp only [List.map_cons, Reps] at hr
    obtain ⟨u, r', ev, h1, h2⟩ := hr
    simp only [List.cons.injEq] at ev
    rw [List.zipWith_cons_cons, List.map_cons, List.map_cons]
    simp only [Reps]
    refine ⟨_, _, rfl, ?_, zip_put h rv e.2 (by rw [ev.2]; exact h2)⟩
    rw [keyK_eq h e.1]
    by_cases z : p.1 = j
    · rw [if_pos (by simpa using z), if_pos z]
      exact rv
    · rw [if_neg (by simpa using z), if_neg z, ev.1]
      exact h1
theorem put_rep {L : Lk} {w : Wd} {ks l : List Zd.D} {kvs : List (Key × V)} {k d : Zd.D} {j : Key} {v : V} (hj : keyK k = some j) (hm : ks.map keyK = kvs.map (fun p => some p.1)) (hr : Reps L w l (kvs.map (·.2))) (rv : Rep L w d v) :
    (Zd.putK k ks).map keyK = (L2.putK kvs j v).map (fun p => some p.1) ∧ Reps L w (Zd.putV k d ks l) ((L2.putK kvs j v).map (·.2)) := by
  have any := any_key hj hm
  unfold L2.putK Zd.putK Zd.putV
  rw [any]
  by_cases q : (kvs.any fun kv => decide (kv.1 = j)) = true
  · rw [if_pos q, if_pos q, if_pos q]
    exact ⟨by rw [map_put]; exact hm, zip_put hj rv hm hr⟩
  · rw [if_neg q, if_neg q, if_neg q]
    refine ⟨?_, ?_⟩
    · rw [List.map_append, List.map_append, hm]
      show _ ++ [keyK k] = _ ++ [some j]
      rw [hj]
    · rw [List.map_append]
      exact hr.append (.one rv)
theorem merge_rep {L : Lk} {w : Wd} : ∀ {ps : List (Zd.D × Zd.D)} {more : List (Key × V)} {ks l : List Zd.D} {kvs : List (Key × V)}, ps.map (fun p => keyK p.1) = more.map (fun p => some p.1) → Reps L w (ps.map (·.2)) (more.map (·.2)) → ks.map keyK = kvs.map (fun p => some p.1) → Reps L w l (kvs.map (·.2)) →
    (mergeD ps ks l).1.map keyK = (mergeK kvs more).map (fun p => some p.1) ∧ Reps L w (mergeD ps ks l).2 ((mergeK kvs more).map (·.2))
  | [], [], ks, l, kvs, _, _, h1, h2 => ⟨h1, h2⟩
  | [], _ :: _, _, _, _, e, _, _, _ => by simp at e
  | _ :: _, [], _, _, _, e, _, _, _ => by simp at e
  | p :: ps, q :: more, ks, l, kvs, e, r, h1, h2 => by
    simp only [List.map_cons, List.cons.injEq] at e
    simp only [List.map_cons, Reps] at r
    obtain ⟨v, r', ev, rv, rr⟩ := r
    simp only [List.cons.injEq] at ev
    obtain ⟨ev1, ev2⟩ := ev
    subst ev1 ev2
    obtain ⟨g1, g2⟩ := put_rep e.1 h1 h2 rv
    exact merge_rep (ps := ps) (more := more) e.2 rr g1 g2
theorem pairs_rep {L : Lk} {w : Wd} {S : Store} {H : Hp} (c : Core L w S H) : ∀ {l : List Zd.D} {vs : List V} {ps : List (Zd.D × Zd.D)}, Reps L w l vs → pairsD l = some ps →
    ∃ (as : List Addr) (kvs : List (Key × V)), vs = as.map V.ref ∧ Paired (fun p kv => SqT L.K H p [kV kv.1, kv.2]) as kvs ∧ ps.map (fun p => keyK p.1) = kvs.map (fun p => some p.1) ∧ Reps L w (ps.map (·.2)) (kvs.map (·.2))
  | [], vs, ps, h, e => by
    simp only [Reps] at h
    subst h
    cases e
    exact ⟨[], [], rfl, .nil, rfl, by simp only [List.map_nil, Reps]⟩
  | d :: l, vs, ps, h, e => by
    simp only [Reps] at h
    obtain ⟨v, r, rfl, h1, h2⟩ := h
    unfold pairsD at e
    split at e
    · rename_i p r0 hp hr
      cases e
      obtain ⟨as, kvs, rfl, h3, h4, h5⟩ := pairs_rep c h2 hr
      unfold pairD at hp
      split at hp
      · rename_i k x
        split at hp
        · rename_i hk
          cases hp
          simp only [Rep, Reps] at h1
          obtain ⟨a, us, rfl, q, ⟨y, r1, rfl, ry, z, r2, rfl, rz, rfl⟩, _⟩ := h1
          obtain ⟨j, hj⟩ := keyK_some hk
          obtain ⟨v', ev, hv'⟩ := keyK_v (L := L) (w := w) (H := H) hj
          have ey : y = kV j := by rw [hv' y (.inl ry), ev]
          subst ey
          refine ⟨a :: as, (j, z) :: kvs, rfl, .cons (SqT.up c q) h3, ?_, ?_⟩
          · rw [List.map_cons, List.map_cons, h4]
            show keyK k :: _ = some j :: _
            rw [hj]
          · simp only [List.map_cons, Reps]
            exact ⟨_, _, rfl, rz, h5⟩
        · cases hp
      · cases hp
    · cases e
end Zd
set_option Elab.async false
set_option linter.all false
set_option maxRecDepth 100000
set_option maxHeartbeats 2000000
namespace Zd
open PySem PySem.Spec PyProof.Rows L2
def BI.val : BI → Value
  | .len => .builtin "len" | .all => .builtin "all" | .any => .builtin "any" | .tuple => .type "tuple" | .list => .type "list" | .dict => .type "dict"
  | .min1 => .builtin "min" | .max1 => .builtin "max" | .min2 => .builtin "min" | .max2 => .builtin "max" | .abs => .builtin "abs" | .int => .type "int" | .str => .type "str"
  | .repr => .builtin "repr" | .sorted => .builtin "sorted"
def BI.nm : BI → Str
  | .len => "len" | .all => "all" | .any => "any" | .tuple => "tuple" | .list => "list" | .dict => "dict"
  | .min1 => "min" | .max1 => "max" | .min2 => "min" | .max2 => "max" | .abs => "abs" | .int => "int" | .str => "str"
  | .repr => "repr" | .sorted => "sorted"
section
variable {L : Lk} {w : Wd} {S : Store} {H : Hp}
theorem RepCs.one {d : D} {xs : List V} (h : RepCs L w H [d] xs) : ∃ v, xs = [v] ∧ RepC L w H d v := by
  simp only [RepCs] at h
  obtain ⟨v, r, rfl, h1, rfl⟩ := h
  exact ⟨v, rfl, h1⟩
theorem RepCs.two {d e : D} {xs : List V} (h : RepCs L w H [d, e] xs) : ∃ v u, xs = [v, u] ∧ RepC L w H d v ∧ RepC L w H e u := by
  simp only [RepCs] at h
  obtain ⟨v, r, rfl, h1, u, r2, rfl, h2, rfl⟩ := h
  exact ⟨v, u, rfl, h1, h2⟩
end
mutual
theorem py_nod : ∀ (d : D) (p : PyData), d.py = some p → p.hasDict = false
  | .non, p, h => by simp only [D.py] at h; cases h; simp [PyData.hasDict]
  | .bl _, p, h => by simp only [D.py] at h; cases h; simp [PyData.hasDict]
  | .int _, p, h => by simp only [D.py] at h; cases h; simp [PyData.hasDict]
  | .str _, p, h => by simp only [D.py] at h; cases h; simp [PyData.hasDict]
  | .tup l, p, h => by
    simp only [D.py] at h
    split at h
    · rename_i xs hx
      cases h
      simp only [PyData.hasDict]
      exact pys_nod l xs hx
    · cases h
  | .lst l, p, h => by
    simp only [D.py] at h
    split at h
    · rename_i xs hx
      cases h
      simp only [PyData.hasDict]
      exact pys_nod l xs hx
    · cases h
  | .dic _ _, p, h => by simp [D.py] at h
  | .obj _ _ _, p, h => by simp [D.py] at h
  | .ref _, p, h => by simp [D.py] at h
theorem pys_nod : ∀ (l : List D) (ps : List PyData), D.pys l = some ps → PyData.hasDictAll ps = false
  | [], ps, h => by simp only [D.pys] at h; cases h; simp [PyData.hasDictAll]
  | d :: l, ps, h => by
    simp only [D.pys] at h
    split at h
    · rename_i x hx
      split at h
      · rename_i xs hxs
        cases h
        simp only [PyData.hasDictAll]
        rw [py_nod d x hx, pys_nod l xs hxs]
        rfl
      · cases h
    · cases h
end
section
variable {X : Cx} {P : Pr} (hK : X.K = P.L.K)
theorem repr_ok {pins : List (Addr × Obj)} {s : Shared} {σ : L2.St} {H : Hp} {x : V} {v : Value} {p : PyData} {Q : VK} (hu : X.A.units + 200 < cLine) (hg : X.A.guards = some []) (I : L2.Inv X pins σ H s) (rx : RelV x v)
    (hp : L2.Dp X.K H x p) (h1 : p.showable = true) (h2 : p.shown.length ≤ sizeLine) (h3 : p.depth ≤ 60) (nod : p.hasDict = false) (q : Q (.str p.shown) H) : wpAny (model X.prog X.w) X.A (call (.builtin "repr") [v]) (EP X pins σ Q) X.xe s := by
  obtain ⟨as, r⟩ := L2.Dp.reads I _ _ _ hp rx
  have fin : ∀ (h' : Heap) (u : Tok) (tk : Nat), (∀ b o, s.heap.get? b = some o → h'.get? b = some o) → EP X pins σ Q (.str p.shown u) { s with heap := h', toks := tk } := fun h' u tk k => ⟨.str p.shown, H, I.kept (h' := h') (t' := tk) k, ⟨u, rfl⟩, q⟩
  have ref : ∀ a, v = .ref a → p.hasDict = false → wpAny (model X.prog X.w) X.A (call (.builtin "repr") [v]) (EP X pins σ Q) X.xe s := by
    intro a ea hd
    subst ea
    exact repr_of_reads' r h1 (fun z => by rw [hd] at z; cases z) hg (by omega) (fun _ _ e => e) fin h2
  cases p with
  | none => cases r; exact PySem.P.repr_of_none (fin s.heap _ _ fun _ _ e => e)
  | bool b => cases r; exact PySem.P.repr_of_bool (fin s.heap _ _ fun _ _ e => e)
  | int i => cases r; exact PySem.P.repr_of_int (by simpa [PyData.showable] using h1) (fin s.heap _ _ fun _ _ e => e)
  | str z => cases r; exact PySem.P.repr_of_str (fin s.heap _ _ fun _ _ e => e) h2
  | list l => cases r; exact ref _ rfl nod
  | tuple l => cases r; exact ref _ rfl nod
  | dict l => cases r; exact ref _ rfl nod
end
/-! ### repr of a dict of flat values -/
theorem keys_read {P : Program} {w : PySem.World} {h : Heap} : ∀ {es : List DictEntry} {vs : List (Key × Value)}, Pairs (mixKind P w) es vs → ∀ {ks : List D} {kp : List PyData}, ks.map keyK = vs.map (fun p => some p.1) → D.pys ks = some kp → ReadsAll h (es.map (·.key)) kp []
  | _, _, .nil, [], kp, _, e => by
    cases e
    exact .nil
  | _, _, .nil, _ :: _, kp, e, _ => by simp at e
  | _, _, .cons _ _ _, [], kp, e, _ => by simp at e
  | _, _, .cons (e := en) (kv := kv) h1 h2 h3, k :: ks, kp, e, q => by
    simp only [List.map_cons, List.cons.injEq] at e
    simp only [D.pys] at q
    split at q
    · rename_i x hx
      split at q
      · rename_i xs hxs
        cases q
        have ih := keys_read (h := h) h3 e.2 hxs
        have one : Reads h en.key x [] := by
          have h1 : keyIs kv.1 en.key = true := h1
          rcases keyIs_shape h1 with ⟨i, t, e1, e2⟩ | ⟨y, t, e1, e2⟩
          · rw [e2]
            rw [e1] at e
            cases k <;> simp only [keyK] at e <;> first
              | (obtain ⟨e3, _⟩ := e; cases e3; cases hx; exact .int _ _)
              | (obtain ⟨e3, _⟩ := e; cases e3)
          · rw [e2]
            rw [e1] at e
            cases k <;> simp only [keyK] at e <;> first
              | (obtain ⟨e3, _⟩ := e; cases e3; cases hx; exact .str _ _)
              | (obtain ⟨e3, _⟩ := e; cases e3)
        exact ReadsAll.cons (as := []) (bs := []) one ih
      · cases q
    · cases q
theorem vals_read {L : Lk} {w : Wd} {h : Heap} : ∀ {l : List D} {us : List V} {vs : List Value} {vp : List PyData}, Reps L w l us → Vals us vs → l.all D.flat = true → D.pys l = some vp → ReadsAll h vs vp []
  | [], us, vs, vp, r, q, _, e => by
    simp only [Reps] at r
    subst r
    cases q
    cases e
    exact .nil
  | d :: l, us, vs, vp, r, q, f, e => by
    simp only [Reps] at r
    obtain ⟨v, r', rfl, r1, r2⟩ := r
    rw [List.all_cons, Bool.and_eq_true] at f
    simp only [D.pys] at e
    cases q with
    | @cons _ u _ us' a b =>
      split at e
      · rename_i x hx
        split at e
        · rename_i xs hxs
          cases e
          have ih := vals_read (h := h) r2 b f.2 hxs
          have one : Reads h u x [] := by
            cases d with
            | non => simp only [Rep] at r1; subst r1; cases a; cases hx; exact .none
            | bl b => simp only [Rep] at r1; subst r1; cases a; cases hx; exact .bool _
            | int i => simp only [Rep] at r1; subst r1; obtain ⟨t, rfl⟩ := a; cases hx; exact .int _ _
            | str s => simp only [Rep] at r1; obtain ⟨rfl, _⟩ := r1; obtain ⟨t, rfl⟩ := a; cases hx; exact .str _ _
            | _ => cases f.1
          exact ReadsAll.cons (as := []) (bs := []) one ih
        · cases e
      · cases e
theorem pairs_val {P : Program} {w : PySem.World} : ∀ {es : List DictEntry} {vs : List (Key × Value)}, Pairs (mixKind P w) es vs → es.map (·.val) = vs.map (·.2)
  | _, _, .nil => rfl
  | _, _, .cons h1 h2 h3 => by rw [List.map_cons, List.map_cons, h2, pairs_val h3]
theorem kv_vals : ∀ {kvs : List (Key × V)} {vs : List (Key × Value)}, KV kvs vs → Vals (kvs.map (·.2)) (vs.map (·.2)) ∧ kvs.map (fun p => some p.1) = vs.map (fun p => some p.1)
  | _, _, .nil => ⟨.nil, rfl⟩
  | _, _, .cons h t => by
    obtain ⟨h1, h2⟩ := h
    obtain ⟨q1, q2⟩ := kv_vals t
    exact ⟨.cons h2 q1, by rw [List.map_cons, List.map_cons, q2, h1]⟩
theorem pys_len : ∀ {l : List D} {ps : List PyData}, D.pys l = some ps → ps.length = l.length
  | [], ps, e => by cases e; rfl
  | d :: l, ps, e => by
    simp only [D.pys] at e
    split at e
    · split at e
      · rename_i xs hxs
        cases e
        rw [List.length_cons, List.length_cons, pys_len hxs]
      · cases e
    · cases e
theorem reprD_ok {X : Cx} {L : Lk} {w : Wd} {pins : List (Addr × Obj)} {s : Shared} {σ : L2.St} {H : Hp} {a : Addr} {kvs : List (Key × V)} {ks l : List D} {p : PyData} {Q : VK} (hu : X.A.units + 200 < cLine) (hg : X.A.guards = some []) (I : L2.Inv X pins σ H s) (ha : H a = some (.dK kvs))
    (hk : ks.map keyK = kvs.map (fun p => some p.1)) (hr : Reps L w l (kvs.map (·.2))) (hp : D.pyR (.dic ks l) = some p) (h1 : p.showable = true) (h2 : p.shown.length ≤ sizeLine) (h3 : p.depth ≤ 60) (q : Q (.str p.shown) H) :
    wpAny (model X.prog X.w) X.A (call (.builtin "repr") [.ref a]) (EP X pins σ Q) X.xe s := by
  obtain ⟨z, hm, vs, rel, o, es, ep, ho, hex, hd, hko, hpr, nd⟩ := dk_of I.hok ha
  have hp : (match D.pys ks, D.pys l with
    | some a, some b => if l.all D.flat = true then some (PyData.dict (a.zip b)) else none
    | _, _ => none) = some p := hp
  cases e1 : D.pys ks with
  | none => rw [e1] at hp; cases hp
  | some kp =>
    cases e2 : D.pys l with
    | none => rw [e1, e2] at hp; cases hp
    | some vp =>
      rw [e1, e2] at hp
      simp only at hp
      by_cases fl : l.all D.flat = true
      · rw [if_pos fl] at hp
        have hp := Option.some.inj hp
        subst hp
        obtain ⟨rv, rk⟩ := kv_vals rel
        have len : ks.length = l.length := by
          have g1 := congrArg List.length hk
          have g2 := hr.length
          simp only [List.length_map] at g1 g2
          omega
        have r : Reads s.heap (.ref a) (.dict (kp.zip vp)) (a :: [] ++ []) := by
          refine Reads.dict ho hex.1 hd ?_ ?_
          · rw [List.map_fst_zip (by rw [pys_len e1, pys_len e2, len]; exact Nat.le_refl _)]
            exact keys_read hpr (hk.trans rk) e1
          · rw [List.map_snd_zip (by rw [pys_len e1, pys_len e2, len]; exact Nat.le_refl _), pairs_val hpr]
            exact vals_read hr rv fl e2
        refine repr_of_reads' r h1 (fun _ m => ?_) hg (by omega) (fun _ _ e => e) (fun h' u tk k => ⟨.str _, H, I.kept (h' := h') (t' := tk) k, ⟨u, rfl⟩, q⟩) h2
        rcases List.mem_cons.mp m with m | m
        · rw [← m] at hm
          simp at hm
        · simp at m
      · rw [if_neg fl] at hp
        cases hp
section
variable {X : Cx} {P : Pr} (hK : X.K = P.L.K)
include hK in
theorem bi_ok (hc : X.calm = true) (hu : X.A.units + 200 < cLine) (hg : X.A.guards = some []) (b : BI) : CallR X b.val (fun xs H Q => ∃ w S ds r, Core P.L w S H ∧ RepCs P.L w H ds xs ∧ biD b ds = some r ∧ ∀ v w' H', Core P.L w' S H' → Le w H w' H' → Rep P.L w' r v → Q v H') := by
  intro pins s σ H xs us Q I rx h
  obtain ⟨w, S, ds, r, c, hd, hr, k⟩ := h
  have fin : ∀ {v' : V}, Rep P.L w r v' → Q v' H := fun q => k _ w H c (Le.refl _ _) q
  match ds, hd, hr with
  | [], hd, hr => cases b <;> cases hr
  | [d], hd, hr =>
    obtain ⟨x, rfl, h1⟩ := hd.one
    cases b with
    | len =>
      have hr : (d.len.map fun n => D.int n) = some r := hr
      obtain ⟨n, hn, rfl⟩ := Option.map_eq_some_iff.mp hr
      cases d with
      | str l =>
        cases hn
        obtain ⟨rfl, hl⟩ := h1.str
        exact call_len pins s σ H _ us Q I rx ⟨_, _, rfl, ⟨by rw [strLen]; exact line_le hl, rfl⟩, fin (by simp only [Rep]; rw [strLen])⟩
      | tup l =>
        cases hn
        obtain ⟨a, vs, rfl, q, rr⟩ := h1.tup c
        exact call_len pins s σ H _ us Q I rx ⟨_, _, rfl, .inr ⟨vs, hK ▸ q, rfl⟩, fin (by simp only [Rep]; rw [rr.length])⟩
      | lst l =>
        cases hn
        obtain ⟨a, vs, rfl, q, rr⟩ := h1.lst c
        exact call_len pins s σ H _ us Q I rx ⟨_, _, rfl, .inl ⟨vs, SqL.of q, rfl⟩, fin (by simp only [Rep]; rw [rr.length])⟩
      | dic ks l =>
        cases hn
        obtain ⟨a, kvs, rfl, q, hks, rr⟩ := h1.dic c
        obtain ⟨u, rfl, r1⟩ := vals1 rx
        cases r1
        have e := congrArg List.length hks
        simp only [List.length_map] at e
        exact d_len I (.inl q) fun t s' I' => ⟨.int kvs.length, H, I', ⟨t, rfl⟩, fin (by simp only [Rep]; rw [e])⟩
      | _ => cases hn
    | all =>
      cases d with
      | lst l =>
        have hr : ((allBl l).map fun bs => D.bl (bs.all id)) = some r := hr
        obtain ⟨n, hn, rfl⟩ := Option.map_eq_some_iff.mp hr
        obtain ⟨a, vs, rfl, q, rr⟩ := h1.lst c
        have e := rr.ofBls hn
        subst e
        exact cr_all hc pins s σ H _ us Q I rx ⟨a, n, rfl, SqL.of q, fin rfl⟩
      | _ => cases hr
    | any =>
      cases d with
      | lst l =>
        have hr : ((allBl l).map fun bs => D.bl (bs.any id)) = some r := hr
        obtain ⟨n, hn, rfl⟩ := Option.map_eq_some_iff.mp hr
        obtain ⟨a, vs, rfl, q, rr⟩ := h1.lst c
        have e := rr.ofBls hn
        subst e
        exact cr_any hc pins s σ H _ us Q I rx ⟨a, n, rfl, SqL.of q, fin rfl⟩
      | _ => cases hr
    | tuple =>
      cases d with
      | lst l =>
        cases hr
        have zz := h1.len (l := l) rfl
        obtain ⟨a, vs, rfl, q, rr⟩ := h1.lst c
        refine call_tuple_of pins s σ H _ us Q I rx ⟨a, vs, rfl, .inl ⟨SqL.of q, fun p hp => k _ _ _ (c.laid hp) (Le.laid c hp) ?_⟩⟩
        simp only [Rep]
        exact ⟨p, _, rfl, SqT.of upd_same, (Reps.le rr (Le.laid c hp) : _), zz⟩
      | tup l =>
        cases hr
        obtain ⟨a, vs, e, q, rr⟩ := h1.tup c
        subst e
        refine call_tuple_of pins s σ H _ us Q I rx ⟨a, vs, rfl, .inr ⟨hK ▸ q, fin ?_⟩⟩
        rcases h1 with h1 | ⟨_, _, h1⟩
        · exact h1
        · simp only [Con] at h1
      | _ => cases hr
    | list =>
      have key : ∀ l a vs, d.seq = some l → x = .ref a → (SqL X.K H a vs ∨ SqT X.K H a vs) → Reps P.L w l vs → wpAny (model X.prog X.w) X.A (call BI.list.val us) (EP X pins σ Q) X.xe s := by
        intro l a vs e1 e2 e3 rr
        have hr : (d.seq.map D.lst) = some r := hr
        rw [e1] at hr
        cases hr
        have zz := h1.len e1
        subst e2
        refine call_list_of pins s σ H _ us Q I rx ⟨a, vs, rfl, e3, fun p hp => k _ _ _ (c.laid hp) (Le.laid c hp) ?_⟩
        simp only [Rep]
        exact ⟨p, _, rfl, upd_same, (Reps.le rr (Le.laid c hp) : _), zz⟩
      cases d with
      | lst l =>
        obtain ⟨a, vs, e, q, rr⟩ := h1.lst c
        exact key l a vs rfl e (.inl (SqL.of q)) rr
      | tup l =>
        obtain ⟨a, vs, e, q, rr⟩ := h1.tup c
        exact key l a vs rfl e (.inr (hK ▸ q)) rr
      | _ => cases hr
    | dict =>
      cases d with
      | lst l =>
        have hr : ((pairsD l).map fun ps => D.dic (mergeD ps [] []).1 (mergeD ps [] []).2) = some r := hr
        obtain ⟨ps, hp, rfl⟩ := Option.map_eq_some_iff.mp hr
        have zz := h1.len (l := l) rfl
        obtain ⟨a, vs, rfl, q, rr⟩ := h1.lst c
        obtain ⟨as, kvs, rfl, h3, h4, h5⟩ := pairs_rep c rr hp
        refine call_dictP hc pins s σ H _ us Q I rx ⟨a, as, kvs, rfl, SqL.of q, hK ▸ h3, fun p hp => k _ _ _ (c.laid hp) (Le.laid c hp) ?_⟩
        obtain ⟨g1, g2⟩ := merge_rep h4 h5 (ks := []) (l := []) (kvs := []) rfl (by simp only [List.map_nil, Reps])
        simp only [Rep]
        refine ⟨p, _, rfl, upd_same, g1, (Reps.le g2 (Le.laid c hp) : _), ?_⟩
        have e1 := congrArg List.length g1
        rw [List.length_map, List.length_map] at e1
        rw [e1]
        have e2 := length_mergeK kvs []
        have e3 := rr.length
        have e4 := h3.length
        rw [List.length_map] at e3
        rw [List.length_nil] at e2
        omega
      | _ => cases hr
    | sorted =>
      have key : ∀ l a vs, d.seq = some l → x = .ref a → (SqL X.K H a vs ∨ SqT X.K H a vs) → Reps P.L w l vs → wpAny (model X.prog X.w) X.A (call BI.sorted.val us) (EP X pins σ Q) X.xe s := by
        intro l a vs e1 e2 e3 rr
        have hr : ((d.seq.bind sortedD).map D.lst) = some r := hr
        rw [e1] at hr
        obtain ⟨l', hs, rfl⟩ := Option.map_eq_some_iff.mp hr
        have hs : sortedD l = some l' := hs
        have zz := h1.len e1
        rw [sortedD_old] at hs
        split at hs
        · rename_i ps hp
          split at hs
          · rename_i hb
            cases hs
            simp only [Bool.and_eq_true] at hb
            obtain ⟨⟨b1, b2⟩, b3⟩ := hb
            subst e2
            refine cr_sortD hu pins s σ H _ us Q I rx ⟨a, vs, ps, rfl, e3, Reps.dp hK c l vs ps rr hp, alike_of b1, sortable_of b2, fun d hd => of_decide_eq_true (List.all_eq_true.mp b3 d hd), fun p hp => k _ _ _ (c.laid hp) (Le.laid c hp) ?_⟩
            simp only [Rep]
            refine ⟨p, _, rfl, upd_same, reps_sort (Reps.le rr (Le.laid c hp)), ?_⟩
            rw [List.length_map, List.length_mergeSort, List.length_zip]
            omega
          · cases hs
        · cases hs
      cases d with
      | lst l =>
        obtain ⟨a, vs, e, q, rr⟩ := h1.lst c
        exact key l a vs rfl e (.inl (SqL.of q)) rr
      | tup l =>
        obtain ⟨a, vs, e, q, rr⟩ := h1.tup c
        exact key l a vs rfl e (.inr (hK ▸ q)) rr
      | _ => cases hr
    | min1 =>
      cases d with
      | lst l =>
        have hr : ((allInt l).bind fun ns => if ns = [] then none else some (D.int (leastI ns))) = some r := hr
        obtain ⟨n, hn, hr⟩ := Option.bind_eq_some_iff.mp hr
        obtain ⟨a, vs, rfl, q, rr⟩ := h1.lst c
        obtain ⟨e, _⟩ := rr.ofInts hn
        subst e
        split at hr
        · cases hr
        · rename_i hne
          cases hr
          obtain ⟨m1, m2⟩ := leastI_mem hne
          refine cr_min hc pins s σ H _ us Q I rx ⟨a, n, rfl, SqL.of q, List.length_pos_iff.mpr hne, fun m h1 h2 => fin ?_⟩
          simp only [Rep]
          have a1 := m2 m h1
          have a2 := h2 _ m1
          congr 1
          omega
      | _ => cases hr
    | max1 =>
      cases d with
      | lst l =>
        have hr : ((allInt l).bind fun ns => if ns = [] then none else some (D.int (mostI ns))) = some r := hr
        obtain ⟨n, hn, hr⟩ := Option.bind_eq_some_iff.mp hr
        obtain ⟨a, vs, rfl, q, rr⟩ := h1.lst c
        obtain ⟨e, _⟩ := rr.ofInts hn
        subst e
        split at hr
        · cases hr
        · rename_i hne
          cases hr
          obtain ⟨m1, m2⟩ := mostI_mem hne
          refine cr_max hc pins s σ H _ us Q I rx ⟨a, n, rfl, SqL.of q, List.length_pos_iff.mpr hne, fun m h1 h2 => fin ?_⟩
          simp only [Rep]
          have a1 := m2 m h1
          have a2 := h2 _ m1
          congr 1
          omega
      | _ => cases hr
    | abs =>
      cases d with
      | int i => cases hr; cases h1.int; exact call_abs pins s σ H _ us Q I rx ⟨i, rfl, fin rfl⟩
      | _ => cases hr
    | int =>
      cases d with
      | int i => cases hr; cases h1.int; exact call_int1 pins s σ H _ us Q I rx (.inl ⟨i, rfl, fin rfl⟩)
      | str t =>
        obtain ⟨e1, _⟩ := h1.str
        subst e1
        have hr : (if t.length ≤ 640 then (PySem.intText? (toS t)).map D.int else none) = some r := hr
        split at hr
        · rename_i hl
          obtain ⟨n, hn, en⟩ := Option.map_eq_some_iff.mp hr
          subst en
          exact call_int_str pins s σ H _ us Q I rx ⟨_, n, rfl, hn, by simpa [Str.length] using hl, fin rfl⟩
        · cases hr
      | _ => cases hr
    | str =>
      cases d with
      | str t =>
        have hr : some (D.str t) = some r := hr
        cases hr
        obtain ⟨e1, e2⟩ := h1.str
        subst e1
        refine SkE.call_str_str pins s σ H _ us Q I rx ⟨_, rfl, fin ?_⟩
        simp only [Rep]
        exact ⟨by first | rfl | trivial, e2⟩
      | int i =>
        cases h1.int
        have hr : (if i.natAbs.log2 < 1920 then some (D.str (toString i : Str).cps.toList) else none) = some r := hr
        split at hr
        · rename_i hl
          cases hr
          refine call_str_int pins s σ H _ us Q I rx ⟨i, rfl, hl, fin ?_⟩
          simp only [Rep]
          refine ⟨by first | rfl | trivial, ?_⟩
          have := int_text_fits hl
          rw [line_eq]
          simpa [Str.length] using this
        · cases hr
      | _ => cases hr
    | repr =>
      have hr : (match d.pyR with
        | some p => if p.showable && decide (p.shown.length ≤ line) && decide (p.depth ≤ 60) then some (D.str p.shown.cps.toList) else none
        | none => none) = some r := hr
      split at hr
      · rename_i p hp
        split at hr
        · rename_i hs
          cases hr
          simp only [Bool.and_eq_true, decide_eq_true_eq] at hs
          obtain ⟨⟨s1, s2⟩, s3⟩ := hs
          obtain ⟨u, rfl, r1⟩ := vals1 rx
          have fin' : Q (.str p.shown) H := by
            refine fin ?_
            simp only [Rep]
            exact ⟨by first | rfl | trivial, by simpa [Str.length] using s2⟩
          by_cases isd : ∃ ks l, d = .dic ks l
          · obtain ⟨ks, l, rfl⟩ := isd
            obtain ⟨a, kvs, rfl, q, hks, rr⟩ := h1.dic c
            cases r1
            exact reprD_ok hu hg I q hks rr hp s1 (line_le s2) s3 fin'
          · have hp' : d.py = some p := by
              cases d with
              | dic ks l => exact absurd ⟨ks, l, rfl⟩ isd
              | _ => exact hp
            exact repr_ok hu hg I r1 (h1.dp hK c hp') s1 (line_le s2) s3 (py_nod d p hp') fin'
        · cases hr
      · cases hr
    | _ => cases d <;> cases hr
  | [d, e], hd, hr =>
    obtain ⟨x, y, rfl, h1, h2⟩ := hd.two
    cases b with
    | min2 =>
      cases d with
      | int i =>
        cases e with
        | int j => cases hr; cases h1.int; cases h2.int; exact call_min2 hc pins s σ H _ us Q I rx ⟨i, j, rfl, fin rfl⟩
        | _ => cases hr
      | _ => cases hr
    | max2 =>
      cases d with
      | int i =>
        cases e with
        | int j => cases hr; cases h1.int; cases h2.int; exact call_max2 hc pins s σ H _ us Q I rx ⟨i, j, rfl, fin rfl⟩
        | _ => cases hr
      | _ => cases hr
    | _ => cases d <;> cases hr
  | d :: e :: f :: l, hd, hr => cases b <;> simp [biD] at hr
end
end Zd
set_option Elab.async false
set_option linter.all false
set_option maxRecDepth 100000
set_option maxHeartbeats 2000000
/-! Expressions: one lemma a node. -/
namespace Zd
open PySem PySem.Spec PyProof.Rows L2
section
variable {P : Pr} {w w1 w' : Wd} {g : Ev} {σ : L2.St} {H H1 H' : Hp} {S S' : Store} {md : Md}
theorem PostM.le {Q : VK} {r : Res D} (l : Le w H w1 H1) (h : PostM P md w g σ H Q r) : PostM P md w1 g σ H1 Q r := by
  cases r with
  | ok d S' => exact fun v w' H' W l' r' => h v w' H' W (l.trans l') r'
  | exc e S' => exact Pr.X.le l h
  | bad => exact h
theorem PostB.le {Q : Bool → Hp → Prop} {r : Res D} (l : Le w H w1 H1) (h : PostB P w g σ H Q r) : PostB P w1 g σ H1 Q r := by
  cases r with
  | ok d S' =>
    unfold PostB at h ⊢
    cases e : (rd S' d).truth with
    | none => simp only [e] at h
    | some b => simp only [e] at h ⊢; exact fun w' H' W l' => h w' H' W (l.trans l')
  | exc e S' => exact Pr.X.le l h
  | bad => exact h
theorem PostA.le {ms : List Md} {Q : List V → Hp → Prop} {r : Res (List D)} (l : Le w H w1 H1) (h : PostA P ms w g σ H Q r) : PostA P ms w1 g σ H1 Q r := by
  cases r with
  | ok d S' => exact fun v w' H' W l' r' => h v w' H' W (l.trans l') r'
  | exc e S' => exact Pr.X.le l h
  | bad => exact h
theorem PostO.le {Q : Option Int → Hp → Prop} {r : Res (Option Int)} (l : Le w H w1 H1) (h : PostO P w g σ H Q r) : PostO P w1 g σ H1 Q r := by
  cases r with
  | ok d S' => exact fun w' H' W l' => h w' H' W (l.trans l')
  | exc e S' => exact Pr.X.le l h
  | bad => exact h
/-- the wish of a part whose value goes on -/
theorem part {d : DE} {R : VK} {K : Res D → Prop} (W : P.Wo w g S σ H) {f : D → Store → Prop}
    (hx : ∀ e S', ev P.T P.cf d g S = .exc e S' → P.X w g σ H e S') (hb : ev P.T P.cf d g S = .bad → False)
    (k : ∀ x S1, ev P.T P.cf d g S = .ok x S1 → ∀ v w1 H1, P.Wo w1 g S1 σ H1 → Le w H w1 H1 → ArgR1 P.L w1 H1 md x v → R v H1) : tM P md d σ H R := by
  refine ⟨w, g, S, W, ?_⟩
  cases e : ev P.T P.cf d g S with
  | ok x S1 => exact fun v w1 H1 W1 l1 r1 => k x S1 e v w1 H1 W1 l1 r1
  | exc x S1 => exact hx x S1 e
  | bad => exact (hb e).elim
theorem RepT.val {L : Lk} {d : D} {v : V} (h : Rep L w d v) : RepT L w H d v := .inl h
theorem ArgR1.repT {L : Lk} {d : D} {v : V} (hm : md = .val ∨ md = .top) (h : ArgR1 L w H md d v) : RepT L w H d v := by
  rcases hm with e | e
  · subst e; exact .inl h
  · subst e; exact h
theorem ArgR1.of {L : Lk} {d : D} {v : V} (hm : md = .val ∨ md = .top) (h : Rep L w d v) : ArgR1 L w H md d v := by
  rcases hm with e | e
  · subst e; exact h
  · subst e; exact .inl h
theorem Con.rep {L : Lk} {d : D} {p : Addr} {o : HO} (c : Core L w S H) (hp : H p = none) (h : Con L w (upd H p o) d p) : Rep L (w.add p o) d (.ref p) := by
  have mono : ∀ (l : List D) (vs : List V), Reps L w l vs → Reps L (w.add p o) l vs := fun l vs h => Reps.mono (w' := w.add p o) (Wd.add_sub c hp) (Nat.le_refl _) (fun _ _ => rfl) l vs h
  have e : upd H p o p = some o := upd_same
  have e2 : (w.add p o).Hs p = some o := upd_same
  cases d <;> simp only [Con] at h
  · obtain ⟨vs, q, r, z⟩ := h
    rw [e] at q
    cases q
    simp only [Rep]
    exact ⟨p, vs, rfl, e2, mono _ _ r, z⟩
  · obtain ⟨kvs, q, hk, r, z⟩ := h
    rw [e] at q
    cases q
    simp only [Rep]
    exact ⟨p, kvs, rfl, e2, hk, mono _ _ r, z⟩
  · obtain ⟨dx, fs, q, hk, r⟩ := h
    rw [e] at q
    cases q
    simp only [Rep]
    exact ⟨p, dx, fs, rfl, e2, hk, mono _ _ r⟩
  · obtain ⟨es, e1, q, hk, r⟩ := h
    rw [e] at q
    cases q
    simp only [Rep]
    exact ⟨p, es, rfl, e1, e2, hk.mono (Wd.add_sub c hp), r⟩
end
/-- a new thing: its reading -/
def PostF (P : Pr) (w : Wd) (g : Ev) (σ : L2.St) (H : Hp) (Q : VK) : Res D → Prop
  | .ok d S' => ∀ p o w' H', P.Wo w' g S' σ H' → Le w H w' H' → H' p = none → Con P.L w' (upd H' p o) d p → Q (.ref p) (upd H' p o)
  | .exc e S' => P.X w g σ H e S'
  | .bad => False
def tF (P : Pr) (d : DE) : TE := fun σ H Q => ∃ w g S, P.Wo w g S σ H ∧ PostF P w g σ H Q (ev P.T P.cf d g S)
theorem tF.of {P : Pr} {md : Md} (hm : md = .val ∨ md = .top) {d : DE} {σ : L2.St} {H : Hp} {Q : VK} (h : tM P md d σ H Q) : tF P d σ H Q := by
  obtain ⟨w, g, S, W, h⟩ := h
  refine ⟨w, g, S, W, ?_⟩
  cases e : ev P.T P.cf d g S with
  | ok x S1 =>
    rw [e] at h
    intro p o w' H' W' l' hp hc
    exact h _ (w'.add p o) _ (W'.step (W'.core.laid hp) (Le.laid W'.core hp)) (l'.trans (Le.laid W'.core hp)) (ArgR1.of hm (hc.rep W'.core hp))
  | exc x S1 => rw [e] at h; exact h
  | bad => rw [e] at h; exact h
section
variable {X : Cx} {P : Pr} {md : Md} {pos : Pos}
theorem n_var {i : Nat} {x : Str} (hN : X.N[i]? = some x) (hv : Vis X.env.scope x) (hd : (x == ("__debug__" : Str)) = false) (hcd : (x == ("__classdict__" : Str)) = false)
    (hm : (md = .val ∧ P.M i = .val) ∨ (md = .top ∧ (P.M i = .val ∨ P.M i = .own ∨ P.M i = .top)) ∨ (md = .scr ∧ P.M i = .scr)) : PE X (.Name x pos) (tM P md (.var i)) := by
  refine PE.imp (pe_var hN hv hd hcd) fun σ H Q h => ?_
  obtain ⟨w, g, S, W, h⟩ := h
  unfold ev at h
  split at h
  · rename_i d hg
    obtain ⟨v, e, r⟩ := W.slot i d hg
    refine ⟨v, e, h v w H W (Le.refl _ _) ?_⟩
    rcases hm with ⟨rfl, m⟩ | ⟨rfl, m⟩ | ⟨rfl, m⟩
    · rw [m] at r; exact r
    · rcases m with m | m | m
      · rw [m] at r; exact .inl r
      · rw [m] at r
        obtain ⟨a, ea, o, _⟩ := r
        exact .inr ⟨a, ea, o⟩
      · rw [m] at r
        rcases r with r | ⟨a, ea, o, _⟩
        · exact .inl r
        · exact .inr ⟨a, ea, o⟩
    · rw [m] at r
      obtain ⟨a, ns, e1, e2, z, _⟩ := r
      exact ⟨a, ns, e1, e2, z⟩
  · exact h.elim
def constB : D → Const → Bool
  | .non, .none => true
  | .bl a, .bool b => a == b
  | .int a, .int b => a == b
  | .str a, .str b => (a == b.cps.toList) && decide (a.length ≤ line)
  | _, _ => false
theorem n_cst {d : D} {c : Const} {k : Nat} (hm : md = .val ∨ md = .top) (h : constB d c = true) : PE X (.Constant c k pos) (tM P md (.cst d)) := by
  have fin : ∀ {σ : L2.St} {H : Hp} {Q : VK} {v : V}, (∀ w, Rep P.L w d v) → tM P md (.cst d) σ H Q → Q v H := fun {σ H Q v} r ⟨w, g, S, W, h⟩ => h v w H W (Le.refl _ _) (ArgR1.of hm (r w))
  cases d <;> cases c <;> simp only [constB] at h <;> first
    | cases h
    | skip
  · exact PE.imp pe_non fun σ H Q q => fin (fun w => by simp only [Rep]) q
  · have h := beq_iff_eq.mp h
    subst h
    exact PE.imp pe_bl fun σ H Q q => fin (fun w => by simp only [Rep]) q
  · have h := beq_iff_eq.mp h
    subst h
    exact PE.imp pe_int fun σ H Q q => fin (fun w => by simp only [Rep]) q
  · rw [Bool.and_eq_true] at h
    have h1 := beq_iff_eq.mp h.1
    have h2 := of_decide_eq_true h.2
    rename_i s z
    have ez : (⟨s.toArray⟩ : Str) = z := by rw [h1]
    subst ez
    exact PE.imp pe_str fun σ H Q q => fin (fun w => by simp only [Rep]; exact ⟨trivial, h2⟩) q
/-- a part, then a part: the two readings -/
theorem two {da db : DE} {g : Ev} {S : Store} {w : Wd} {σ : L2.St} {H : Hp} {f : D → D → Store → Res D} {Q : VK} {R : V → V → Hp → Prop} (W : P.Wo w g S σ H)
    (h : PostM P md w g σ H Q ((ev P.T P.cf da g S).bind fun x S => (ev P.T P.cf db g S).bind fun y S => f x y S))
    (k : ∀ x y S2 v u w2 H2, P.Wo w2 g S2 σ H2 → RepT P.L w2 H2 x v → RepT P.L w2 H2 y u → PostM P md w2 g σ H2 Q (f x y S2) → R v u H2) :
    tM P .top da σ H fun v H1 => tM P .top db σ H1 fun u H2 => R v u H2 := by
  refine ⟨w, g, S, W, ?_⟩
  cases ea : ev P.T P.cf da g S with
  | bad => rw [ea] at h; exact h
  | exc x S1 => rw [ea] at h; exact h
  | ok x S1 =>
    rw [ea] at h
    intro v w1 H1 W1 l1 r1
    refine ⟨w1, g, S1, W1, ?_⟩
    simp only [Res.bind_ok] at h
    cases eb : ev P.T P.cf db g S1 with
    | bad => rw [eb] at h; exact h
    | exc y S2 => rw [eb] at h; exact Pr.X.le l1 h
    | ok y S2 =>
      rw [eb] at h
      intro u w2 H2 W2 l2 r2
      exact k x y S2 v u w2 H2 W2 (RepT.le r1 l2) r2 (PostM.le (l1.trans l2) h)
/-- one part -/
theorem one {da : DE} {g : Ev} {S : Store} {w : Wd} {σ : L2.St} {H : Hp} {f : D → Store → Res D} {Q : VK} {R : V → Hp → Prop} (W : P.Wo w g S σ H)
    (h : PostM P md w g σ H Q ((ev P.T P.cf da g S).bind f)) {md' : Md}
    (k : ∀ x S2 v w2 H2, P.Wo w2 g S2 σ H2 → ArgR1 P.L w2 H2 md' x v → PostM P md w2 g σ H2 Q (f x S2) → R v H2) : tM P md' da σ H R := by
  refine ⟨w, g, S, W, ?_⟩
  cases ea : ev P.T P.cf da g S with
  | bad => rw [ea] at h; exact h
  | exc x S1 => rw [ea] at h; exact h
  | ok x S1 =>
    rw [ea] at h
    intro v w1 H1 W1 l1 r1
    exact k x S1 v w1 H1 W1 r1 (PostM.le l1 h)
theorem n_bin {a b : Expr} {da db : DE} {o : BO} (hK : X.K = P.L.K) (hm : md = .val ∨ md = .top) (ha : PE X a (tM P .top da)) (hb : PE X b (tM P .top db)) : PE X (.BinOp a o.op b pos) (tM P md (.bin o da db)) := by
  refine PE.imp (pe_op (bin_ok hK o) ha hb) fun σ H Q h => ?_
  obtain ⟨w, g, S, W, h⟩ := h
  unfold ev at h
  refine two W h fun x y S2 v u w2 H2 W2 r1 r2 h2 => ?_
  cases e : binD o (rd S2 x) (rd S2 y) with
  | none => rw [e] at h2; exact h2.elim
  | some r =>
    rw [e] at h2
    exact ⟨w2, S2, _, _, r, W2.core, r1.read W2.core, r2.read W2.core, e, fun v' w' H' c' l' r' => h2 v' w' H' (W2.step c' l') l' (ArgR1.of hm r')⟩
theorem n_neg {a : Expr} {da : DE} (hm : md = .val ∨ md = .top) (ha : PE X a (tM P .val da)) : PE X (.UnaryOp .USub a pos) (tM P md (.neg da)) := by
  refine PE.imp (pe_un un_neg ha) fun σ H Q h => ?_
  obtain ⟨w, g, S, W, h⟩ := h
  unfold ev at h
  refine one W h fun x S2 v w2 H2 W2 r1 h2 => ?_
  cases x with
  | int i =>
    have r1 : Rep P.L w2 (.int i) v := r1
    simp only [Rep] at r1
    exact ⟨i, r1, h2 _ w2 H2 W2 (Le.refl _ _) (ArgR1.of hm (by simp only [Rep]))⟩
  | _ => exact h2.elim
theorem n_nt {a : Expr} {da : DE} (hK : X.K = P.L.K) (hm : md = .val ∨ md = .top) (ha : PE X a (tM P .top da)) : PE X (.UnaryOp .Not a pos) (tM P md (.nt da)) := by
  refine PE.imp (pe_notT ha) fun σ H Q h => ?_
  obtain ⟨w, g, S, W, h⟩ := h
  unfold ev at h
  refine one W h fun x S2 v w2 H2 W2 r1 h2 => ?_
  cases e : (rd S2 x).truth with
  | none => rw [e] at h2; exact h2.elim
  | some b =>
    rw [e] at h2
    exact ⟨b, truth_ok hK W2.core (RepT.read r1 W2.core) e, h2 _ w2 H2 W2 (Le.refl _ _) (ArgR1.of hm (by simp only [Rep]))⟩
theorem n_cmp {a b : Expr} {da db : DE} {o : CO} (hK : X.K = P.L.K) (hu : X.A.units + 200 < cLine) (hm : md = .val ∨ md = .top) (ha : PE X a (tM P .top da)) (hb : PE X b (tM P .top db))
    (hn : (o = .isN ∨ o = .notN) → ∃ k p, b = .Constant .none k p ∧ db = .cst .non) (hmk : behindInMarks o.op b = false) : PE X (.Compare a [o.op] [b] pos) (tM P md (.cmp o da db)) := by
  refine PE.imp (pe_cmpR (cmp_ok hK hu o) ha hb hmk) fun σ H Q h => ?_
  obtain ⟨w, g, S, W, h⟩ := h
  unfold ev at h
  refine ⟨w, g, S, W, ?_⟩
  cases ea : ev P.T P.cf da g S with
  | bad => rw [ea] at h; exact h
  | exc x S1 => rw [ea] at h; exact h
  | ok x S1 =>
    rw [ea] at h
    intro v w1 H1 W1 l1 r1
    refine ⟨w1, g, S1, W1, ?_⟩
    simp only [Res.bind_ok] at h
    cases eb : ev P.T P.cf db g S1 with
    | bad => rw [eb] at h; exact h
    | exc y S2 => rw [eb] at h; exact Pr.X.le l1 h
    | ok y S2 =>
      rw [eb] at h
      intro u w2 H2 W2 l2 r2
      refine ⟨fun z => ?_, ?_⟩
      · obtain ⟨k, p, e1, e2⟩ := hn z
        subst e2
        unfold ev at eb
        cases eb
        rcases r2 with r2 | ⟨_, _, r2⟩
        · simpa only [Rep] using r2
        · have := r2.2.1
          simp only [Con] at this
      · have r1' : RepT P.L w2 H2 x v := RepT.le r1 l2
        have r2' : RepT P.L w2 H2 y u := r2
        simp only [Res.bind_ok] at h
        cases e : cmpD o (rd S2 x) (rd S2 y) with
        | none => rw [e] at h; exact h.elim
        | some r =>
          rw [e] at h
          exact ⟨w2, S2, _, _, r, W2.core, r1'.read W2.core, r2'.read W2.core, e, h _ w2 H2 W2 (l1.trans l2) (ArgR1.of hm (by simp only [Rep]))⟩
end
end Zd
set_option Elab.async false
set_option linter.all false
set_option maxRecDepth 100000
set_option maxHeartbeats 2000000
/-! Turns over lists and tuples in any mix. -/
namespace Zd
open PySem PySem.Spec PyProof.Rows L2
/-- a list or a tuple -/
def SqE (K : PySem.W.Frag) (H : Hp) (t : Bool) (a : Addr) (xs : List V) : Prop := if t = true then SqT K H a xs else SqL K H a xs
def ItE (h : Heap) (t : Bool) (it a : Addr) (i : Nat) : Prop := if t = true then h.IsTupleIter it a i else h.IsListIter it a i
def IsE (h : Heap) (t : Bool) (a : Addr) (xs : Array Value) : Prop := if t = true then h.IsTuple a xs else h.IsList a xs
def obE (t : Bool) (a : Addr) : Obj := if t = true then { cls := .type "tuple_iterator", data := .fields #[.ref a, .int 0 0] } else { cls := .type "list_iterator", data := .fields #[.ref a, .int 0 0] }
theorem ItE.have {h : Heap} {t : Bool} {it a : Addr} {i : Nat} (x : ItE h t it a i) : ∃ o, h.get? it = some o ∧ ∀ v, o.data ≠ .cell v := by
  cases t with
  | true => obtain ⟨o, e, _, d⟩ := (x : h.IsTupleIter it a i); exact ⟨o, e, fun v z => by rw [d] at z; cases z⟩
  | false => obtain ⟨o, e, _, d⟩ := (x : h.IsListIter it a i); exact ⟨o, e, fun v z => by rw [d] at z; cases z⟩
theorem ItE.move {h h' : Heap} {t : Bool} {it a : Addr} {i : Nat} (x : ItE h t it a i) (k : ∀ o, h.get? it = some o → h'.get? it = some o) : ItE h' t it a i := by
  cases t with
  | true => exact Heap.IsTupleIter.at (x : h.IsTupleIter it a i) k
  | false => exact Heap.IsListIter.at (x : h.IsListIter it a i) k
theorem IsE.have {h : Heap} {t : Bool} {a : Addr} {xs : Array Value} (x : IsE h t a xs) : ∃ o, h.get? a = some o := by
  cases t with
  | true => obtain ⟨o, e, _⟩ := (x : h.IsTuple a xs); exact ⟨o, e⟩
  | false => obtain ⟨o, e, _⟩ := (x : h.IsList a xs); exact ⟨o, e⟩
theorem ItE.begin {h : Heap} {t : Bool} {it a : Addr} (x : h.get? it = some (obE t a)) : ItE h t it a 0 := by
  cases t with
  | true => exact (⟨_, x, rfl, rfl⟩ : h.IsTupleIter it a 0)
  | false => exact (⟨_, x, rfl, rfl⟩ : h.IsListIter it a 0)
theorem drawsE {prog : Program} {w : PySem.World} {A : Around} (hh : A.handled = none) (t : Bool) (it l : Addr) (hne : l ≠ it) (items : Array Value) :
    Draws prog w A it [it, l] items.size (fun i v => items[i]? = some v) (fun i h => ItE h t it l i ∧ IsE h t l items) := by
  cases t with
  | true => exact Draws.tuple hh it l hne items
  | false => exact Draws.list hh it l hne items
theorem beginsE (t : Bool) (l : Addr) (items : Array Value) : Begins (.ref l) (obE t l) fun h => IsE h t l items := by
  cases t with
  | true => exact begins_tuple l items
  | false => exact begins_list l items
theorem SqE.get {X : Cx} {pins : List (Addr × Obj)} {σ : L2.St} {H : Hp} {s : Shared} {t : Bool} {a : Addr} {xs : List V} (I : L2.Inv X pins σ H s) (q : SqE X.K H t a xs) : ∃ its : List Value, Vals xs its ∧ IsE s.heap t a its.toArray := by
  cases t with
  | true => obtain ⟨its, rv, p, _⟩ := I.tuple (q : SqT X.K H a xs); exact ⟨its, rv, p⟩
  | false => obtain ⟨its, rv, p, _⟩ := I.list (q : SqL X.K H a xs); exact ⟨its, rv, p.isList⟩
theorem SqE.inj {X : Cx} {pins : List (Addr × Obj)} {σ : L2.St} {H : Hp} {s : Shared} {t : Bool} {a : Addr} {xs ys : List V} (h : SqE X.K H t a xs) (I : L2.Inv X pins σ H s) (q : SqE X.K H t a ys) : xs = ys := by
  cases t with
  | true => exact I.tuple_inj h q
  | false => exact I.list_inj h q
/-- zip's turns: the sources as they stand at each turn -/
def Jz (K : PySem.W.Frag) (t u : Bool) (a b : Addr) : It :=
  ⟨fun i H => ∃ (xs ys : List V), SqE K H t a xs ∧ SqE K H u b ys ∧ i < xs.length ∧ i < ys.length,
    fun i H v H' => ∃ T x y, v = .ref T ∧ H T = none ∧ H' = upd H T (.tup [x, y]) ∧ (∀ xs, SqE K H t a xs → xs[i]? = some x) ∧ ∀ ys, SqE K H u b ys → ys[i]? = some y,
    fun i H => ∃ xs ys : List V, SqE K H t a xs ∧ SqE K H u b ys ∧ i = min xs.length ys.length⟩
theorem turn_z {P : Program} {w : PySem.World} {K : PySem.W.Frag} {elts : List Expr} {kk : Nat} {tpos : Pos} {t u : Bool} {a b z TI TO i1 i2 : Addr} (D : ZipSep2 z TI TO i1 i2 [i1, a] [i2, b]) (na : a ≠ i1) (nb : b ≠ i2) :
    Turn P w K (.Tuple elts kk tpos) (Jz K t u a b) [z, TI, TO, i1, i2] z (fun i h => IsZip h z TI TO .none ∧ IsTupOf2 h TI (.ref i1) (.ref i2) ∧ (∃ x y, IsTupOf2 h TO x y) ∧ ItE h t i1 a i ∧ ItE h u i2 b i) where
  mem := by simp
  obj := fun i h st c hc => by
    obtain ⟨hz, hTI, ⟨x, y, hTO⟩, g1, g2⟩ := st
    have e' : c = z ∨ c = TI ∨ c = TO ∨ c = i1 ∨ c = i2 := by simpa using hc
    rcases e' with rfl | rfl | rfl | rfl | rfl
    · exact ⟨_, hz, fun v q => nomatch q⟩
    · exact ⟨_, hTI, fun v q => nomatch q⟩
    · exact ⟨_, hTO, fun v q => nomatch q⟩
    · exact g1.have
    · exact g2.have
  keep := fun i h h' st k => by
    obtain ⟨hz, hTI, ⟨x, y, hTO⟩, g1, g2⟩ := st
    exact ⟨k z (by simp) _ hz, k TI (by simp) _ hTI, ⟨x, y, k TO (by simp) _ hTO⟩, g1.move fun o q => k i1 (by simp) o q, g2.move fun o q => k i2 (by simp) o q⟩
  item := by
    intro X hP hw hK hc i pins s σ H E I hf st hg
    subst hP hw hK
    obtain ⟨hz, hTI, hTO, g1, g2⟩ := st
    obtain ⟨xs, ys, qx, qy, lx, ly⟩ := hg
    obtain ⟨its, rv, p⟩ := qx.get I
    obtain ⟨its2, rv2, p2⟩ := qy.get I
    have e1 := rv.length
    have e2 := rv2.length
    have hd := I.ok.hd hc
    have G := GoesN.zip2 (prog := X.prog) (w := X.w) (A := X.A) (elts := elts) (x1 := kk) (pos := tpos) D (drawsE (A := X.A.in1) hd t i1 a na its.toArray) (drawsE (A := X.A.in1) hd u i2 b nb its2.toArray)
    have live : ∀ c, c ∈ [z, TI, TO, i1, i2] → c < s.heap.objs.size := fun c hcm => by
      have e' : c = z ∨ c = TI ∨ c = TO ∨ c = i1 ∨ c = i2 := by simpa using hcm
      obtain ⟨o1, y1, _⟩ := g1.have
      obtain ⟨o2, y2, _⟩ := g2.have
      obtain ⟨_, _, hTO⟩ := hTO
      rcases e' with rfl | rfl | rfl | rfl | rfl
      · exact Heap.lt_size hz
      · exact Heap.lt_size hTI
      · exact Heap.lt_size hTO
      · exact Heap.lt_size y1
      · exact Heap.lt_size y2
    have mn : i < min its.toArray.size its2.toArray.size := by
      simp only [List.size_toArray]
      omega
    refine (G.goes i s (fun v s2 => ∃ x H', L2.Inv X pins σ H' s2 ∧ RelV x v ∧ (Jz X.K t u a b).yld i H x H' ∧ (IsZip s2.heap z TI TO .none ∧ IsTupOf2 s2.heap TI (.ref i1) (.ref i2) ∧ (∃ x y, IsTupOf2 s2.heap TO x y) ∧ ItE s2.heap t i1 a (i + 1) ∧ ItE s2.heap u i2 b (i + 1)) ∧ ∀ b ∈ [z, TI, TO, i1, i2], H' b = none) E mn ⟨hz, hTI, hTO, ⟨g1, p⟩, ⟨g2, p2⟩⟩ ?_)
    intro v h' tk hY st' hk htk
    obtain ⟨T, x, y, rfl, hT, hx, hy, hI⟩ := hY
    obtain ⟨u1, hu1, ru1⟩ := (rv.get (i := i) (List.getElem?_eq_getElem lx))
    obtain ⟨u2, hu2, ru2⟩ := (rv2.get (i := i) (List.getElem?_eq_getElem ly))
    have ex : u1 = x := by
      have hx' : its[i]? = some x := by simpa using hx
      rw [hu1] at hx'
      exact Option.some.inj hx'
    have ey : u2 = y := by
      have hy' : its2[i]? = some y := by simpa using hy
      rw [hu2] at hy'
      exact Option.some.inj hy'
    subst ex ey
    have new : ObjOk X.prog X.w (upd H T (.tup [xs[i], ys[i]])) h' T (.tup [xs[i], ys[i]]) :=
      ⟨by show 2 ≤ sizeLine; decide, [u1, u2], .cons ru1 (.cons ru2 .nil), hI⟩
    have I1 : L2.Inv X pins σ (upd H T (.tup [xs[i], ys[i]])) { s with heap := h', toks := tk } :=
      I.turnedNew (ch := [z, TI, TO, i1, i2]) (fun c o hb q => hk c o (fun m => hb (by
        have m' : c = z ∨ c = TO ∨ c = i1 ∨ c = i2 := by simpa using m
        rcases m' with rfl | rfl | rfl | rfl <;> simp)) q) hf hT new
    obtain ⟨s1, s2, s3, ⟨s4, _⟩, ⟨s5, _⟩⟩ := st'
    refine ⟨.ref T, _, I1, rfl, ⟨T, _, _, rfl, I.hok.fresh hT, rfl, fun l hl => by rw [hl.inj I qx]; exact List.getElem?_eq_getElem lx, fun l hl => by rw [hl.inj I qy]; exact List.getElem?_eq_getElem ly⟩, ⟨s1, s2, s3, s4, s5⟩, fun c hcm => ?_⟩
    rw [upd_ne (Nat.ne_of_lt (Nat.lt_of_lt_of_le (live c hcm) hT))]
    exact (hf c hcm).1
  done := by
    intro X hP hw hK hc i pins s σ H E I hf st hg
    subst hP hw hK
    obtain ⟨hz, hTI, hTO, g1, g2⟩ := st
    obtain ⟨xs, ys, qx, qy, rfl⟩ := hg
    obtain ⟨its, rv, p⟩ := qx.get I
    obtain ⟨its2, rv2, p2⟩ := qy.get I
    have e1 := rv.length
    have e2 := rv2.length
    have hd := I.ok.hd hc
    have G := GoesN.zip2 (prog := X.prog) (w := X.w) (A := X.A) (elts := elts) (x1 := kk) (pos := tpos) D (drawsE (A := X.A.in1) hd t i1 a na its.toArray) (drawsE (A := X.A.in1) hd u i2 b nb its2.toArray)
    have mn : min its.toArray.size its2.toArray.size = min xs.length ys.length := by
      simp only [List.size_toArray]
      omega
    refine G.stops s _ E (by rw [mn]; exact ⟨hz, hTI, hTO, ⟨g1, p⟩, ⟨g2, p2⟩⟩) ?_
    intro h' tk hk htk
    exact I.turnedL (ch := [z, TI, TO, i1, i2]) (fun c o hb q => hk c o (fun m => hb (by
        have m' : c = z ∨ c = TO ∨ c = i1 ∨ c = i2 := by simpa using m
        rcases m' with rfl | rfl | rfl | rfl <;> simp)) q) hf
  self := fun A i s Q E st h => wpAny_pyIter_zip st.1 h
/-- enumerate's turns -/
def Je (K : PySem.W.Frag) (t : Bool) (a : Addr) : It :=
  ⟨fun i H => ∃ (xs : List V), SqE K H t a xs ∧ i < xs.length,
    fun i H v H' => ∃ T x, v = .ref T ∧ H T = none ∧ H' = upd H T (.tup [.int (i : Nat), x]) ∧ ∀ xs, SqE K H t a xs → xs[i]? = some x,
    fun i H => ∃ xs : List V, SqE K H t a xs ∧ i = xs.length⟩
theorem turn_e {P : Program} {w : PySem.World} {K : PySem.W.Frag} {elts : List Expr} {kk : Nat} {tpos : Pos} {t : Bool} {a e it : Addr} (ne : e ≠ it) (na : a ≠ it) (ea : e ≠ a) :
    Turn P w K (.Tuple elts kk tpos) (Je K t a) [e, it] e (fun i h => (∃ old, IsEnum h e it (0 + (i : Int)) old) ∧ ItE h t it a i) where
  mem := by simp
  obj := fun i h st c hc => by
    obtain ⟨⟨old, hz⟩, g1⟩ := st
    have e' : c = e ∨ c = it := by simpa using hc
    rcases e' with rfl | rfl
    · exact ⟨_, hz, fun v q => nomatch q⟩
    · exact g1.have
  keep := fun i h h' st k => by
    obtain ⟨⟨old, hz⟩, g1⟩ := st
    exact ⟨⟨old, k e (by simp) _ hz⟩, g1.move fun o q => k it (by simp) o q⟩
  item := by
    intro X hP hw hK hc i pins s σ H E I hf st hg
    subst hP hw hK
    obtain ⟨hz, g1⟩ := st
    obtain ⟨xs, qx, lx⟩ := hg
    obtain ⟨its, rv, p⟩ := qx.get I
    have e1 := rv.length
    have hd := I.ok.hd hc
    have G := GoesN.enumFrom (prog := X.prog) (w := X.w) (A := X.A) (elts := elts) (x1 := kk) (pos := tpos) 0 (drawsE (A := X.A.in1) hd t it a na its.toArray) e ne (by intro m; rcases List.mem_cons.mp m with m | m; exact ne m; exact ea (List.mem_singleton.mp m)) (List.mem_cons_self ..)
    have live : ∀ c, c ∈ [e, it] → c < s.heap.objs.size := fun c hcm => by
      have e' : c = e ∨ c = it := by simpa using hcm
      obtain ⟨o1, y1, _⟩ := g1.have
      obtain ⟨_, hz⟩ := hz
      rcases e' with rfl | rfl
      · exact Heap.lt_size hz
      · exact Heap.lt_size y1
    have mn : i < its.toArray.size := by
      simp only [List.size_toArray]
      omega
    refine (G.goes i s (fun v s2 => ∃ x H', L2.Inv X pins σ H' s2 ∧ RelV x v ∧ (Je X.K t a).yld i H x H' ∧ ((∃ old, IsEnum s2.heap e it (0 + ((i + 1 : Nat) : Int)) old) ∧ ItE s2.heap t it a (i + 1)) ∧ ∀ b ∈ [e, it], H' b = none) E mn ⟨hz, ⟨g1, p⟩⟩ ?_)
    intro v h' tk hY st' hk htk
    obtain ⟨T, tt, x, rfl, hT, hx, hI⟩ := hY
    obtain ⟨u1, hu1, ru1⟩ := (rv.get (i := i) (List.getElem?_eq_getElem lx))
    have ex : u1 = x := by
      have hx' : its[i]? = some x := by simpa using hx
      rw [hu1] at hx'
      exact Option.some.inj hx'
    subst ex
    have new : ObjOk X.prog X.w (upd H T (.tup [.int (i : Nat), xs[i]])) h' T (.tup [.int (i : Nat), xs[i]]) :=
      ⟨by show 2 ≤ sizeLine; decide, [.int (0 + (i : Int)) tt, u1], .cons ⟨_, by rw [Int.zero_add]⟩ (.cons ru1 .nil), hI⟩
    have I1 : L2.Inv X pins σ (upd H T (.tup [.int (i : Nat), xs[i]])) { s with heap := h', toks := tk } :=
      I.turnedNew (ch := [e, it]) (fun c o hb q => hk c o hb q) hf hT new
    obtain ⟨s1, ⟨s4, _⟩⟩ := st'
    refine ⟨.ref T, _, I1, rfl, ⟨T, _, rfl, I.hok.fresh hT, rfl, fun l hl => by rw [hl.inj I qx]; exact List.getElem?_eq_getElem lx⟩, ⟨s1, s4⟩, fun c hcm => ?_⟩
    rw [upd_ne (Nat.ne_of_lt (Nat.lt_of_lt_of_le (live c hcm) hT))]
    exact (hf c hcm).1
  done := by
    intro X hP hw hK hc i pins s σ H E I hf st hg
    subst hP hw hK
    obtain ⟨hz, g1⟩ := st
    obtain ⟨xs, qx, rfl⟩ := hg
    obtain ⟨its, rv, p⟩ := qx.get I
    have e1 := rv.length
    have hd := I.ok.hd hc
    have G := GoesN.enumFrom (prog := X.prog) (w := X.w) (A := X.A) (elts := elts) (x1 := kk) (pos := tpos) 0 (drawsE (A := X.A.in1) hd t it a na its.toArray) e ne (by intro m; rcases List.mem_cons.mp m with m | m; exact ne m; exact ea (List.mem_singleton.mp m)) (List.mem_cons_self ..)
    have mn : its.toArray.size = xs.length := by
      simp only [List.size_toArray]
      omega
    refine G.stops s _ E (by rw [mn]; exact ⟨hz, ⟨g1, p⟩⟩) ?_
    intro h' tk hk htk
    exact I.turnedL (ch := [e, it]) (fun c o hb q => hk c o hb q) hf
  self := fun A i s Q E st h => let ⟨⟨_, he⟩, _⟩ := st; wpAny_pyIter_enum he h
/-! ### they begin -/
theorem meets_enum1 {v : Value} {o : Obj} {H : Heap → Prop} (B : Begins v o H) :
    Meets (Builtin.«enumerate.__new__» ⟨[.type "enumerate", v], []⟩) (fun _ R s => H s.heap ∧
      R (.ok (.ret (.ref (s.heap.push o).objs.size))) { s with heap := (s.heap.push o).push { cls := .type "enumerate", data := .fields #[.none, .bool false, .ref s.heap.objs.size, rawInt 0, .none, .none] } }) :=
  .of_wp fun prog w A R s h => by
    obtain ⟨hp, g, d, tk, os⟩ := s
    obtain ⟨h1, h⟩ := h
    have hsub := sub_enumerate
    have begun : ∀ {A' : Around} {E : Value → Shared → Prop} {Q : Value → Shared → Prop}, Q (.ref hp.objs.size) ⟨hp.push o, g, d, tk, os⟩ → wpAny (model prog w) A' (pyIter v) Q E ⟨hp, g, d, tk, os⟩ :=
      fun q => B.iter prog w _ _ ⟨hp, g, d, tk, os⟩ _ h1 q
    wp_walk using begun
    first
      | exact ⟨_, rfl, h⟩
      | (refine wpAny_stack_any fun st => wpAny_pure ?_
         split
         · rename_i c _ _ _ _ _
           cases (c == Value.type "enumerate") <;> (wp_walk using begun; exact ⟨_, rfl, h⟩)
         · wp_walk using begun
           exact ⟨_, rfl, h⟩)
theorem enum1 {prog : Program} {w : PySem.World} {A : Around} {E : Value → Shared → Prop} {s : Shared} {v : Value} {o : Obj} {H : Heap → Prop} {Q : Value → Shared → Prop} (B : Begins v o H) (h1 : H s.heap)
    (h : ∀ h', IsEnum h' (s.heap.objs.size + 1) s.heap.objs.size 0 .none → h'.get? s.heap.objs.size = some o → (∀ b o, s.heap.get? b = some o → h'.get? b = some o) → Q (.ref (s.heap.objs.size + 1)) { s with heap := h' }) :
    wpAny (model prog w) A (call (.type "enumerate") [v]) Q E s := by
  refine callType_new F.called_enumerate (by decide) (F.typeCall_enumerate_1 _) (F.newCall_enumerate_1 _) (fun obj => F.args_object_init_2 obj _) F.entry_enumerate_new (meets_enum1 B) ⟨h1, ?_⟩
  have hz : (s.heap.push o).objs.size = s.heap.objs.size + 1 := Heap.size_push ..
  show _ ∧ _
  rw [hz]
  have he := Heap.get?_push_size (s.heap.push o) (o := { cls := .type "enumerate", data := .fields #[.none, .bool false, .ref s.heap.objs.size, rawInt 0, .none, .none] }) rfl
  rw [hz] at he
  exact ⟨⟨_, he, rfl⟩, h _ he (Heap.get?_push_of_some _ (Heap.get?_push_size _ B.free)) fun b o x => Heap.get?_push_of_some _ (Heap.get?_push_of_some _ x)⟩
section
variable {X : Cx} {e e2 : Expr} {ta : TA} {p pos tpos : Pos} {elts : List Expr} {kk : Nat}
def iE (K : PySem.W.Frag) (ta : TA) : TI := fun σ H R => ta σ H fun vs H1 => ∃ t a xs, vs = [.ref a] ∧ SqE K H1 t a xs ∧ R (Je K t a) H1
theorem pi_e (hg : Gl X "enumerate") (hm : X.mg "enumerate" = none) (ha : PA X [e] ta) (hs : starEach [e] X.env = [(false, eval e X.env)] := by rfl) : PI X (.Tuple elts kk tpos) (.Call (.Name "enumerate" p) [e] [] pos) (iE X.K ta) := by
  refine ⟨fun pins s σ H R I h => ?_⟩
  refine Call_ (ld_blt I hg hm boot_enumerate (PyProof.Rows.callWith_type1 (thn (ha.run pos pins s σ H _ I h) fun us s1 ⟨vs, H1, I1, r1, q1⟩ => ?_) hs rfl))
  obtain ⟨t, a, xs, ex, hq, q⟩ := q1
  subst ex
  cases r1 with
  | cons r rr =>
    cases rr
    cases r
    obtain ⟨its, rv, p'⟩ := hq.get I1
    obtain ⟨oa, ha'⟩ := p'.have
    have hlt := Heap.lt_size ha'
    refine enum1 (beginsE t a its.toArray) p' fun h' he ho hk => wpAny_pyIter_enum he ?_
    have I2 : L2.Inv X pins σ H1 { s1 with heap := h' } := I1.kept (t' := s1.toks) hk
    refine ⟨s1.heap.objs.size + 1, [s1.heap.objs.size + 1, s1.heap.objs.size], _, _, H1, rfl, I2, turn_e (t := t) (a := a) (e := s1.heap.objs.size + 1) (it := s1.heap.objs.size) (Nat.succ_ne_self _) (Nat.ne_of_lt hlt) (Nat.ne_of_gt (Nat.lt_succ_of_lt hlt)), ⟨⟨.none, he⟩, .begin ho⟩, fun b hb => ?_, q⟩
    have e' : b = s1.heap.objs.size + 1 ∨ b = s1.heap.objs.size := by simpa using hb
    have hle : s1.heap.objs.size ≤ b := by
      rcases e' with z | z
      · rw [z]; exact Nat.le_add_right _ _
      · rw [z]; exact Nat.le_refl _
    exact I1.fpOk hle (I1.hok.fresh hle)
def iZ (K : PySem.W.Frag) (ta : TA) : TI := fun σ H R => ta σ H fun vs H1 => ∃ t u a b xs ys, vs = [.ref a, .ref b] ∧ SqE K H1 t a xs ∧ SqE K H1 u b ys ∧ R (Jz K t u a b) H1
theorem pi_z (hg : Gl X "zip") (hm : X.mg "zip" = none) (ha : PA X [e, e2] ta)
    (hs : starEach [e, e2] X.env = (false, eval e X.env) :: starEach [e2] X.env := by rfl) (hpl : (backTo pos (starEach [e2] X.env)).any (·.1) = false := by rfl) :
    PI X (.Tuple elts kk tpos) (.Call (.Name "zip" p) [e, e2] [] pos) (iZ X.K ta) := by
  refine ⟨fun pins s σ H R I h => ?_⟩
  refine Call_ (ld_blt I hg hm PyProof.Rows.boot_zip (PyProof.Rows.callWith_type1 (thn (ha.run pos pins s σ H _ I h) fun us s1 ⟨vs, H1, I1, r1, q1⟩ => ?_) hs hpl))
  obtain ⟨t, u, a, b, xs, ys, ex, hqx, hqy, q⟩ := q1
  subst ex
  cases r1 with
  | cons r rr =>
    cases rr with
    | cons r' rr =>
      cases rr
      cases r
      cases r'
      obtain ⟨its, rv, p1⟩ := hqx.get I1
      obtain ⟨its2, rv2, p2⟩ := hqy.get I1
      obtain ⟨oa, ha'⟩ := p1.have
      obtain ⟨ob, hb'⟩ := p2.have
      have la := Heap.lt_size ha'
      have lb := Heap.lt_size hb'
      refine zip_begins2 (beginsE t a its.toArray) (beginsE u b its2.toArray) p1 p2 fun h' hz hTI hTO h1 h2 hsz hk => wpAny_pyIter_zip hz ?_
      have I2 : L2.Inv X pins σ H1 { s1 with heap := h' } := I1.kept (t' := s1.toks) hk
      refine ⟨s1.heap.objs.size + 4, [s1.heap.objs.size + 4, s1.heap.objs.size + 2, s1.heap.objs.size + 3, s1.heap.objs.size, s1.heap.objs.size + 1], _, _, H1, rfl, I2,
        turn_z (t := t) (u := u) (a := a) (b := b) (zip_sep2 (N := s1.heap.objs.size) (fp1 := [a]) (fp2 := [b]) (fun c hc => by rw [List.mem_singleton.mp hc]; exact la) (fun c hc => by rw [List.mem_singleton.mp hc]; exact lb)) (Nat.ne_of_lt la) (Nat.ne_of_lt (Nat.lt_succ_of_lt lb)), ⟨hz, hTI, ⟨_, _, hTO⟩, .begin h1, .begin h2⟩, fun c hcm => ?_, q⟩
      have e' : c = s1.heap.objs.size + 4 ∨ c = s1.heap.objs.size + 2 ∨ c = s1.heap.objs.size + 3 ∨ c = s1.heap.objs.size ∨ c = s1.heap.objs.size + 1 := by simpa using hcm
      have hle : s1.heap.objs.size ≤ c := by
        rcases e' with z | z | z | z | z
        · rw [z]; exact Nat.le_add_right _ _
        · rw [z]; exact Nat.le_add_right _ _
        · rw [z]; exact Nat.le_add_right _ _
        · rw [z]; exact Nat.le_refl _
        · rw [z]; exact Nat.le_add_right _ _
      exact I1.fpOk hle (I1.hok.fresh hle)
end
end Zd
set_option Elab.async false
set_option linter.all false
set_option maxRecDepth 100000
set_option maxHeartbeats 2000000
/-! What a def promises, with the guards known; contexts; calls. -/
namespace Zd
open PySem PySem.Spec PyProof.Rows L2
structure Rm (k : Nat) (A : Around) : Prop where
  room : Room k A
  gd : A.guards = some []
theorem Rm.mono {j k : Nat} {A : Around} (r : Rm k A) (h : j ≤ k) : Rm j A := ⟨r.room.mono h, r.gd⟩
theorem Rm.deeper {k : Nat} {A : Around} (r : Rm (k + 1) A) (env : Env) : Rm k (A.deeper env) := ⟨r.room.deeper env, r.gd⟩
theorem Rm.make {k : Nat} {A : Around} (r : Rm (k + 1) A) (C : Addr) (us : List Value) (kw : List (Str × Value)) : Rm k (A.under (.builtin "type.__call__" ⟨.ref C :: us, kw⟩)) :=
  ⟨r.room.make C us kw, by simp [Around.under, r.gd, pushGuards, Code.guards, Code.isGuard, guardIds]⟩
structure FOk (P : Program) (w : PySem.World) (K : PySem.W.Frag) (mg : Str → Option Value) (base : Heap) (CX : CXT) (k : Nat) (f : Addr) (fd : FuncData) (ps : List Str) (sp : Sp) : Prop where
  len : ∀ {vs H Q E}, sp vs H Q E → vs.length = ps.length
  run : ∀ (A : Around) (outer : List Env) (s : Shared) (H : Hp) (args : Args) (us : List Value) (vs : List V) (Q : VK) (E : XK), Rm k A → Env0 P w K mg base A outer s H → BindsTo s fd args (ps.zip us) → Vals vs us → sp vs H Q E →
    codeAny (model P w) A (.call (.ref f) args) (CR CX outer P w H s Q E) s
section
variable {CX : CXT} {P : Program} {w : PySem.World} {K : PySem.W.Frag} {mg : Str → Option Value} {base : Heap} {k : Nat} {f : Addr} {name qual : Str} {params : Arguments} {body : List Stmt} {scope : Scope} {dV kV doc pm cdv ct oc : Value} {an od : Option Addr} {osl : Array (Option Value)} {N ps : List Str} {sp : Sp}
theorem FOk.mono {j : Nat} {fd : FuncData} (F : FOk P w K mg base CX j f fd ps sp) (h : j ≤ k) : FOk P w K mg base CX k f fd ps sp := ⟨F.len, fun A outer s H args us vs Q E hr => F.run A outer s H args us vs Q E (hr.mono h)⟩
/-- the end of a body is the end of the call -/
theorem ends_call {A : Around} {outer : List Env} {s s' : Shared} {H : Hp} {E : XK} {Q : VK} {fl : Flow} (hs : SP (cxOf CX P w K mg base N qual scope f cdv A outer s H E) [] { nx := fun _ H' => Q .non H', rt := Q } fl s') :
    (match fl with
    | .ret u => CE outer P w H s Q u s'
    | .next => CE outer P w H s Q .none s'
    | _ => False) := by
  cases fl with
  | ret u => obtain ⟨v, _, H', J, rv, q⟩ := hs; exact ⟨v, H', J.os, J.bare, J.base, J.hok, rv, q⟩
  | next => obtain ⟨_, H', J, q⟩ := hs; exact ⟨.non, H', J.os, J.bare, J.base, J.hok, rfl, q⟩
  | brk => obtain ⟨_, _, _, q⟩ := hs; exact q.elim
  | cont => obtain ⟨_, _, _, q⟩ := hs; exact q.elim
/-- a def by its body's reading -/
theorem fok_of (lk : K.lookup f = some ⟨oc, od, .func (PySem.W.fnOf name qual params body scope dV kV doc pm an cdv ct), osl⟩) (hcd : PySem.W.codeIn K cdv qual = true) (S : FnScope N ps scope)
    (len : ∀ {vs H Q E}, sp vs H Q E → vs.length = ps.length)
    (hbody : ∀ (A : Around) (outer : List Env) (s : Shared) (H : Hp) (vs : List V) (Q : VK) (E : XK), Rm k (A.deeper (envOfC qual scope s.heap.objs.size f cdv)) → sp vs H Q E →
      ∃ t, PSs (cxOf CX P w K mg base N qual scope f cdv A outer s H E) body t ∧ t { nx := fun _ H' => Q .non H', rt := Q } (start N vs) H) :
    FOk P w K mg base CX (k + 1) f (PySem.W.fnOf name qual params body scope dV kV doc pm an cdv ct) ps sp := by
  refine ⟨len, fun A outer s H args us vs Q E hr e0 hb r hsp => ?_⟩
  have here : ∀ b o, base.get? b = some o → s.heap.get? b = some o := fun b o e => (e0.bs b o e).1
  have KX := e0.mod.kin.keeps here
  have hkind : ∀ y ∈ ps.zip us, scope.names.lookup y.1 = some .local ∨ (scope.names.lookup y.1 = some .cell ∧ ((cellsFrom (s.heap.objs.size + 1) scope.names []).lookup y.1).isSome = true) := fun y hy =>
    (S.par y.1 (List.of_mem_zip (a := y.1) (b := y.2) hy).1).imp id fun q => ⟨q, PySem.W.cellsFrom_some _ _ _ (.inl q)⟩
  refine codeAny_call_function hr.room.depth (KX _ _ lk) rfl S.co S.gen rfl (PySem.W.codeRec_of KX hcd) (hb _ _ _ _ (wpAny_newFunctionEnv_cells S.kind hkind fun env he s1 x => ?_))
  subst he
  obtain ⟨t, ht, hq⟩ := hbody A outer s H vs Q E (hr.deeper _) hsp
  refine ⟨(e0.mod.nolimit.keeps here).keeps x.toInCall.keep, codeAny_func (wpAny_mono (ht.run [] s1 (start N vs) H _ (inv_start S hr.room.hd e0 (len hsp) r x) hq) (fun fl s' hs => ?_) fun e s' hs => hs)⟩
  have z := ends_call hs
  cases fl with
  | ret u => exact z
  | next => exact z
  | brk => exact z.elim
  | cont => exact z.elim
end
section
variable {X : Cx} {CX : CXT} {k : Nat} {f C : Addr} {fd : FuncData} {ps : List Str} {sp : Sp} {dvs : List V} {ds : List Value} {E : L2.St → XK} {x m : Str} {p pos apos : Pos} {e o : Expr} {es : List Expr} {ta : TE} {t : TA} {pins : List (Addr × Obj)} {σ : L2.St} {H : Hp} {s : Shared} {Q : VK} {us : List Value} {vs : List V}
/-- a call's end, from the caller -/
theorem ends_caller {r : Result} {s' : Shared} {e1 : XK} (hx : PassesAt CX X σ e1) (I : L2.Inv X pins σ H s) (hq : CR CX X.stack X.prog X.w H s Q e1 r s') : (match r with
    | .ok (.ret u) => EP X pins σ Q u s'
    | .ok _ => False
    | .error u => X.xe u s') := by
  cases r with
  | error u => exact hx pins H s u s' I hq
  | ok fl => cases fl with
    | ret u => exact I.after hq
    | next => exact hq
    | brk => exact hq
    | cont => exact hq
theorem run_f (F : FOk X.prog X.w X.K X.mg X.base CX k f fd ps sp) (hr : Rm k X.A) (hb : Binds X.K fd ps ds) (hd : Vals dvs ds) (hx : PassesAt CX X σ (E σ)) (I : L2.Inv X pins σ H s) (r : Vals vs us) (h : sp (vs ++ dvs) H Q (E σ)) :
    wpAny (model X.prog X.w) X.A (call (.ref f) us) (EP X pins σ Q) X.xe s := by
  have r2 := r.append hd
  have hl := r2.length.symm.trans (F.len h)
  refine wpAny_call (codeAny_mono (F.run X.A X.stack s H ⟨us, []⟩ (us ++ ds) (vs ++ dvs) Q _ hr I.env0 (hb s us I.kIn hl) r2 h) fun r s' hq => ?_)
  have z := ends_caller hx I hq
  cases r with
  | error e => exact z
  | ok fl => cases fl <;> exact z
theorem run_mk (M : Mk X.K C f) (F : FOk X.prog X.w X.K X.mg X.base CX k f fd ps sp) (hr : Rm (k + 1) X.A) (hb : Binds X.K fd ps ds) (hd : Vals dvs ds) (hx : PassesAt CX X σ (E σ)) (I : L2.Inv X pins σ H s) (r : Vals vs us)
    (h : ∀ x dx, H x = none → H dx = none → dx ≠ x → sp (.ref x :: (vs ++ dvs)) (upd (upd H dx (.own x)) x (.ins C dx [])) (fun v H2 => v = .non ∧ Q (.ref x) H2) (E σ)) :
    wpAny (model X.prog X.w) X.A (call (.ref C) us) (EP X pins σ Q) X.xe s := by
  have hq := h (s.heap.objs.size + 1) s.heap.objs.size (I.hok.fresh (Nat.le_succ _)) (I.hok.fresh (Nat.le_refl _)) (Nat.ne_of_lt (Nat.lt_succ_self _))
  have I2 := L2.Inv.made (C := C) I
  have r2 : Vals (V.ref (s.heap.objs.size + 1) :: (vs ++ dvs)) (Value.ref (s.heap.objs.size + 1) :: (us ++ ds)) := .cons rfl (r.append hd)
  have hl := r2.length.symm.trans (F.len hq)
  have go := F.run _ X.stack _ _ ⟨Value.ref (s.heap.objs.size + 1) :: us, []⟩ _ _ _ _ (hr.make C us []) (I2.env0.make C us []) (hb _ (Value.ref (s.heap.objs.size + 1) :: us) I2.kIn hl) r2 hq
  refine wpAny_call (make_map (f := f) I.kIn M.makes M.init (beq_iff_eq.mp M.fn) (codeAny_mono go fun r s' hq' => ?_))
  have z := ends_caller hx I2 hq'
  cases r with
  | error e => exact z
  | ok fl => cases fl with
    | ret u =>
      obtain ⟨v, H', I3, rv, ev, q3⟩ := z
      subst ev
      exact ⟨rv, V.ref (s.heap.objs.size + 1), H', I3, rfl, q3⟩
    | next => exact z.elim
    | brk => exact z.elim
    | cont => exact z.elim
/-- what is called by a global name: K's own function or class at g, whose run is known -/
structure Calls (X : Cx) (g : Addr) (t : L2.St → List V → Hp → VK → Prop) : Prop where
  run : ∀ (pins : List (Addr × Obj)) (σ : L2.St) (H : Hp) (s : Shared) (Q : VK) (us : List Value) (vs : List V), L2.Inv X pins σ H s → Vals vs us → t σ vs H Q → wpAny (model X.prog X.w) X.A (call (.ref g) us) (EP X pins σ Q) X.xe s
theorem calls_f (F : FOk X.prog X.w X.K X.mg X.base CX k f fd ps sp) (hr : Rm k X.A) (hb : Binds X.K fd ps ds) (hd : Vals dvs ds) (hx : ∀ σ, PassesAt CX X σ (E σ)) : Calls X f fun σ vs H Q => sp (vs ++ dvs) H Q (E σ) :=
  ⟨fun pins σ H s Q us vs I r h => run_f F hr hb hd (hx σ) I r h⟩
theorem calls_mk (M : Mk X.K C f) (F : FOk X.prog X.w X.K X.mg X.base CX k f fd ps sp) (hr : Rm (k + 1) X.A) (hb : Binds X.K fd ps ds) (hd : Vals dvs ds) (hx : ∀ σ, PassesAt CX X σ (E σ)) :
    Calls X C fun σ vs H Q => ∀ x dx, H x = none → H dx = none → dx ≠ x → sp (.ref x :: (vs ++ dvs)) (upd (upd H dx (.own x)) x (.ins C dx [])) (fun v H2 => v = .non ∧ Q (.ref x) H2) (E σ) :=
  ⟨fun pins σ H s Q us vs I r h => run_mk M F hr hb hd (hx σ) I r h⟩
def tCl (u : L2.St → List V → Hp → VK → Prop) (t : TA) : TE := fun σ H Q => t σ H fun vs H1 => u σ vs H1 Q
theorem pe_cl {g : Addr} {u : L2.St → List V → Hp → VK → Prop} (c : Calls X g u) (hg : Gl X x) (hm : X.mg x = some (.ref g)) (hk : PySem.W.keepIn X.K (.ref g) = true) (ha : PA X (e :: es) t) (hdb : (x == ("__debug__" : Str)) = false)
    (he : starEach (e :: es) X.env = (false, eval e X.env) :: starEach es X.env) (hpl : (backTo pos (starEach es X.env)).any (·.1) = false) : PE X (.Call (.Name x p) (e :: es) [] pos) (tCl u t) :=
  ⟨fun pins s σ H Q I h => wpAny_Call_Name_kw (ld_glob I hg hm (PySem.W.callWith_K (h₀ := X.base) I.ok.mod.kin hk (thn (ha.run pos pins s σ H _ I h) fun us s1 ⟨vs, H1, I1, r, q⟩ => ⟨I1.kIn, c.run pins σ H1 s1 Q us vs I1 r q⟩) he hpl) hdb)⟩
theorem pe_cl0 {g : Addr} {u : L2.St → List V → Hp → VK → Prop} (c : Calls X g u) (hg : Gl X x) (hm : X.mg x = some (.ref g)) (hk : PySem.W.keepIn X.K (.ref g) = true) (hdb : (x == ("__debug__" : Str)) = false) : PE X (.Call (.Name x p) [] [] pos) (tCl u tNil) :=
  ⟨fun pins s σ H Q I h => wpAny_Call_Name_kw (ld_glob I hg hm (PySem.W.callWith_K0 I.kIn hk (c.run pins σ H s Q [] [] I .nil h)) hdb)⟩
end
end Zd
set_option Elab.async false
set_option linter.all false
set_option maxRecDepth 100000
set_option maxHeartbeats 2000000
/-! Targets; iterators by the data they give. -/
namespace Zd
open PySem PySem.Spec PyProof.Rows L2
/-! ### slots stored, forgotten -/
theorem sets_length {α : Type} : ∀ (is : List Nat) (l : List α) (g : List (Option α)), (sets g is l).length = g.length
  | [], _, g => rfl
  | _ :: _, [], g => rfl
  | i :: is, x :: xs, g => by unfold sets; rw [sets_length is xs, List.length_set]
theorem sets_out {α : Type} {j : Nat} : ∀ (is : List Nat) (l : List α) (g : List (Option α)), j ∉ is → (sets g is l)[j]? = g[j]?
  | [], _, g, _ => rfl
  | _ :: _, [], g, _ => rfl
  | i :: is, x :: xs, g, h => by
    simp only [List.mem_cons, not_or] at h
    unfold sets
    rw [sets_out is xs _ h.2, List.getElem?_set_ne (Ne.symm h.1)]
theorem sets_in {α : Type} {j : Nat} : ∀ (is : List Nat) (l : List α) (g g2 : List (Option α)), l.length = is.length → j ∈ is → g.length = g2.length → (sets g is l)[j]? = (sets g2 is l)[j]?
  | [], _, g, _, _, h, _ => absurd h (by simp)
  | _ :: _, [], g, _, e, _, _ => by simp at e
  | i :: is, x :: xs, g, g2, e, h, hl => by
    unfold sets
    by_cases q : j ∈ is
    · exact sets_in is xs _ _ (by simpa using e) q (by simpa using hl)
    · have ej : j = i := by
        rcases List.mem_cons.mp h with z | z
        · exact z
        · exact absurd z q
      subst ej
      rw [sets_out is xs _ q, sets_out is xs _ q]
      by_cases hj : j < g.length
      · rw [List.getElem?_set_self hj, List.getElem?_set_self (by omega)]
      · rw [List.getElem?_eq_none (by rw [List.length_set]; omega), List.getElem?_eq_none (by rw [List.length_set]; omega)]
/-- slots forgotten -/
def wip {α : Type} (g : List (Option α)) : List Nat → List (Option α)
  | [] => g
  | v :: vs => (wip g vs).set v none
theorem wip_wipe (σ : L2.St) : ∀ vs : List Nat, wipe σ vs = wip σ vs
  | [] => rfl
  | v :: vs => by unfold wipe wip; rw [wip_wipe σ vs]
theorem wip_length {α : Type} (g : List (Option α)) : ∀ vs : List Nat, (wip g vs).length = g.length
  | [] => rfl
  | v :: vs => by unfold wip; rw [List.length_set, wip_length g vs]
theorem wip_get {α : Type} (g : List (Option α)) (j : Nat) : ∀ vs : List Nat, (wip g vs)[j]? = if j ∈ vs ∧ j < g.length then some none else g[j]?
  | [] => by simp [wip]
  | v :: vs => by
    unfold wip
    by_cases e : v = j
    · subst e
      by_cases h : v < g.length
      · rw [List.getElem?_set_self (by rw [wip_length]; exact h), if_pos ⟨List.mem_cons_self, h⟩]
      · rw [List.getElem?_eq_none (by rw [List.length_set, wip_length]; omega), if_neg (fun z => h z.2), List.getElem?_eq_none (by omega)]
    · rw [List.getElem?_set_ne e, wip_get g j vs]
      have : (j ∈ v :: vs ∧ j < g.length) ↔ (j ∈ vs ∧ j < g.length) := by simp [Ne.symm e]
      simp only [this]
theorem sets_wip {α : Type} {is vs : List Nat} {l : List α} {g : List (Option α)} (h : ∀ v, v ∈ vs → v ∈ is) (e : l.length = is.length) : sets (wip g vs) is l = sets g is l := by
  apply List.ext_getElem?
  intro j
  by_cases q : j ∈ is
  · exact sets_in is l _ _ e q (wip_length g vs)
  · rw [sets_out is l _ q, sets_out is l _ q, wip_get, if_neg (fun z => q (h j z.1))]
theorem wip_sets {α : Type} {is vs : List Nat} {l : List α} {g : List (Option α)} (h : ∀ v, v ∈ is → v ∈ vs) : wip (sets (wip g vs) is l) vs = wip g vs := by
  apply List.ext_getElem?
  intro j
  rw [wip_get, sets_length, wip_length, wip_get]
  by_cases q : j ∈ vs ∧ j < g.length
  · rw [if_pos q, if_pos q]
  · rw [if_neg q, if_neg q]
    by_cases hj : j ∈ is
    · have hl : ¬ j < g.length := fun z => q ⟨h j hj, z⟩
      rw [List.getElem?_eq_none (by rw [sets_length, wip_length]; omega), List.getElem?_eq_none (by omega)]
    · rw [sets_out is l _ hj, wip_get, if_neg q]
theorem bindT_wip {t : Tg} {x : D} {g : Ev} {vs : List Nat} (h : ∀ v, v ∈ vs → v ∈ t.slots) : bindT t x (wip g vs) = bindT t x g := by
  cases t with
  | one i =>
    have z := sets_wip (is := [i]) (l := [x]) (g := g) h rfl
    exact congrArg some z
  | many is =>
    cases x with
    | tup l =>
      by_cases e : l.length = is.length
      · show (if l.length = is.length then some (sets (wip g vs) is l) else none) = if l.length = is.length then some (sets g is l) else none
        have z : sets (wip g vs) is l = sets g is l := sets_wip h e
        rw [z]
      · show (if l.length = is.length then some (sets (wip g vs) is l) else none) = if l.length = is.length then some (sets g is l) else none
        rw [if_neg e, if_neg e]
    | lst l =>
      by_cases e : l.length = is.length
      · show (if l.length = is.length then some (sets (wip g vs) is l) else none) = if l.length = is.length then some (sets g is l) else none
        have z : sets (wip g vs) is l = sets g is l := sets_wip h e
        rw [z]
      · show (if l.length = is.length then some (sets (wip g vs) is l) else none) = if l.length = is.length then some (sets g is l) else none
        rw [if_neg e, if_neg e]
    | _ => rfl
/-- the target's reading -/
def gSets : List Nat → TGs
  | [] => gNil
  | i :: is => gCons (gName i) (gSets is)
def gTL (K : PySem.W.Frag) (n : Nat) (t : TGs) : TG := fun v σ H Q => gTup K n t v σ H Q ∨ gUnl K n t v σ H Q
def tgG (K : PySem.W.Frag) : Tg → TG
  | .one i => gName i
  | .many is => gTL K is.length (gSets is)
theorem gSets_of : ∀ {is : List Nat} {vs : List V} {σ : L2.St} {H : Hp} {Q : L2.St → Hp → Prop}, vs.length = is.length → Q (sets σ is vs) H → gSets is vs σ H Q
  | [], [], σ, H, Q, _, h => ⟨rfl, h⟩
  | [], _ :: _, σ, H, Q, e, _ => by simp at e
  | _ :: _, [], σ, H, Q, e, _ => by simp at e
  | i :: is, v :: vs, σ, H, Q, e, h => ⟨v, vs, rfl, gSets_of (is := is) (by simpa using e) h⟩
theorem put_val {M : Ms} {i : Nat} {md : Md} (h : M i = md) : M.put i md = M := by
  funext j
  unfold Ms.put
  split
  · rename_i e; rw [e, h]
  · rfl
section
variable {L : Lk} {M : Ms} {w0 w : Wd} {H0 H : Hp} {g : Ev} {S : Store} {σ : L2.St}
theorem stored : ∀ (is : List Nat) (l : List D) (vs : List V) (g : Ev) (σ : L2.St), World L M w0 H0 w g S σ H → Reps L w l vs → (∀ i, i ∈ is → M i = .val) → World L M w0 H0 w (sets g is l) S (sets σ is vs) H
  | [], l, vs, g, σ, W, _, _ => W
  | i :: is, [], vs, g, σ, W, h, _ => by
    simp only [Reps] at h
    subst h
    exact W
  | i :: is, x :: l, vs, g, σ, W, h, hm => by
    simp only [Reps] at h
    obtain ⟨v, r, rfl, h1, h2⟩ := h
    have W1 := W.val i h1
    rw [put_val (hm i List.mem_cons_self)] at W1
    exact stored is l r _ _ W1 h2 fun j hj => hm j (List.mem_cons_of_mem _ hj)
/-- a target bound -/
theorem World.bind {K : PySem.W.Frag} (hK : K = L.K) {t : Tg} {x : D} {v : V} {g' : Ev} (W : World L M w0 H0 w g S σ H) (h : Rep L w x v) (hm : ∀ i, i ∈ t.slots → M i = .val) (hb : bindT t x g = some g') {Q : L2.St → Hp → Prop}
    (k : ∀ us, World L M w0 H0 w g' S (Zd.sets σ t.slots us) H → us.length = t.slots.length → Q (Zd.sets σ t.slots us) H) : tgG K t v σ H Q := by
  cases t with
  | one i =>
    cases hb
    have W1 := W.val i h
    rw [put_val (hm i (List.mem_singleton.mpr rfl))] at W1
    exact k [v] W1 rfl
  | many is =>
    cases x with
    | tup l =>
      have hb : (if l.length = is.length then some (sets g is l) else none) = some g' := hb
      by_cases e : l.length = is.length
      · rw [if_pos e] at hb
        cases hb
        simp only [Rep] at h
        obtain ⟨a, vs, rfl, q, r, _⟩ := h
        have e2 : vs.length = is.length := r.length.trans e
        exact .inl ⟨a, vs, rfl, hK ▸ SqT.mono W.core.sub q, e2, gSets_of e2 (k vs (stored is l vs _ _ W r hm) e2)⟩
      · rw [if_neg e] at hb
        cases hb
    | lst l =>
      have hb : (if l.length = is.length then some (sets g is l) else none) = some g' := hb
      by_cases e : l.length = is.length
      · rw [if_pos e] at hb
        cases hb
        simp only [Rep] at h
        obtain ⟨a, vs, rfl, q, r, _⟩ := h
        have e2 : vs.length = is.length := r.length.trans e
        exact .inr ⟨a, vs, rfl, SqL.of (W.core.sub _ _ q), e2, gSets_of e2 (k vs (stored is l vs _ _ W r hm) e2)⟩
      · rw [if_neg e] at hb
        cases hb
    | _ => cases hb
/-- slots forgotten -/
theorem World.wip (W : World L M w0 H0 w g S σ H) (vs : List Nat) : World L M w0 H0 w (wip g vs) S (Zd.wip σ vs) H where
  core := W.core
  le0 := W.le0
  len := by rw [wip_length, wip_length]; exact W.len
  slot := fun i d h => by
    rw [wip_get] at h
    split at h
    · cases h
    · rename_i q
      obtain ⟨v, e, r⟩ := W.slot i d h
      exact ⟨v, by rw [wip_get, if_neg (by rw [← W.len]; exact q)]; exact e, r⟩
  pin := fun k hk => by
    obtain ⟨k0, a, ea, q⟩ := W.pin k hk
    refine ⟨k0, a, ea, fun d hd => ?_⟩
    rw [wip_get] at hd
    split at hd
    · cases hd
    · rename_i z
      rw [wip_get, if_neg (by rw [← W.len]; exact z)]
      exact q d hd
  apart := fun i j a ne mi mj si sj gi gj => by
    have un : ∀ {i : Nat} {d : D}, (Zd.wip g vs)[i]? = some (some d) → g[i]? = some (some d) := fun {i d} h => by
      rw [wip_get] at h
      split at h
      · cases h
      · exact h
    have us : ∀ {i : Nat} {d : V}, (Zd.wip σ vs)[i]? = some (some d) → σ[i]? = some (some d) := fun {i d} h => by
      rw [wip_get] at h
      split at h
      · cases h
      · exact h
    exact W.apart i j a ne mi mj (us si) (us sj) (gi.imp fun _ => un) (gj.imp fun _ => un)
end
/-! ### iterators by data -/
structure ItOk (P : Pr) (J : It) (srcs : List (D × V)) (xs : List D) : Prop where
  go : ∀ w H S i x, Core P.L w S H → (∀ p ∈ srcs, RepC P.L w H p.1 p.2) → xs[i]? = some x → J.go i H ∧ ∀ v H', J.yld i H v H' → ∃ w', Core P.L w' S H' ∧ Le w H w' H' ∧ Rep P.L w' x v
  stop : ∀ w H S, Core P.L w S H → (∀ p ∈ srcs, RepC P.L w H p.1 p.2) → J.stop xs.length H
/-- a source: it stands through the turns (st: through what the body stores, too) -/
def SrcR (P : Pr) (st : Bool) (w : Wd) (H : Hp) (d : D) (v : V) : Prop := Rep P.L w d v ∨ ∃ a, v = .ref a ∧ Own P.L w H d a ∧ (st = true → ∃ o, P.H0 a = some o)
theorem SrcR.repC {P : Pr} {st : Bool} {w : Wd} {H : Hp} {d : D} {v : V} (h : SrcR P st w H d v) : RepC P.L w H d v := by
  rcases h with h | ⟨a, e, h, _⟩
  · exact .inl h
  · exact .inr ⟨a, e, h.2.1⟩
theorem SrcR.le {P : Pr} {st : Bool} {w w' : Wd} {H H' : Hp} {d : D} {v : V} (h : SrcR P st w H d v) (l : Le w H w' H') : SrcR P st w' H' d v := by
  rcases h with h | ⟨a, e, h, q⟩
  · exact .inl (h.le l)
  · exact .inr ⟨a, e, h.le l, q⟩
def PostI (P : Pr) (st : Bool) (w : Wd) (g : Ev) (σ : L2.St) (H : Hp) (R : It → Hp → Prop) : Res (List D) → Prop
  | .ok xs S' => ∀ J srcs w' H', P.Wo w' g S' σ H' → Le w H w' H' → (∀ p ∈ srcs, SrcR P st w' H' p.1 p.2) → ItOk P J srcs xs → xs.length ≤ line → R J H'
  | .exc e S' => P.X w g σ H e S'
  | .bad => False
def tIt (P : Pr) (st : Bool) (d : DI) : TI := fun σ H R => ∃ w g S, P.Wo w g S σ H ∧ PostI P st w g σ H R (evi P.T P.cf d g S)
end Zd
set_option Elab.async false
set_option linter.all false
set_option maxRecDepth 100000
set_option maxHeartbeats 2000000
/-! Iterators: one lemma a kind. -/
namespace Zd
open PySem PySem.Spec PyProof.Rows L2
def PostSrc (P : Pr) (st : Bool) (w : Wd) (g : Ev) (σ : L2.St) (H : Hp) (Q : VK) : Res D → Prop
  | .ok d S' => ∀ v w' H', P.Wo w' g S' σ H' → Le w H w' H' → SrcR P st w' H' d v → Q v H'
  | .exc e S' => P.X w g σ H e S'
  | .bad => False
def tSrc (P : Pr) (st : Bool) (d : DE) : TE := fun σ H Q => ∃ w g S, P.Wo w g S σ H ∧ PostSrc P st w g σ H Q (ev P.T P.cf d g S)
theorem PostSrc.le {P : Pr} {st : Bool} {w w1 : Wd} {g : Ev} {σ : L2.St} {H H1 : Hp} {Q : VK} {r : Res D} (l : Le w H w1 H1) (h : PostSrc P st w g σ H Q r) : PostSrc P st w1 g σ H1 Q r := by
  cases r with
  | ok d S' => exact fun v w' H' W l' r' => h v w' H' W (l.trans l') r'
  | exc e S' => exact Pr.X.le l h
  | bad => exact h
theorem PostI.le {P : Pr} {st : Bool} {w w1 : Wd} {g : Ev} {σ : L2.St} {H H1 : Hp} {R : It → Hp → Prop} {r : Res (List D)} (l : Le w H w1 H1) (h : PostI P st w g σ H R r) : PostI P st w1 g σ H1 R r := by
  cases r with
  | ok d S' => exact fun J srcs w' H' W l' => h J srcs w' H' W (l.trans l')
  | exc e S' => exact Pr.X.le l h
  | bad => exact h
theorem src_val {P : Pr} {st : Bool} {d : DE} {σ : L2.St} {H : Hp} {Q : VK} (h : tSrc P st d σ H Q) : tM P .val d σ H Q := by
  obtain ⟨w, g, S, W, h⟩ := h
  refine ⟨w, g, S, W, ?_⟩
  cases e : ev P.T P.cf d g S with
  | ok x S1 => rw [e] at h; exact fun v w' H' W' l r => h v w' H' W' l (.inl r)
  | exc x S1 => rw [e] at h; exact h
  | bad => rw [e] at h; exact h
theorem src_top {P : Pr} {d : DE} {σ : L2.St} {H : Hp} {Q : VK} (h : tSrc P false d σ H Q) : tM P .top d σ H Q := by
  obtain ⟨w, g, S, W, h⟩ := h
  refine ⟨w, g, S, W, ?_⟩
  cases e : ev P.T P.cf d g S with
  | ok x S1 => rw [e] at h; exact fun v w' H' W' l r => h v w' H' W' l (r.imp id fun ⟨a, e, o⟩ => ⟨a, e, o, fun z => nomatch z⟩)
  | exc x S1 => rw [e] at h; exact h
  | bad => rw [e] at h; exact h
section
variable {X : Cx} {P : Pr} {st : Bool} {pos p tpos : Pos}
/-- a slot of mode top, or val, as a source -/
theorem s_var {i : Nat} {x : Str} (hN : X.N[i]? = some x) (hv : Vis X.env.scope x) (hd : (x == ("__debug__" : Str)) = false) (hcd : (x == ("__classdict__" : Str)) = false) (hm : P.M i = .val ∨ P.M i = .top) : PE X (.Name x pos) (tSrc P st (.var i)) := by
  refine PE.imp (pe_var hN hv hd hcd) fun σ H Q h => ?_
  obtain ⟨w, g, S, W, h⟩ := h
  unfold ev at h
  split at h
  · rename_i d hg
    obtain ⟨v, e, r⟩ := W.slot i d hg
    refine ⟨v, e, h v w H W (Le.refl _ _) ?_⟩
    rcases hm with m | m
    · rw [m] at r; exact .inl r
    · rw [m] at r
      rcases r with r | ⟨a, ea, o, z⟩
      · exact .inl r
      · exact .inr ⟨a, ea, o, fun _ => z⟩
  · exact h.elim
def seqT : D → Bool
  | .tup _ => true
  | _ => false
def Ji (K : PySem.W.Frag) (t : Bool) (a : Addr) : It := if t = true then Itt K a else Itl K a
def iEi (K : PySem.W.Frag) (tl : TE) : TI := fun σ H R => tl σ H fun x H1 => (∃ t a xs, x = .ref a ∧ SqE K H1 t a xs ∧ R (Ji K t a) H1) ∨ ∃ y, x = .str y ∧ R (Its y) H1
theorem pi_i {tg l : Expr} {tl : TE} (hl : PE X l tl) : PI X tg l (iEi X.K tl) := by
  refine ⟨fun pins s σ H R I h => thn (hl.run pins s σ H _ I h) fun v s1 ⟨x, H1, I1, r1, q1⟩ => ?_⟩
  rcases q1 with q1 | ⟨y, e, q⟩
  rotate_left
  · subst e
    obtain ⟨t, rfl⟩ := r1
    cases ha : y.cps.all (· < 128)
    · exact wpAny_pyIter_wide ha (pi_one (tk := s1.toks) I1 _ (turn_str _ y t "str_iterator" (.inr rfl)) ⟨_, Heap.get?_push_size _ rfl, rfl, rfl⟩ q)
    · exact wpAny_pyIter_ascii ha (pi_one (tk := s1.toks) I1 _ (turn_str _ y t "str_ascii_iterator" (.inl rfl)) ⟨_, Heap.get?_push_size _ rfl, rfl, rfl⟩ q)
  obtain ⟨t, a, xs, e, hq, q⟩ := q1
  subst e
  cases r1
  have fr : ∀ b, b ∈ [s1.heap.objs.size] → FpOk X pins H1 b := fun b hb => by
    rw [List.mem_singleton.mp hb]
    exact I1.fpOk (Nat.le_refl _) (I1.hok.fresh (Nat.le_refl _))
  have kp : ∀ (ob : Obj) b o, s1.heap.get? b = some o → (s1.heap.push ob).get? b = some o := fun ob b o e => Heap.get?_push_of_some _ e
  cases t with
  | true =>
    obtain ⟨its, rv, p, _⟩ := I1.tuple (hq : SqT X.K H1 a xs)
    exact wpAny_pyIter_tuple (show s1.heap.IsTuple a its.toArray from p) ⟨_, _, _, _, H1, rfl, I1.kept (t' := s1.toks) (kp _), turn_tuple a _, ⟨_, Heap.get?_push_size _ rfl, rfl, rfl⟩, fr, q⟩
  | false =>
    obtain ⟨its, rv, p, _⟩ := I1.list (hq : SqL X.K H1 a xs)
    exact wpAny_pyIter_list p.isList ⟨_, _, _, _, H1, rfl, I1.kept (t' := s1.toks) (kp _), turn_list a _, ⟨_, Heap.get?_push_size _ rfl, rfl, rfl⟩, fr, q⟩
theorem sqe_of {w : Wd} {H : Hp} {S : Store} {d : D} {l : List D} {v : V} (c : Core P.L w S H) (e : d.seq = some l) (h : RepC P.L w H d v) : ∃ a vs, v = .ref a ∧ SqE P.L.K H (seqT d) a vs ∧ Reps P.L w l vs := by
  cases d <;> cases e
  · exact h.tup c
  · obtain ⟨a, vs, e, q, r⟩ := h.lst c
    exact ⟨a, vs, e, SqL.of q, r⟩
theorem itok_i {d : D} {l : List D} {a : Addr} (e : d.seq = some l) : ItOk P (Ji P.L.K (seqT d) a) [(d, .ref a)] l where
  go := fun w H S i x c hs hx => by
    obtain ⟨b, vs, eb, q, r⟩ := sqe_of c e (hs _ (List.mem_singleton.mpr rfl))
    cases eb
    obtain ⟨v, hv, rv⟩ := r.get hx
    unfold Ji
    unfold SqE at q
    cases ht : seqT d with
    | true =>
      rw [ht] at q
      refine ⟨⟨vs, v, q, hv⟩, fun u H' y => ?_⟩
      obtain ⟨eH, y⟩ := y
      subst eH
      rw [y vs q] at hv
      cases hv
      exact ⟨w, c, Le.refl _ _, rv⟩
    | false =>
      rw [ht] at q
      refine ⟨⟨vs, v, q, hv⟩, fun u H' y => ?_⟩
      obtain ⟨eH, y⟩ := y
      subst eH
      rw [y vs q] at hv
      cases hv
      exact ⟨w, c, Le.refl _ _, rv⟩
  stop := fun w H S c hs => by
    obtain ⟨b, vs, eb, q, r⟩ := sqe_of c e (hs _ (List.mem_singleton.mpr rfl))
    cases eb
    unfold Ji
    unfold SqE at q
    cases ht : seqT d with
    | true => rw [ht] at q; exact ⟨vs, q, Nat.le_of_eq r.length⟩
    | false => rw [ht] at q; exact ⟨vs, q, Nat.le_of_eq r.length⟩
theorem itok_s {s : List Nat} : ItOk P (Its ⟨s.toArray⟩) [] (s.map fun c => D.str [c]) where
  go := fun w H S i x c hs hx => by
    rw [List.getElem?_map] at hx
    obtain ⟨ch, hc, rfl⟩ := Option.map_eq_some_iff.mp hx
    have hi := (List.getElem?_eq_some_iff.mp hc).1
    refine ⟨by show i < s.toArray.size; simpa using hi, fun v H' y => ?_⟩
    obtain ⟨eH, c2, e2, rfl⟩ := y
    subst eH
    have e2 : s[i]? = some c2 := by simpa using e2
    rw [hc] at e2
    cases e2
    refine ⟨w, c, Le.refl _ _, ?_⟩
    simp only [Rep]
    exact ⟨trivial, by show 1 ≤ line; decide⟩
  stop := fun w H S c hs => by
    show s.toArray.size ≤ _
    simp
/-- a new pair as a value -/
theorem pair_val {w : Wd} {H : Hp} {S : Store} {T : Addr} {x y : D} {v u : V} (c : Core P.L w S H) (hT : H T = none) (r1 : Rep P.L w x v) (r2 : Rep P.L w y u) :
    ∃ w', Core P.L w' S (upd H T (.tup [v, u])) ∧ Le w H w' (upd H T (.tup [v, u])) ∧ Rep P.L w' (.tup [x, y]) (.ref T) := by
  refine ⟨w.add T (.tup [v, u]), c.laid hT, Le.laid c hT, ?_⟩
  simp only [Rep]
  refine ⟨T, [v, u], rfl, SqT.of upd_same, ?_, by show 2 ≤ line; decide⟩
  simp only [Reps]
  exact ⟨v, [u], rfl, r1.le (Le.laid c hT), u, [], rfl, r2.le (Le.laid c hT), rfl⟩
theorem zipD_get : ∀ {xs ys : List D} {i : Nat} {z : D}, (zipD xs ys)[i]? = some z → ∃ x y, xs[i]? = some x ∧ ys[i]? = some y ∧ z = .tup [x, y]
  | [], ys, i, z, h => by simp [zipD] at h
  | _ :: _, [], i, z, h => by simp [zipD] at h
  | x :: xs, y :: ys, 0, z, h => by
    simp [zipD] at h
    exact ⟨x, y, rfl, rfl, h.symm⟩
  | x :: xs, y :: ys, i + 1, z, h => by
    simp only [zipD, List.getElem?_cons_succ] at h
    obtain ⟨a, b, h1, h2, h3⟩ := zipD_get h
    exact ⟨a, b, by simpa using h1, by simpa using h2, h3⟩
theorem zipD_length : ∀ (xs ys : List D), (zipD xs ys).length = min xs.length ys.length
  | [], ys => by simp [zipD]
  | _ :: _, [] => by simp [zipD]
  | x :: xs, y :: ys => by simp [zipD, zipD_length xs ys]
theorem enuD_get : ∀ {xs : List D} {k i : Nat} {z : D}, (enuD k xs)[i]? = some z → ∃ x, xs[i]? = some x ∧ z = .tup [.int ((k + i : Nat) : Int), x]
  | [], k, i, z, h => by simp [enuD] at h
  | x :: xs, k, 0, z, h => by
    simp [enuD] at h
    exact ⟨x, rfl, h.symm⟩
  | x :: xs, k, i + 1, z, h => by
    simp only [enuD, List.getElem?_cons_succ] at h
    obtain ⟨a, h1, h3⟩ := enuD_get h
    refine ⟨a, by simpa using h1, ?_⟩
    rw [h3]
    have : k + 1 + i = k + (i + 1) := by omega
    rw [this]
theorem enuD_length : ∀ (xs : List D) (k : Nat), (enuD k xs).length = xs.length
  | [], k => rfl
  | x :: xs, k => by simp [enuD, enuD_length xs (k + 1)]
theorem itok_z {d e : D} {l m : List D} {a b : Addr} (h1 : d.seq = some l) (h2 : e.seq = some m) : ItOk P (Jz P.L.K (seqT d) (seqT e) a b) [(d, .ref a), (e, .ref b)] (zipD l m) where
  go := fun w H S i z c hs hx => by
    obtain ⟨x, y, hx1, hy, rfl⟩ := zipD_get hx
    obtain ⟨a', vs, ea, q, r⟩ := sqe_of c h1 (hs _ List.mem_cons_self)
    cases ea
    obtain ⟨b', us, eb, q2, r2⟩ := sqe_of c h2 (hs _ (List.mem_cons_of_mem _ List.mem_cons_self))
    cases eb
    obtain ⟨v, hv, rv⟩ := r.get hx1
    obtain ⟨u, hu, ru⟩ := r2.get hy
    refine ⟨⟨vs, us, q, q2, (List.getElem?_eq_some_iff.mp hv).1, (List.getElem?_eq_some_iff.mp hu).1⟩, fun t H' yl => ?_⟩
    obtain ⟨T, v', u', rfl, hT, rfl, y1, y2⟩ := yl
    rw [y1 vs q] at hv
    rw [y2 us q2] at hu
    cases hv
    cases hu
    exact pair_val c hT rv ru
  stop := fun w H S c hs => by
    obtain ⟨a', vs, ea, q, r⟩ := sqe_of c h1 (hs _ List.mem_cons_self)
    cases ea
    obtain ⟨b', us, eb, q2, r2⟩ := sqe_of c h2 (hs _ (List.mem_cons_of_mem _ List.mem_cons_self))
    cases eb
    exact ⟨vs, us, q, q2, by rw [zipD_length, r.length, r2.length]⟩
theorem itok_e {d : D} {l : List D} {a : Addr} (h1 : d.seq = some l) : ItOk P (Je P.L.K (seqT d) a) [(d, .ref a)] (enuD 0 l) where
  go := fun w H S i z c hs hx => by
    obtain ⟨x, hx1, rfl⟩ := enuD_get hx
    obtain ⟨a', vs, ea, q, r⟩ := sqe_of c h1 (hs _ (List.mem_singleton.mpr rfl))
    cases ea
    obtain ⟨v, hv, rv⟩ := r.get hx1
    refine ⟨⟨vs, q, (List.getElem?_eq_some_iff.mp hv).1⟩, fun t H' yl => ?_⟩
    obtain ⟨T, v', rfl, hT, rfl, y1⟩ := yl
    rw [y1 vs q] at hv
    cases hv
    rw [Nat.zero_add]
    exact pair_val c hT (by simp only [Rep]) rv
  stop := fun w H S c hs => by
    obtain ⟨a', vs, ea, q, r⟩ := sqe_of c h1 (hs _ (List.mem_singleton.mpr rfl))
    cases ea
    exact ⟨vs, q, by rw [enuD_length, r.length]⟩
theorem rngD_get {lo : Int} {n i : Nat} {z : D} (h : (rngD lo n)[i]? = some z) : i < n ∧ z = .int (lo + i) := by
  unfold rngD at h
  rw [List.getElem?_map] at h
  obtain ⟨k, hk, rfl⟩ := Option.map_eq_some_iff.mp h
  obtain ⟨h1, h2⟩ := List.getElem?_eq_some_iff.mp hk
  rw [List.length_range] at h1
  rw [List.getElem_range] at h2
  subst h2
  exact ⟨h1, rfl⟩
theorem rngD_length {lo : Int} {n : Nat} : (rngD lo n).length = n := by simp [rngD]
theorem itok_r {lo : Int} {n : Nat} : ItOk P (Itr lo n) [] (rngD lo n) where
  go := fun w H S i z c hs hx => by
    obtain ⟨h1, rfl⟩ := rngD_get hx
    refine ⟨h1, fun v H' y => ?_⟩
    obtain ⟨eH, rfl⟩ := y
    subst eH
    exact ⟨w, c, Le.refl _ _, by simp only [Rep]⟩
  stop := fun w H S c hs => by
    rw [rngD_length]
    exact Nat.le_refl n
variable {e e2 : Expr} {elts : List Expr} {kk : Nat} {d d2 : DE} {tg : Expr}
theorem i_seq (hK : X.K = P.L.K) (he : PE X e (tSrc P st d)) : PI X tg e (tIt P st (.seq d)) := by
  refine ⟨fun pins s σ H R I h => (pi_i he).run pins s σ H R I ?_⟩
  obtain ⟨w, g, S, W, h⟩ := h
  refine ⟨w, g, S, W, ?_⟩
  unfold evi at h
  cases ea : ev P.T P.cf d g S with
  | bad => rw [ea] at h; exact h
  | exc x S1 => rw [ea] at h; exact h
  | ok x S1 =>
    rw [ea] at h
    intro v w1 H1 W1 l1 r1
    simp only [Res.bind_ok] at h
    by_cases isS : ∃ y, x = .str y
    · obtain ⟨y, rfl⟩ := isS
      obtain ⟨rfl, hl⟩ := r1.repC.str
      refine .inr ⟨_, rfl, h _ [] w1 H1 W1 l1 (fun p hp => nomatch hp) itok_s ?_⟩
      rw [List.length_map]
      exact hl
    have hi : x.its = x.seq := by
      cases x with
      | str y => exact absurd ⟨y, rfl⟩ isS
      | _ => rfl
    rw [hi] at h
    cases eq : x.seq with
    | none =>
      rw [eq] at h
      exact h.elim
    | some xs =>
      rw [eq] at h
      obtain ⟨a, vs, rfl, q, r⟩ := sqe_of W1.core eq r1.repC
      exact .inl ⟨seqT x, a, vs, rfl, hK ▸ q, hK ▸ h _ [(x, .ref a)] w1 H1 W1 l1 (fun p hp => by rw [List.mem_singleton.mp hp]; exact r1) (itok_i eq) (r1.repC.len eq)⟩
theorem i_rng (hg : Gl X "range") (hm : X.mg "range" = none) (hs : starEach [e] X.env = [(false, eval e X.env)]) (he : PE X e (tM P .val d)) : PI X tg (.Call (.Name "range" p) [e] [] pos) (tIt P st (.rng d)) := by
  refine ⟨fun pins s σ H R I h => (pi_range1 hg hm (pa_cons he pa_nil hs) hs).run pins s σ H R I ?_⟩
  obtain ⟨w, g, S, W, h⟩ := h
  refine ⟨w, g, S, W, ?_⟩
  unfold evi at h
  cases ea : ev P.T P.cf d g S with
  | bad => rw [ea] at h; exact h
  | exc x S1 => rw [ea] at h; exact h
  | ok x S1 =>
    rw [ea] at h
    intro v w1 H1 W1 l1 r1
    simp only [Res.bind_ok] at h
    cases x with
    | int i =>
      have r1 : Rep P.L w1 (.int i) v := r1
      simp only [Rep] at r1
      subst r1
      simp only at h
      split at h
      · rename_i hi
        simp only [small62, Bool.and_eq_true, decide_eq_true_eq] at hi
        exact ⟨i, rfl, by omega, by omega, h _ [] w1 H1 W1 l1 (fun p hp => nomatch hp) itok_r (by rw [rngD_length]; show i.toNat ≤ 16777216; omega)⟩
      · exact h.elim
    | _ => exact h.elim
/-- two parts: their readings, for an iterator -/
theorem two_i {da db : DE} {g : Ev} {S : Store} {w : Wd} {σ : L2.St} {H : Hp} {f : D → D → Store → Res (List D)} {R : It → Hp → Prop} {md : Md} {T : V → V → Hp → Prop} (tr : DE → TE)
    (hd : ∀ d σ H Q, (∃ w g S, P.Wo w g S σ H ∧ PostSrc P st w g σ H Q (ev P.T P.cf d g S)) → tr d σ H Q) (W : P.Wo w g S σ H)
    (h : PostI P st w g σ H R ((ev P.T P.cf da g S).bind fun x S => (ev P.T P.cf db g S).bind fun y S => f x y S))
    (k : ∀ x y S2 v u w2 H2, P.Wo w2 g S2 σ H2 → SrcR P st w2 H2 x v → SrcR P st w2 H2 y u → PostI P st w2 g σ H2 R (f x y S2) → T v u H2) :
    tr da σ H fun v H1 => tr db σ H1 fun u H2 => T v u H2 := by
  refine hd _ _ _ _ ⟨w, g, S, W, ?_⟩
  cases ea : ev P.T P.cf da g S with
  | bad => rw [ea] at h; exact h
  | exc x S1 => rw [ea] at h; exact h
  | ok x S1 =>
    rw [ea] at h
    intro v w1 H1 W1 l1 r1
    refine hd _ _ _ _ ⟨w1, g, S1, W1, ?_⟩
    simp only [Res.bind_ok] at h
    cases eb : ev P.T P.cf db g S1 with
    | bad => rw [eb] at h; exact h
    | exc y S2 => rw [eb] at h; exact Pr.X.le l1 h
    | ok y S2 =>
      rw [eb] at h
      intro u w2 H2 W2 l2 r2
      exact k x y S2 v u w2 H2 W2 (r1.le l2) r2 (PostI.le (l1.trans l2) h)
theorem i_rng2 (hg : Gl X "range") (hm : X.mg "range" = none) (hs : starEach [e, e2] X.env = [(false, eval e X.env), (false, eval e2 X.env)]) (hs2 : starEach [e2] X.env = [(false, eval e2 X.env)]) (he : PE X e (tM P .val d)) (he2 : PE X e2 (tM P .val d2)) : PI X tg (.Call (.Name "range" p) [e, e2] [] pos) (tIt P st (.rng2 d d2)) := by
  refine ⟨fun pins s σ H R I h => (pi_range2 hg hm (pa_cons he (pa_cons he2 pa_nil hs2) (by rw [hs, hs2])) hs hs2).run pins s σ H R I ?_⟩
  obtain ⟨w, g, S, W, h⟩ := h
  unfold evi at h
  refine two_i (P := P) (st := st) (md := .val) (fun d => tM P .val d) (fun d σ H Q ⟨w, g, S, W, h⟩ => src_val ⟨w, g, S, W, h⟩) W h fun x y S2 v u w2 H2 W2 r1 r2 h2 => ?_
  have int_of : ∀ {d : Int} {v : V}, SrcR P st w2 H2 (.int d) v → v = .int d := fun {d v} r => by
    rcases r with r | ⟨a, _, o, _⟩
    · simpa only [Rep] using r
    · have := o.2.1
      simp only [Con] at this
  cases x with
  | int i =>
    cases y with
    | int j =>
      cases int_of r1
      cases int_of r2
      simp only at h2
      split at h2
      · rename_i hi
        simp only [small62, Bool.and_eq_true, decide_eq_true_eq] at hi
        exact ⟨i, j, rfl, ⟨by omega, by omega, by omega, by omega⟩, h2 _ [] w2 H2 W2 (Le.refl _ _) (fun p hp => nomatch hp) itok_r (by rw [rngD_length]; show (j - i).toNat ≤ 16777216; omega)⟩
      · exact h2.elim
    | _ => exact h2.elim
  | _ => exact h2.elim
theorem i_zip (hK : X.K = P.L.K) (hg : Gl X "zip") (hm : X.mg "zip" = none) (hs : starEach [e, e2] X.env = (false, eval e X.env) :: starEach [e2] X.env) (hs2 : starEach [e2] X.env = [(false, eval e2 X.env)]) (he : PE X e (tSrc P st d)) (he2 : PE X e2 (tSrc P st d2)) : PI X (.Tuple elts kk tpos) (.Call (.Name "zip" p) [e, e2] [] pos) (tIt P st (.zip d d2)) := by
  refine ⟨fun pins s σ H R I h => (pi_z hg hm (pa_cons he (pa_cons he2 pa_nil hs2) hs) hs (by rw [hs2]; rfl)).run pins s σ H R I ?_⟩
  obtain ⟨w, g, S, W, h⟩ := h
  unfold evi at h
  refine two_i (P := P) (st := st) (md := .val) (fun d => tSrc P st d) (fun d σ H Q h => h) W h fun x y S2 v u w2 H2 W2 r1 r2 h2 => ?_
  cases ex : x.seq with
  | none => rw [ex] at h2; exact h2.elim
  | some xs =>
    cases ey : y.seq with
    | none => rw [ex, ey] at h2; exact h2.elim
    | some ys =>
      rw [ex, ey] at h2
      obtain ⟨a, vs, rfl, q1, rr1⟩ := sqe_of W2.core ex r1.repC
      obtain ⟨b, us, rfl, q2, rr2⟩ := sqe_of W2.core ey r2.repC
      have lx := r1.repC.len ex
      refine ⟨seqT x, seqT y, a, b, vs, us, rfl, hK ▸ q1, hK ▸ q2, hK ▸ h2 _ [(x, .ref a), (y, .ref b)] w2 H2 W2 (Le.refl _ _) (fun p hp => ?_) (itok_z ex ey) (by rw [zipD_length]; omega)⟩
      rcases List.mem_cons.mp hp with e | hp
      · rw [e]; exact r1
      · rw [List.mem_singleton.mp hp]; exact r2
theorem i_enu (hK : X.K = P.L.K) (hg : Gl X "enumerate") (hm : X.mg "enumerate" = none) (hs : starEach [e] X.env = [(false, eval e X.env)]) (he : PE X e (tSrc P st d)) : PI X (.Tuple elts kk tpos) (.Call (.Name "enumerate" p) [e] [] pos) (tIt P st (.enu d)) := by
  refine ⟨fun pins s σ H R I h => (pi_e hg hm (pa_cons he pa_nil hs) hs).run pins s σ H R I ?_⟩
  obtain ⟨w, g, S, W, h⟩ := h
  refine ⟨w, g, S, W, ?_⟩
  unfold evi at h
  cases ea : ev P.T P.cf d g S with
  | bad => rw [ea] at h; exact h
  | exc x S1 => rw [ea] at h; exact h
  | ok x S1 =>
    rw [ea] at h
    intro v w1 H1 W1 l1 r1
    simp only [Res.bind_ok] at h
    cases eq : x.seq with
    | none => rw [eq] at h; exact h.elim
    | some xs =>
      rw [eq] at h
      obtain ⟨a, vs, rfl, q, r⟩ := sqe_of W1.core eq r1.repC
      exact ⟨seqT x, a, vs, rfl, hK ▸ q, hK ▸ h _ [(x, .ref a)] w1 H1 W1 l1 (fun p hp => by rw [List.mem_singleton.mp hp]; exact r1) (itok_e eq) (by rw [enuD_length]; exact r1.repC.len eq)⟩
end
end Zd
set_option Elab.async false
set_option linter.all false
set_option maxRecDepth 100000
set_option maxHeartbeats 2000000
/-! Comprehensions. -/
namespace Zd
open PySem PySem.Spec PyProof.Rows L2
/-- no error is wished for -/
def Pr.calm (P : Pr) : Pr := { P with W := fun _ _ _ _ => False }
def less (H : Hp) (p : Addr) : Hp := fun b => if b = p then none else H b
theorem less_ne {H : Hp} {p a : Addr} (h : a ≠ p) : less H p a = H a := if_neg h
theorem less_same {H : Hp} {p : Addr} : less H p p = none := if_pos rfl
theorem less_upd {H : Hp} {p : Addr} {o : HO} (h : H p = some o) : upd (less H p) p o = H := by
  funext b
  by_cases e : b = p
  · subst e; rw [upd_same, h]
  · rw [upd_ne e, less_ne e]
section
variable {L : Lk} {w w1 : Wd} {H H1 : Hp} {S : Store} {p : Addr}
theorem Core.less (c : Core L w S H) (hn : w.Hs p = none) (hr : ∀ k, k < w.n → w.rho k ≠ p) : Core L w S (less H p) where
  sub := fun a o h => by rw [less_ne (fun e => by subst e; rw [hn] at h; cases h)]; exact c.sub a o h
  len := c.len
  st := fun k d h => by
    obtain ⟨h1, h2⟩ := c.st k d h
    have hk : k < w.n := by rw [← c.len]; exact (List.getElem?_eq_some_iff.mp h).1
    exact ⟨h1, h2.of (fun _ _ h => h) (Nat.le_refl _) (fun _ _ => rfl) (less_ne (hr k hk))⟩
  inj := c.inj
theorem Le.less (l : Le w1 H1 w H) (hn : H1 p = none) : Le w1 H1 w (less H p) where
  hs := l.hs
  n := l.n
  rho := l.rho
  keep := fun a o h hk => by rw [less_ne (fun e => by subst e; rw [hn] at h; cases h)]; exact l.keep a o h hk
  there := fun a o h => by rw [less_ne (fun e => by subst e; rw [hn] at h; cases h)]; exact l.there a o h
  out := l.out
  new := l.new
end
section
variable {P : Pr} {t : Tg} {it : DI} {e : DE} {vs : List Nat} {K : PySem.W.Frag} {σ : L2.St} {H : Hp} {Q : VK}
theorem lc_cons {f : Ev → Store → Res D} {g : Ev} {x : D} {xs ys : List D} {S Sf : Store} (h : lcGo f t g (x :: xs) S = .ok ys Sf) : ∃ g' y S' ys', bindT t x g = some g' ∧ f g' S = .ok y S' ∧ lcGo f t g xs S' = .ok ys' Sf ∧ ys = y :: ys' := by
  unfold lcGo at h
  cases hb : bindT t x g with
  | none => rw [hb] at h; cases h
  | some g' =>
    rw [hb] at h
    simp only at h
    cases hf : f g' S with
    | bad => rw [hf] at h; cases h
    | exc d S' => rw [hf] at h; cases h
    | ok y S' =>
      rw [hf] at h
      simp only at h
      cases hr : lcGo f t g xs S' with
      | bad => rw [hr] at h; cases h
      | exc d S' => rw [hr] at h; cases h
      | ok ys' S2 =>
        rw [hr] at h
        simp only at h
        cases h
        exact ⟨g', y, S', ys', rfl, hf, hr, rfl⟩
theorem lc_read (hK : K = P.L.K) (hv : ∀ v, v ∈ vs ↔ v ∈ t.slots) (hM : ∀ i, i ∈ t.slots → P.M i = .val) (h : tF P (.lc e t it) σ H Q) : tLc (tIt P false it) (tgG K t) tYes (tM P.calm .val e) vs σ H Q := by
  obtain ⟨w, g, S, W, h⟩ := h
  unfold ev at h
  refine ⟨w, g, S, W, ?_⟩
  cases ei : evi P.T P.cf it g S with
  | bad => rw [ei] at h; exact h
  | exc x S1 => rw [ei] at h; exact h
  | ok xs S1 =>
    rw [ei] at h
    simp only [Res.bind_ok] at h
    intro J srcs w1 H1 W1 l1 hsrc hit hlen D hD
    cases el : lcGo (ev P.T P.cf e) t g xs S1 with
    | bad => rw [el] at h; exact h.elim
    | exc x S2 => rw [el] at h; exact h.elim
    | ok ys Sf =>
      rw [el] at h
      have nD : w1.Hs D = none := by
        cases z : w1.Hs D with
        | none => rfl
        | some u => rw [W1.core.sub _ _ z] at hD; cases hD
      refine ⟨fun i m H => m = xs.length - i ∧ i ≤ xs.length ∧ ∃ w' Si acc rest, Core P.L w' Si H ∧ Le w1 H1 w' H ∧ Own P.L w' H (.lst acc) D ∧ acc.length = i ∧ lcGo (ev P.T P.cf e) t g (xs.drop i) Si = .ok rest Sf ∧ acc ++ rest = ys,
        ⟨_, rfl, Nat.zero_le _, w1, S1, [], ys, W1.core.fresh hD, Le.fresh hD, ⟨nD, ⟨[], upd_same, rfl, Nat.zero_le _⟩, fun k hk => W1.core.rhoNe hk hD⟩, rfl, el, rfl⟩, ?_⟩
      rintro i m H2 ⟨rfl, hi, w', Si, acc, rest, c, l, o, hal, hgo, hys⟩
      have hs : ∀ p ∈ srcs, RepC P.L w' H2 p.1 p.2 := fun p hp => ((hsrc p hp).le l).repC
      by_cases hlt : i < xs.length
      · have hx : xs[i]? = some xs[i] := List.getElem?_eq_getElem hlt
        obtain ⟨g1, g2⟩ := hit.go w' H2 Si i _ c hs hx
        refine .inr ⟨g1, fun H' => ((xs.length - (i + 1) : Nat) = xs.length - (i + 1)) ∧ i + 1 ≤ xs.length ∧ ∃ w' Si acc rest, Core P.L w' Si H' ∧ Le w1 H1 w' H' ∧ Own P.L w' H' (.lst acc) D ∧ acc.length = i + 1 ∧ lcGo (ev P.T P.cf e) t g (xs.drop (i + 1)) Si = .ok rest Sf ∧ acc ++ rest = ys,
          fun H' q => ⟨xs.length - (i + 1), by omega, q⟩, fun x H' y => ?_⟩
        obtain ⟨w2, c2, l2, rx⟩ := g2 x H' y
        rw [List.drop_eq_getElem_cons hlt] at hgo
        obtain ⟨g', yd, S', ys', hb, he, hgo', hrest⟩ := lc_cons hgo
        have W2 := ((W1.step c2 (l.trans l2)).wip vs)
        rw [wip_wipe]
        refine W2.bind hK rx hM (by rw [bindT_wip fun v z => (hv v).mp z]; exact hb) fun us W3 hus => ?_
        refine ⟨by rw [wip_wipe]; exact wip_sets fun v z => (hv v).mpr z, ?_⟩
        unfold tYes
        show (if (true : Bool) = true then _ else _)
        rw [if_pos rfl]
        refine ⟨w2, g', Si, W3, ?_⟩
        show PostM P.calm .val w2 g' _ H' _ (ev P.T P.cf e g' Si)
        rw [he]
        intro v w3 H3 W4 l3 r3
        have r3 : Rep P.L w3 yd v := r3
        obtain ⟨n3, ⟨accv, hD3, r, z⟩, d3⟩ := (o.le l2).le l3
        have la := r.length
        refine ⟨accv, hD3, by rw [← line_eq]; omega, rfl, hlt, w3, S', acc ++ [yd], ys', W4.core.change n3 d3, ((l.trans l2).trans l3).change hD, ⟨n3, ⟨accv ++ [v], upd_same, r.append (.one r3), ?_⟩, d3⟩, ?_, hgo', ?_⟩
        · rw [List.length_append, List.length_singleton]; omega
        · rw [List.length_append, List.length_singleton]; omega
        · rw [← hys, hrest, List.append_assoc]; rfl
      · have ei : i = xs.length := by omega
        refine .inl ⟨by rw [ei]; exact hit.stop w' H2 Si c hs, ?_⟩
        rw [List.drop_eq_nil_of_le (by omega)] at hgo
        unfold lcGo at hgo
        cases hgo
        rw [List.append_nil] at hys
        subst hys
        obtain ⟨n3, ⟨accv, hD3, r, z⟩, d3⟩ := o
        have q := h D (.lst accv) w' (less H2 D) (W1.step (c.less n3 d3) (l.less hD)) (l1.trans (l.less hD)) less_same (by rw [less_upd hD3]; exact ⟨accv, hD3, r, z⟩)
        rw [less_upd hD3] at q
        exact q
theorem lci_cons {f c : Ev → Store → Res D} {g : Ev} {x : D} {xs ys : List D} {S Sf : Store} (h : lciGo f c t g (x :: xs) S = .ok ys Sf) : ∃ g' b S0 k, bindT t x g = some g' ∧ c g' S = .ok b S0 ∧ (rd S0 b).truth = some k ∧
    (if k = true then ∃ y S' ys', f g' S0 = .ok y S' ∧ lciGo f c t g xs S' = .ok ys' Sf ∧ ys = y :: ys' else lciGo f c t g xs S0 = .ok ys Sf) := by
  unfold lciGo at h
  cases hb : bindT t x g with
  | none => rw [hb] at h; cases h
  | some g' =>
    rw [hb] at h
    simp only at h
    cases hc : c g' S with
    | bad => rw [hc] at h; cases h
    | exc d S' => rw [hc] at h; cases h
    | ok b S0 =>
      rw [hc] at h
      simp only at h
      cases ht : (rd S0 b).truth with
      | none => rw [ht] at h; cases h
      | some k =>
        rw [ht] at h
        refine ⟨g', b, S0, k, rfl, hc, ht, ?_⟩
        cases k with
        | false => simp only at h; rw [if_neg (by decide)]; exact h
        | true =>
          rw [if_pos rfl]
          simp only at h
          cases hf : f g' S0 with
          | bad => rw [hf] at h; cases h
          | exc d S' => rw [hf] at h; cases h
          | ok y S' =>
            rw [hf] at h
            simp only at h
            cases hr : lciGo f c t g xs S' with
            | bad => rw [hr] at h; cases h
            | exc d S' => rw [hr] at h; cases h
            | ok ys' S2 =>
              rw [hr] at h
              simp only at h
              cases h
              exact ⟨y, S', ys', rfl, hr, rfl⟩
theorem lci_read {ec : DE} {tt : TT} (htt : ∀ σ H Q, tBo P.calm ec σ H Q → tt σ H Q) (hK : K = P.L.K) (hv : ∀ v, v ∈ vs ↔ v ∈ t.slots) (hM : ∀ i, i ∈ t.slots → P.M i = .val) (h : tF P (.lci e ec t it) σ H Q) : tLc (tIt P false it) (tgG K t) tt (tM P.calm .val e) vs σ H Q := by
  obtain ⟨w, g, S, W, h⟩ := h
  unfold ev at h
  refine ⟨w, g, S, W, ?_⟩
  cases ei : evi P.T P.cf it g S with
  | bad => rw [ei] at h; exact h
  | exc x S1 => rw [ei] at h; exact h
  | ok xs S1 =>
    rw [ei] at h
    simp only [Res.bind_ok] at h
    intro J srcs w1 H1 W1 l1 hsrc hit hlen D hD
    cases el : lciGo (ev P.T P.cf e) (ev P.T P.cf ec) t g xs S1 with
    | bad => rw [el] at h; exact h.elim
    | exc x S2 => rw [el] at h; exact h.elim
    | ok ys Sf =>
      rw [el] at h
      have nD : w1.Hs D = none := by
        cases z : w1.Hs D with
        | none => rfl
        | some u => rw [W1.core.sub _ _ z] at hD; cases hD
      refine ⟨fun i m H => m = xs.length - i ∧ i ≤ xs.length ∧ ∃ w' Si acc rest, Core P.L w' Si H ∧ Le w1 H1 w' H ∧ Own P.L w' H (.lst acc) D ∧ acc.length ≤ i ∧ lciGo (ev P.T P.cf e) (ev P.T P.cf ec) t g (xs.drop i) Si = .ok rest Sf ∧ acc ++ rest = ys,
        ⟨_, rfl, Nat.zero_le _, w1, S1, [], ys, W1.core.fresh hD, Le.fresh hD, ⟨nD, ⟨[], upd_same, rfl, Nat.zero_le _⟩, fun k hk => W1.core.rhoNe hk hD⟩, Nat.le_refl _, el, rfl⟩, ?_⟩
      rintro i m H2 ⟨rfl, hi, w', Si, acc, rest, c, l, o, hal, hgo, hys⟩
      have hs : ∀ p ∈ srcs, RepC P.L w' H2 p.1 p.2 := fun p hp => ((hsrc p hp).le l).repC
      by_cases hlt : i < xs.length
      · have hx : xs[i]? = some xs[i] := List.getElem?_eq_getElem hlt
        obtain ⟨g1, g2⟩ := hit.go w' H2 Si i _ c hs hx
        refine .inr ⟨g1, fun H' => i + 1 ≤ xs.length ∧ ∃ w' Si acc rest, Core P.L w' Si H' ∧ Le w1 H1 w' H' ∧ Own P.L w' H' (.lst acc) D ∧ acc.length ≤ i + 1 ∧ lciGo (ev P.T P.cf e) (ev P.T P.cf ec) t g (xs.drop (i + 1)) Si = .ok rest Sf ∧ acc ++ rest = ys,
          fun H' q => ⟨xs.length - (i + 1), by omega, rfl, q⟩, fun x H' y => ?_⟩
        obtain ⟨w2, c2, l2, rx⟩ := g2 x H' y
        rw [List.drop_eq_getElem_cons hlt] at hgo
        obtain ⟨g', b, S0, k, hb, hc, hk, hgo⟩ := lci_cons hgo
        have W2 := ((W1.step c2 (l.trans l2)).wip vs)
        rw [wip_wipe]
        refine W2.bind hK rx hM (by rw [bindT_wip fun v z => (hv v).mp z]; exact hb) fun us W3 hus => ?_
        refine ⟨by rw [wip_wipe]; exact wip_sets fun v z => (hv v).mpr z, ?_⟩
        refine htt _ _ _ ⟨w2, g', Si, W3, ?_⟩
        show PostB P.calm w2 g' _ H' _ (ev P.T P.cf ec g' Si)
        rw [hc]
        unfold PostB
        simp only [hk]
        intro wt Ht Wt lt
        cases k with
        | false =>
          rw [if_neg (by decide)] at hgo ⊢
          exact ⟨hlt, wt, S0, acc, rest, Wt.core, (l.trans l2).trans lt, (o.le l2).le lt, by omega, hgo, hys⟩
        | true =>
          rw [if_pos rfl] at hgo ⊢
          obtain ⟨yd, S', ys', he, hgo', hrest⟩ := hgo
          refine ⟨wt, g', S0, Wt, ?_⟩
          show PostM P.calm .val wt g' _ Ht _ (ev P.T P.cf e g' S0)
          rw [he]
          intro v w3 H3 W4 l3 r3
          have r3 : Rep P.L w3 yd v := r3
          obtain ⟨n3, ⟨accv, hD3, r, z⟩, d3⟩ := ((o.le l2).le lt).le l3
          have la := r.length
          refine ⟨accv, hD3, by rw [← line_eq]; omega, hlt, w3, S', acc ++ [yd], ys', W4.core.change n3 d3, (((l.trans l2).trans lt).trans l3).change hD, ⟨n3, ⟨accv ++ [v], upd_same, r.append (.one r3), ?_⟩, d3⟩, ?_, hgo', ?_⟩
          · rw [List.length_append, List.length_singleton]; omega
          · rw [List.length_append, List.length_singleton]; omega
          · rw [← hys, hrest, List.append_assoc]; rfl
      · have ei : i = xs.length := by omega
        refine .inl ⟨by rw [ei]; exact hit.stop w' H2 Si c hs, ?_⟩
        rw [List.drop_eq_nil_of_le (by omega)] at hgo
        unfold lciGo at hgo
        cases hgo
        rw [List.append_nil] at hys
        subst hys
        obtain ⟨n3, ⟨accv, hD3, r, z⟩, d3⟩ := o
        have q := h D (.lst accv) w' (Zd.less H2 D) (W1.step (c.less n3 d3) (l.less hD)) (l1.trans (l.less hD)) less_same (by rw [less_upd hD3]; exact ⟨accv, hD3, r, z⟩)
        rw [less_upd hD3] at q
        exact q
end
end Zd
set_option Elab.async false
set_option linter.all false
set_option maxRecDepth 100000
set_option maxHeartbeats 2000000
/-! Expressions: the remaining nodes. -/
namespace Zd
open PySem PySem.Spec PyProof.Rows L2
/-! ### side conditions, by the form of an expression -/
def notStar : Expr → Bool
  | .Starred _ _ => false
  | _ => true
def notSlice : Expr → Bool
  | .Slice _ _ _ _ => false
  | _ => true
theorem star_of {e : Expr} {es : List Expr} {env : Env} (h : notStar e = true) : starEach (e :: es) env = (false, eval e env) :: starEach es env := by
  cases e <;> first
    | rfl
    | (cases h)
theorem star_any {es : List Expr} {env : Env} (h : es.all notStar = true) (pos : Pos) : (backTo pos (starEach es env)).any (·.1) = false := by
  induction es with
  | nil => rfl
  | cons e es ih =>
    rw [List.all_cons, Bool.and_eq_true] at h
    rw [star_of h.1]
    show (false || (backTo pos (starEach es env)).any (·.1)) = false
    rw [ih h.2]
    rfl
theorem plain_of {b : Expr} (h : notSlice b = true) : PlainIx b := by
  intro o i
  cases b <;> first
    | rfl
    | (cases h)
theorem nobehind_of {op : CmpOp} {b : Expr} (h : (match b with | .Set _ _ _ => false | _ => true) = true) : behindInMarks op b = false := by
  cases b <;> first
    | rfl
    | (cases h)
/-- a test that is its value's truth -/
def plainTest : Expr → Bool
  | .UnaryOp .Not _ _ => false
  | .BoolOp _ _ _ => false
  | .IfExp _ _ _ _ => false
  | .Compare _ _ _ _ => false
  | _ => true
theorem test_of {e : Expr} {env : Env} (h : plainTest e = true) (whole : Sem Value) : isTrue e env whole = (do let v ← whole; standAt e.pos; holding [v] (truthy v)) := by
  cases e <;> first
    | rfl
    | (cases h)
    | (rename_i op x p; cases op <;> first
        | rfl
        | (cases h))
theorem PostB.mk {P : Pr} {w : Wd} {g : Ev} {σ : L2.St} {H : Hp} {Q : Bool → Hp → Prop} {d : D} {S' : Store} {b : Bool} (e : (rd S' d).truth = some b) (k : ∀ w' H', P.Wo w' g S' σ H' → Le w H w' H' → Q b H') : PostB P w g σ H Q (.ok d S') := by
  unfold PostB
  simp only [e]
  exact k
theorem PostB.go {P : Pr} {w : Wd} {g : Ev} {σ : L2.St} {H : Hp} {Q : Bool → Hp → Prop} {d : D} {S' : Store} {b : Bool} (e : (rd S' d).truth = some b) (h : PostB P w g σ H Q (.ok d S')) : ∀ w' H', P.Wo w' g S' σ H' → Le w H w' H' → Q b H' := by
  unfold PostB at h
  simp only [e] at h
  exact h
theorem PostB.none {P : Pr} {w : Wd} {g : Ev} {σ : L2.St} {H : Hp} {Q : Bool → Hp → Prop} {d : D} {S' : Store} (e : (rd S' d).truth = Option.none) (h : PostB P w g σ H Q (.ok d S')) : False := by
  unfold PostB at h
  simp only [e] at h
theorem RepT.repC {L : Lk} {w : Wd} {H : Hp} {d : D} {v : V} (h : RepT L w H d v) : RepC L w H d v := by
  rcases h with h | ⟨a, e, o⟩
  · exact .inl h
  · exact .inr ⟨a, e, o.2.1⟩
def DA.len : DA → Nat
  | .nil => 0
  | .cons _ l => l.len + 1
section
variable {X : Cx} {P : Pr} {md : Md} {pos p p2 : Pos} {w w1 : Wd} {g : Ev} {σ : L2.St} {H H1 : Hp} {S : Store} {Q : VK}
theorem eva_len : ∀ (l : DA) {g : Ev} {S S' : Store} {xs : List D}, eva P.T P.cf l g S = .ok xs S' → xs.length = l.len
  | .nil, g, S, S', xs, h => by
    unfold eva at h
    cases h
    rfl
  | .cons a l, g, S, S', xs, h => by
    unfold eva at h
    cases ha : ev P.T P.cf a g S with
    | bad => rw [ha] at h; cases h
    | exc x S1 => rw [ha] at h; cases h
    | ok x S1 =>
      rw [ha] at h
      simp only [Res.bind_ok] at h
      cases hl : eva P.T P.cf l g S1 with
      | bad => rw [hl] at h; cases h
      | exc x S1 => rw [hl] at h; cases h
      | ok ys S2 =>
        rw [hl] at h
        simp only [Res.bind_ok] at h
        cases h
        rw [List.length_cons, eva_len l hl]
        rfl
theorem a_nil {ms : List Md} : PA X [] (tAr P ms .nil) := PA.imp pa_nil fun σ H Q h => by
  obtain ⟨w, g, S, W, h⟩ := h
  unfold eva at h
  exact h [] w H W (Le.refl _ _) (by unfold ArgR; rfl)
theorem a_cons {ms : List Md} {e : Expr} {es : List Expr} {a : DE} {l : DA} (h1 : PE X e (tM P md a)) (h2 : PA X es (tAr P ms l)) (hs : notStar e = true) : PA X (e :: es) (tAr P (md :: ms) (.cons a l)) := PA.imp (pa_cons h1 h2 (star_of hs)) fun σ H Q h => by
  obtain ⟨w, g, S, W, h⟩ := h
  unfold eva at h
  refine ⟨w, g, S, W, ?_⟩
  cases ea : ev P.T P.cf a g S with
  | bad => rw [ea] at h; exact h
  | exc x S1 => rw [ea] at h; exact h
  | ok x S1 =>
    rw [ea] at h
    simp only [Res.bind_ok] at h
    intro v w1 H1 W1 l1 r1
    refine ⟨w1, g, S1, W1, ?_⟩
    cases el : eva P.T P.cf l g S1 with
    | bad => rw [el] at h; exact h
    | exc y S2 => rw [el] at h; exact Pr.X.le l1 h
    | ok ys S2 =>
      rw [el] at h
      simp only [Res.bind_ok] at h
      intro vs w2 H2 W2 l2 r2
      exact h (v :: vs) w2 H2 W2 (l1.trans l2) (by unfold ArgR; exact ⟨v, vs, rfl, r1.le l2, r2⟩)
theorem ArgR.length {L : Lk} {w : Wd} {H : Hp} : ∀ {ms : List Md} {ds : List D} {vs : List V}, ArgR L w H ms ds vs → vs.length = ds.length
  | _, [], vs, h => by unfold ArgR at h; rw [h]; rfl
  | [], _ :: _, vs, h => by simp [ArgR] at h
  | md :: ms, d :: ds, vs, h => by
    simp only [ArgR] at h
    obtain ⟨v, r, rfl, _, h2⟩ := h
    rw [List.length_cons, List.length_cons, ArgR.length h2]
theorem ArgR.vals {L : Lk} {w : Wd} {H : Hp} : ∀ {ms : List Md} {ds : List D} {vs : List V}, ArgR L w H ms ds vs → (∀ md, md ∈ ms → md = .val) → Reps L w ds vs
  | _, [], vs, h, _ => by unfold ArgR at h; rw [h]; rfl
  | [], _ :: _, vs, h, _ => by simp [ArgR] at h
  | md :: ms, d :: ds, vs, h, hm => by
    simp only [ArgR] at h
    obtain ⟨v, r, rfl, h1, h2⟩ := h
    rw [hm md List.mem_cons_self] at h1
    simp only [Reps]
    exact ⟨v, r, rfl, h1, h2.vals fun m q => hm m (List.mem_cons_of_mem _ q)⟩
/-- a written tuple -/
theorem n_tup {es : List Expr} {x1 : Nat} {l : DA} {ms : List Md} (hm : md = .val ∨ md = .top) (ha : PA X es (tAr P ms l)) (hv : ∀ m, m ∈ ms → m = .val) (hl : l.len ≤ line) : PE X (.Tuple es x1 pos) (tM P md (.tup l)) := PE.imp (pe_tup ha) fun σ H Q h => by
  obtain ⟨w, g, S, W, h⟩ := h
  unfold ev at h
  refine ⟨w, g, S, W, ?_⟩
  cases el : eva P.T P.cf l g S with
  | bad => rw [el] at h; exact h
  | exc y S2 => rw [el] at h; exact h
  | ok ys S2 =>
    rw [el] at h
    simp only [Res.bind_ok] at h
    intro vs w2 H2 W2 l2 r2
    have z : ys.length ≤ line := by rw [eva_len l el]; exact hl
    refine ⟨by rw [r2.length]; exact line_le z, fun p hp => h _ _ _ (W2.step (W2.core.laid hp) (Le.laid W2.core hp)) (l2.trans (Le.laid W2.core hp)) (ArgR1.of hm ?_)⟩
    simp only [Rep]
    exact ⟨p, vs, rfl, SqT.of upd_same, (r2.vals hv).le (Le.laid W2.core hp), z⟩
/-- a written list: new -/
theorem n_lst {es : List Expr} {l : DA} {ms : List Md} (ha : PA X es (tAr P ms l)) (hv : ∀ m, m ∈ ms → m = .val) (hl : l.len ≤ line) : PE X (.List es pos) (tF P (.lst l)) := PE.imp (pe_lst ha) fun σ H Q h => by
  obtain ⟨w, g, S, W, h⟩ := h
  unfold ev at h
  refine ⟨w, g, S, W, ?_⟩
  cases el : eva P.T P.cf l g S with
  | bad => rw [el] at h; exact h
  | exc y S2 => rw [el] at h; exact h
  | ok ys S2 =>
    rw [el] at h
    simp only [Res.bind_ok] at h
    intro vs w2 H2 W2 l2 r2
    have z : ys.length ≤ line := by rw [eva_len l el]; exact hl
    exact ⟨by rw [r2.length]; exact line_le z, fun p hp => h p _ w2 H2 W2 l2 hp ⟨vs, upd_same, r2.vals hv, z⟩⟩
/-- a new thing as a value -/
theorem n_fresh {e : Expr} {d : DE} (hm : md = .val ∨ md = .top) (h : PE X e (tF P d)) : PE X e (tM P md d) := PE.imp h fun σ H Q q => tF.of hm q
/-- a new thing as a place -/
theorem n_pl {e : Expr} {d : DE} (hm : md = .val ∨ md = .top) (h : PE X e (tF P d)) : PE X e (tM P md (.pl d)) := PE.imp h fun σ H Q h => by
  obtain ⟨w, g, S, W, h⟩ := h
  unfold ev at h
  refine ⟨w, g, S, W, ?_⟩
  cases ea : ev P.T P.cf d g S with
  | bad => rw [ea] at h; exact h
  | exc y S2 => rw [ea] at h; exact h
  | ok x S1 =>
    rw [ea] at h
    simp only [Res.bind_ok] at h
    intro p o w' H' W' l' hp hc
    have hc' : Con P.L (w'.more p) (upd H' p o) x p := hc.of (w' := w'.more p) (fun _ _ q => q) (Nat.le_succ _) (fun k hk => (Le.place (o := o) hp).rho k hk) rfl
    refine h _ (w'.more p) _ (W'.step (W'.core.place hp hc') (Le.place hp)) (l'.trans (Le.place hp)) (ArgR1.of hm ?_)
    simp only [Rep]
    have e : S1.length = w'.n := W'.core.len
    refine ⟨?_, ?_⟩
    · show V.ref p = .ref (if S1.length = w'.n then p else w'.rho S1.length)
      rw [if_pos e]
    · show S1.length < w'.n + 1
      omega
/-- a[i] -/
theorem n_ix {a b : Expr} {da db : DE} (hK : X.K = P.L.K) (hu : X.A.units + 200 < cLine) (hm : md = .val ∨ md = .top) (ha : PE X a (tM P .top da)) (hb : PE X b (tM P .top db)) (hs : notSlice b = true) : PE X (.Subscript a b pos) (tM P md (.ix da db)) :=
  PE.imp (pe_ix (ix_ok hK hu) ha hb (plain_of hs)) fun σ H Q h => by
    obtain ⟨w, g, S, W, h⟩ := h
    unfold ev at h
    refine two W h fun x y S2 v u w2 H2 W2 r1 r2 h2 => ?_
    cases e : ixD (rd S2 x) y with
    | none => rw [e] at h2; exact h2.elim
    | some r =>
      rw [e] at h2
      exact ⟨w2, S2, _, _, r, W2.core, r1.read W2.core, r2.repC, e, fun v' w' H' c' l' r' => h2 v' w' H' (W2.step c' l') l' (ArgR1.of hm r')⟩
/-- a conditional -/
theorem n_ite {c a b : Expr} {dc da db : DE} (hc : PT X c (tBo P dc)) (ha : PE X a (tM P md da)) (hb : PE X b (tM P md db)) : PE X (.IfExp c a b pos) (tM P md (.ite dc da db)) := PE.imp (pe_ifExp hc ha hb) fun σ H Q h => by
  obtain ⟨w, g, S, W, h⟩ := h
  unfold ev at h
  refine ⟨w, g, S, W, ?_⟩
  cases ec : ev P.T P.cf dc g S with
  | bad => rw [ec] at h; exact h
  | exc y S2 => rw [ec] at h; exact h
  | ok x S1 =>
    rw [ec] at h
    simp only [Res.bind_ok] at h
    cases ht : (rd S1 x).truth with
    | none => rw [ht] at h; exact h.elim
    | some k =>
      rw [ht] at h
      refine PostB.mk ht fun w' H' W' l' => ?_
      cases k with
      | true => rw [if_pos rfl]; exact ⟨w', g, S1, W', PostM.le l' h⟩
      | false => rw [if_neg (by decide)]; exact ⟨w', g, S1, W', PostM.le l' h⟩
/-- and, or as values -/
theorem n_and {a b : Expr} {rest : List Expr} {da db : DE} (hK : X.K = P.L.K) (hm : md = .val ∨ md = .top) (ha : PE X a (tM P md da)) (hb : PE X (.BoolOp .And (b :: rest) pos) (tM P md db)) : PE X (.BoolOp .And (a :: b :: rest) pos) (tM P md (.and da db)) := PE.imp (pe_andT ha hb) fun σ H Q h => by
  obtain ⟨w, g, S, W, h⟩ := h
  unfold ev at h
  refine ⟨w, g, S, W, ?_⟩
  cases ec : ev P.T P.cf da g S with
  | bad => rw [ec] at h; exact h
  | exc y S2 => rw [ec] at h; exact h
  | ok x S1 =>
    rw [ec] at h
    simp only [Res.bind_ok] at h
    intro v w' H' W' l' r'
    cases ht : (rd S1 x).truth with
    | none => rw [ht] at h; exact h.elim
    | some k =>
      rw [ht] at h
      refine ⟨k, truth_ok hK W'.core ((r'.repT hm).read W'.core) ht, ?_⟩
      cases k with
      | true => rw [if_pos rfl]; exact ⟨w', g, S1, W', PostM.le l' h⟩
      | false => rw [if_neg (by decide)]; exact h v w' H' W' l' r'
theorem n_or {a b : Expr} {rest : List Expr} {da db : DE} (hK : X.K = P.L.K) (hm : md = .val ∨ md = .top) (ha : PE X a (tM P md da)) (hb : PE X (.BoolOp .Or (b :: rest) pos) (tM P md db)) : PE X (.BoolOp .Or (a :: b :: rest) pos) (tM P md (.or da db)) := PE.imp (pe_orT ha hb) fun σ H Q h => by
  obtain ⟨w, g, S, W, h⟩ := h
  unfold ev at h
  refine ⟨w, g, S, W, ?_⟩
  cases ec : ev P.T P.cf da g S with
  | bad => rw [ec] at h; exact h
  | exc y S2 => rw [ec] at h; exact h
  | ok x S1 =>
    rw [ec] at h
    simp only [Res.bind_ok] at h
    intro v w' H' W' l' r'
    cases ht : (rd S1 x).truth with
    | none => rw [ht] at h; exact h.elim
    | some k =>
      rw [ht] at h
      refine ⟨k, truth_ok hK W'.core ((r'.repT hm).read W'.core) ht, ?_⟩
      cases k with
      | true => rw [if_pos rfl]; exact h v w' H' W' l' r'
      | false => rw [if_neg (by decide)]; exact ⟨w', g, S1, W', PostM.le l' h⟩
/-- one operand -/
theorem n_one {op : PySem.BoolOp} {a : Expr} {da : DE} (ha : PE X a (tM P md da)) : PE X (.BoolOp op [a] pos) (tM P md da) := pe_one ha
/-- a part that may be left out -/
theorem o_none : PO X none (tOp' P .none) := PO.imp po_none fun σ H Q h => by
  obtain ⟨w, g, S, W, h⟩ := h
  unfold evo at h
  exact h w H W (Le.refl _ _)
theorem o_some {e : Expr} {d : DE} (he : PE X e (tM P .val d)) : PO X (some e) (tOp' P (.some d)) := PO.imp (po_some he) fun σ H Q h => by
  obtain ⟨w, g, S, W, h⟩ := h
  unfold evo at h
  refine ⟨w, g, S, W, ?_⟩
  cases ec : ev P.T P.cf d g S with
  | bad => rw [ec] at h; exact h
  | exc y S2 => rw [ec] at h; exact h
  | ok x S1 =>
    rw [ec] at h
    simp only [Res.bind_ok] at h
    intro v w' H' W' l' r'
    cases x with
    | int i =>
      have r' : Rep P.L w' (.int i) v := r'
      simp only [Rep] at r'
      exact ⟨i, r', h w' H' W' l'⟩
    | _ => exact h.elim
/-- a[lo:hi]: of a value, of the script -/
theorem n_slc {e : Expr} {lo hi : Option Expr} {d : DE} {dl dh : DO} {md' : Md} (hK : X.K = P.L.K) (hm : md = .val ∨ md = .top) (hm' : md' = .top ∨ md' = .scr) (he : PE X e (tM P md' d)) (hl : PO X lo (tOp' P dl)) (hh : PO X hi (tOp' P dh)) :
    PE X (.Subscript e (.Slice lo hi none p2) pos) (tM P md (.slc d dl dh)) := PE.imp (pe_slice (sl_ok hK) he hl hh) fun σ H Q h => by
  obtain ⟨w, g, S, W, h⟩ := h
  unfold ev at h
  refine ⟨w, g, S, W, ?_⟩
  cases ec : ev P.T P.cf d g S with
  | bad => rw [ec] at h; exact h
  | exc y S2 => rw [ec] at h; exact h
  | ok x S1 =>
    rw [ec] at h
    simp only [Res.bind_ok] at h
    intro v w1 H1 W1 l1 r1
    refine ⟨w1, g, S1, W1, ?_⟩
    cases el : evo P.T P.cf dl g S1 with
    | bad => rw [el] at h; exact h
    | exc y S2 => rw [el] at h; exact Pr.X.le l1 h
    | ok lo' S2 =>
      rw [el] at h
      simp only [Res.bind_ok] at h
      intro w2 H2 W2 l2
      refine ⟨w2, g, S2, W2, ?_⟩
      cases eh : evo P.T P.cf dh g S2 with
      | bad => rw [eh] at h; exact h
      | exc y S3 => rw [eh] at h; exact Pr.X.le (l1.trans l2) h
      | ok hi' S3 =>
        rw [eh] at h
        simp only [Res.bind_ok] at h
        intro w3 H3 W3 l3
        cases es : sliceD (rd S3 x) lo' hi' with
        | none => rw [es] at h; exact h.elim
        | some r =>
          rw [es] at h
          have cut : Cuts P.L w3 H3 (rd S3 x) v := by
            rcases hm' with e | e
            · subst e
              have r1 : RepT P.L w1 H1 x v := r1
              exact (((r1.le l2).le l3).read W3.core).cuts W3.core es
            · subst e
              obtain ⟨a, ns, ea, ex, z⟩ := r1
              subst ex
              have z3 := (z.le l2).le l3
              refine .inl ⟨ns.map D.int, a, ns.map V.int, rfl, ea, z3.sq, Reps.ints ns, ?_⟩
              rw [List.length_map]
              exact z.1
          exact ⟨w3, S3, _, r, W3.core, cut, es, fun v' w' H' c' l' r' => h v' w' H' (W3.step c' l') (((l1.trans l2).trans l3).trans l') (ArgR1.of hm r')⟩
/-- a[::-1] -/
theorem n_rev {e st : Expr} {d : DE} {tst : TE} (hK : X.K = P.L.K) (he : PE X e (tM P .top d)) (hst : PE X st tst) (h1 : ∀ σ H Q, Q (.int (-1)) H → tst σ H Q) : PE X (.Subscript e (.Slice none none (some st) p2) pos) (tF P (.rev d)) := PE.imp (rev_ok he hst h1) fun σ H Q h => by
  obtain ⟨w, g, S, W, h⟩ := h
  unfold ev at h
  refine ⟨w, g, S, W, ?_⟩
  cases ec : ev P.T P.cf d g S with
  | bad => rw [ec] at h; exact h
  | exc y S2 => rw [ec] at h; exact h
  | ok x S1 =>
    rw [ec] at h
    simp only [Res.bind_ok] at h
    intro v w1 H1 W1 l1 r1
    cases er : revD (rd S1 x) with
    | none => rw [er] at h; exact h.elim
    | some r =>
      rw [er] at h
      have rc := RepT.read r1 W1.core
      cases ex : rd S1 x with
      | lst l =>
        rw [ex] at er rc
        cases er
        have z := rc.len (l := l) rfl
        obtain ⟨a, vs, rfl, q, rr⟩ := rc.lst W1.core
        exact ⟨a, vs, rfl, SqL.of q, fun p hp => h p _ w1 H1 W1 l1 hp ⟨vs.reverse, upd_same, rr.reverse, by rw [List.length_reverse]; exact z⟩⟩
      | _ => rw [ex] at er; cases er
/-- a chain of two comparisons, its reading -/
theorem chn_read {da db dc : DE} {o q : CO} {R : VK} (hu : X.A.units + 200 < cLine) (W : P.Wo w g S σ H)
    (hn1 : o ≠ .isN ∧ o ≠ .notN) (hn2 : q ≠ .isN ∧ q ≠ .notN) (h : PostM P md w g σ H Q (ev P.T P.cf (.chn o q da db dc) g S))
    (k : ∀ b S' w' H', P.Wo w' g S' σ H' → PostM P md w' g σ H' Q (.ok (.bl b) S') → R (.bl b) H') :
    tChain (fun x y H Q => ((o = .isN ∨ o = .notN) → y = .non) ∧ rB P (cmpD o) x y H Q) (fun x y H Q => ((q = .isN ∨ q = .notN) → y = .non) ∧ rB P (cmpD q) x y H Q) (tM P .top da) (tM P .top db) (tM P .top dc) σ H R := by
  unfold ev at h
  refine two W h fun x y S2 v u w2 H2 W2 r1 r2 h2 => ?_
  cases e : cmpD o (rd S2 x) (rd S2 y) with
  | none => rw [e] at h2; exact h2.elim
  | some b =>
    rw [e] at h2
    refine ⟨fun z => ?_, w2, S2, _, _, b, W2.core, r1.read W2.core, r2.read W2.core, e, b, rfl, ?_⟩
    · rcases z with z | z
      · exact absurd z hn1.1
      · exact absurd z hn1.2
    cases b with
    | false => rw [if_neg (by decide)]; exact k false S2 w2 H2 W2 h2
    | true =>
      rw [if_pos rfl]
      refine ⟨w2, g, S2, W2, ?_⟩
      cases ec : ev P.T P.cf dc g S2 with
      | bad => rw [ec] at h2; exact h2
      | exc y S3 => rw [ec] at h2; exact h2
      | ok z S3 =>
        rw [ec] at h2
        simp only [Res.bind_ok] at h2
        intro v3 w3 H3 W3 l3 r3
        have r3 : RepT P.L w3 H3 z v3 := r3
        cases e2 : cmpD q (rd S3 y) (rd S3 z) with
        | none => rw [e2] at h2; exact h2.elim
        | some b2 =>
          rw [e2] at h2
          refine ⟨fun z => ?_, w3, S3, _, _, b2, W3.core, (RepT.le r2 l3).read W3.core, r3.read W3.core, e2, ?_⟩
          · rcases z with z | z
            · exact absurd z hn2.1
            · exact absurd z hn2.2
          · exact k b2 S3 w3 H3 W3 (PostM.le l3 h2)
theorem n_chn {a b c : Expr} {da db dc : DE} {o q : CO} (hK : X.K = P.L.K) (hu : X.A.units + 200 < cLine) (hm : md = .val ∨ md = .top) (ha : PE X a (tM P .top da)) (hb : PE X b (tM P .top db)) (hc : PE X c (tM P .top dc)) (hn1 : o ≠ .isN ∧ o ≠ .notN) (hn2 : q ≠ .isN ∧ q ≠ .notN)
    (hmk : lastMarks [o.op, q.op] [b, c] = false) : PE X (.Compare a [o.op, q.op] [b, c] pos) (tM P md (.chn o q da db dc)) := PE.imp (pe_chain (cmp_ok hK hu o) (cmp_ok hK hu q) ha hb hc hmk) fun σ H Q h => by
  obtain ⟨w, g, S, W, h⟩ := h
  exact chn_read hu W hn1 hn2 h fun b S' w' H' W' h' => h' _ w' H' W' (Le.refl _ _) (ArgR1.of hm (by simp only [Rep]))
end
/-! ### tests -/
section
variable {X : Cx} {P : Pr} {pos p : Pos}
/-- a test by its value -/
theorem t_val {e : Expr} {d : DE} (hK : X.K = P.L.K) (he : PE X e (tM P .top d)) (ht : plainTest e = true) : PT X e (tBo P d) := PT.imp (pt_truth he (test_of ht)) fun σ H Q h => by
  obtain ⟨w, g, S, W, h⟩ := h
  refine ⟨w, g, S, W, ?_⟩
  cases ec : ev P.T P.cf d g S with
  | bad => rw [ec] at h; exact h
  | exc y S2 => rw [ec] at h; exact h
  | ok x S1 =>
    rw [ec] at h
    intro v w1 H1 W1 l1 r1
    cases et : (rd S1 x).truth with
    | none => exact (PostB.none et h).elim
    | some k => exact ⟨k, truth_ok hK W1.core (RepT.read r1 W1.core) et, h.go et w1 H1 W1 l1⟩
theorem t_not {e : Expr} {d : DE} (he : PT X e (tBo P d)) : PT X (.UnaryOp .Not e pos) (tBo P (.nt d)) := PT.imp (pt_not he) fun σ H Q h => by
  obtain ⟨w, g, S, W, h⟩ := h
  unfold ev at h
  refine ⟨w, g, S, W, ?_⟩
  cases ec : ev P.T P.cf d g S with
  | bad => rw [ec] at h; exact h
  | exc y S2 => rw [ec] at h; exact h
  | ok x S1 =>
    rw [ec] at h
    simp only [Res.bind_ok] at h
    cases et : (rd S1 x).truth with
    | none => rw [et] at h; exact h.elim
    | some k =>
      rw [et] at h
      exact PostB.mk et fun w' H' W' l' => PostB.go (b := !k) rfl h w' H' W' l'
theorem t_cmp {a b : Expr} {da db : DE} {o : CO} (hK : X.K = P.L.K) (hu : X.A.units + 200 < cLine) (ha : PE X a (tM P .top da)) (hb : PE X b (tM P .top db))
    (hn : (o = .isN ∨ o = .notN) → ∃ k p, b = .Constant .none k p ∧ db = .cst .non) (hmk : behindInMarks o.op b = false) : PT X (.Compare a [o.op] [b] pos) (tBo P (.cmp o da db)) := PT.imp (pt_cmpR (cmp_ok hK hu o) ha hb hmk) fun σ H Q h => by
  obtain ⟨w, g, S, W, h⟩ := h
  unfold ev at h
  refine ⟨w, g, S, W, ?_⟩
  cases ea : ev P.T P.cf da g S with
  | bad => rw [ea] at h; exact h
  | exc x S1 => rw [ea] at h; exact h
  | ok x S1 =>
    rw [ea] at h
    intro v w1 H1 W1 l1 r1
    refine ⟨w1, g, S1, W1, ?_⟩
    simp only [Res.bind_ok] at h
    cases eb : ev P.T P.cf db g S1 with
    | bad => rw [eb] at h; exact h
    | exc y S2 => rw [eb] at h; exact Pr.X.le l1 h
    | ok y S2 =>
      rw [eb] at h
      intro u w2 H2 W2 l2 r2
      refine ⟨fun z => ?_, ?_⟩
      · obtain ⟨k, p, e1, e2⟩ := hn z
        subst e2
        unfold ev at eb
        cases eb
        rcases r2 with r2 | ⟨_, _, r2⟩
        · simpa only [Rep] using r2
        · have := r2.2.1
          simp only [Con] at this
      · have r1' : RepT P.L w2 H2 x v := RepT.le r1 l2
        have r2' : RepT P.L w2 H2 y u := r2
        simp only [Res.bind_ok] at h
        cases e : cmpD o (rd S2 x) (rd S2 y) with
        | none => rw [e] at h; exact h.elim
        | some r =>
          rw [e] at h
          exact ⟨w2, S2, _, _, r, W2.core, r1'.read W2.core, r2'.read W2.core, e, r, rfl, PostB.go (b := r) rfl h w2 H2 W2 (l1.trans l2)⟩
theorem PostB.le' {P : Pr} {w w1 : Wd} {g : Ev} {σ : L2.St} {H H1 : Hp} {Q : Bool → Hp → Prop} {r : Res D} (l : Le w H w1 H1) (h : PostB P w g σ H Q r) : PostB P w1 g σ H1 Q r := PostB.le l h
theorem t_chn {a b c : Expr} {da db dc : DE} {o q : CO} (hK : X.K = P.L.K) (hu : X.A.units + 200 < cLine) (ha : PE X a (tM P .top da)) (hb : PE X b (tM P .top db)) (hc : PE X c (tM P .top dc)) (hn1 : o ≠ .isN ∧ o ≠ .notN) (hn2 : q ≠ .isN ∧ q ≠ .notN)
    (hmk : lastMarks [o.op, q.op] [b, c] = false) : PT X (.Compare a [o.op, q.op] [b, c] pos) (tBo P (.chn o q da db dc)) := PT.imp (pt_chain (cmp_ok hK hu o) (cmp_ok hK hu q) ha hb hc hmk) fun σ H Q h => by
  obtain ⟨w, g, S, W, h⟩ := h
  refine chn_read (md := .val) (Q := fun v H' => ∀ k, v = .bl k → Q k H') hu W hn1 hn2 ?_ fun b S' w' H' W' h' => ⟨b, rfl, h' (.bl b) w' H' W' (Le.refl _ _) (by show Rep _ _ _ _; simp only [Rep]) b rfl⟩
  cases ec : ev P.T P.cf (.chn o q da db dc) g S with
  | bad => rw [ec] at h; exact h
  | exc y S2 => rw [ec] at h; exact h
  | ok x S1 =>
    rw [ec] at h
    intro v w1 H1 W1 l1 r1 k ek
    subst ek
    have r1 : Rep P.L w1 x (.bl k) := r1
    have ex : x = .bl k := by
      cases x <;> simp only [Rep] at r1 <;> first
        | (cases r1; done)
        | (cases r1; rfl)
        | (obtain ⟨_, _, _, e, _⟩ := r1; cases e; done)
        | (obtain ⟨_, _, e, _⟩ := r1; cases e; done)
        | (obtain ⟨e, _⟩ := r1; cases e; done)
    subst ex
    exact PostB.go (b := k) rfl h w1 H1 W1 l1
/-- and, or as tests -/
theorem w_and {a b : Expr} {rest : List Expr} {da db : DE} (ha : PT X a (tBo P da)) (hb : PW X (.BoolOp .And (b :: rest) pos) (tBo P db)) : PW X (.BoolOp .And (a :: b :: rest) pos) (tBo P (.and da db)) := PW.imp (pw_and ha hb) fun σ H Q h => by
  obtain ⟨w, g, S, W, h⟩ := h
  unfold ev at h
  refine ⟨w, g, S, W, ?_⟩
  cases ec : ev P.T P.cf da g S with
  | bad => rw [ec] at h; exact h
  | exc y S2 => rw [ec] at h; exact h
  | ok x S1 =>
    rw [ec] at h
    simp only [Res.bind_ok] at h
    cases et : (rd S1 x).truth with
    | none => rw [et] at h; exact h.elim
    | some k =>
      rw [et] at h
      refine PostB.mk et fun w' H' W' l' => ?_
      cases k with
      | true => rw [if_pos rfl]; exact ⟨w', g, S1, W', PostB.le l' h⟩
      | false => rw [if_neg (by decide)]; exact h.go et w' H' W' l'
theorem w_or {a b : Expr} {rest : List Expr} {da db : DE} (ha : PT X a (tBo P da)) (hb : PW X (.BoolOp .Or (b :: rest) pos) (tBo P db)) : PW X (.BoolOp .Or (a :: b :: rest) pos) (tBo P (.or da db)) := PW.imp (pw_or ha hb) fun σ H Q h => by
  obtain ⟨w, g, S, W, h⟩ := h
  unfold ev at h
  refine ⟨w, g, S, W, ?_⟩
  cases ec : ev P.T P.cf da g S with
  | bad => rw [ec] at h; exact h
  | exc y S2 => rw [ec] at h; exact h
  | ok x S1 =>
    rw [ec] at h
    simp only [Res.bind_ok] at h
    cases et : (rd S1 x).truth with
    | none => rw [et] at h; exact h.elim
    | some k =>
      rw [et] at h
      refine PostB.mk et fun w' H' W' l' => ?_
      cases k with
      | true => rw [if_pos rfl]; exact h.go et w' H' W' l'
      | false => rw [if_neg (by decide)]; exact ⟨w', g, S1, W', PostB.le l' h⟩
end
end Zd
set_option Elab.async false
set_option linter.all false
set_option maxRecDepth 100000
set_option maxHeartbeats 2000000
/-! isinstance, built-ins, calls. -/
namespace Zd
open PySem PySem.Spec PyProof.Rows L2
def tyNm : Nat → Option String
  | 0 => some "int"
  | 1 => some "bool"
  | 2 => some "str"
  | 3 => some "list"
  | 4 => some "tuple"
  | _ => none
section
variable {L : Lk} {w : Wd} {S : Store} {H : Hp} {K : PySem.W.Frag} {T : Tab}
theorem SqT.tyx {a : Addr} {xs : List V} (h : SqT K H a xs) : TyX K H (.ref a) (.type "tuple") := by
  rcases h with (h | ⟨o, h⟩) | ⟨o, its, n, h1, h2, _⟩
  · exact .base (.tup h)
  · exact .fTuple h
  · exact .kTuple h1 h2
def tyD : D → String
  | .non => "NoneType"
  | .bl _ => "bool"
  | .int _ => "int"
  | .str _ => "str"
  | .tup _ => "tuple"
  | .lst _ => "list"
  | .dic _ _ => "dict"
  | _ => ""
/-- the class of a value, as a value -/
def tyV (L : Lk) : D → Value
  | .obj c _ _ => .ref (L.ca c)
  | d => .type (tyD d)
/-- the class that a code names -/
def clsU (L : Lk) (n : Nat) : Value := match tyNm n with
  | some s => .type s
  | none => .ref (L.ca (n - 100))
/-- what makes the class at C the type of its instances -/
structure InsC (K : PySem.W.Frag) (C : Addr) : Prop where
  cl : Cls K C
  ha : PySem.W.findIn K (.ref C) "__class__" = some (some (.builtin "object.__class__"))
  hn : PySem.W.specialIn K (.builtin "object.__class__") "__get__" = some (some (.builtin "getset_descriptor.__get__"))
  htk : PySem.W.takesIn K (.builtin "object.__class__") = some true
  hm : PySem.W.mroIn K C (.type "object") = some true
def Subs (K : PySem.W.Frag) (L : Lk) (T : Tab) : Prop := ∀ c n b, T.sub c n = some b → InsC K (L.ca c) ∧ PySem.W.kitOne K (.ref (L.ca c)) (clsU L n) = some b
/-- no built-in value is an instance of the class at C -/
def OwnC (K : PySem.W.Frag) (C : Addr) : Prop := ∀ s, s ∈ ["NoneType", "bool", "int", "str", "tuple", "list", "dict"] → PySem.W.kitOne K (.type s) (.ref C) = some false
theorem InsC.tyx {L : Lk} {K : PySem.W.Frag} {H : Hp} {C a dx : Addr} {fs : List (Str × V)} (h : InsC K C) (e : H a = some (.ins C dx fs)) : TyX K H (.ref a) (.ref C) := .base (.ins e h.cl h.ha h.hn h.htk h.hm)
theorem isType_ok (hK : K = L.K) (io : Subs K L T) {k : Nat} {nm : String} (hn : tyNm k = some nm) {d : D} {v : V} {b : Bool} (c : Core L w S H) (h : RepC L w H d v) (e : isType T k d = some b) : TyX K H v (tyV L d) ∧ PySem.W.kitOne K (tyV L d) (.type nm) = some b := by
  subst hK
  have key : ∀ {t : String} {v : V}, TyX L.K H v (.type t) → kitB t nm = some b → TyX L.K H v (.type t) ∧ PySem.W.kitOne L.K (.type t) (.type nm) = some b := fun ty q => ⟨ty, kit_ty q⟩
  have lt : k < 5 := by
    match k, hn with
    | 0, _ => omega
    | 1, _ => omega
    | 2, _ => omega
    | 3, _ => omega
    | 4, _ => omega
  cases d with
  | non =>
    cases h.non
    refine key (t := "NoneType") (.base .non) ?_
    match k, hn, e, lt with
    | 0, rfl, rfl, _ => decide +kernel
    | 1, rfl, rfl, _ => decide +kernel
    | 2, rfl, rfl, _ => decide +kernel
    | 3, rfl, rfl, _ => decide +kernel
    | 4, rfl, rfl, _ => decide +kernel
  | bl x =>
    cases h.bl
    refine key (t := "bool") (.base (.bl x)) ?_
    match k, hn, e, lt with
    | 0, rfl, rfl, _ => decide +kernel
    | 1, rfl, rfl, _ => decide +kernel
    | 2, rfl, rfl, _ => decide +kernel
    | 3, rfl, rfl, _ => decide +kernel
    | 4, rfl, rfl, _ => decide +kernel
  | int x =>
    cases h.int
    refine key (t := "int") (.base (.int x)) ?_
    match k, hn, e, lt with
    | 0, rfl, rfl, _ => decide +kernel
    | 1, rfl, rfl, _ => decide +kernel
    | 2, rfl, rfl, _ => decide +kernel
    | 3, rfl, rfl, _ => decide +kernel
    | 4, rfl, rfl, _ => decide +kernel
  | str x =>
    obtain ⟨rfl, _⟩ := h.str
    refine key (t := "str") (.base (.str _)) ?_
    match k, hn, e, lt with
    | 0, rfl, rfl, _ => decide +kernel
    | 1, rfl, rfl, _ => decide +kernel
    | 2, rfl, rfl, _ => decide +kernel
    | 3, rfl, rfl, _ => decide +kernel
    | 4, rfl, rfl, _ => decide +kernel
  | tup x =>
    obtain ⟨a, vs, rfl, q, _⟩ := h.tup c
    refine key (t := "tuple") (SqT.tyx q) ?_
    match k, hn, e, lt with
    | 0, rfl, rfl, _ => decide +kernel
    | 1, rfl, rfl, _ => decide +kernel
    | 2, rfl, rfl, _ => decide +kernel
    | 3, rfl, rfl, _ => decide +kernel
    | 4, rfl, rfl, _ => decide +kernel
  | lst x =>
    obtain ⟨a, vs, rfl, q, _⟩ := h.lst c
    refine key (t := "list") (.base (.lst q)) ?_
    match k, hn, e, lt with
    | 0, rfl, rfl, _ => decide +kernel
    | 1, rfl, rfl, _ => decide +kernel
    | 2, rfl, rfl, _ => decide +kernel
    | 3, rfl, rfl, _ => decide +kernel
    | 4, rfl, rfl, _ => decide +kernel
  | dic ks x =>
    obtain ⟨a, vs, rfl, q, _⟩ := h.dic c
    refine key (t := "dict") (.base (.dK q)) ?_
    match k, hn, e, lt with
    | 0, rfl, rfl, _ => decide +kernel
    | 1, rfl, rfl, _ => decide +kernel
    | 2, rfl, rfl, _ => decide +kernel
    | 3, rfl, rfl, _ => decide +kernel
    | 4, rfl, rfl, _ => decide +kernel
  | obj c' ns l =>
    obtain ⟨a, dx, fs, rfl, q, _⟩ := h.obj c
    have e : T.sub c' k = some b := by
      match k, hn, e, lt with
      | 0, _, e, _ => exact e
      | 1, _, e, _ => exact e
      | 2, _, e, _ => exact e
      | 3, _, e, _ => exact e
      | 4, _, e, _ => exact e
    obtain ⟨q1, q2⟩ := io c' k b e
    have eu : clsU L k = .type nm := by unfold clsU; rw [hn]
    rw [eu] at q2
    exact ⟨q1.tyx (L := L) q, q2⟩
  | ref r =>
    match k, hn, e, lt with
    | 0, _, e, _ => cases e
    | 1, _, e, _ => cases e
    | 2, _, e, _ => cases e
    | 3, _, e, _ => cases e
    | 4, _, e, _ => cases e
  | rdc r =>
    match k, hn, e, lt with
    | 0, _, e, _ => cases e
    | 1, _, e, _ => cases e
    | 2, _, e, _ => cases e
    | 3, _, e, _ => cases e
    | 4, _, e, _ => cases e
/-- an own class -/
theorem isOwn_ok (hK : K = L.K) (io : Subs K L T) {k : Nat} (ow : OwnC K (L.ca k)) {d : D} {v : V} {b : Bool} (c : Core L w S H) (h : RepC L w H d v) (e : isType T (100 + k) d = some b) : TyX K H v (tyV L d) ∧ PySem.W.kitOne K (tyV L d) (.ref (L.ca k)) = some b := by
  subst hK
  have ne : ∀ n, n < 100 → 100 + k ≠ n := fun n h => by omega
  have key : ∀ {s : String}, s ∈ ["NoneType", "bool", "int", "str", "tuple", "list", "dict"] → TyX L.K H v (.type s) → some false = some b → TyX L.K H v (.type s) ∧ PySem.W.kitOne L.K (.type s) (.ref (L.ca k)) = some b := fun m ty q => ⟨ty, by rw [← q]; exact ow _ m⟩
  cases d with
  | non =>
    cases h.non
    exact key (s := "NoneType") (by simp) (.base .non) (by rw [← e]; unfold isType; split <;> first | rfl | (rename_i q _; exact absurd q (ne _ (by decide))) | simp_all)
  | bl x =>
    cases h.bl
    exact key (s := "bool") (by simp) (.base (.bl x)) (by rw [← e]; unfold isType; split <;> first | rfl | (rename_i q _; exact absurd q (ne _ (by decide))) | simp_all)
  | int x =>
    cases h.int
    exact key (s := "int") (by simp) (.base (.int x)) (by rw [← e]; unfold isType; split <;> first | rfl | (rename_i q _; exact absurd q (ne _ (by decide))) | simp_all)
  | str x =>
    obtain ⟨rfl, _⟩ := h.str
    exact key (s := "str") (by simp) (.base (.str _)) (by rw [← e]; unfold isType; split <;> first | rfl | (rename_i q _; exact absurd q (ne _ (by decide))) | simp_all)
  | tup x =>
    obtain ⟨a, vs, rfl, q, _⟩ := h.tup c
    exact key (s := "tuple") (by simp) (SqT.tyx q) (by rw [← e]; unfold isType; split <;> first | rfl | (rename_i q _; exact absurd q (ne _ (by decide))) | simp_all)
  | lst x =>
    obtain ⟨a, vs, rfl, q, _⟩ := h.lst c
    exact key (s := "list") (by simp) (.base (.lst q)) (by rw [← e]; unfold isType; split <;> first | rfl | (rename_i q _; exact absurd q (ne _ (by decide))) | simp_all)
  | dic ks x =>
    obtain ⟨a, vs, rfl, q, _⟩ := h.dic c
    exact key (s := "dict") (by simp) (.base (.dK q)) (by rw [← e]; unfold isType; split <;> first | rfl | (rename_i q _; exact absurd q (ne _ (by decide))) | simp_all)
  | obj c' ns l =>
    obtain ⟨a, dx, fs, rfl, q, _⟩ := h.obj c
    have e : T.sub c' (100 + k) = some b := by
      rw [← e]
      unfold isType
      split <;> first | rfl | (rename_i q _; exact absurd q (ne _ (by decide))) | simp_all
    obtain ⟨q1, q2⟩ := io c' (100 + k) b e
    have eu : clsU L (100 + k) = .ref (L.ca k) := by
      unfold clsU
      have : tyNm (100 + k) = none := by unfold tyNm; split <;> first | rfl | (rename_i q; exact absurd q (ne _ (by decide))) | simp_all
      rw [this]
      show Value.ref (L.ca (100 + k - 100)) = _
      rw [Nat.add_sub_cancel_left]
    rw [eu] at q2
    exact ⟨q1.tyx (L := L) q, q2⟩
  | ref r =>
    exfalso
    unfold isType at e
    split at e <;> simp_all
  | rdc r =>
    exfalso
    unfold isType at e
    split at e <;> simp_all
def tyNms : List Nat → Option (List String)
  | [] => some []
  | k :: ks => match tyNm k, tyNms ks with
    | some n, some ns => some (n :: ns)
    | _, _ => none
/-- one value's type: whatever is asked -/
theorem isAny_ok (hK : K = L.K) (io : Subs K L T) {d : D} {v : V} (c : Core L w S H) (h : RepC L w H d v) : ∀ {ks : List Nat} {ns : List String} {b : Bool}, tyNms ks = some ns → ks ≠ [] → isAny T d ks = some b → TyX K H v (tyV L d) ∧ PySem.W.kitAny K (tyV L d) (ns.map Value.type) = some b
  | [], ns, b, _, hne, _ => absurd rfl hne
  | k :: ks, ns, b, hn, _, e => by
    unfold tyNms at hn
    cases h1 : tyNm k with
    | none => rw [h1] at hn; cases hn
    | some nm =>
      rw [h1] at hn
      cases h2 : tyNms ks with
      | none => rw [h2] at hn; cases hn
      | some ns' =>
        rw [h2] at hn
        cases hn
        unfold isAny at e
        cases h3 : isType T k d with
        | none => rw [h3] at e; cases e
        | some b' =>
          rw [h3] at e
          obtain ⟨ty, kt⟩ := isType_ok hK io h1 c h h3
          cases b' with
          | true =>
            cases e
            exact ⟨ty, by
              show PySem.W.kitAny K _ (.type nm :: ns'.map Value.type) = some true
              unfold PySem.W.kitAny
              rw [kt]⟩
          | false =>
            by_cases hks : ks = []
            · subst hks
              cases h2
              cases e
              exact ⟨ty, by
                show PySem.W.kitAny K _ [.type nm] = some false
                unfold PySem.W.kitAny
                rw [kt]
                exact kitAny_nil⟩
            · obtain ⟨ty2, k2⟩ := isAny_ok hK io c h h2 hks e
              exact ⟨ty, kitAny_cons kt (fun _ => k2) fun z => nomatch z⟩
end
section
variable {X : Cx} {P : Pr} {md : Md} {pos p p2 : Pos} {w w1 : Wd} {g : Ev} {σ : L2.St} {H H1 : Hp} {S : Store} {Q : VK}
/-- the classes' names as arguments -/
def tyArgs : List String → TA
  | [] => tNil
  | n :: ns => tCons (tC (.ty n)) (tyArgs ns)
theorem tyArgs_of : ∀ {ns : List String} {σ : L2.St} {H : Hp} {R : List V → Hp → Prop}, R (ns.map V.ty) H → tyArgs ns σ H R
  | [], σ, H, R, h => h
  | n :: ns, σ, H, R, h => tyArgs_of (ns := ns) (R := fun xs H2 => R (V.ty n :: xs) H2) h
theorem isi_read {d : DE} {ks : List Nat} {ns : List String} (hK : X.K = P.L.K) (io : Subs X.K P.L P.T) (hm : md = .val ∨ md = .top) (hn : tyNms ks = some ns) (hne : ks ≠ []) (h : tM P md (.isi d ks) σ H Q) :
    tM P .top d σ H fun v H1 => ∃ (t : Value) (b : Bool), PySem.W.kitAny X.K t (ns.map Value.type) = some b ∧ (TyX X.K H1 v t ∧ Q (.bl b) H1) ∧ ∀ p, H1 p = none → TyX X.K (upd H1 p (.tup (ns.map V.ty))) v t ∧ Q (.bl b) (upd H1 p (.tup (ns.map V.ty))) := by
  obtain ⟨w, g, S, W, h⟩ := h
  unfold ev at h
  refine ⟨w, g, S, W, ?_⟩
  cases ec : ev P.T P.cf d g S with
  | bad => rw [ec] at h; exact h
  | exc y S2 => rw [ec] at h; exact h
  | ok x S1 =>
    rw [ec] at h
    simp only [Res.bind_ok] at h
    intro v w1 H1 W1 l1 r1
    cases ea : isAny P.T (rd S1 x) ks with
    | none => rw [ea] at h; exact h.elim
    | some b =>
      rw [ea] at h
      obtain ⟨ty, kt⟩ := isAny_ok hK io W1.core (RepT.read r1 W1.core) hn hne ea
      refine ⟨tyV P.L (rd S1 x), b, kt, ⟨ty, h _ w1 H1 W1 l1 (ArgR1.of hm (by simp only [Rep]))⟩, fun p hp => ?_⟩
      have c2 := W1.core.laid (o := .tup (ns.map V.ty)) hp
      have l2 := Le.laid (o := .tup (ns.map V.ty)) W1.core hp
      exact ⟨(isAny_ok hK io c2 (RepT.read (RepT.le r1 l2) c2) hn hne ea).1, h _ _ _ (W1.step c2 l2) (l1.trans l2) (ArgR1.of hm (by simp only [Rep]))⟩
theorem kitAny_one {K : PySem.W.Frag} {t c : Value} {b : Bool} (h : PySem.W.kitAny K t [c] = some b) : PySem.W.kitOne K t c = some b := by
  unfold PySem.W.kitAny at h
  cases e : PySem.W.kitOne K t c with
  | none => rw [e] at h; cases h
  | some k =>
    rw [e] at h
    cases k with
    | true => exact h
    | false => rw [kitAny_nil] at h; exact h
theorem clsv : ∀ (ns : List String), Paired ClsV (ns.map V.ty) (ns.map Value.type)
  | [] => .nil
  | n :: ns => .cons (.ty n) (clsv ns)
/-- weaken a reading's end -/
theorem tM.imp {d : DE} {R R' : VK} (h : tM P md d σ H R) (k : ∀ v H1, R v H1 → R' v H1) : tM P md d σ H R' := by
  obtain ⟨w, g, S, W, h⟩ := h
  refine ⟨w, g, S, W, ?_⟩
  cases ec : ev P.T P.cf d g S with
  | bad => rw [ec] at h; exact h
  | exc y S2 => rw [ec] at h; exact h
  | ok x S1 => rw [ec] at h; exact fun v w1 H1 W1 l1 r1 => k v H1 (h v w1 H1 W1 l1 r1)
theorem n_isi1 {e c : Expr} {d : DE} {k : Nat} {n : String} (hK : X.K = P.L.K) (io : Subs X.K P.L P.T) (hm : md = .val ∨ md = .top) (hg : Gl X "isinstance") (hmg : X.mg "isinstance" = none) (hn : tyNm k = some n) (he : PE X e (tM P .top d)) (hc : PE X c (tC (.ty n))) (s1 : notStar e = true) (s2 : notStar c = true) :
    PE X (.Call (.Name "isinstance" p) [e, c] [] pos) (tM P md (.isi d [k])) := by
  have hn' : tyNms [k] = some [n] := by unfold tyNms; rw [hn]; rfl
  refine PE.imp (pe_callB call_isi hg hmg (by decide +kernel) (pa_cons he (pa_cons hc pa_nil (star_of s2)) (star_of s1)) (by decide) (by decide) (star_of s1) (star_any (by rw [List.all_cons, s2]; rfl) pos)) fun σ H Q h => ?_
  refine (isi_read hK io hm hn' (by simp) h).imp fun v H1 ⟨t, b, kt, ⟨ty, q⟩, _⟩ => ?_
  exact ⟨v, .ty n, _, _, b, rfl, .ty n, ty, kitAny_one kt, q⟩
theorem n_isi {e : Expr} {es : List Expr} {x1 : Nat} {d : DE} {ks : List Nat} {ns : List String} (hK : X.K = P.L.K) (io : Subs X.K P.L P.T) (hm : md = .val ∨ md = .top) (hg : Gl X "isinstance") (hmg : X.mg "isinstance" = none) (hn : tyNms ks = some ns) (hne : ks ≠ []) (hl : ns.length ≤ line) (he : PE X e (tM P .top d)) (hc : PA X es (tyArgs ns)) (s1 : notStar e = true) :
    PE X (.Call (.Name "isinstance" p) [e, .Tuple es x1 p2] [] pos) (tM P md (.isi d ks)) := by
  refine PE.imp (pe_callB call_isiT hg hmg (by decide +kernel) (pa_cons he (pa_cons (pe_tup hc) pa_nil (star_of rfl)) (star_of s1)) (by decide) (by decide) (star_of s1) (star_any (es := [.Tuple es x1 p2]) rfl pos)) fun σ H Q h => ?_
  refine (isi_read hK io hm hn hne h).imp fun v H1 ⟨t, b, kt, _, q⟩ => ?_
  refine tyArgs_of (R := fun xs H2 => xs.length ≤ sizeLine ∧ ∀ p, H2 p = none → rIsiT X.K [v, .ref p] (upd H2 p (.tup xs)) Q) ⟨by rw [List.length_map]; exact line_le hl, fun p hp => ?_⟩
  obtain ⟨ty, q⟩ := q p hp
  exact ⟨v, p, ns.map V.ty, _, ns.map Value.type, b, rfl, upd_same, clsv ns, ty, kt, q⟩
/-- isinstance(e, C), an own class -/
theorem n_isiO {e c : Expr} {d : DE} {k : Nat} (hK : X.K = P.L.K) (io : Subs X.K P.L P.T) (ow : OwnC X.K (P.L.ca k)) (hm : md = .val ∨ md = .top) (hg : Gl X "isinstance") (hmg : X.mg "isinstance" = none) (he : PE X e (tM P .top d)) (hc : PE X c (tC (.ref (P.L.ca k)))) (s1 : notStar e = true) (s2 : notStar c = true) :
    PE X (.Call (.Name "isinstance" p) [e, c] [] pos) (tM P md (.isi d [100 + k])) := by
  refine PE.imp (pe_callB call_isi hg hmg (by decide +kernel) (pa_cons he (pa_cons hc pa_nil (star_of s2)) (star_of s1)) (by decide) (by decide) (star_of s1) (star_any (by rw [List.all_cons, s2]; rfl) pos)) fun σ H Q h => ?_
  obtain ⟨w, g, S, W, h⟩ := h
  unfold ev at h
  refine ⟨w, g, S, W, ?_⟩
  cases ec : ev P.T P.cf d g S with
  | bad => rw [ec] at h; exact h
  | exc y S2 => rw [ec] at h; exact h
  | ok x S1 =>
    rw [ec] at h
    simp only [Res.bind_ok] at h
    intro v w1 H1 W1 l1 r1
    unfold isAny isAny at h
    cases ea : isType P.T (100 + k) (rd S1 x) with
    | none => rw [ea] at h; exact h.elim
    | some b =>
      obtain ⟨ty, kt⟩ := isOwn_ok hK io ow W1.core (RepT.read r1 W1.core) ea
      rw [ea] at h
      refine ⟨v, .ref (P.L.ca k), _, _, b, rfl, .own _, ty, kt, ?_⟩
      cases b with
      | true => exact h _ w1 H1 W1 l1 (ArgR1.of hm (by simp only [Rep]))
      | false => exact h _ w1 H1 W1 l1 (ArgR1.of hm (by simp only [Rep]))
/-! ### built-ins -/
theorem ArgR.reads {L : Lk} {w : Wd} {S : Store} {H : Hp} (c : Core L w S H) : ∀ {ms : List Md} {ds : List D} {vs : List V}, ArgR L w H ms ds vs → (∀ m, m ∈ ms → m = .top) → RepCs L w H (ds.map (rd S)) vs
  | _, [], vs, h, _ => by unfold ArgR at h; rw [h]; rfl
  | [], _ :: _, vs, h, _ => by simp [ArgR] at h
  | md :: ms, d :: ds, vs, h, hm => by
    simp only [ArgR] at h
    obtain ⟨v, r, rfl, h1, h2⟩ := h
    rw [hm md List.mem_cons_self] at h1
    simp only [List.map_cons, RepCs]
    exact ⟨v, r, rfl, RepT.read h1 c, h2.reads c fun m q => hm m (List.mem_cons_of_mem _ q)⟩
theorem n_bi {b : BI} {x : Str} {e : Expr} {es : List Expr} {l : DA} {ms : List Md} (hK : X.K = P.L.K) (hc : X.calm = true) (hu : X.A.units + 200 < cLine) (hgd : X.A.guards = some []) (hm : md = .val ∨ md = .top) (hx : x = b.nm) (hg : Gl X x) (hmg : X.mg x = none) (ha : PA X (e :: es) (tAr P ms l))
    (ht : ∀ m, m ∈ ms → m = .top) (s1 : notStar e = true) (s2 : es.all notStar = true) : PE X (.Call (.Name x p) (e :: es) [] pos) (tM P md (.bi b l)) := by
  have ok := bi_ok (P := P) hK hc hu hgd b
  have main : ∀ σ H Q, tM P md (.bi b l) σ H Q → tCB (fun xs H Q => ∃ w S ds r, Core P.L w S H ∧ RepCs P.L w H ds xs ∧ biD b ds = some r ∧ ∀ v w' H', Core P.L w' S H' → Le w H w' H' → Rep P.L w' r v → Q v H') (tAr P ms l) σ H Q := fun σ H Q h => by
    obtain ⟨w, g, S, W, h⟩ := h
    unfold ev at h
    refine ⟨w, g, S, W, ?_⟩
    cases ec : eva P.T P.cf l g S with
    | bad => rw [ec] at h; exact h
    | exc y S2 => rw [ec] at h; exact h
    | ok ds S1 =>
      rw [ec] at h
      simp only [Res.bind_ok] at h
      intro vs w1 H1 W1 l1 r1
      cases eb : biD b (ds.map (rd S1)) with
      | none => rw [eb] at h; exact h.elim
      | some r =>
        rw [eb] at h
        exact ⟨w1, S1, _, r, W1.core, r1.reads W1.core ht, eb, fun v' w' H' c' l' r' => h v' w' H' (W1.step c' l') (l1.trans l') (ArgR1.of hm r')⟩
  subst hx
  cases b <;> first
    | exact PE.imp (pe_callB ok hg hmg (by decide +kernel) ha (by decide) (by decide) (star_of s1) (star_any s2 pos)) main
    | exact PE.imp (pe_callTy ok hg hmg (by decide +kernel) ha (by decide) (by decide) (star_of s1) (star_any s2 pos)) main
/-- list(a): new -/
theorem n_list {e : Expr} {d : DE} (hK : X.K = P.L.K) (hg : Gl X "list") (hmg : X.mg "list" = none) (he : PE X e (tM P .top d)) (s1 : notStar e = true) : PE X (.Call (.Name "list" p) [e] [] pos) (tF P (.bi .list (.cons d .nil))) := by
  refine PE.imp (pe_callTy call_list_of hg hmg (by decide +kernel) (pa_cons he pa_nil (star_of s1)) (by decide) (by decide) (star_of s1) rfl) fun σ H Q h => ?_
  obtain ⟨w, g, S, W, h⟩ := h
  unfold ev eva eva at h
  refine ⟨w, g, S, W, ?_⟩
  cases ec : ev P.T P.cf d g S with
  | bad => rw [ec] at h; exact h
  | exc y S2 => rw [ec] at h; exact h
  | ok x S1 =>
    rw [ec] at h
    simp only [Res.bind_ok] at h
    intro v w1 H1 W1 l1 r1
    show ∃ p ys, [v] = [V.ref p] ∧ _
    have rc := RepT.read r1 W1.core
    cases eq : (rd S1 x).seq with
    | none =>
      have : biD .list [rd S1 x] = none := by show (rd S1 x).seq.map D.lst = none; rw [eq]; rfl
      rw [show ([x].map (rd S1)) = [rd S1 x] from rfl, this] at h
      exact h.elim
    | some l =>
      have : biD .list [rd S1 x] = some (.lst l) := by show (rd S1 x).seq.map D.lst = _; rw [eq]; rfl
      rw [show ([x].map (rd S1)) = [rd S1 x] from rfl, this] at h
      obtain ⟨a, vs, rfl, q, rr⟩ := sqe_of W1.core eq rc
      refine ⟨a, vs, rfl, ?_, fun p hp => h p _ w1 H1 W1 l1 hp ⟨vs, upd_same, rr, rc.len eq⟩⟩
      unfold SqE at q
      rw [← hK] at q
      split at q
      · exact .inr q
      · exact .inl q
/-! ### calls -/
def PostC (L : Lk) (w : Wd) (H : Hp) (Q : VK) (E : XK) : Res D → Prop
  | .ok d S' => ∀ v w' H', Core L w' S' H' → Le w H w' H' → Rep L w' d v → Q v H'
  | .exc e S' => ∀ w' H' cls dx, Core L w' S' H' → Le w H w' H' → ExR L w' e cls dx → E cls dx H'
  | .bad => False
/-- what stands at g is called as the def f, its written arguments by the modes ms -/
structure Callee (X : Cx) (P : Pr) (f : Nat) (g : Addr) (ms : List Md) : Prop where
  calls : Calls X g fun σ vs H Q => ∃ w S ds, Core P.L w S H ∧ ArgR P.L w H ms ds vs ∧ ds.length = ms.length ∧ PostC P.L w H Q (fun cls d H' => P.W cls d σ H') (P.cf f ds S)
  kp : PySem.W.keepIn X.K (.ref g) = true
theorem call_read {f : Nat} {l : DA} {ms : List Md} (hm : md = .val ∨ md = .top) (hl : l.len = ms.length) (h : tM P md (.call f l) σ H Q) : tAr P ms l σ H fun vs H1 => ∃ w S ds, Core P.L w S H1 ∧ ArgR P.L w H1 ms ds vs ∧ ds.length = ms.length ∧ PostC P.L w H1 Q (fun cls d H' => P.W cls d σ H') (P.cf f ds S) := by
  obtain ⟨w, g, S, W, h⟩ := h
  unfold ev at h
  refine ⟨w, g, S, W, ?_⟩
  cases ec : eva P.T P.cf l g S with
  | bad => rw [ec] at h; exact h
  | exc y S2 => rw [ec] at h; exact h
  | ok ds S1 =>
    rw [ec] at h
    simp only [Res.bind_ok] at h
    intro vs w1 H1 W1 l1 r1
    refine ⟨w1, S1, ds, W1.core, r1, (eva_len l ec).trans hl, ?_⟩
    cases ef : P.cf f ds S1 with
    | bad => rw [ef] at h; exact h
    | exc y S2 => rw [ef] at h; exact fun w' H' cls dx c' l' r' => h w' H' cls dx (W1.step c' l') (l1.trans l') r'
    | ok y S2 => rw [ef] at h; exact fun v w' H' c' l' r' => h v w' H' (W1.step c' l') (l1.trans l') (ArgR1.of hm r')
theorem n_call {f : Nat} {gA : Addr} {x : Str} {e : Expr} {es : List Expr} {l : DA} {ms : List Md} (hm : md = .val ∨ md = .top) (C : Callee X P f gA ms) (hg : Gl X x) (hmg : X.mg x = some (.ref gA)) (hdb : (x == ("__debug__" : Str)) = false) (hl : l.len = ms.length) (ha : PA X (e :: es) (tAr P ms l))
    (s1 : notStar e = true) (s2 : es.all notStar = true) : PE X (.Call (.Name x p) (e :: es) [] pos) (tM P md (.call f l)) :=
  PE.imp (pe_cl C.calls hg hmg C.kp ha hdb (star_of s1) (star_any s2 pos)) fun σ H Q h => call_read hm hl h
theorem n_call0 {f : Nat} {gA : Addr} {x : Str} (hm : md = .val ∨ md = .top) (C : Callee X P f gA []) (hg : Gl X x) (hmg : X.mg x = some (.ref gA)) (hdb : (x == ("__debug__" : Str)) = false) : PE X (.Call (.Name x p) [] [] pos) (tM P md (.call f .nil)) :=
  PE.imp (pe_cl0 C.calls hg hmg C.kp hdb) fun σ H Q h => by
    obtain ⟨w, g, S, W, h⟩ := call_read (l := .nil) (ms := []) hm rfl h
    unfold eva at h
    exact h [] w H W (Le.refl _ _) (by unfold ArgR; rfl)
end
end Zd
set_option Elab.async false
set_option linter.all false
set_option maxRecDepth 100000
set_option maxHeartbeats 2000000
/-! Statements: one lemma a node. -/
namespace Zd
open PySem PySem.Spec PyProof.Rows L2
/-- the worlds grow -/
structure Ge (w w' : Wd) : Prop where
  hs : ∀ a o, w.Hs a = some o → w'.Hs a = some o
  n : w.n ≤ w'.n
  rho : ∀ k, k < w.n → w'.rho k = w.rho k
theorem Ge.refl (w : Wd) : Ge w w := ⟨fun _ _ h => h, Nat.le_refl _, fun _ _ => rfl⟩
theorem Ge.trans {a b c : Wd} (x : Ge a b) (y : Ge b c) : Ge a c := ⟨fun p o h => y.hs p o (x.hs p o h), Nat.le_trans x.n y.n, fun k h => (y.rho k (Nat.lt_of_lt_of_le h x.n)).trans (x.rho k h)⟩
theorem Le.ge {w w' : Wd} {H H' : Hp} (l : Le w H w' H') : Ge w w' := ⟨l.hs, l.n, l.rho⟩
/-- the fixed things with other modes -/
def Pr.md (P : Pr) (M : Ms) : Pr := { P with M := M }
def PostS (P : Pr) (M' Mb : Ms) (w : Wd) (D : Ends) : SR → Prop
  | .nx g' S' => ∀ σ' w' H', World P.L M' P.w0 P.H0 w' g' S' σ' H' → Ge w w' → D.nx σ' H'
  | .rt d S' => ∀ v w' H', Core P.L w' S' H' → Le P.w0 P.H0 w' H' → Rep P.L w' d v → D.rt v H'
  | .bk g' S' => ∀ σ' w' H', World P.L Mb P.w0 P.H0 w' g' S' σ' H' → Ge w w' → D.bk σ' H'
  | .ct g' S' => ∀ σ' w' H', World P.L Mb P.w0 P.H0 w' g' S' σ' H' → Ge w w' → D.ct σ' H'
  | .ex e g' S' => ∀ σ' w' H' cls dx, Core P.L w' S' H' → Le P.w0 P.H0 w' H' → ExR P.L w' e cls dx → P.W cls dx σ' H'
  | .bad => False
def tSt (P : Pr) (M' Mb : Ms) (s : DS) : TS := fun D σ H => ∃ w g S, P.Wo w g S σ H ∧ PostS P M' Mb w D (exs P.T P.cf s g S)
def tBl (P : Pr) (M' Mb : Ms) (b : DB) : TS := fun D σ H => ∃ w g S, P.Wo w g S σ H ∧ PostS P M' Mb w D (exb P.T P.cf b g S)
theorem PostS.ge {P : Pr} {M' Mb : Ms} {w w1 : Wd} {D : Ends} {r : SR} (l : Ge w w1) (h : PostS P M' Mb w D r) : PostS P M' Mb w1 D r := by
  cases r with
  | nx g S => exact fun σ' w' H' W q => h σ' w' H' W (l.trans q)
  | rt d S => exact h
  | bk g S => exact fun σ' w' H' W q => h σ' w' H' W (l.trans q)
  | ct g S => exact fun σ' w' H' W q => h σ' w' H' W (l.trans q)
  | ex e g S => exact h
  | bad => exact h
section
variable {X : Cx} {P : Pr} {M' Mb : Ms} {pos p p2 apos : Pos} {w w1 : Wd} {g : Ev} {σ : L2.St} {H H1 : Hp} {S : Store} {D : Ends}
theorem ex_of {e : Zd.D} {S' : Store} (h : PostS P M' Mb w D (.ex e g S')) : P.X w g σ H e S' := fun w' H' cls dx W l r => h σ w' H' cls dx W.core W.le0 r
/-- a statement that begins by an expression -/
theorem go_read {md : Md} {d : DE} {f : Zd.D → Store → SR} {R : VK} (W : P.Wo w g S σ H) (h : PostS P M' Mb w D ((ev P.T P.cf d g S).go g f))
    (k : ∀ x S1 v w1 H1, P.Wo w1 g S1 σ H1 → Le w H w1 H1 → ArgR1 P.L w1 H1 md x v → PostS P M' Mb w1 D (f x S1) → R v H1) : tM P md d σ H R := by
  refine ⟨w, g, S, W, ?_⟩
  cases ec : ev P.T P.cf d g S with
  | bad => rw [ec] at h; exact h
  | exc y S2 => rw [ec] at h; exact ex_of h
  | ok x S1 =>
    rw [ec] at h
    exact fun v w1 H1 W1 l1 r1 => k x S1 v w1 H1 W1 l1 r1 (PostS.ge l1.ge h)
theorem go_fresh {d : DE} {f : Zd.D → Store → SR} {R : VK} (W : P.Wo w g S σ H) (h : PostS P M' Mb w D ((ev P.T P.cf d g S).go g f))
    (k : ∀ x S1 q o w1 H1, P.Wo w1 g S1 σ H1 → Le w H w1 H1 → H1 q = none → Con P.L w1 (upd H1 q o) x q → PostS P M' Mb w1 D (f x S1) → R (.ref q) (upd H1 q o)) : tF P d σ H R := by
  refine ⟨w, g, S, W, ?_⟩
  cases ec : ev P.T P.cf d g S with
  | bad => rw [ec] at h; exact h
  | exc y S2 => rw [ec] at h; exact ex_of h
  | ok x S1 =>
    rw [ec] at h
    exact fun q o w1 H1 W1 l1 hq hc => k x S1 q o w1 H1 W1 l1 hq hc (PostS.ge l1.ge h)
/-! ### blocks -/
theorem b_nil : PSs X [] (tBl P P.M Mb .nil) := ⟨fun pins s σ H D I h => by
  obtain ⟨w, g, S, W, h⟩ := h
  unfold exb at h
  exact pss_nil.run pins s σ H D I (h σ w H W (Ge.refl _))⟩
theorem seq_post {M1 : Ms} {s : DS} {b : DB} (h : PostS P M' Mb w D (exb P.T P.cf (.cons s b) g S)) : PostS P M1 Mb w { D with nx := tBl (P.md M1) M' Mb b D } (exs P.T P.cf s g S) := by
  unfold exb at h
  cases es : exs P.T P.cf s g S with
  | nx g1 S1 =>
    rw [es] at h
    exact fun σ' w' H' W q => ⟨w', g1, S1, W, PostS.ge q h⟩
  | rt d S1 => rw [es] at h; exact h
  | bk g1 S1 => rw [es] at h; exact h
  | ct g1 S1 => rw [es] at h; exact h
  | ex e g1 S1 => rw [es] at h; exact h
  | bad => rw [es] at h; exact h
theorem b_cons {M1 : Ms} {st : Stmt} {sts : List Stmt} {s : DS} {b : DB} (h1 : PS X st (tSt P M1 Mb s)) (h2 : PSs X sts (tBl (P.md M1) M' Mb b)) : PSs X (st :: sts) (tBl P M' Mb (.cons s b)) := ⟨fun pins s0 σ H D I h => by
  obtain ⟨w, g, S, W, h⟩ := h
  exact (pss_cons h1 h2).run pins s0 σ H D I ⟨w, g, S, W, seq_post h⟩⟩
/-! ### small statements -/
theorem s_pas : PS X (.Pass pos) (tSt P P.M Mb .pas) := PS.imp ps_pass fun D σ H h => by
  obtain ⟨w, g, S, W, h⟩ := h
  unfold exs at h
  exact h σ w H W (Ge.refl _)
theorem s_doc {x : Str} {j : Nat} : PS X (.Expr (.Constant (.str x) j p) pos) (tSt P P.M Mb .pas) := PS.imp ps_doc fun D σ H h => by
  obtain ⟨w, g, S, W, h⟩ := h
  unfold exs at h
  exact h σ w H W (Ge.refl _)
theorem s_brk : PS X (.Break pos) (tSt P M' P.M .brk) := PS.imp ps_break fun D σ H h => by
  obtain ⟨w, g, S, W, h⟩ := h
  unfold exs at h
  exact h σ w H W (Ge.refl _)
theorem s_cnt : PS X (.Continue pos) (tSt P M' P.M .cnt) := PS.imp ps_continue fun D σ H h => by
  obtain ⟨w, g, S, W, h⟩ := h
  unfold exs at h
  exact h σ w H W (Ge.refl _)
theorem s_never {st : Stmt} : PS X st (tSt P M' Mb .never) := PS.imp ps_never fun D σ H h => by
  obtain ⟨w, g, S, W, h⟩ := h
  unfold exs at h
  exact h
theorem s_retn : PS X (.Return none pos) (tSt P M' Mb .retn) := PS.imp ps_retN fun D σ H h => by
  obtain ⟨w, g, S, W, h⟩ := h
  unfold exs at h
  exact h _ w H W.core W.le0 (by simp only [Rep])
theorem s_ret {e : Expr} {d : DE} (he : PE X e (tM P .val d)) : PS X (.Return (some e) pos) (tSt P M' Mb (.ret d)) := PS.imp (ps_ret he) fun D σ H h => by
  obtain ⟨w, g, S, W, h⟩ := h
  unfold exs at h
  exact go_read W h fun x S1 v w1 H1 W1 l1 r1 h1 => h1 v w1 H1 W1.core W1.le0 r1
theorem s_ex {e : Expr} {d : DE} (he : PE X e (tM P .top d)) (hs : swapsWith e none pos.line X.env = pure false) : PS X (.Expr e pos) (tSt P P.M Mb (.ex d)) := PS.imp (ps_expr he hs) fun D σ H h => by
  obtain ⟨w, g, S, W, h⟩ := h
  unfold exs at h
  exact go_read W h fun x S1 v w1 H1 W1 l1 r1 h1 => h1 σ w1 H1 W1 (Ge.refl _)
/-! ### a thing of one's own becomes a value -/
theorem World.freeze {L : Lk} {M : Ms} {w0 : Wd} {H0 : Hp} (W : World L M w0 H0 w g S σ H) {i : Nat} (hm : (M i).mine = true) : ∃ w', World L (M.put i .val) w0 H0 w' g S σ H ∧ Ge w w' := by
  have pin : ∀ k, M.put i .val k = .slf → k = 0 ∧ ∃ a, w0.sf = some a ∧ ∀ d, g[0]? = some (some d) → σ[0]? = some (some (V.ref a)) := fun k hk => by
    have hk : (if k = i then Md.val else M k) = .slf := hk
    split at hk
    · cases hk
    · exact W.pin k hk
  by_cases hg : ∃ d, g[i]? = some (some d)
  · obtain ⟨d, hg⟩ := hg
    obtain ⟨v, e, r⟩ := W.slot i d hg
    obtain ⟨a, rfl, ⟨h1, h2, h3⟩, h0⟩ := slot_mine hm r
    obtain ⟨o, ho⟩ := h2.there
    have sub : ∀ b u, w.Hs b = some u → (w.add a o).Hs b = some u := fun b u h => by
      show upd w.Hs a o b = some u
      rw [upd_ne (fun e => by subst e; rw [h1] at h; cases h)]
      exact h
    have ge : Ge w (w.add a o) := ⟨sub, Nat.le_refl _, fun _ _ => rfl⟩
    have at_ : ∀ b, b ≠ a → (w.add a o).Hs b = w.Hs b := fun b hb => upd_ne hb
    have core : Core L (w.add a o) S H := ⟨fun b u h => by
        by_cases e : b = a
        · subst e
          have h' : upd w.Hs b o b = some u := h
          rw [upd_same] at h'
          cases h'
          exact ho
        · rw [at_ b e] at h
          exact W.core.sub b u h, W.core.len, fun k d h => by
        obtain ⟨q1, q2⟩ := W.core.st k d h
        have hk : k < w.n := by rw [← W.core.len]; exact (List.getElem?_eq_some_iff.mp h).1
        refine ⟨?_, q2.of (w' := w.add a o) sub (Nat.le_refl _) (fun _ _ => rfl) rfl⟩
        show (w.add a o).Hs (w.rho k) = none
        rw [at_ _ (h3 k hk)]
        exact q1, W.core.inj⟩
    have rep : Rep L (w.add a o) d (.ref a) := by
      have h2 := h2.of (w' := w.add a o) sub (Nat.le_refl _) (fun _ _ => rfl) rfl
      have e2 : (w.add a o).Hs a = some o := upd_same
      cases d <;> simp only [Con] at h2 <;> simp only [Rep]
      · obtain ⟨vs, q, r, z⟩ := h2
        rw [ho] at q
        cases q
        exact ⟨a, vs, rfl, e2, r, z⟩
      · obtain ⟨kvs, q, hk, r, z⟩ := h2
        rw [ho] at q
        cases q
        exact ⟨a, kvs, rfl, e2, hk, r, z⟩
      · obtain ⟨dx, fs, q, hk, r⟩ := h2
        rw [ho] at q
        cases q
        exact ⟨a, dx, fs, rfl, e2, hk, r⟩
      · obtain ⟨es, e1, q, hk, r⟩ := h2
        rw [ho] at q
        cases q
        exact ⟨a, es, rfl, e1, e2, hk, r⟩
    have own : ∀ {x : Zd.D} {b : Addr}, Own L w H x b → b ≠ a → Own L (w.add a o) H x b := fun {x b} q nb => ⟨by rw [at_ b nb]; exact q.1, q.2.1.of (w' := w.add a o) sub (Nat.le_refl _) (fun _ _ => rfl) rfl, q.2.2⟩
    refine ⟨w.add a o, ⟨core, ⟨fun b u h => sub b u (W.le0.hs b u h), W.le0.n, W.le0.rho, W.le0.keep, W.le0.there, fun b u h hn => ?_, W.le0.new⟩, W.len, fun j x hj => ?_, pin, fun x y b ne mx my sx sy gx gy => ?_⟩, ge⟩
    · rw [at_ b (fun e => by subst e; rw [h0] at h; cases h)]
      exact W.le0.out b u h hn
    · obtain ⟨u, e1, r1⟩ := W.slot j x hj
      by_cases ji : j = i
      · subst ji
        rw [hg] at hj
        cases hj
        refine ⟨_, e, ?_⟩
        show SlotR L (w.add a o) H0 H (if j = j then .val else M j) d _
        rw [if_pos rfl]
        exact rep
      · refine ⟨u, e1, ?_⟩
        show SlotR L (w.add a o) H0 H (if j = i then .val else M j) x u
        rw [if_neg ji]
        cases mj : M j with
        | val => rw [mj] at r1; exact Rep.mono sub (Nat.le_refl _) (fun _ _ => rfl) _ _ r1
        | own =>
          rw [mj] at r1
          obtain ⟨b, eb, q, q0⟩ := r1
          subst eb
          exact ⟨b, rfl, own q (fun z => by subst z; exact W.apart j i b ji (mine_own mj) hm e1 e ⟨_, hj⟩ ⟨_, hg⟩), q0⟩
        | slf =>
          rw [mj] at r1
          obtain ⟨b, eb, q, q0⟩ := r1
          subst eb
          exact ⟨b, rfl, own q (fun z => by subst z; exact W.apart j i b ji (by rw [mj]; rfl) hm e1 e ⟨_, hj⟩ ⟨_, hg⟩), q0⟩
        | top =>
          rw [mj] at r1
          rcases r1 with r1 | ⟨b, eb, q, ob, q0⟩
          · exact .inl (Rep.mono sub (Nat.le_refl _) (fun _ _ => rfl) _ _ r1)
          · exact .inr ⟨b, eb, own q (fun z => by subst z; rw [h0] at q0; cases q0), ob, q0⟩
        | scr => rw [mj] at r1; exact r1
        | cls k => rw [mj] at r1; exact r1
    · have mx : (if x = i then Md.val else M x).mine = true := mx
      have my : (if y = i then Md.val else M y).mine = true := my
      split at mx
      · cases mx
      · split at my
        · cases my
        · exact W.apart x y b ne mx my sx sy gx gy
  · refine ⟨w, ⟨W.core, W.le0, W.len, fun j x hj => ?_, pin, fun x y b ne mx my sx sy gx gy => ?_⟩, Ge.refl _⟩
    · obtain ⟨u, e1, r1⟩ := W.slot j x hj
      refine ⟨u, e1, ?_⟩
      show SlotR L w H0 H (if j = i then .val else M j) x u
      rw [if_neg (fun e : j = i => hg ⟨x, by rw [← e]; exact hj⟩)]
      exact r1
    · have mx : (if x = i then Md.val else M x).mine = true := mx
      have my : (if y = i then Md.val else M y).mine = true := my
      split at mx
      · cases mx
      · split at my
        · cases my
        · exact W.apart x y b ne mx my sx sy gx gy
theorem b_frz {i : Nat} {sts : List Stmt} {b : DB} (hm : (P.M i).mine = true) (h2 : PSs X sts (tBl (P.md (P.M.put i .val)) M' Mb b)) : PSs X sts (tBl P M' Mb (.cons (.frz i) b)) := ⟨fun pins s0 σ H D I h => by
  obtain ⟨w, g, S, W, h⟩ := h
  have h : PostS P M' Mb w D (exb P.T P.cf b g S) := by
    unfold exb at h
    have e : exs P.T P.cf (.frz i) g S = .nx g S := by unfold exs; rfl
    rw [e] at h
    exact h
  obtain ⟨w', W', l⟩ := W.freeze hm
  exact h2.run pins s0 σ H D I ⟨w', g, S, W', PostS.ge l h⟩⟩
theorem World.forget {L : Lk} {M : Ms} {w0 : Wd} {H0 : Hp} (W : World L M w0 H0 w g S σ H) (i : Nat) : World L (M.put i .val) w0 H0 w (g.set i none) S σ H where
  core := W.core
  le0 := W.le0
  len := by rw [List.length_set]; exact W.len
  slot := fun j d q => by
    rcases getset q with ⟨_, e1, _⟩ | ⟨ne, q⟩
    · cases e1
    · obtain ⟨v, e1, r⟩ := W.slot j d q
      refine ⟨v, e1, ?_⟩
      show SlotR L w H0 H (if j = i then .val else M j) d v
      rw [if_neg (Ne.symm ne)]
      exact r
  pin := fun k hk => by
    have hk : (if k = i then Md.val else M k) = .slf := hk
    split at hk
    · cases hk
    · obtain ⟨k0, a, ea, q⟩ := W.pin k hk
      refine ⟨k0, a, ea, fun d hd => ?_⟩
      rcases getset hd with ⟨_, e1, _⟩ | ⟨_, hd⟩
      · cases e1
      · exact q d hd
  apart := fun x y b ne mx my sx sy gx gy => by
    have mx : (if x = i then Md.val else M x).mine = true := mx
    have my : (if y = i then Md.val else M y).mine = true := my
    obtain ⟨dx, gx⟩ := gx
    obtain ⟨dy, gy⟩ := gy
    rcases getset gx with ⟨_, e1, _⟩ | ⟨nx, gx⟩
    · cases e1
    rcases getset gy with ⟨_, e1, _⟩ | ⟨ny, gy⟩
    · cases e1
    rw [if_neg (Ne.symm nx)] at mx
    rw [if_neg (Ne.symm ny)] at my
    exact W.apart x y b ne mx my sx sy ⟨dx, gx⟩ ⟨dy, gy⟩
/-- a slot's value is no longer known -/
theorem b_fgt {i : Nat} {sts : List Stmt} {b : DB} (h2 : PSs X sts (tBl (P.md (P.M.put i .val)) M' Mb b)) : PSs X sts (tBl P M' Mb (.cons (.fgt i) b)) := ⟨fun pins s0 σ H D I h => by
  obtain ⟨w, g, S, W, h⟩ := h
  have h : PostS P M' Mb w D (exb P.T P.cf b (g.set i none) S) := by
    unfold exb at h
    have e : exs P.T P.cf (.fgt i) g S = .nx (g.set i none) S := by unfold exs; rfl
    rw [e] at h
    exact h
  exact h2.run pins s0 σ H D I ⟨w, g.set i none, S, W.forget i, h⟩⟩
end
end Zd
set_option Elab.async false
set_option linter.all false
set_option maxRecDepth 100000
set_option maxHeartbeats 2000000
/-! Statements: stores, loops. -/
namespace Zd
open PySem PySem.Spec PyProof.Rows L2
section
variable {X : Cx} {P : Pr} {M' Mb : Ms} {pos p p2 apos : Pos} {w w1 : Wd} {g : Ev} {σ : L2.St} {H H1 : Hp} {S : Store} {D : Ends}
def notComp : Expr → Bool
  | .ListComp _ _ _ _ => false
  | .SetComp _ _ _ _ => false
  | .DictComp _ _ _ _ _ => false
  | _ => true
def notTup : Expr → Bool
  | .Tuple _ _ _ => false
  | _ => true
theorem swaps_of {e : Expr} {t : Option Expr} {n : Nat} {env : Env} (h : notComp e = true) : swapsWith e t n env = pure false := by
  cases e <;> first
    | rfl
    | (cases h)
theorem swapped_of {t e : Expr} {env : Env} (h : notTup e = true) : swappedStores [t] e env = pure none := by
  cases t <;> cases e <;> first
    | rfl
    | (cases h)
theorem swapped_name {x : Str} {e : Expr} {env : Env} : swappedStores [.Name x p] e env = pure none := by
  cases e <;> rfl
/-! ### targets -/
theorem asg_read {t : Tg} {d : DE} (hK : X.K = P.L.K) (ht : ∀ i, i ∈ t.slots → P.M i = .val) (h : tSt P P.M Mb (.asg t d) D σ H) : tAsg (tM P .val d) (tgG X.K t) D σ H := by
  obtain ⟨w, g, S, W, h⟩ := h
  unfold exs at h
  refine go_read W h fun x S1 v w1 H1 W1 l1 r1 h1 => ?_
  cases hb : bindT t x g with
  | none => rw [hb] at h1; exact h1.elim
  | some g' =>
    rw [hb] at h1
    exact W1.bind hK r1 ht hb fun us W2 hl => h1 _ w1 H1 W2 (Ge.refl _)
theorem s_asg {tg e : Expr} {t : Tg} {d : DE} (hK : X.K = P.L.K) (he : PE X e (tM P .val d)) (hg : PG X tg (tgG X.K t)) (ht : ∀ i, i ∈ t.slots → P.M i = .val) (h1 : notComp e = true) (h2 : notTup e = true) (h3 : (assignEach [tg] X.env).map (·.2) = [assign tg X.env]) :
    PS X (.Assign [tg] e pos) (tSt P P.M Mb (.asg t d)) := PS.imp (ps_asg he hg (swaps_of h1) (swapped_of h2) h3) fun D σ H h => asg_read hK ht h
/-- one name, a value: the slot becomes a value -/
theorem set1_read {i : Nat} {d : DE} {R : TE} (hR : ∀ σ H Q, tM P .val d σ H Q → R σ H Q) (h : tSt P (P.M.put i .val) Mb (.asg (.one i) d) D σ H) : tAsg R (gName i) D σ H := by
  obtain ⟨w, g, S, W, h⟩ := h
  unfold exs at h
  exact hR _ _ _ (go_read W h fun x S1 v w1 H1 W1 l1 r1 h1 => h1 _ w1 H1 (W1.val i r1) (Ge.refl _))
/-- one name, a new thing: the slot owns it -/
theorem own1_read {i : Nat} {d : DE} {R : TE} (hR : ∀ σ H Q, tF P d σ H Q → R σ H Q) (h : tSt P (P.M.put i .own) Mb (.own i d) D σ H) : tAsg R (gName i) D σ H := by
  obtain ⟨w, g, S, W, h⟩ := h
  unfold exs at h
  exact hR _ _ _ (go_fresh W h fun x S1 q o w1 H1 W1 l1 hq hc h1 => h1 _ w1 _ (W1.newOwn i hq hc) (Ge.refl _))
theorem s_set {i : Nat} {x : Str} {e : Expr} {d : DE} (hN : X.N.Nodup) (hi : X.N[i]? = some x) (hx : Loc X.env.scope x) (hf : X.fn x = true ∨ X.env.scope.names.lookup x = some .local) (he : PE X e (tM P .val d)) (h1 : notComp e = true) :
    PS X (.Assign [.Name x p] e pos) (tSt P (P.M.put i .val) Mb (.asg (.one i) d)) := PS.imp (ps_set hN hi hx he (swaps_of h1) hf) fun D σ H h => set1_read (fun _ _ _ q => q) h
theorem s_own {i : Nat} {x : Str} {e : Expr} {d : DE} (hN : X.N.Nodup) (hi : X.N[i]? = some x) (hx : Loc X.env.scope x) (hf : X.fn x = true ∨ X.env.scope.names.lookup x = some .local) (he : PE X e (tF P d)) (h1 : notComp e = true) :
    PS X (.Assign [.Name x p] e pos) (tSt P (P.M.put i .own) Mb (.own i d)) := PS.imp (ps_set hN hi hx he (swaps_of h1) hf) fun D σ H h => own1_read (fun _ _ _ q => q) h
/-! ### a slot owns a thing laid ahead -/
theorem World.own2 {L : Lk} {M : Ms} {w0 w' w2 : Wd} {H0 H' H2 : Hp} {S1 S2 : Store} (W : World L M w0 H0 w' g S1 σ H') (W2 : World L M w0 H0 w2 g S2 σ H2) (i : Nat) {d : Zd.D} {q : Addr} (hq : H' q = none) (ho : Own L w2 H2 d q) :
    World L (M.put i .own) w0 H0 w2 (g.set i (some d)) S2 (σ.set i (some (.ref q))) H2 := by
  refine W2.set i .own ⟨q, rfl, ho, ?_⟩ nofun fun _ j a ne mj e sj gj => ?_
  · cases z : H0 q with
    | none => rfl
    | some u =>
      obtain ⟨o', h'⟩ := W.le0.there q u z
      rw [h'] at hq
      cases hq
  · cases e
    obtain ⟨dj, gj⟩ := gj
    obtain ⟨u, e1, r⟩ := W.slot j dj gj
    rw [sj] at e1
    cases e1
    obtain ⟨a, ea, ⟨_, hc, _⟩, _⟩ := slot_mine mj r
    cases ea
    obtain ⟨o', ho'⟩ := hc.there
    rw [ho'] at hq
    cases hq
/-- a pair of stores: the readings of the two parts, each a value or new -/
inductive PK2 | val | own
def PK2.rd (P : Pr) : PK2 → DE → TE
  | .val, d => tM P .val d
  | .own, d => tF P d
def PK2.md : PK2 → Md
  | .val => .val
  | .own => .own
theorem own_new {L : Lk} {M : Ms} {w0 : Wd} {H0 : Hp} {o : HO} {d : Zd.D} {q : Addr} (W : World L M w0 H0 w g S σ H) (hq : H q = none) (hc : Con L w (upd H q o) d q) : Own L w (upd H q o) d q := by
  refine ⟨?_, hc, fun k hk => W.core.rhoNe hk hq⟩
  cases z : w.Hs q with
  | none => rfl
  | some u => rw [W.core.sub _ _ z] at hq; cases hq
theorem ge_le {w0 : Wd} {H0 : Hp} (l : Ge w w1) : Ge w w1 := l
theorem par_read {i j : Nat} {oi oj : Bool} {a b : DE} (ka kb : PK2) (hij : i ≠ j) (h : tSt P ((P.M.put i ka.md).put j kb.md) Mb (.par i j oi oj a b) D σ H) : tPar i j (tCons (ka.rd P a) (tCons (kb.rd P b) tNil)) D σ H := by
  obtain ⟨w, g, S, W, h⟩ := h
  unfold exs at h
  have put2 : ∀ {M : Ms} {m n : Md}, (M.put i m).put j n = (M.put j n).put i m := fun {M m n} => by
    funext k
    unfold Ms.put
    by_cases e1 : k = i
    · by_cases e2 : k = j
      · exact absurd (e1.symm.trans e2) hij
      · simp only [if_pos e1, if_neg e2]
    · by_cases e2 : k = j
      · simp only [if_neg e1, if_pos e2]
      · simp only [if_neg e1, if_neg e2]
  -- the first part's value, then the second's
  have second : ∀ (v : V) (x : Zd.D) (w1 : Wd) (H1 : Hp) (S1 : Store), P.Wo w1 g S1 σ H1 →
      (∀ w2 H2 S2, P.Wo w2 g S2 σ H2 → Le w1 H1 w2 H2 → World P.L (P.M.put i ka.md) P.w0 P.H0 w2 (g.set i (some x)) S2 (σ.set i (some v)) H2) →
      PostS P ((P.M.put i ka.md).put j kb.md) Mb w1 D ((ev P.T P.cf b g S1).go g fun y S => .nx ((g.set i (some x)).set j (some y)) S) →
      (kb.rd P b) σ H1 fun u H2 => ∃ v' u', [v, u] = [v', u'] ∧ D.nx ((σ.set i (some v')).set j (some u')) H2 := by
    intro v x w1 H1 S1 W1 put h1
    cases kb with
    | val =>
      refine go_read W1 h1 fun y S2 u w2 H2 W2 l2 r2 h2 => ⟨v, u, rfl, h2 _ w2 H2 ((put w2 H2 S2 W2 l2).val j r2) (Ge.refl _)⟩
    | own =>
      refine go_fresh W1 h1 fun y S2 q o w2 H2 W2 l2 hq hc h2 => ⟨v, .ref q, rfl, ?_⟩
      have Wf := W2.step (W2.core.fresh (o := o) hq) (Le.fresh hq)
      have Wi := put w2 (upd H2 q o) S2 Wf (l2.trans (Le.fresh hq))
      have on := own_new W2 hq hc
      have Wj := World.own2 W2 Wf j hq on
      refine h2 _ w2 _ ?_ (Ge.refl _)
      refine Wi.set j .own ⟨q, rfl, on, ?_⟩ nofun fun _ k a ne mk e sk gk => ?_
      · cases z : P.H0 q with
        | none => rfl
        | some u =>
          obtain ⟨o', h'⟩ := W2.le0.there q u z
          rw [h'] at hq
          cases hq
      · cases e
        obtain ⟨dk, gk⟩ := gk
        -- the slot k's thing stood before q was laid
        have Wb := put w2 H2 S2 W2 l2
        obtain ⟨u', e1, r⟩ := Wb.slot k dk gk
        rw [sk] at e1
        cases e1
        obtain ⟨a, ea, ⟨_, hc', _⟩, _⟩ := slot_mine mk r
        cases ea
        obtain ⟨o', ho'⟩ := hc'.there
        rw [ho'] at hq
        cases hq
  show (ka.rd P a) σ H fun v H1 => (kb.rd P b) σ H1 fun u H2 => ∃ v' u', [v, u] = [v', u'] ∧ D.nx ((σ.set i (some v')).set j (some u')) H2
  cases ka with
  | val => exact go_read W h fun x S1 v w1 H1 W1 l1 r1 h1 => second v x w1 H1 S1 W1 (fun w2 H2 S2 W2 l2 => W2.val i (Rep.le (H := H1) (H' := H2) r1 l2)) h1
  | own =>
    refine go_fresh W h fun x S1 q o w1 H1 W1 l1 hq hc h1 => second (.ref q) x w1 (upd H1 q o) S1 (W1.step (W1.core.fresh hq) (Le.fresh hq)) (fun w2 H2 S2 W2 l2 => ?_) h1
    exact World.own2 W1 W2 i hq ((own_new W1 hq hc).le l2)
end
end Zd
set_option Elab.async false
set_option linter.all false
set_option maxRecDepth 100000
set_option maxHeartbeats 2000000
/-! Statements: things changed; branches; loops. -/
namespace Zd
open PySem PySem.Spec PyProof.Rows L2
def notCall : Expr → Bool
  | .Call (.Name id _) [] [] _ => id != ("super" : Str)
  | _ => true
theorem base_of {o : Expr} {f : Str} {env : Env} {t : Sem Value} (h : notCall o = true) : attributeBase o f env t = t := by
  by_cases q : ∃ id p pos, o = .Call (.Name id p) [] [] pos
  · obtain ⟨id, p, pos, rfl⟩ := q
    have h : (id != ("super" : Str)) = true := h
    unfold attributeBase
    simp only [h, Bool.true_or, if_true]
  · unfold attributeBase
    split
    · exact absurd ⟨_, _, _, rfl⟩ q
    · rfl
section
variable {X : Cx} {P : Pr} {M' Mb : Ms} {pos p p2 apos cpos : Pos} {w w1 : Wd} {g : Ev} {σ : L2.St} {H H1 : Hp} {S : Store} {D : Ends}
/-- what an own slot holds -/
theorem own_at {i : Nat} {d : Zd.D} (W : P.Wo w g S σ H) (hm : (P.M i).mine = true) (hg : g[i]? = some (some d)) : ∃ a, σ[i]? = some (some (.ref a)) ∧ Own P.L w H d a := by
  obtain ⟨v, e, r⟩ := W.slot i d hg
  obtain ⟨a, rfl, o, _⟩ := slot_mine hm r
  exact ⟨a, e, o⟩
theorem changed {i : Nat} {d d' : Zd.D} {a : Addr} {o : HO} (W : P.Wo w g S σ H) (hm : (P.M i).mine = true) (hg : g[i]? = some (some d)) (hs : σ[i]? = some (some (.ref a))) (hc : Con P.L w (upd H a o) d' a) : P.Wo w (g.set i (some d')) S σ (upd H a o) := W.change hg hm hs hc
theorem con_lst {L : Lk} {l : List Zd.D} {vs : List V} {a : Addr} (r : Reps L w l vs) (z : l.length ≤ line) : Con L w (upd H a (.lst vs)) (.lst l) a := ⟨vs, upd_same, r, z⟩
/-- x.append(e) -/
theorem app_read {i : Nat} {d : DE} (hm : (P.M i).mine = true) (h : tSt P P.M Mb (.app i d) D σ H) : tDrop (tBM X.K "list" rAppend (tVar i) (tCons (tM P .val d) tNil)) D σ H := by
  obtain ⟨w, g, S, W, h⟩ := h
  unfold exs at h
  split at h
  · rename_i l hg
    obtain ⟨a, hs, o⟩ := own_at W hm hg
    obtain ⟨_, ⟨vs, ha, r, z⟩, _⟩ := id o
    refine ⟨_, hs, .inl ⟨rfl, vs, SqL.of ha⟩, ?_⟩
    refine go_read W h fun x S1 v w1 H1 W1 l1 r1 h1 => ?_
    split at h1
    · rename_i hl
      obtain ⟨_, ⟨vs', ha', r', z'⟩, _⟩ := o.le l1
      refine ⟨a, vs', v, rfl, rfl, ha', by rw [r'.length, ← line_eq]; exact hl, ?_⟩
      exact h1 σ w1 _ (changed W1 hm hg hs (con_lst (r'.append (.one r1)) (by rw [List.length_append, List.length_singleton]; omega))) (Ge.refl _)
    · exact h1.elim
  · exact h.elim
/-- x.append(y.pop(e)) -/
theorem apop_read {i j : Nat} {d : DE} (hm : (P.M i).mine = true) (hm2 : (P.M j).mine = true) (hij : i ≠ j) (h : tSt P P.M Mb (.apop i j d) D σ H) :
    tDrop (tBM X.K "list" rAppend (tVar i) (tCons (tBM X.K "list" rPopAt (tVar j) (tCons (tM P .val d) tNil)) tNil)) D σ H := by
  obtain ⟨w, g, S, W, h⟩ := h
  unfold exs at h
  split at h
  · rename_i l m hg hg2
    obtain ⟨a, hs, o⟩ := own_at W hm hg
    obtain ⟨b, hs2, o2⟩ := own_at W hm2 hg2
    have nab : a ≠ b := fun e => by
      subst e
      exact W.apart i j a hij hm hm2 hs hs2 ⟨_, hg⟩ ⟨_, hg2⟩
    obtain ⟨_, ⟨vs, ha, r, z⟩, _⟩ := id o
    obtain ⟨_, ⟨us, hb, rb, zb⟩, _⟩ := id o2
    refine ⟨_, hs, .inl ⟨rfl, vs, SqL.of ha⟩, ?_⟩
    refine ⟨_, hs2, .inl ⟨rfl, us, SqL.of hb⟩, ?_⟩
    refine go_read W h fun x S1 v w1 H1 W1 l1 r1 h1 => ?_
    cases x with
    | int k =>
      have r1 : Rep P.L w1 (.int k) v := r1
      simp only [Rep] at r1
      subst r1
      simp only at h1
      cases hk : ixPlace m.length k with
      | none => rw [hk] at h1; exact h1.elim
      | some q =>
        rw [hk] at h1
        simp only at h1
        cases hq : m[q]? with
        | none => rw [hq] at h1; exact h1.elim
        | some y =>
          rw [hq] at h1
          simp only at h1
          split at h1
          · rename_i hl
            obtain ⟨o1, ⟨vs', ha', r', z'⟩, o1'⟩ := o.le l1
            obtain ⟨_, ⟨us', hb', rb', zb'⟩, _⟩ := o2.le l1
            obtain ⟨u, hu, ru⟩ := rb'.get hq
            rw [ixPlace_eq] at hk
            obtain ⟨e1, e2, e3, e4⟩ := ixN_seq hk
            have lb := rb'.length
            have sz : m.length ≤ 16777216 := zb'
            refine ⟨b, us', k, q, u, rfl, rfl, hb', by omega, by omega, by rw [lb]; exact e1, hu, ?_⟩
            have el := (List.length_eraseIdx_le m q)
            have W2 := changed W1 hm2 hg2 hs2 (con_lst (H := H1) (rb'.erase q) (Nat.le_trans el zb'))
            have ha2 : upd H1 b (.lst (us'.eraseIdx q)) a = some (.lst vs') := by rw [upd_ne nab]; exact ha'
            refine ⟨a, vs', u, rfl, rfl, ha2, by rw [r'.length, ← line_eq]; exact hl, ?_⟩
            have hg' : (g.set j (some (.lst (m.eraseIdx q))))[i]? = some (some (.lst l)) := by rw [List.getElem?_set_ne (Ne.symm hij)]; exact hg
            exact h1 σ w1 _ (changed W2 hm hg' hs (con_lst (r'.append (.one ru)) (by rw [List.length_append, List.length_singleton]; omega))) (Ge.refl _)
          · exact h1.elim
    | _ => exact h1.elim
  · exact h.elim
/-- x.extend(e) -/
theorem ext_read {i : Nat} {d : DE} (hm : (P.M i).mine = true) (h : tSt P P.M Mb (.ext i d) D σ H) : tDrop (tBM X.K "list" rExtend (tVar i) (tCons (tM P .val d) tNil)) D σ H := by
  obtain ⟨w, g, S, W, h⟩ := h
  unfold exs at h
  split at h
  · rename_i l hg
    obtain ⟨a, hs, o⟩ := own_at W hm hg
    obtain ⟨_, ⟨vs, ha, r, z⟩, _⟩ := id o
    refine ⟨_, hs, .inl ⟨rfl, vs, SqL.of ha⟩, ?_⟩
    refine go_read W h fun x S1 v w1 H1 W1 l1 r1 h1 => ?_
    cases x with
    | lst m =>
      simp only at h1
      split at h1
      · rename_i hl
        obtain ⟨_, ⟨vs', ha', r', z'⟩, _⟩ := o.le l1
        have rc : RepC P.L w1 H1 (.lst m) v := .inl r1
        obtain ⟨b, us, rfl, hb, rb⟩ := rc.lst W1.core
        refine ⟨a, b, vs', us, rfl, rfl, ha', hb, by rw [r'.length, rb.length, ← line_eq]; exact hl, ?_⟩
        exact h1 σ w1 _ (changed W1 hm hg hs (con_lst (r'.append rb) (by rw [List.length_append]; exact hl))) (Ge.refl _)
      · exact h1.elim
    | _ => exact h1.elim
  · exact h.elim
/-- the place that a reference names is changed -/
theorem put_at {k : Nat} {d d' : Zd.D} {v : V} (W : P.Wo w g S σ H) (r : RepT P.L w H (.ref k) v) (hd : rd S (.ref k) = d) (hne : d ≠ .non) : ∃ a, v = .ref a ∧ Con P.L w H d a ∧ ∀ o, Con P.L w (upd H a o) d' a → P.Wo w g (S.set k d') σ (upd H a o) ∧ Le w H w (upd H a o) := by
  rcases r with r | ⟨a, _, o⟩
  · simp only [Rep] at r
    obtain ⟨e, hk⟩ := r
    have hk' : k < S.length := by rw [W.core.len]; exact hk
    have q := W.core.st k (S[k]) (List.getElem?_eq_getElem hk')
    have ed : S[k] = d := by
      have : S.getD k .non = d := hd
      rw [List.getD_eq_getElem?_getD, List.getElem?_eq_getElem hk'] at this
      exact this
    rw [ed] at q
    exact ⟨_, e, q.2, fun o hc => ⟨W.step (W.core.put hk hc) (Le.put hk), Le.put hk⟩⟩
  · have := o.2.1
    simp only [Con] at this
/-- o.append(e), o a place of the store -/
theorem rapp_read {o d : DE} (h : tSt P P.M Mb (.rapp o d) D σ H) : tDrop (tBM X.K "list" rAppend (tM P .top o) (tCons (tM P .val d) tNil)) D σ H := by
  obtain ⟨w, g, S, W, h⟩ := h
  unfold exs at h
  refine go_read W h fun r S1 v1 w1 H1 W1 l1 r1 h1 => ?_
  cases r with
  | ref k =>
    cases hr : rd S1 (.ref k) with
    | lst l0 =>
      rw [hr] at h1
      have r1 : RepT P.L w1 H1 (.ref k) v1 := r1
      obtain ⟨a, rfl, ⟨vs, ha, _⟩, _⟩ := put_at (d' := .non) W1 r1 hr (fun e => nomatch e)
      refine ⟨.inl ⟨rfl, vs, SqL.of ha⟩, ?_⟩
      refine go_read W1 h1 fun x S2 v w2 H2 W2 l2 r2 h2 => ?_
      cases hr2 : rd S2 (.ref k) with
      | lst l =>
        rw [hr2] at h2
        simp only at h2
        split at h2
        · rename_i hl
          obtain ⟨a2, e2, ⟨vs2, ha2, rr, z⟩, put⟩ := put_at (d' := .lst (l ++ [x])) W2 (RepT.le r1 l2) hr2 (fun e => nomatch e)
          cases e2
          obtain ⟨W3, l3⟩ := put (.lst (vs2 ++ [v])) (con_lst (rr.append (.one r2)) (by rw [List.length_append, List.length_singleton]; omega))
          exact ⟨_, vs2, v, rfl, rfl, ha2, by rw [rr.length, ← line_eq]; exact hl, h2 σ w2 _ W3 (Ge.refl _)⟩
        · exact h2.elim
      | _ => rw [hr2] at h2; exact h2.elim
    | _ => rw [hr] at h1; exact h1.elim
  | _ => exact h1.elim
/-- o.pop() -/
theorem pop_go {o : DE} {f : Zd.D → Zd.D → Store → SR} {R : V → Hp → Prop} (W : P.Wo w g S σ H) (h : PostS P M' Mb w D ((ev P.T P.cf o g S).go g fun r S => match r, rd S r with
      | .ref n, .lst l => (match l.getLast? with
        | some v => f (.ref n) v (S.set n (.lst l.dropLast))
        | none => .bad)
      | _, _ => .bad))
    (k : ∀ r x S1 v w1 H1, P.Wo w1 g S1 σ H1 → Rep P.L w1 x v → PostS P M' Mb w1 D (f r x S1) → R v H1) : tBM0 X.K "list" rPop (tM P .top o) σ H R := by
  refine go_read W h fun r S1 v1 w1 H1 W1 l1 r1 h1 => ?_
  cases r with
  | ref n =>
    cases hr : rd S1 (.ref n) with
    | lst l =>
      rw [hr] at h1
      simp only at h1
      cases hl : l.getLast? with
      | none => rw [hl] at h1; exact h1.elim
      | some x =>
        rw [hl] at h1
        obtain ⟨a, rfl, ⟨vs, ha, rr, z⟩, put⟩ := put_at (d' := .lst l.dropLast) W1 (r1 : RepT P.L w1 H1 (.ref n) v1) hr (fun e => nomatch e)
        rw [List.getLast?_eq_getElem?] at hl
        obtain ⟨v, hv, rv⟩ := rr.get hl
        have lv := rr.length
        obtain ⟨W3, l3⟩ := put (.lst vs.dropLast) (con_lst rr.dropLast (by rw [List.length_dropLast]; omega))
        refine ⟨.inl ⟨rfl, vs, SqL.of ha⟩, a, vs, v, rfl, rfl, ha, by rw [lv]; exact hv, ?_⟩
        exact k _ x _ v w1 _ W3 rv h1
    | _ => rw [hr] at h1; exact h1.elim
  | _ => exact h1.elim
theorem rpop_read {o : DE} (h : tSt P P.M Mb (.rpop o) D σ H) : tDrop (tBM0 X.K "list" rPop (tM P .top o)) D σ H := by
  obtain ⟨w, g, S, W, h⟩ := h
  unfold exs at h
  refine pop_go (Mb := Mb) (f := fun _ _ S => .nx g S) W ?_ fun r x S1 v w1 H1 W1 rv h1 => h1 σ w1 H1 W1 (Ge.refl _)
  cases ec : ev P.T P.cf o g S with
  | bad => rw [ec] at h; exact h
  | exc y S2 => rw [ec] at h; exact h
  | ok r S1 =>
    rw [ec] at h
    simp only [Res.go_ok] at h ⊢
    cases r with
    | ref n =>
      cases hr : rd S1 (.ref n) with
      | lst l =>
        rw [hr] at h
        simp only at h ⊢
        cases hl : l.getLast? with
        | none =>
          have : l = [] := List.getLast?_eq_none_iff.mp hl
          rw [if_pos this] at h
          exact h
        | some x =>
          have : l ≠ [] := fun e => by rw [e] at hl; cases hl
          rw [if_neg this] at h
          exact h
      | _ => rw [hr] at h; exact h
    | _ => exact h
theorem rpopv_read {i : Nat} {o : DE} (h : tSt P (P.M.put i .val) Mb (.rpopv i o) D σ H) : tAsg (tBM0 X.K "list" rPop (tM P .top o)) (gName i) D σ H := by
  obtain ⟨w, g, S, W, h⟩ := h
  unfold exs at h
  refine pop_go (Mb := Mb) (f := fun _ v S => .nx (g.set i (some v)) S) W ?_ fun r x S1 v w1 H1 W1 rv h1 => h1 _ w1 H1 (W1.val i rv) (Ge.refl _)
  cases ec : ev P.T P.cf o g S with
  | bad => rw [ec] at h; exact h
  | exc y S2 => rw [ec] at h; exact h
  | ok r S1 =>
    rw [ec] at h
    exact h
/-- o[k] = e, o a place of the store -/
theorem rset_read {o k e : DE} (h : tSt P P.M Mb (.rset o k e) D σ H) : tAsg (tM P .val e) (gSub (tM P .top o) (tM P .val k) rSetL) D σ H := by
  obtain ⟨w, g, S, W, h⟩ := h
  unfold exs at h
  refine go_read W h fun x S1 v w1 H1 W1 l1 r1 h1 => ?_
  refine go_read W1 h1 fun r S2 v2 w2 H2 W2 l2 r2 h2 => ?_
  refine go_read W2 h2 fun q S3 v3 w3 H3 W3 l3 r3 h3 => ?_
  cases r with
  | ref n =>
    cases hr : rd S3 (.ref n) with
    | lst l =>
      rw [hr] at h3
      cases q with
      | int i =>
        have r3 : Rep P.L w3 (.int i) v3 := r3
        simp only [Rep] at r3
        simp only at h3
        cases hk : ixPlace l.length i with
        | none => rw [hk] at h3; exact h3.elim
        | some j =>
          rw [hk] at h3
          obtain ⟨a, e2, ⟨vs, ha, rr, z⟩, put⟩ := put_at (d' := .lst (l.set j x)) W3 (RepT.le (r2 : RepT P.L w2 H2 (.ref n) v2) l3) hr (fun e => nomatch e)
          have rx : Rep P.L w3 x v := (Rep.le (H := H1) (H' := H2) r1 l2).le l3
          obtain ⟨W4, l4⟩ := put (.lst (vs.set j v)) (con_lst (rr.set j rx) (by rw [List.length_set]; exact z))
          exact ⟨a, vs, i, j, e2, r3, ha, by rw [rr.length]; exact hk, h3 σ w3 _ W4 (Ge.refl _)⟩
      | _ => exact h3.elim
    | _ => rw [hr] at h3; exact h3.elim
  | _ => exact h3.elim
/-! ### ordered sets of rows -/
theorem reps_mo {L : Lk} : ∀ {r : List (Option Int)} {vs : List V}, Reps L w (r.map mD) vs → vs = rwV r
  | [], vs, h => by simp only [List.map_nil, Reps] at h; exact h
  | x :: r, vs, h => by
    simp only [List.map_cons, Reps] at h
    obtain ⟨v, t, rfl, h1, h2⟩ := h
    rw [reps_mo h2]
    cases x with
    | none => simp only [mD, Rep] at h1; subst h1; rfl
    | some i => simp only [mD, Rep] at h1; subst h1; rfl
theorem mo_reps {L : Lk} : ∀ (r : List (Option Int)), Reps L w (r.map mD) (rwV r)
  | [] => by simp only [List.map_nil, Reps]; rfl
  | x :: r => by
    simp only [List.map_cons, Reps]
    refine ⟨moV x, rwV r, rfl, ?_, mo_reps r⟩
    cases x <;> simp only [mD, Rep, moV]
theorem rep_row {L : Lk} {r : List (Option Int)} {v : V} (h : Rep L w (rwD r) v) : ∃ u, v = .ref u ∧ SqT L.K w.Hs u (rwV r) ∧ r.length ≤ line := by
  unfold rwD at h
  simp only [Rep] at h
  obtain ⟨a, vs, e, q, rr, z⟩ := h
  rw [reps_mo rr] at q
  exact ⟨a, e, q, by simpa using z⟩
theorem row_rep {L : Lk} {r : List (Option Int)} {u : Addr} (h : SqT L.K w.Hs u (rwV r)) (hl : r.length ≤ line) : Rep L w (rwD r) (.ref u) := by
  unfold rwD
  simp only [Rep]
  exact ⟨u, _, rfl, h, mo_reps r, by simpa using hl⟩
theorem con_rdc {L : Lk} {ks : List (List (Option Int))} {es : List (List (Option Int) × Addr)} {a u : Addr} {r : List (Option Int)} (e1 : es.map (·.1) = ks) (hk : KsT L.K w.Hs es) (nd : ks.Nodup) (hl : ks.length < line) (hu : SqT L.K w.Hs u (rwV r)) (hlr : r.length ≤ line) :
    Con L w (upd H a (RD (putE es r u) a)) (.rdc (putR r ks)) a := by
  refine ⟨putE es r u, by rw [putE_keys, e1], upd_same, fun e he => ?_, nodup_putR nd, by have := len_putR ks r; omega⟩
  rcases mem_putE he with q | q
  · exact hk e q
  · rw [q]; exact ⟨hu, hlr⟩
def rSetR (K : PySem.W.Frag) : V → V → V → Hp → (Hp → Prop) → Prop := fun o i v H Q => ∃ a es r u, o = .ref a ∧ i = .ref u ∧ v = .bl true ∧ H a = some (RD es a) ∧ KsT K H es ∧ (es.map (·.1)).Nodup ∧ es.length ≤ sizeLine ∧ SqT K H u (rwV r) ∧ Q (upd H a (RD (putE es r u) a))
/-! ### o[k] = v, a list or a dict -/
def rSetA (K : PySem.W.Frag) : V → V → V → Hp → (Hp → Prop) → Prop := fun o i v H Q => rSetL o i v H Q ∨ (∃ a H4, o = .ref a ∧ DPut H a i v H4 ∧ Q H4) ∨ rSetR K o i v H Q
theorem set_any (hu : X.A.units + 200 < cLine) : PSet X (rSetA X.K) := by
  intro pins s σ H o i v ov iv u Q I ro ri rv h
  rcases h with h | ⟨a, H4, rfl, hp, q⟩ | h
  rotate_left 2
  · obtain ⟨a, es, r, u', rfl, rfl, rfl, hD, hk, nd, hz, hr, q⟩ := h
    cases ro
    cases ri
    cases rv
    exact R_set (by omega) I hD hk nd hz hr fun s' I' => ⟨_, I', q⟩
  · exact set_list pins s σ H o i v ov iv u Q I ro ri rv h
  · cases ro
    exact d_setItem (by omega) I hp ri rv fun s' I' => ⟨H4, I', q⟩
theorem dput_of {L : Lk} {ks l : List Zd.D} {k d : Zd.D} {a : Addr} {y v : V} (hk : k.isKey = true) (hl : ks.length < line) (hc : Con L w H (.dic ks l) a) (rk : Rep L w k y) (rv : Rep L w d v) :
    ∃ o, DPut H a y v (upd H a o) ∧ Con L w (upd H a o) (.dic (Zd.putK k ks) (Zd.putV k d ks l)) a := by
  simp only [Con] at hc
  obtain ⟨kvs, ha, hm, hr, hz⟩ := hc
  obtain ⟨j, hj⟩ := keyK_some hk
  obtain ⟨v', ev, hv'⟩ := keyK_v (L := L) (w := w) (H := H) hj
  have ey : y = kV j := by rw [hv' y (.inl rk), ev]
  subst ey
  have len : ks.length = kvs.length := by
    have := congrArg List.length hm
    simpa using this
  have any := any_key hj hm
  refine ⟨.dK (L2.putK kvs j v), .inl ⟨kvs, j, ha, rfl, by rw [← line_eq]; omega, rfl⟩, ?_⟩
  simp only [Con]
  unfold L2.putK Zd.putK Zd.putV
  rw [any]
  by_cases q : (kvs.any fun kv => decide (kv.1 = j)) = true
  · rw [if_pos q, if_pos q, if_pos q]
    exact ⟨_, upd_same, by rw [map_put]; exact hm, zip_put hj rv hm hr, hz⟩
  · rw [if_neg q, if_neg q, if_neg q]
    refine ⟨_, upd_same, ?_, ?_, by rw [List.length_append, List.length_singleton]; omega⟩
    · rw [List.map_append, List.map_append, hm]
      show _ ++ [keyK k] = _ ++ [some j]
      rw [hj]
    · rw [List.map_append]
      exact hr.append (.one rv)
/-- x[k] = e, x a list or a dict of one's own -/
theorem seti_read {i : Nat} {k e : DE} (hm : (P.M i).mine = true) {K : PySem.W.Frag} (hK : K = P.L.K) (h : tSt P P.M Mb (.seti i k e) D σ H) : tAsg (tM P .val e) (gSub (tVar i) (tM P .val k) (rSetA K)) D σ H := by
  subst hK
  obtain ⟨w, g, S, W, h⟩ := h
  unfold exs at h
  split at h
  · rename_i ks hg
    obtain ⟨a, hs, o⟩ := own_at W hm hg
    refine go_read W h fun x S1 v w1 H1 W1 l1 r1 h1 => ⟨_, hs, ?_⟩
    refine go_read W1 h1 fun q S3 v3 w3 H3 W3 l3 r3 h3 => ?_
    split at h3
    · rename_i r hr
      split at h3
      · rename_i hl
        obtain ⟨_, hc, _⟩ := (o.le l1).le l3
        have r3 : Rep P.L w3 q v3 := r3
        rw [rwO_eq hr] at r3
        obtain ⟨u, rfl, hu, hlr⟩ := rep_row r3
        have r1 : Rep P.L w1 (.bl true) v := r1
        simp only [Rep] at r1
        obtain ⟨es, e1, ha, hk, nd, hz⟩ := hc
        have lz : es.length = ks.length := by rw [← e1, List.length_map]
        exact .inr (.inr ⟨a, es, r, u, rfl, rfl, r1, ha, hk.mono W3.core.sub, e1 ▸ nd, line_le (by omega), SqT.mono W3.core.sub hu, h3 σ w3 _ (changed W3 hm hg hs (con_rdc e1 hk nd hl hu hlr)) (Ge.refl _)⟩)
      · exact h3.elim
    · exact h3.elim
  · rename_i ks l hg
    obtain ⟨a, hs, o⟩ := own_at W hm hg
    refine go_read W h fun x S1 v w1 H1 W1 l1 r1 h1 => ⟨_, hs, ?_⟩
    refine go_read W1 h1 fun q S3 v3 w3 H3 W3 l3 r3 h3 => ?_
    split at h3
    · rename_i hq
      rw [Bool.and_eq_true, decide_eq_true_eq] at hq
      obtain ⟨_, hc, _⟩ := (o.le l1).le l3
      obtain ⟨ob, hp, hc'⟩ := dput_of (k := q) (d := x) hq.1 hq.2 hc r3 (Rep.le (H := H1) (H' := H3) r1 l3)
      exact .inr (.inl ⟨a, _, rfl, hp, h3 σ w3 _ (changed W3 hm hg hs hc') (Ge.refl _)⟩)
    · exact h3.elim
  · rename_i l hg
    obtain ⟨a, hs, o⟩ := own_at W hm hg
    refine go_read W h fun x S1 v w1 H1 W1 l1 r1 h1 => ⟨_, hs, ?_⟩
    refine go_read W1 h1 fun q S3 v3 w3 H3 W3 l3 r3 h3 => ?_
    cases q with
    | int n =>
      have r3 : Rep P.L w3 (.int n) v3 := r3
      simp only [Rep] at r3
      simp only at h3
      cases hk : ixPlace l.length n with
      | none => rw [hk] at h3; exact h3.elim
      | some j =>
        rw [hk] at h3
        obtain ⟨_, ⟨vs, ha, rr, z⟩, _⟩ := (o.le l1).le l3
        exact .inl ⟨a, vs, n, j, rfl, r3, ha, by rw [rr.length]; exact hk, h3 σ w3 _ (changed W3 hm hg hs (con_lst (rr.set j (Rep.le (H := H1) (H' := H3) r1 l3)) (by rw [List.length_set]; exact z))) (Ge.refl _)⟩
    | _ => exact h3.elim
  · exact h.elim
/-! ### branches -/
theorem s_iff {c : Expr} {a b : List Stmt} {d : DE} {s u : DB} (hc : PT X c (tBo P d)) (ha : PSs X a (tBl P M' Mb s)) (hb : PSs X b (tBl P M' Mb u)) : PS X (.If c a b pos) (tSt P M' Mb (.iff d s u)) := PS.imp (ps_if hc ha hb) fun D σ H h => by
  obtain ⟨w, g, S, W, h⟩ := h
  unfold exs at h
  refine ⟨w, g, S, W, ?_⟩
  cases ec : ev P.T P.cf d g S with
  | bad => rw [ec] at h; exact h
  | exc y S2 => rw [ec] at h; exact ex_of h
  | ok x S1 =>
    rw [ec] at h
    simp only [Res.go_ok] at h
    cases ht : (rd S1 x).truth with
    | none => rw [ht] at h; exact h.elim
    | some k =>
      rw [ht] at h
      refine PostB.mk ht fun w' H' W' l' => ?_
      cases k with
      | true => rw [if_pos rfl]; exact ⟨w', g, S1, W', PostS.ge l'.ge h⟩
      | false => rw [if_neg (by decide)]; exact ⟨w', g, S1, W', PostS.ge l'.ge h⟩
/-! ### loops -/
theorem wh_step {d : DE} {s : DB} {n : Nat} {r : SR} (h : whGo (ev P.T P.cf d) (exb P.T P.cf s) n g S = r) (hr : r ≠ .bad) : ∃ m, n = m + 1 := by
  cases n with
  | zero => exact absurd (h.symm.trans rfl) hr
  | succ m => exact ⟨m, rfl⟩
theorem s_wh {c : Expr} {body : List Stmt} {d : DE} {s : DB} (hp : PassesOwn (model X.prog X.w) X.A X.env X.xe) (hc : PT X c (tBo P d)) (hb : PSs X body (tBl P P.M P.M s)) : PS X (.While c body [] pos) (tSt P P.M Mb (.wh d s)) := PS.imp (ps_while hp hc hb) fun D σ H h => by
  obtain ⟨w, g, S, W, h⟩ := h
  unfold exs at h
  refine ⟨fun m σ H => ∃ w1 g1 S1, Ge w w1 ∧ P.Wo w1 g1 S1 σ H ∧ PostS P P.M Mb w1 D (whGo (ev P.T P.cf d) (exb P.T P.cf s) m g1 S1), ⟨wfuel, w, g, S, Ge.refl _, W, h⟩, ?_⟩
  rintro m σ H ⟨w1, g1, S1, ge, W1, h1⟩
  cases m with
  | zero => exact h1.elim
  | succ m =>
    unfold whGo at h1
    refine ⟨w1, g1, S1, W1, ?_⟩
    cases ec : ev P.T P.cf d g1 S1 with
    | bad => rw [ec] at h1; exact h1
    | exc y S2 => rw [ec] at h1; exact ex_of h1
    | ok x S2 =>
      rw [ec] at h1
      simp only at h1
      cases ht : (rd S2 x).truth with
      | none => rw [ht] at h1; exact h1.elim
      | some k =>
        rw [ht] at h1
        refine PostB.mk ht fun w2 H2 W2 l2 => ?_
        cases k with
        | false =>
          rw [if_neg (by decide)]
          exact h1 σ w2 H2 W2 l2.ge
        | true =>
          rw [if_pos rfl]
          simp only at h1
          refine ⟨fun σ H => ∃ w3 g3 S3, Ge w w3 ∧ P.Wo w3 g3 S3 σ H ∧ PostS P P.M Mb w3 D (whGo (ev P.T P.cf d) (exb P.T P.cf s) m g3 S3), fun σ' H' q => ⟨m, Nat.lt_succ_self m, q⟩, ?_⟩
          refine ⟨w2, g1, S2, W2, ?_⟩
          cases es : exb P.T P.cf s g1 S2 with
          | bad => rw [es] at h1; exact h1
          | nx g3 S3 => rw [es] at h1; exact fun σ' w' H' W' q => ⟨w', g3, S3, (ge.trans l2.ge).trans q, W', PostS.ge (l2.ge.trans q) h1⟩
          | ct g3 S3 => rw [es] at h1; exact fun σ' w' H' W' q => ⟨w', g3, S3, (ge.trans l2.ge).trans q, W', PostS.ge (l2.ge.trans q) h1⟩
          | bk g3 S3 => rw [es] at h1; exact fun σ' w' H' W' q => h1 σ' w' H' W' (l2.ge.trans q)
          | rt y S3 => rw [es] at h1; exact h1
          | ex y g3 S3 => rw [es] at h1; exact h1
theorem SrcR.stay {d : Zd.D} {v : V} {w0 w' : Wd} {M : Ms} {g' : Ev} {S' : Store} {σ' : L2.St} {H' : Hp} (r : SrcR P true w H d v) (W : World P.L M P.w0 P.H0 w g S σ H) (W' : World P.L M P.w0 P.H0 w' g' S' σ' H') (l : Ge w w') : RepC P.L w' H' d v := by
  rcases r with r | ⟨a, e, ⟨o1, o2, o3⟩, z⟩
  · exact .inl (Rep.mono l.hs l.n l.rho _ _ r)
  · obtain ⟨o, ho⟩ := z rfl
    have nr : ∀ k, k < P.w0.n → P.w0.rho k ≠ a := fun k hk e => by
      refine o3 k (Nat.lt_of_lt_of_le hk W.le0.n) ?_
      rw [W.le0.rho k hk]
      exact e
    have e1 := W.le0.keep a o ho nr
    have e2 := W'.le0.keep a o ho nr
    exact .inr ⟨a, e, o2.of l.hs l.n l.rho (e2.trans e1.symm)⟩
theorem s_fr {tg iter : Expr} {body : List Stmt} {t : Tg} {it : DI} {s : DB} (hK : X.K = P.L.K) (hp : PassesOwn (model X.prog X.w) X.A X.env X.xe) (hcalm : X.calm = true) (hi : PI X tg iter (tIt P true it)) (hg : PG X tg (tgG X.K t)) (ht : ∀ i, i ∈ t.slots → P.M i = .val) (hb : PSs X body (tBl P P.M P.M s))
    (hs : ∀ x, foldedSetIterable iter X.env x = pure x) : PS X (.For tg iter body [] pos) (tSt P P.M Mb (.fr t it s)) := PS.imp (ps_for hp hcalm hi hg hb hs) fun D σ H h => by
  obtain ⟨w, g, S, W, h⟩ := h
  unfold exs at h
  refine ⟨w, g, S, W, ?_⟩
  cases ei : evi P.T P.cf it g S with
  | bad => rw [ei] at h; exact h
  | exc y S2 => rw [ei] at h; exact ex_of h
  | ok xs S1 =>
    rw [ei] at h
    intro J srcs w1 H1 W1 l1 hsrc hit hlen
    refine ⟨fun i m σ H => m = xs.length - i ∧ i ≤ xs.length ∧ ∃ w2 g2 S2, Ge w1 w2 ∧ P.Wo w2 g2 S2 σ H ∧ PostS P P.M Mb w2 D (frGo (exb P.T P.cf s) t (xs.drop i) g2 S2),
      ⟨_, rfl, Nat.zero_le _, w1, g, S1, Ge.refl _, W1, PostS.ge l1.ge h⟩, ?_⟩
    rintro i m σ2 H2 ⟨rfl, hi, w2, g2, S2, ge, W2, h2⟩
    have hs : ∀ p ∈ srcs, RepC P.L w2 H2 p.1 p.2 := fun p hp => SrcR.stay (w0 := w2) (hsrc p hp) W1 W2 ge
    by_cases hlt : i < xs.length
    · have hx : xs[i]? = some xs[i] := List.getElem?_eq_getElem hlt
      obtain ⟨q1, q2⟩ := hit.go w2 H2 S2 i _ W2.core hs hx
      refine .inr ⟨q1, fun σ' H' => i + 1 ≤ xs.length ∧ ∃ w2 g2 S2, Ge w1 w2 ∧ P.Wo w2 g2 S2 σ' H' ∧ PostS P P.M Mb w2 D (frGo (exb P.T P.cf s) t (xs.drop (i + 1)) g2 S2), fun σ' H' q => ⟨xs.length - (i + 1), by omega, rfl, q⟩, fun x H' y => ?_⟩
      obtain ⟨w3, c3, l3, rx⟩ := q2 x H' y
      rw [List.drop_eq_getElem_cons hlt] at h2
      unfold frGo at h2
      cases hbt : bindT t xs[i] g2 with
      | none => rw [hbt] at h2; exact h2.elim
      | some g3 =>
        rw [hbt] at h2
        simp only at h2
        refine (W2.step c3 l3).bind hK rx ht hbt fun us W3 hl => ⟨w3, g3, S2, W3, ?_⟩
        cases es : exb P.T P.cf s g3 S2 with
        | bad => rw [es] at h2; exact h2
        | nx g4 S4 => rw [es] at h2; exact fun σ' w' H' W' q => ⟨hlt, w', g4, S4, (ge.trans l3.ge).trans q, W', PostS.ge (l3.ge.trans q) h2⟩
        | ct g4 S4 => rw [es] at h2; exact fun σ' w' H' W' q => ⟨hlt, w', g4, S4, (ge.trans l3.ge).trans q, W', PostS.ge (l3.ge.trans q) h2⟩
        | bk g4 S4 => rw [es] at h2; exact fun σ' w' H' W' q => h2 σ' w' H' W' (l3.ge.trans q)
        | rt y S4 => rw [es] at h2; exact h2
        | ex y g4 S4 => rw [es] at h2; exact h2
    · have ei : i = xs.length := by omega
      refine .inl ⟨by rw [ei]; exact hit.stop w2 H2 S2 W2.core hs, ?_⟩
      rw [List.drop_eq_nil_of_le (by omega)] at h2
      unfold frGo at h2
      exact h2 σ2 w2 H2 W2 (Ge.refl _)
end
end Zd
set_option Elab.async false
set_option linter.all false
set_option maxRecDepth 100000
set_option maxHeartbeats 2000000
/-! zip whose tuples are kept: dict(zip(a, b)), dict(list(zip(a, b))). -/
namespace Zd
open PySem PySem.Spec PyProof.Rows L2
section
variable {prog : Program} {w : PySem.World} {A : Around} {E : Value → Shared → Prop} {s : Shared}
variable {z TI TO i1 i2 : Addr} {fp1 fp2 : List Addr} {n1 n2 i : Nat} {P1 P2 : Nat → Value → Prop} {St1 St2 : Nat → Heap → Prop}
theorem held_item (D : ZipSep2 z TI TO i1 i2 fp1 fp2) (D1 : Draws prog w A i1 fp1 n1 P1 St1) (D2 : Draws prog w A i2 fp2 n2 P2 St2) {T : Addr} {f : Bool} {oT : Obj} {Q : Value → Shared → Prop}
    (az : IsZipHeld s.heap z TI TO T f) (aT : s.heap.get? T = some oT) (aI : IsTupOf2 s.heap TI (.ref i1) (.ref i2)) (st1 : St1 i s.heap) (st2 : St2 i s.heap) (l1 : i < n1) (l2 : i < n2)
    (fin : ∀ x y h' tk, P1 i x → P2 i y → IsZipHeld h' z TI TO T true → St1 (i + 1) h' → St2 (i + 1) h' → IsTupOf2 h' s.heap.objs.size x y → (∀ c o, c ≠ z → c ≠ i1 → c ≠ i2 → s.heap.get? c = some o → h'.get? c = some o) → h'.objs.size = s.heap.objs.size + 1 →
      Q (.ref s.heap.objs.size) { s with heap := h', toks := tk }) :
    wpAny (model prog w) A (Builtin.«zip.__next__» ⟨[.ref z], []⟩) (fun r s' => ∃ v, r = .done (.ret v) ∧ Q v s') E s := by
  obtain ⟨hp, g, d, tk0, os⟩ := s
  show wpAny _ _ (field (.ref z) 2 >>= _) _ _ _
  refine wpAny_bind (wpAny_field az rfl (x := .bool false) rfl ?_)
  show wpAny _ _ (field (.ref z) 3 >>= _) _ _ _
  refine wpAny_bind (wpAny_field az rfl (x := .ref TI) rfl ?_)
  refine wpAny_bind (wpAny_seqItems aI rfl ?_)
  show wpAny _ _ (Builtin.SmallTypes.ownedTupleIsFree (.ref z) >>= _) _ _ _
  refine wpAny_bind (wpAny_tupleHeld_zip az aT fun k1 z1 b1 => ?_)
  replace b1 : Heap.SameBut z hp k1 := b1
  simp only [Bool.false_eq_true, if_false]
  refine wpAny_bind ?_
  rw [← Array.forIn_toList]
  simp only [List.forIn_cons, List.forIn_nil]
  refine wpAny_bind (wpAny_bind (wpAny_holding ?_))
  show wpAny _ _ (Builtin.SmallTypes.nextOf (.ref i1) >>= _) _ _ ⟨k1, g, d, tk0, os⟩
  refine wpAny_bind (D1.item i _ _ _ l1 (D1.over st1 b1 D.zf1) fun x k2 t2 px sx b2 => wpAny_pure ?_)
  replace b2 : Heap.SameBut i1 k1 k2 := b2
  refine wpAny_pure ?_
  refine wpAny_bind (wpAny_bind (wpAny_holding ?_))
  show wpAny _ _ (Builtin.SmallTypes.nextOf (.ref i2) >>= _) _ _ ⟨k2, g, d, t2, os⟩
  refine wpAny_bind (D2.item i _ _ _ l2 (D2.over (D2.over st2 b1 D.zf2) b2 D.sep1_2) fun y k3 t3 py sy b3 => wpAny_pure ?_)
  replace b3 : Heap.SameBut i2 k2 k3 := b3
  refine wpAny_pure (wpAny_pure ?_)
  show wpAny _ _ (newTuple [x, y] >>= _) _ _ _
  refine wpAny_bind (wpAny_newTuple ?_)
  have sz : k3.objs.size = hp.objs.size := by rw [b3.1, b2.1, b1.1]
  have z3 : IsZipHeld k3 z TI TO T true := b3.extBut _ _ D.zi2 (b2.extBut _ _ D.zi1 z1)
  have kk : ∀ c o, c ≠ z → c ≠ i1 → c ≠ i2 → hp.get? c = some o → k3.get? c = some o := fun c o c1 c2 c3 e => b3.extBut _ _ c3 (b2.extBut _ _ c2 (b1.extBut _ _ c1 e))
  have q1 : St1 (i + 1) k3 := D1.over sx b3 D.sep2_1
  have up : ∀ c o, k3.get? c = some o → (k3.push { cls := .type "tuple", data := .seq #[x, y] }).get? c = some o := fun c o e => Heap.get?_push_of_some _ e
  refine wpAny_pure ⟨_, rfl, ?_⟩
  show Q (.ref k3.objs.size) ⟨_, g, d, t3, os⟩
  have tn : IsTupOf2 (k3.push { cls := .type "tuple", data := .seq #[x, y] }) k3.objs.size x y := Heap.get?_push_size _ rfl
  rw [sz] at tn ⊢
  exact fin x y _ t3 px py (up _ _ z3) (D1.frame _ _ _ q1 fun b _ o e => up b o e) (D2.frame _ _ _ sy fun b _ o e => up b o e) tn (fun c o c1 c2 c3 e => up c o (kk c o c1 c2 c3 e)) (by rw [Heap.size_push, sz])
theorem held_end (D : ZipSep2 z TI TO i1 i2 fp1 fp2) (D1 : Draws prog w A i1 fp1 n1 P1 St1) (D2 : Draws prog w A i2 fp2 n2 P2 St2) {T : Addr} {f : Bool} {oT : Obj} {Q : Fin → Shared → Prop}
    (az : IsZipHeld s.heap z TI TO T f) (aT : s.heap.get? T = some oT) (aI : IsTupOf2 s.heap TI (.ref i1) (.ref i2)) (st1 : St1 i s.heap) (st2 : St2 i s.heap) (m1 : i ≤ n1) (m2 : i ≤ n2) (me : i = n1 ∨ i = n2)
    (fin : ∀ h' tk e, (∀ c o, c ≠ z → c ≠ i1 → c ≠ i2 → s.heap.get? c = some o → h'.get? c = some o) → (∃ o, h'.get? e = some o ∧ o.cls = .type "StopIteration") → E (.ref e) { s with heap := h', toks := tk }) :
    wpAny (model prog w) A (Builtin.«zip.__next__» ⟨[.ref z], []⟩) Q E s := by
  obtain ⟨hp, g, d, tk0, os⟩ := s
  show wpAny _ _ (field (.ref z) 2 >>= _) _ _ _
  refine wpAny_bind (wpAny_field az rfl (x := .bool false) rfl ?_)
  show wpAny _ _ (field (.ref z) 3 >>= _) _ _ _
  refine wpAny_bind (wpAny_field az rfl (x := .ref TI) rfl ?_)
  refine wpAny_bind (wpAny_seqItems aI rfl ?_)
  show wpAny _ _ (Builtin.SmallTypes.ownedTupleIsFree (.ref z) >>= _) _ _ _
  refine wpAny_bind (wpAny_tupleHeld_zip az aT fun k1 z1 b1 => ?_)
  replace b1 : Heap.SameBut z hp k1 := b1
  simp only [Bool.false_eq_true, if_false]
  refine wpAny_bind ?_
  rw [← Array.forIn_toList]
  simp only [List.forIn_cons, List.forIn_nil]
  refine wpAny_bind (wpAny_bind (wpAny_holding ?_))
  show wpAny _ _ (Builtin.SmallTypes.nextOf (.ref i1) >>= _) _ _ ⟨k1, g, d, tk0, os⟩
  by_cases q : i = n1
  · refine wpAny_bind (D1.done _ _ _ (q ▸ D1.over st1 b1 D.zf1) fun k2 e b2 he => ?_)
    exact fin k2 tk0 e (fun c o c1 c2 _ x => b2 c o c2 (b1.extBut _ _ c1 x)) he
  · have l1 : i < n1 := by omega
    have e2 : i = n2 := by omega
    refine wpAny_bind (D1.item i _ _ _ l1 (D1.over st1 b1 D.zf1) fun x k2 t2 px sx b2 => wpAny_pure ?_)
    replace b2 : Heap.SameBut i1 k1 k2 := b2
    refine wpAny_pure ?_
    refine wpAny_bind (wpAny_bind (wpAny_holding ?_))
    show wpAny _ _ (Builtin.SmallTypes.nextOf (.ref i2) >>= _) _ _ ⟨k2, g, d, t2, os⟩
    refine wpAny_bind (D2.done _ _ _ (e2 ▸ D2.over (D2.over st2 b1 D.zf2) b2 D.sep1_2) fun k3 e b3 he => ?_)
    exact fin k3 t2 e (fun c o c1 c2 c3 x => b3 c o c3 (b2.extBut _ _ c2 (b1.extBut _ _ c1 x))) he
/-- a zip as it stands at turn i: its tuple not given out yet, or kept by somebody -/
def ZSt (z TI TO i1 i2 d : Addr) (St1 St2 : Nat → Heap → Prop) (i : Nat) (h : Heap) : Prop := IsTupOf2 h TI (.ref i1) (.ref i2) ∧ St1 i h ∧ St2 i h ∧
  ((IsZip h z TI TO .none ∧ ∃ a b, IsTupOf2 h TO a b) ∨ ∃ T f oT, IsZipHeld h z TI TO T f ∧ h.get? T = some oT ∧ T ≠ z ∧ T ≠ i1 ∧ T ≠ i2 ∧ T ≠ d)
theorem ZSt.begin (a : IsZip s.heap z TI TO .none) (b : IsTupOf2 s.heap TI (.ref i1) (.ref i2)) {u v : Value} (c : IsTupOf2 s.heap TO u v) (st1 : St1 0 s.heap) (st2 : St2 0 s.heap) (d : Addr) : ZSt z TI TO i1 i2 d St1 St2 0 s.heap := ⟨b, st1, st2, .inl ⟨a, _, _, c⟩⟩
end
section
variable {prog : Program} {w : PySem.World} {A : Around} {E : Value → Shared → Prop} {s : Shared}
variable {z TI TO i1 i2 d : Addr} {fp1 fp2 : List Addr} {n1 n2 i : Nat} {P1 P2 : Nat → Value → Prop} {St1 St2 : Nat → Heap → Prop}
theorem zst_item (D : ZipSep2 z TI TO i1 i2 fp1 fp2) (D1 : Draws prog w A.in1 i1 fp1 n1 P1 St1) (D2 : Draws prog w A.in1 i2 fp2 n2 P2 St2) {Q : Option Value → Shared → Prop}
    (st : ZSt z TI TO i1 i2 d St1 St2 i s.heap) (hd : d < s.heap.objs.size) (l1 : i < n1) (l2 : i < n2)
    (fin : ∀ x y h' tk, P1 i x → P2 i y → ZSt z TI TO i1 i2 d St1 St2 (i + 1) h' → IsTupOf2 h' s.heap.objs.size x y → (∀ c o, c ∉ [z, TO, i1, i2] → s.heap.get? c = some o → h'.get? c = some o) → h'.objs.size = s.heap.objs.size + 1 →
      Q (some (.ref s.heap.objs.size)) { s with heap := h', toks := tk }) :
    wpAny (model prog w) A (pyNext (.ref z)) Q E s := by
  obtain ⟨aI, st1, st2, hz⟩ := st
  have lt : ∀ {c o}, s.heap.get? c = some o → s.heap.objs.size ≠ c := fun e => Nat.ne_of_gt (Heap.lt_size e)
  have j1 : s.heap.objs.size ≠ i1 := by obtain ⟨_, e⟩ := D1.live _ _ st1; exact lt e
  have j2 : s.heap.objs.size ≠ i2 := by obtain ⟨_, e⟩ := D2.live _ _ st2; exact lt e
  rcases hz with ⟨az, u, v, aO⟩ | ⟨T, f, oT, az, aT, r1, r2, r3, r4⟩
  · have aE : s.heap.get? z = some _ := az
    refine wpAny_pyNext_zipD2_item D D1 D2 az aI aO st1 st2 l1 l2 fun x y h' tk px py b1 b2 sx sy tn sz kk => ?_
    refine fin x y h' tk px py ⟨kk _ _ D.TIz D.TITO D.TIi1 D.TIi2 aI, sx, sy, .inr ⟨s.heap.objs.size, false, _, b1, tn, lt aE, j1, j2, Nat.ne_of_gt hd⟩⟩ tn (fun c o hc e => ?_) sz
    simp only [List.mem_cons, List.not_mem_nil, or_false, not_or] at hc
    exact kk c o hc.1 hc.2.1 hc.2.2.1 hc.2.2.2 e
  · have aE : s.heap.get? z = some _ := az
    have ty : s.TypeIs (.ref z) "zip" := ⟨_, az, rfl⟩
    unfold pyNext
    refine wpAny_bind (wpAny_attempt (wpAny_callSpecial?_slot (name := Str.ofString "__next__") ty F.slot_zip_next (wpAny_call_entry F.slot_zip_next ty F.entry_zip_next
      (held_item D D1 D2 az aT aI st1 st2 l1 l2 fun x y h' tk px py b1 sx sy tn kk sz => wpAny_pure ?_) (F.args_zip_next_1 _))))
    refine fin x y h' tk px py ⟨kk _ _ D.TIz D.TIi1 D.TIi2 aI, sx, sy, .inr ⟨T, true, oT, b1, kk _ _ r1 r2 r3 aT, r1, r2, r3, r4⟩⟩ tn (fun c o hc e => ?_) sz
    simp only [List.mem_cons, List.not_mem_nil, or_false, not_or] at hc
    exact kk c o hc.1 hc.2.2.1 hc.2.2.2 e
theorem zst_done (D : ZipSep2 z TI TO i1 i2 fp1 fp2) (D1 : Draws prog w A.in1 i1 fp1 n1 P1 St1) (D2 : Draws prog w A.in1 i2 fp2 n2 P2 St2) {Q : Option Value → Shared → Prop}
    (st : ZSt z TI TO i1 i2 d St1 St2 i s.heap) (m1 : i ≤ n1) (m2 : i ≤ n2) (me : i = n1 ∨ i = n2)
    (fin : ∀ h' tk, (∀ c o, c ∉ [z, TO, i1, i2] → s.heap.get? c = some o → h'.get? c = some o) → Q none { s with heap := h', toks := tk }) :
    wpAny (model prog w) A (pyNext (.ref z)) Q E s := by
  obtain ⟨aI, st1, st2, hz⟩ := st
  rcases hz with ⟨az, u, v, aO⟩ | ⟨T, f, oT, az, aT, r1, r2, r3, r4⟩
  · refine wpAny_pyNext_zipD2_end D D1 D2 az aI aO st1 st2 m1 m2 me fun h' tk kk => fin h' tk fun c o hc e => ?_
    simp only [List.mem_cons, List.not_mem_nil, or_false, not_or] at hc
    exact kk c o hc.1 hc.2.1 hc.2.2.1 hc.2.2.2 e
  · have ty : s.TypeIs (.ref z) "zip" := ⟨_, az, rfl⟩
    unfold pyNext
    refine wpAny_bind (wpAny_attempt (wpAny_callSpecial?_slot (name := Str.ofString "__next__") ty F.slot_zip_next (wpAny_call_entry F.slot_zip_next ty F.entry_zip_next
      (held_end D D1 D2 az aT aI st1 st2 m1 m2 me fun h' tk e kk he => ?_) (F.args_zip_next_1 _))))
    obtain ⟨o, ho, hc⟩ := he
    refine wpAny_bind (wpAny_isInstance (T := "StopIteration") (b := true) ⟨o, ho, hc⟩ isSubtype_stop ?_)
    refine wpAny_pure (fin _ _ fun c o hc e => ?_)
    simp only [List.mem_cons, List.not_mem_nil, or_false, not_or] at hc
    exact kk c o hc.1 hc.2.2.1 hc.2.2.2 e
theorem ZSt.keep (D1 : Draws prog w A i1 fp1 n1 P1 St1) (D2 : Draws prog w A i2 fp2 n2 P2 St2) {h h' : Heap} (st : ZSt z TI TO i1 i2 d St1 St2 i h) (nz : z ≠ d) (nT : TI ≠ d) (nO : TO ≠ d) (n1' : d ∉ fp1) (n2' : d ∉ fp2)
    (k : ∀ b o, b ≠ d → h.get? b = some o → h'.get? b = some o) : ZSt z TI TO i1 i2 d St1 St2 i h' := by
  obtain ⟨aI, st1, st2, hz⟩ := st
  refine ⟨k _ _ nT aI, D1.frame _ _ _ st1 fun b hb o e => k b o (fun q => n1' (q ▸ hb)) e, D2.frame _ _ _ st2 fun b hb o e => k b o (fun q => n2' (q ▸ hb)) e, ?_⟩
  rcases hz with ⟨az, u, v, aO⟩ | ⟨T, f, oT, az, aT, r1, r2, r3, r4⟩
  · exact .inl ⟨k _ _ nz az, _, _, k _ _ nO aO⟩
  · exact .inr ⟨T, f, oT, k _ _ nz az, k _ _ r4 aT, r1, r2, r3, r4⟩
end
/-! ### dict(zip(a, b)) -/
section
variable {prog : Program} {w : PySem.World}
theorem arg_zip {z TI TO i1 i2 a b : Addr} {t u : Bool} (D : ZipSep2 z TI TO i1 i2 [i1, a] [i2, b]) (na : a ≠ i1) (nb : b ≠ i2) (xs ys : Array Value) :
    PairArg prog w "zip" z [z, TI, TO, i1, i2, a, b] [z, TO, i1, i2] (min xs.size ys.size) (fun i k v => xs[i]? = some k ∧ ys[i]? = some v)
      (fun h => IsZip h z TI TO .none ∧ IsTupOf2 h TI (.ref i1) (.ref i2) ∧ (∃ x y, IsTupOf2 h TO x y) ∧ (ItE h t i1 a 0 ∧ IsE h t a xs) ∧ (ItE h u i2 b 0 ∧ IsE h u b ys)) where
  type := fun s ok => ⟨_, ok.1, rfl⟩
  notDict := by decide
  keep := fun h h' ok k => by
    obtain ⟨az, aI, ⟨x, y, aO⟩, ⟨g1, p1⟩, ⟨g2, p2⟩⟩ := ok
    have mv : ∀ {t : Bool} {a : Addr} {xs : Array Value}, IsE h t a xs → IsE h' t a xs := fun {t a xs} p => by
      cases t with
      | true => exact Heap.IsTuple.at (p : h.IsTuple a xs) fun o e => k _ o e
      | false => exact Heap.IsList.at (p : h.IsList a xs) fun o e => k _ o e
    exact ⟨k _ _ az, k _ _ aI, ⟨x, y, k _ _ aO⟩, ⟨g1.move fun o e => k _ o e, mv p1⟩, ⟨g2.move fun o e => k _ o e, mv p2⟩⟩
  there := fun h ok c hc => by
    obtain ⟨az, aI, ⟨x, y, aO⟩, ⟨g1, p1⟩, ⟨g2, p2⟩⟩ := ok
    simp only [List.mem_cons, List.not_mem_nil, or_false] at hc
    obtain ⟨o1, e1, _⟩ := g1.have
    obtain ⟨o2, e2, _⟩ := g2.have
    obtain ⟨o3, e3⟩ := p1.have
    obtain ⟨o4, e4⟩ := p2.have
    rcases hc with rfl | rfl | rfl | rfl | rfl | rfl | rfl
    · exact ⟨_, az⟩
    · exact ⟨_, aI⟩
    · exact ⟨_, aO⟩
    · exact ⟨_, e1⟩
    · exact ⟨_, e2⟩
    · exact ⟨_, e3⟩
    · exact ⟨_, e4⟩
  sub := fun c hc => by
    simp only [List.mem_cons, List.not_mem_nil, or_false] at hc ⊢
    rcases hc with e | e | e | e
    · exact .inl e
    · exact .inr (.inr (.inl e))
    · exact .inr (.inr (.inr (.inl e)))
    · exact .inr (.inr (.inr (.inr (.inl e))))
  noKeys := fun A s Q E hA ok h => getAttrOr_miss_zip ok.1 rfl rfl rfl zip_no_keys (by decide +kernel) hA h
  iter := fun A s d Q E hA ok hd hdf h => by
    obtain ⟨az, aI, ⟨x, y, aO⟩, g1, g2⟩ := ok
    simp only [List.mem_cons, List.not_mem_nil, or_false, not_or] at hdf
    obtain ⟨dz, dI, dO, d1, d2, da, db⟩ := hdf
    have D1 := drawsE (prog := prog) (w := w) (A := A.in1) hA t i1 a na xs
    have D2 := drawsE (prog := prog) (w := w) (A := A.in1) hA u i2 b nb ys
    have hI : ∀ {c e : Addr}, d ≠ c → d ≠ e → d ∉ [c, e] := fun {c e} h1 h2 m => by
      rcases List.mem_cons.mp m with m | m
      · exact h1 m
      · exact h2 (List.mem_singleton.mp m)
    refine wpAny_pyIter_zip az (h z [z, TO, i1, i2] (ZSt z TI TO i1 i2 d (fun i h => ItE h t i1 a i ∧ IsE h t a xs) (fun i h => ItE h u i2 b i ∧ IsE h u b ys)) s.heap s.toks ?_ (.begin az aI aO g1 g2 d) (fun _ _ e => e) fun b hb => .inl hb)
    exact {
      off := fun hm => by
        simp only [List.mem_cons, List.not_mem_nil, or_false] at hm
        rcases hm with e | e | e | e
        · exact dz e
        · exact dO e
        · exact d1 e
        · exact d2 e
      frame := fun i h₁ h₂ st k => st.keep D1 D2 (Ne.symm dz) (Ne.symm dI) (Ne.symm dO) (hI d1 da) (hI d2 db) k
      item := fun i s₁ Q₁ E₁ hi st hds hQ => zst_item D D1 D2 st hds (Nat.lt_of_lt_of_le hi (Nat.min_le_left ..)) (Nat.lt_of_lt_of_le hi (Nat.min_le_right ..)) fun x y h' tk px py st' tn kk sz => hQ s₁.heap.objs.size _ _ h' tk ⟨px, py⟩ (.inl ⟨_, tn, rfl, _, rfl⟩) st' kk
      done := fun s₁ Q₁ E₁ st hQ => zst_done D D1 D2 st (Nat.min_le_left ..) (Nat.min_le_right ..) (by omega) fun h' tk kk => hQ h' tk kk }
end
end Zd
namespace Zd
open PySem PySem.Spec PyProof.Rows L2
/-! ### list(zip(a, b)) -/
theorem zip_no_len : typeLookup (.type "zip") "__len__" = pure none := am_miss_of_fast (by decide +kernel)
theorem zip_no_hint : typeLookup (.type "zip") "__length_hint__" = pure none := am_miss_of_fast (by decide +kernel)
/-- the pairs that the list S has so far -/
def ZG (xs ys : Array Value) (S : Addr) (wr : List Addr) (h : Heap) (as : List Addr) : Prop := ∀ (j : Nat) (a : Addr), as[j]? = some a → a ≠ S ∧ a ∉ wr ∧ ∃ x y, xs[j]? = some x ∧ ys[j]? = some y ∧ IsTupOf2 h a x y
section
variable {prog : Program} {w : PySem.World} {A : Around} {E : Value → Shared → Prop} {s : Shared} {R : Result → Shared → Prop}
variable {z TI TO i1 i2 a b S : Addr} {t u : Bool} {xs ys : Array Value}
theorem zl_loop (hh : A.handled = none) (D : ZipSep2 z TI TO i1 i2 [i1, a] [i2, b]) (na : a ≠ i1) (nb : b ≠ i2) (hS : S ∉ [z, TI, TO, i1, i2, a, b]) (hn : min xs.size ys.size ≤ sizeLine) (res : Value) {h₁ : Heap}
    (hR : ∀ h' tk acc c as, (∀ q o, q ≠ S → q ∉ [z, TO, i1, i2] → h₁.get? q = some o → h'.get? q = some o) → h'.get? S = some { cls := .type "list", dict := none, data := .seq acc c, slots := #[] } → as.length = min xs.size ys.size → ZG xs ys S [z, TO, i1, i2] h' as → acc.toList = as.map Value.ref →
      R (.ok (.ret res)) { s with heap := h', toks := tk }) :
    ∀ (k i : Nat) (h : Heap) (tk c : Nat) (acc : Array Value) (as : List Addr), min xs.size ys.size - i = k → i ≤ min xs.size ys.size → ZSt z TI TO i1 i2 S (fun i h => ItE h t i1 a i ∧ IsE h t a xs) (fun i h => ItE h u i2 b i ∧ IsE h u b ys) i h →
      (∀ q o, q ≠ S → q ∉ [z, TO, i1, i2] → h₁.get? q = some o → h.get? q = some o) → h.get? S = some { cls := .type "list", dict := none, data := .seq acc c, slots := #[] } → acc.toList = as.map Value.ref → as.length = i → ZG xs ys S [z, TO, i1, i2] h as → (∀ q, q ∈ [z, TO, i1, i2] → q < h.objs.size) →
      codeAny (model prog w) A (.builtin "list.extend.loop" ⟨[.ref S, .ref z, res], []⟩) R { s with heap := h, toks := tk } := by
  simp only [List.mem_cons, List.not_mem_nil, or_false, not_or] at hS
  obtain ⟨Sz, SI, SO, S1, S2, Sa, Sb⟩ := hS
  have Sw : S ∉ [z, TO, i1, i2] := by
    simp only [List.mem_cons, List.not_mem_nil, or_false, not_or]
    exact ⟨Sz, SO, S1, S2⟩
  have hI : ∀ {c e : Addr}, S ≠ c → S ≠ e → S ∉ [c, e] := fun {c e} h1 h2 m => by
    rcases List.mem_cons.mp m with m | m
    · exact h1 m
    · exact h2 (List.mem_singleton.mp m)
  have D1 := drawsE (prog := prog) (w := w) (A := A.in1.in1) hh t i1 a na xs
  have D2 := drawsE (prog := prog) (w := w) (A := A.in1.in1) hh u i2 b nb ys
  intro k
  induction k with
  | zero =>
    intro i h tk c acc as hk hi st keep eS hacc hal hG hw
    refine codeAny_builtin PySem.F.entry_extend_loop ?_
    rw [Around.under_plainId PySem.F.plain_extend_loop _]
    show wpAny _ A.in1 (pyNext (.ref z) >>= _) _ _ _
    refine wpAny_bind (zst_done (s := { s with heap := h, toks := tk }) (A := A.in1) D D1 D2 st (by omega) (by omega) (by omega) fun h' tk' kk => ?_)
    refine wpAny_pure (hR h' tk' acc c as (fun q o h1 h2 e => kk q o h2 (keep q o h1 h2 e)) (kk S _ Sw eS) (by omega) (fun j q hj => ?_) hacc)
    obtain ⟨g1, g2, x, y, g3, g4, g5⟩ := hG j q hj
    exact ⟨g1, g2, x, y, g3, g4, kk q _ g2 g5⟩
  | succ k ih =>
    intro i h tk c acc as hk hi st keep eS hacc hal hG hw
    have lt : S < h.objs.size := Heap.lt_size eS
    have hsz : acc.size = i := by rw [← Array.length_toList, hacc, List.length_map, hal]
    refine codeAny_builtin PySem.F.entry_extend_loop ?_
    rw [Around.under_plainId PySem.F.plain_extend_loop _]
    show wpAny _ A.in1 (pyNext (.ref z) >>= _) _ _ _
    refine wpAny_bind (zst_item (s := { s with heap := h, toks := tk }) (A := A.in1) D D1 D2 st lt (by omega) (by omega) fun x y h' tk' px py st' tn kk sz => ?_)
    dsimp only at tn kk sz ⊢
    have eS' := kk S _ Sw eS
    have up : ∀ q o, q ≠ S → h'.get? q = some o → (h'.update S (Obj.mapSeq (·.push (Value.ref h.objs.size)))).get? q = some o := fun q o hq e => (Heap.get?_update_other _ _ (Ne.symm hq)).trans e
    have nS : h.objs.size ≠ S := Nat.ne_of_gt lt
    have nw : h.objs.size ∉ [z, TO, i1, i2] := fun m => absurd (hw _ m) (Nat.lt_irrefl _)
    show wpAny _ A.in1 (updateSeq S (·.push (Value.ref h.objs.size)) >>= _) _ _ _
    refine wpAny_bind ?_
    refine wpAny_updateSeq eS' rfl (wpAny_pure ⟨plainId_quiet PySem.F.plain_extend_loop _, ih (i + 1) _ tk' _ (acc.push (Value.ref h.objs.size)) (as ++ [h.objs.size]) (by omega) (by omega) (st'.keep D1 D2 (Ne.symm Sz) (Ne.symm SI) (Ne.symm SO) (hI S1 Sa) (hI S2 Sb) up)
      (fun q o h1 h2 e => up q o h1 (kk q o h2 (keep q o h1 h2 e))) (Heap.get?_update_self _ eS' rfl) (by rw [Array.toList_push, hacc, List.map_append]; rfl) (by rw [List.length_append, hal]; rfl) (fun j q hj => ?_) (fun q hq => ?_)⟩) (by omega)
      (by show (acc.push (Value.ref h.objs.size)).size ≤ sizeLine + 1; rw [Array.size_push]; omega)
    · rcases Nat.lt_trichotomy j as.length with q1 | q1 | q1
      · rw [List.getElem?_append_left q1] at hj
        obtain ⟨g1, g2, x', y', g3, g4, g5⟩ := hG j q hj
        exact ⟨g1, g2, x', y', g3, g4, up q _ g1 (kk q _ g2 g5)⟩
      · subst q1
        have e : h.objs.size = q := by simpa using hj
        subst e
        subst hal
        exact ⟨nS, nw, x, y, px, py, up _ _ nS tn⟩
      · rw [List.getElem?_eq_none (by rw [List.length_append, List.length_singleton]; omega)] at hj
        cases hj
    · rw [Heap.size_update, sz]
      exact Nat.lt_succ_of_lt (hw q hq)
theorem zl_call {Q : Value → Shared → Prop} (hh : A.handled = none) (D : ZipSep2 z TI TO i1 i2 [i1, a] [i2, b]) (na : a ≠ i1) (nb : b ≠ i2) (hn : min xs.size ys.size ≤ sizeLine)
    (az : IsZip s.heap z TI TO .none) (aI : IsTupOf2 s.heap TI (.ref i1) (.ref i2)) (aO : ∃ x y, IsTupOf2 s.heap TO x y) (g1 : ItE s.heap t i1 a 0 ∧ IsE s.heap t a xs) (g2 : ItE s.heap u i2 b 0 ∧ IsE s.heap u b ys)
    (hQ : ∀ h' tk acc c as, (∀ q o, q ∉ [z, TO, i1, i2] → s.heap.get? q = some o → h'.get? q = some o) → h'.get? s.heap.objs.size = some { cls := .type "list", dict := none, data := .seq acc c, slots := #[] } → as.length = min xs.size ys.size → ZG xs ys s.heap.objs.size [z, TO, i1, i2] h' as → acc.toList = as.map Value.ref →
      Q (.ref s.heap.objs.size) { s with heap := h', toks := tk }) :
    wpAny (model prog w) A (call (.type "list") [.ref z]) Q E s := by
  refine callType_codes (Q₁ := fun obj s₁ => obj = .ref s.heap.objs.size ∧ s₁ = { s with heap := s.heap.push { cls := .type "list", data := .seq #[] } }) PySem.F.called_list (PySem.F.typeCall_list_1 _) PySem.F.entry_list_init
    (code_list_new _ ⟨rfl, rfl⟩) fun obj s₁ h₁ => ?_
  obtain ⟨rfl, rfl⟩ := h₁
  have aE : s.heap.get? z = some _ := az
  have eS : (s.heap.push { cls := .type "list", data := .seq #[] }).get? s.heap.objs.size = some { cls := .type "list", data := .seq #[] } := Heap.get?_push_size _ rfl
  obtain ⟨x0, y0, aO⟩ := aO
  obtain ⟨o1, e1, _⟩ := g1.1.have
  obtain ⟨o2, e2, _⟩ := g2.1.have
  obtain ⟨o3, e3⟩ := g1.2.have
  obtain ⟨o4, e4⟩ := g2.2.have
  have ne : ∀ {c o}, s.heap.get? c = some o → s.heap.objs.size ≠ c := fun e => Nat.ne_of_gt (Heap.lt_size e)
  have hS : s.heap.objs.size ∉ [z, TI, TO, i1, i2, a, b] := by
    simp only [List.mem_cons, List.not_mem_nil, or_false, not_or]
    exact ⟨ne aE, ne aI, ne aO, ne e1, ne e2, ne e3, ne e4⟩
  refine ⟨⟨_, eS, rfl⟩, PySem.F.args_list_init_2 _ _, ?_⟩
  show wpAny _ _ (do let old ← Builtin.List.listItems (.ref s.heap.objs.size); Builtin.List.listUpdate (.ref s.heap.objs.size) (fun _ => #[]); letGo old.toList.reverse; Builtin.List.listExtendWith (.ref s.heap.objs.size) (.ref z) .none) _ _ _
  refine wpAny_bind ?_
  unfold Builtin.List.listItems
  refine wpAny_bind (wpAny_seqItems eS rfl (wpAny_pure ?_))
  show wpAny _ _ (updateSeq s.heap.objs.size (fun _ => #[]) >>= fun _ => letGo (#[] : Array Value).toList.reverse >>= fun _ => Builtin.List.listExtendWith (.ref s.heap.objs.size) (.ref z) .none) _ _ _
  refine wpAny_bind (wpAny_updateSeq eS rfl ?_)
  have eS2 := Heap.get?_update_self (Obj.mapSeq (fun _ => (#[] : Array Value))) eS rfl
  have k1 : ∀ q o, s.heap.get? q = some o → ((s.heap.push { cls := .type "list", data := .seq #[] }).update s.heap.objs.size (Obj.mapSeq (fun _ => (#[] : Array Value)))).get? q = some o :=
    fun q o e => (Heap.get?_update_other _ _ (ne e)).trans (Heap.get?_push_of_some _ e)
  refine wpAny_bind (wpAny_letGo ?_)
  unfold Builtin.List.listExtendWith
  refine wpAny_bind (wpAny_typeOf (T := "zip") ⟨_, k1 _ _ aE, rfl⟩ ?_)
  have h1 : Builtin.List.listSameRef (.ref s.heap.objs.size) (.ref z) = false := by simp [Builtin.List.listSameRef, ne aE]
  have h2 : (Value.type "zip" == Value.type "list") = false := by decide
  have h3 : (Value.type "zip" == Value.type "tuple") = false := by decide
  simp only [h1, h2, h3, Bool.or_false, Bool.false_eq_true, if_false]
  refine wpAny_bind (wpAny_pyIter_zip (k1 _ _ az) ?_)
  refine wpAny_bind (wpAny_holding ?_)
  unfold Builtin.List.listLengthHint
  refine wpAny_bind (wpAny_specialOf (T := "zip") ⟨_, k1 _ _ aE, rfl⟩ zip_no_len ?_)
  show wpAny _ _ (specialOf (Value.ref z) (Str.ofString "__length_hint__") >>= _) _ _ _
  refine wpAny_bind (wpAny_specialOf (T := "zip") ⟨_, k1 _ _ aE, rfl⟩ zip_no_hint ?_)
  refine wpAny_pure ?_
  show wpAny _ _ (rule "list.extend.makes-room" >>= fun _ => Builtin.List.listTouch (.ref s.heap.objs.size) >>= fun _ => again (.builtin "list.extend.loop" ⟨[.ref s.heap.objs.size, .ref z, .none], []⟩)) _ _ _
  refine wpAny_bind (wpAny_rule ?_)
  refine wpAny_bind ?_
  show wpAny _ _ (updateSeq s.heap.objs.size (·.push .none) >>= fun _ => updateSeq s.heap.objs.size (·.pop)) _ _ _
  refine wpAny_bind (wpAny_updateSeq eS2 rfl ?_)
  have eS3 := Heap.get?_update_self (Obj.mapSeq (·.push Value.none)) eS2 rfl
  refine wpAny_updateSeq eS3 rfl ?_
  have eS4 := Heap.get?_update_self (Obj.mapSeq (·.pop)) eS3 rfl
  have k2 : ∀ q o, s.heap.get? q = some o → ((((s.heap.push { cls := .type "list", data := .seq #[] }).update s.heap.objs.size (Obj.mapSeq (fun _ => (#[] : Array Value)))).update s.heap.objs.size (Obj.mapSeq (·.push Value.none))).update s.heap.objs.size (Obj.mapSeq (·.pop))).get? q = some o :=
    fun q o e => (Heap.get?_update_other _ _ (ne e)).trans ((Heap.get?_update_other _ _ (ne e)).trans (k1 q o e))
  have mv : ∀ {h' : Heap} {t : Bool} {i a : Addr} {xs : Array Value}, (∀ q o, s.heap.get? q = some o → h'.get? q = some o) → ItE s.heap t i a 0 ∧ IsE s.heap t a xs → ItE h' t i a 0 ∧ IsE h' t a xs := fun {h' t i a xs} k g => ⟨g.1.move fun o e => k _ o e, by
    cases t with
    | true => exact Heap.IsTuple.at (g.2 : s.heap.IsTuple a xs) fun o e => k _ o e
    | false => exact Heap.IsList.at (g.2 : s.heap.IsList a xs) fun o e => k _ o e⟩
  refine wpAny_pure ⟨plainId_quiet PySem.F.plain_extend_loop _, zl_loop (t := t) (u := u) (xs := xs) (ys := ys) (s := s) (h₁ := s.heap) (A := A.in1) hh D na nb hS hn .none (fun h' tk acc c as kk e' hl hG hacc => ?_) _ 0 _ _ _ #[] [] rfl (Nat.zero_le _)
    ⟨k2 _ _ aI, mv k2 g1, mv k2 g2, .inl ⟨k2 _ _ az, x0, y0, k2 _ _ aO⟩⟩ (fun q o _ _ e => k2 q o e) eS4 rfl rfl (fun j q hj => by simp at hj) (fun q hq => ?_)⟩
  · exact ⟨rfl, hQ h' tk acc c as (fun q o hq e => kk q o (Ne.symm (ne e)) hq e) e' hl hG hacc⟩
  · have : ∃ o, s.heap.get? q = some o := by
      simp only [List.mem_cons, List.not_mem_nil, or_false] at hq
      rcases hq with rfl | rfl | rfl | rfl
      · exact ⟨_, aE⟩
      · exact ⟨_, aO⟩
      · exact ⟨_, e1⟩
      · exact ⟨_, e2⟩
    obtain ⟨o, e⟩ := this
    exact Heap.lt_size (k2 q o e)
end
end Zd
namespace Zd
open PySem PySem.Spec PyProof.Rows L2
/-! ### as expressions -/
/-- keys and values side by side -/
def ZK : List V → List V → List (Key × V) → Prop
  | x :: xs, y :: ys, kvs => ∃ j r, kvs = (j, y) :: r ∧ x = kV j ∧ ZK xs ys r
  | [], _, kvs => kvs = []
  | _ :: _, [], kvs => kvs = []
theorem ZK.vals {P : Program} {w : PySem.World} : ∀ {xs ys : List V} {its its2 : List Value} {kvs : List (Key × V)}, ZK xs ys kvs → Vals xs its → Vals ys its2 → ∃ prs : List (Key × Value), KV kvs prs ∧ prs.length = min its.length its2.length ∧
    ∀ (i : Nat) (k v : Value), its[i]? = some k → its2[i]? = some v → ∃ j, prs[i]? = some (j, v) ∧ (mixKind P w).is j k = true
  | [], ys, its, its2, kvs, h, r1, r2 => by
    simp only [ZK] at h
    subst h
    cases r1
    exact ⟨[], .nil, by simp, fun i k v e => by simp at e⟩
  | x :: xs, [], its, its2, kvs, h, r1, r2 => by
    simp only [ZK] at h
    subst h
    cases r2
    exact ⟨[], .nil, by simp, fun i k v _ e => by simp at e⟩
  | x :: xs, y :: ys, its, its2, kvs, h, r1, r2 => by
    simp only [ZK] at h
    obtain ⟨j, r, rfl, ex, hr⟩ := h
    subst ex
    cases r1 with
    | @cons _ u _ us a1 b1 =>
      cases r2 with
      | @cons _ u2 _ us2 a2 b2 =>
        obtain ⟨prs, q1, q2, q3⟩ := ZK.vals (P := P) (w := w) hr b1 b2
        refine ⟨(j, u2) :: prs, .cons ⟨rfl, a2⟩ q1, by simp only [List.length_cons, q2]; omega, fun i k v e1 e2 => ?_⟩
        cases i with
        | zero =>
          simp at e1 e2
          subst e1 e2
          exact ⟨j, rfl, kV_is (P := P) (w := w) a1⟩
        | succ i =>
          obtain ⟨j', g1, g2⟩ := q3 i k v (by simpa using e1) (by simpa using e2)
          exact ⟨j', by simpa using g1, g2⟩
def tDz (K : PySem.W.Frag) (ta : TA) : TE := fun σ H Q => ta σ H fun vs H1 => ∃ t u a b xs ys kvs, vs = [.ref a, .ref b] ∧ SqE K H1 t a xs ∧ SqE K H1 u b ys ∧ xs.length ≤ sizeLine ∧ ZK xs ys kvs ∧ ∀ p, H1 p = none → Q (.ref p) (upd H1 p (.dK (mergeK [] kvs)))
section
variable {X : Cx} {e e2 : Expr} {ta : TA} {p p2 p3 pos pos2 pos3 : Pos}
/-- zip(a, b), for what takes it next -/
theorem ev_zip {pins : List (Addr × Obj)} {σ : L2.St} {H : Hp} {s : Shared} {Q : VK} {R : Value → Shared → Prop} (I : L2.Inv X pins σ H s) (hg : Gl X "zip") (hm : X.mg "zip" = none) (ha : PA X [e, e2] ta)
    (hs : starEach [e, e2] X.env = (false, eval e X.env) :: starEach [e2] X.env) (hpl : (backTo pos (starEach [e2] X.env)).any (·.1) = false) (h : tDz X.K ta σ H Q)
    (fin : ∀ (s1 : Shared) (H1 : Hp) (t u : Bool) (a b : Addr) (its its2 : List Value) (prs : List (Key × Value)) (kvs : List (Key × V)) (h' : Heap), L2.Inv X pins σ H1 s1 → KV kvs prs → prs.length = min its.length its2.length → its.length ≤ sizeLine →
      (∀ (i : Nat) (k v : Value), its[i]? = some k → its2[i]? = some v → ∃ j, prs[i]? = some (j, v) ∧ (mixKind X.prog X.w).is j k = true) → (∀ b o, s1.heap.get? b = some o → h'.get? b = some o) → h'.objs.size = s1.heap.objs.size + 5 →
      ZipSep2 (s1.heap.objs.size + 4) (s1.heap.objs.size + 2) (s1.heap.objs.size + 3) s1.heap.objs.size (s1.heap.objs.size + 1) [s1.heap.objs.size, a] [s1.heap.objs.size + 1, b] → a ≠ s1.heap.objs.size → b ≠ s1.heap.objs.size + 1 →
      IsZip h' (s1.heap.objs.size + 4) (s1.heap.objs.size + 2) (s1.heap.objs.size + 3) .none → IsTupOf2 h' (s1.heap.objs.size + 2) (.ref s1.heap.objs.size) (.ref (s1.heap.objs.size + 1)) → (∃ x y, IsTupOf2 h' (s1.heap.objs.size + 3) x y) →
      (ItE h' t s1.heap.objs.size a 0 ∧ IsE h' t a its.toArray) → (ItE h' u (s1.heap.objs.size + 1) b 0 ∧ IsE h' u b its2.toArray) → (∀ p, H1 p = none → Q (.ref p) (upd H1 p (.dK (mergeK [] kvs)))) → R (.ref (s1.heap.objs.size + 4)) { s1 with heap := h' }) :
    wpAny (model X.prog X.w) X.A (eval (.Call (.Name "zip" p) [e, e2] [] pos) X.env) R X.xe s := by
  refine Call_ (ld_blt I hg hm PyProof.Rows.boot_zip (PyProof.Rows.callWith_type1 (thn (ha.run pos pins s σ H _ I h) fun us s1 ⟨vs, H1, I1, r1, q1⟩ => ?_) hs hpl))
  obtain ⟨t, u, a, b, xs, ys, kvs, ex, hqx, hqy, hl, zk, q⟩ := q1
  subst ex
  cases r1 with
  | cons r rr =>
    cases rr with
    | cons r' rr =>
      cases rr
      cases r
      cases r'
      obtain ⟨its, rv, p1⟩ := hqx.get I1
      obtain ⟨its2, rv2, p2⟩ := hqy.get I1
      obtain ⟨oa, ha'⟩ := p1.have
      obtain ⟨ob, hb'⟩ := p2.have
      have la := Heap.lt_size ha'
      have lb := Heap.lt_size hb'
      obtain ⟨prs, k1, k2, k3⟩ := ZK.vals (P := X.prog) (w := X.w) zk rv rv2
      have mv : ∀ {h' : Heap} {t : Bool} {a : Addr} {xs : Array Value}, (∀ q o, s1.heap.get? q = some o → h'.get? q = some o) → IsE s1.heap t a xs → IsE h' t a xs := fun {h' t a xs} k g => by
        cases t with
        | true => exact Heap.IsTuple.at (g : s1.heap.IsTuple a xs) fun o e => k _ o e
        | false => exact Heap.IsList.at (g : s1.heap.IsList a xs) fun o e => k _ o e
      refine zip_begins2 (beginsE t a its.toArray) (beginsE u b its2.toArray) p1 p2 fun h' hz hTI hTO h1 h2 hsz hk => ?_
      exact fin s1 H1 t u a b its its2 prs kvs h' I1 k1 k2 (by rw [← rv.length]; exact hl) k3 hk hsz
        (zip_sep2 (N := s1.heap.objs.size) (fp1 := [a]) (fp2 := [b]) (fun c hc => by rw [List.mem_singleton.mp hc]; exact la) (fun c hc => by rw [List.mem_singleton.mp hc]; exact lb)) (Nat.ne_of_lt la) (Nat.ne_of_lt (Nat.lt_succ_of_lt lb))
        hz hTI ⟨_, _, hTO⟩ ⟨.begin h1, mv hk p1⟩ ⟨.begin h2, mv hk p2⟩ q
theorem dict_end {pins : List (Addr × Obj)} {σ : L2.St} {H1 : Hp} {s1 : Shared} {Q : VK} {kvs : List (Key × V)} {prs : List (Key × Value)} {n : Nat} {h'' : Heap} {tk : Nat} {N : Nat} (I1 : L2.Inv X pins σ H1 s1) (kv : KV kvs prs) (hl : prs.length ≤ sizeLine) (hN : s1.heap.objs.size ≤ N)
    (hd : h''.DictOf (mixKind X.prog X.w) N (merged [] prs)) (k : ∀ b o, s1.heap.get? b = some o → h''.get? b = some o) (q : ∀ p, H1 p = none → Q (.ref p) (upd H1 p (.dK (mergeK [] kvs)))) : EP X pins σ Q (.ref N) { s1 with heap := h'', toks := tk } := by
  have hm : (N == sysModules) = false := beq_eq_false_iff_ne.mpr (Nat.ne_of_gt (Nat.lt_of_lt_of_le I1.big hN))
  have hlen : (mergeK [] kvs).length ≤ sizeLine := by
    refine Nat.le_trans (length_mergeK kvs []) ?_
    rw [List.length_nil, Nat.zero_add, Paired.length kv]
    exact hl
  exact ⟨.ref N, upd H1 N (.dK (mergeK [] kvs)), I1.laid (t' := tk) k hN (show ObjOk X.prog X.w _ _ _ (.dK (mergeK [] kvs)) from ⟨hlen, hm, merged [] prs, KV.merge kv .nil, hd⟩), rfl, q _ (I1.hok.fresh hN)⟩
theorem new_out {N : Nat} {h : Heap} {b : Addr} {o : Obj} (hb : h.get? b = some o) (hN : h.objs.size = N) : b ∉ [N + 4, N + 3, N, N + 1] := by
  have l := Heap.lt_size hb
  rw [hN] at l
  simp only [List.mem_cons, List.not_mem_nil, or_false, not_or]
  exact ⟨Nat.ne_of_lt (Nat.lt_of_lt_of_le l (Nat.le_add_right _ _)), Nat.ne_of_lt (Nat.lt_of_lt_of_le l (Nat.le_add_right _ _)), Nat.ne_of_lt l, Nat.ne_of_lt (Nat.lt_of_lt_of_le l (Nat.le_add_right _ _))⟩
/-- dict(zip(a, b)) -/
theorem pe_dz1 (hc : X.calm = true) (hg : Gl X "zip") (hm : X.mg "zip" = none) (hg2 : Gl X "dict") (hm2 : X.mg "dict" = none) (ha : PA X [e, e2] ta)
    (hs : starEach [e, e2] X.env = (false, eval e X.env) :: starEach [e2] X.env) (hpl : (backTo pos (starEach [e2] X.env)).any (·.1) = false) :
    PE X (.Call (.Name "dict" p2) [.Call (.Name "zip" p) [e, e2] [] pos] [] pos2) (tDz X.K ta) := by
  refine ⟨fun pins s σ H Q I h => ?_⟩
  refine Call_ (ld_blt I hg2 hm2 PyProof.Rows.boot_dict (PyProof.Rows.callWith_type1 (e := .Call (.Name "zip" p) [e, e2] [] pos) (rest := []) ?_ rfl rfl))
  show wpAny _ _ (spliced ((false, eval (.Call (.Name "zip" p) [e, e2] [] pos) X.env) :: backTo pos2 [])) _ _ s
  refine Calls.spliced_cons (ev_zip I hg hm ha hs hpl h fun s1 H1 t u a b its its2 prs kvs h' I1 k1 k2 hl k3 hk hsz D na nb hz hTI hTO g1 g2 q => ?_)
  show wpAny _ _ (spliced []) _ _ _
  refine Calls.spliced_nil ?_
  refine PySem.call_dict_pairs (knd := mixKind X.prog X.w) (kvs := prs) (arg_zip (t := t) (u := u) D na nb its.toArray its2.toArray) (I1.ok.hd hc) ⟨hz, hTI, hTO, g1, g2⟩ ⟨by simp only [List.size_toArray]; exact k2, fun i k v hr => k3 i k v (by simpa using hr.1) (by simpa using hr.2)⟩ (by simp only [List.size_toArray]; omega)
    fun h'' tk hd' k => ?_
  exact dict_end (n := 0) (s1 := s1) I1 k1 (by omega) (by show s1.heap.objs.size ≤ h'.objs.size; rw [hsz]; exact Nat.le_add_right _ _) hd' (fun b o e => k b o (new_out e rfl) (hk b o e)) q
/-- dict(list(zip(a, b))) -/
theorem pe_dz2 (hc : X.calm = true) (hg : Gl X "zip") (hm : X.mg "zip" = none) (hg2 : Gl X "dict") (hm2 : X.mg "dict" = none) (hg3 : Gl X "list") (hm3 : X.mg "list" = none) (ha : PA X [e, e2] ta)
    (hs : starEach [e, e2] X.env = (false, eval e X.env) :: starEach [e2] X.env) (hpl : (backTo pos (starEach [e2] X.env)).any (·.1) = false) :
    PE X (.Call (.Name "dict" p2) [.Call (.Name "list" p3) [.Call (.Name "zip" p) [e, e2] [] pos] [] pos3] [] pos2) (tDz X.K ta) := by
  refine ⟨fun pins s σ H Q I h => ?_⟩
  refine Call_ (ld_blt I hg2 hm2 PyProof.Rows.boot_dict (PyProof.Rows.callWith_type1 (e := .Call (.Name "list" p3) [.Call (.Name "zip" p) [e, e2] [] pos] [] pos3) (rest := []) ?_ rfl rfl))
  show wpAny _ _ (spliced ((false, eval (.Call (.Name "list" p3) [.Call (.Name "zip" p) [e, e2] [] pos] [] pos3) X.env) :: backTo pos2 [])) _ _ s
  refine Calls.spliced_cons ?_
  refine Call_ (ld_blt I hg3 hm3 PyProof.Rows.boot_list (PyProof.Rows.callWith_type1 (e := .Call (.Name "zip" p) [e, e2] [] pos) (rest := []) ?_ rfl rfl))
  show wpAny _ _ (spliced ((false, eval (.Call (.Name "zip" p) [e, e2] [] pos) X.env) :: backTo pos3 [])) _ _ s
  refine Calls.spliced_cons (ev_zip I hg hm ha hs hpl h fun s1 H1 t u a b its its2 prs kvs h' I1 k1 k2 hl k3 hk hsz D na nb hz hTI hTO g1 g2 q => ?_)
  show wpAny _ _ (spliced []) _ _ _
  refine Calls.spliced_nil ?_
  refine zl_call (t := t) (u := u) (xs := its.toArray) (ys := its2.toArray) (I1.ok.hd hc) D na nb (by simp only [List.size_toArray]; omega) hz hTI hTO g1 g2 fun h2 tk2 acc c as kk eS hal hG hacc => ?_
  simp only [List.size_toArray] at hal
  show wpAny _ _ (spliced []) _ _ _
  refine Calls.spliced_nil ?_
  have sz2 : s1.heap.objs.size ≤ h2.objs.size := Nat.le_of_lt (Nat.lt_of_le_of_lt (by show s1.heap.objs.size ≤ h'.objs.size; rw [hsz]; exact Nat.le_add_right _ _) (Heap.lt_size eS))
  have la : acc.size = as.length := by rw [← Array.length_toList, hacc, List.length_map]
  refine L2.call_dict_pairs (s := { s1 with heap := h2, toks := tk2 }) (prs := prs) (I1.ok.hd hc) eS rfl rfl rfl (by omega) (by omega) (fun j q' e => ?_) fun h'' tk hd' k => ?_
  · have lt := (List.getElem?_eq_some_iff.mp e).1
    have hj : as[j]? = some as[j] := List.getElem?_eq_getElem (by omega)
    obtain ⟨_, _, x, y, e1, e2, e3⟩ := hG j _ hj
    obtain ⟨jj, g1, g2⟩ := k3 j x y (by simpa using e1) (by simpa using e2)
    rw [e] at g1
    cases g1
    refine ⟨as[j], x, ?_, ⟨_, e3, rfl, _, rfl⟩, g2⟩
    have : acc.toList[j]? = some (Value.ref as[j]) := by rw [hacc, List.getElem?_map, hj]; rfl
    simpa using this
  · exact dict_end (n := 0) (s1 := s1) I1 k1 (by omega) sz2 hd' (fun b o e => k b o (kk b o (new_out e rfl) (hk b o e))) q
end
end Zd
namespace Zd
open PySem PySem.Spec PyProof.Rows L2
section
variable {X : Cx} {P : Pr} {L : Lk} {w : Wd} {H : Hp} {S : Store} {σ : L2.St} {Q : VK} {e e2 : Expr} {p p2 p3 pos pos2 pos3 : Pos} {da db : DE}
theorem zk_of : ∀ {xs ys : List Zd.D} {vs us : List V} {ps : List (Zd.D × Zd.D)}, Reps L w xs vs → Reps L w ys us → pairsD (zipD xs ys) = some ps → ∃ kvs : List (Key × V), ZK vs us kvs ∧ ps.map (fun p => keyK p.1) = kvs.map (fun p => some p.1) ∧ Reps L w (ps.map (·.2)) (kvs.map (·.2))
  | [], ys, vs, us, ps, r1, r2, e => by
    simp only [Reps] at r1
    subst r1
    simp only [zipD, pairsD] at e
    cases e
    exact ⟨[], by simp only [ZK], rfl, by simp only [List.map_nil, Reps]⟩
  | x :: xs, [], vs, us, ps, r1, r2, e => by
    simp only [Reps] at r1 r2
    obtain ⟨v, r, rfl, _⟩ := r1
    subst r2
    simp only [zipD, pairsD] at e
    cases e
    exact ⟨[], by simp only [ZK], rfl, by simp only [List.map_nil, Reps]⟩
  | x :: xs, y :: ys, vs, us, ps, r1, r2, e => by
    simp only [Reps] at r1 r2
    obtain ⟨v, r, rfl, a1, a2⟩ := r1
    obtain ⟨u, r', rfl, b1, b2⟩ := r2
    simp only [zipD, pairsD] at e
    split at e
    · rename_i q qs e1 e2
      cases e
      obtain ⟨kvs, z1, z2, z3⟩ := zk_of a2 b2 e2
      simp only [pairD] at e1
      split at e1
      · rename_i hk
        cases e1
        obtain ⟨j, hj⟩ := keyK_some hk
        obtain ⟨v', ev, hv'⟩ := keyK_v (L := L) (w := w) (H := fun _ => none) hj
        have ex : v = kV j := by rw [hv' v (.inl a1), ev]
        refine ⟨(j, u) :: kvs, ?_, ?_, ?_⟩
        · simp only [ZK]
          exact ⟨j, kvs, rfl, ex, z1⟩
        · rw [List.map_cons, List.map_cons, z2]
          show keyK x :: _ = some j :: _
          rw [hj]
        · simp only [List.map_cons, Reps]
          exact ⟨_, _, rfl, b1, z3⟩
      · cases e1
    · cases e
theorem con_merge {ps : List (Zd.D × Zd.D)} {kvs : List (Key × V)} {q : Addr} {n : Nat} (h1 : ps.map (fun p => keyK p.1) = kvs.map (fun p => some p.1)) (h2 : Reps L w (ps.map (·.2)) (kvs.map (·.2))) (hn : ps.length ≤ line) : Con L w (upd H q (.dK (mergeK [] kvs))) (.dic (mergeD ps [] []).1 (mergeD ps [] []).2) q := by
  obtain ⟨g1, g2⟩ := merge_rep h1 h2 (ks := []) (l := []) (kvs := []) rfl (by simp only [List.map_nil, Reps])
  simp only [Con]
  refine ⟨_, upd_same, g1, g2, ?_⟩
  have e1 := congrArg List.length g1
  have e2 := congrArg List.length h1
  simp only [List.length_map] at e1 e2
  have e3 := length_mergeK kvs []
  rw [List.length_nil] at e3
  omega
theorem pairsD_len : ∀ {l : List Zd.D} {ps : List (Zd.D × Zd.D)}, pairsD l = some ps → ps.length = l.length
  | [], ps, e => by cases e; rfl
  | d :: l, ps, e => by
    simp only [pairsD] at e
    split at e
    · rename_i q qs e1 e2
      cases e
      rw [List.length_cons, List.length_cons, pairsD_len e2]
    · cases e
theorem dz_read (hK : X.K = P.L.K) (h : tF P (.dz da db) σ H Q) : tDz X.K (tCons (tM P .top da) (tCons (tM P .top db) tNil)) σ H Q := by
  obtain ⟨w, g, S, W, h⟩ := h
  unfold ev at h
  refine ⟨w, g, S, W, ?_⟩
  cases ea : ev P.T P.cf da g S with
  | bad => rw [ea] at h; exact h
  | exc x S1 => rw [ea] at h; exact h
  | ok x S1 =>
    rw [ea] at h
    simp only [Res.bind_ok] at h
    intro v w1 H1 W1 l1 r1
    refine ⟨w1, g, S1, W1, ?_⟩
    cases eb : ev P.T P.cf db g S1 with
    | bad => rw [eb] at h; exact h
    | exc y S2 => rw [eb] at h; exact Pr.X.le l1 h
    | ok y S2 =>
      rw [eb] at h
      simp only [Res.bind_ok] at h
      intro u w2 H2 W2 l2 r2
      have c1 := RepT.read (RepT.le (r1 : RepT P.L w1 H1 x v) l2) W2.core
      have c2 := RepT.read (r2 : RepT P.L w2 H2 y u) W2.core
      cases ez : dzD (rd S2 x) (rd S2 y) with
      | none => rw [ez] at h; exact h.elim
      | some r =>
        rw [ez] at h
        unfold dzD at ez
        split at ez
        · rename_i xs ys ex ey
          obtain ⟨ps, hp, rfl⟩ := Option.map_eq_some_iff.mp ez
          obtain ⟨a, vs, rfl, q1, rr1⟩ := sqe_of W2.core ex c1
          obtain ⟨b, us, rfl, q2, rr2⟩ := sqe_of W2.core ey c2
          obtain ⟨kvs, z1, z2, z3⟩ := zk_of rr1 rr2 hp
          have lx := c1.len ex
          refine ⟨_, _, a, b, vs, us, kvs, rfl, hK ▸ q1, hK ▸ q2, by rw [rr1.length]; exact line_le lx, z1, fun q hq => h q _ w2 H2 W2 (l1.trans l2) hq (con_merge (n := 0) z2 z3 ?_)⟩
          have := pairsD_len hp
          rw [zipD_length] at this
          omega
        · cases ez
theorem n_dz1 (hK : X.K = P.L.K) (hc : X.calm = true) (hg : Gl X "zip") (hm : X.mg "zip" = none) (hg2 : Gl X "dict") (hm2 : X.mg "dict" = none) (he : PE X e (tM P .top da)) (he2 : PE X e2 (tM P .top db)) (s1 : notStar e = true) (s2 : notStar e2 = true) :
    PE X (.Call (.Name "dict" p2) [.Call (.Name "zip" p) [e, e2] [] pos] [] pos2) (tF P (.dz da db)) :=
  PE.imp (pe_dz1 hc hg hm hg2 hm2 (pa_cons he (pa_cons he2 pa_nil (star_of s2)) (star_of s1)) (star_of s1) (star_any (by rw [List.all_cons, s2]; rfl) pos)) fun σ H Q h => dz_read hK h
theorem n_dz2 (hK : X.K = P.L.K) (hc : X.calm = true) (hg : Gl X "zip") (hm : X.mg "zip" = none) (hg2 : Gl X "dict") (hm2 : X.mg "dict" = none) (hg3 : Gl X "list") (hm3 : X.mg "list" = none) (he : PE X e (tM P .top da)) (he2 : PE X e2 (tM P .top db)) (s1 : notStar e = true) (s2 : notStar e2 = true) :
    PE X (.Call (.Name "dict" p2) [.Call (.Name "list" p3) [.Call (.Name "zip" p) [e, e2] [] pos] [] pos3] [] pos2) (tF P (.dz da db)) :=
  PE.imp (pe_dz2 hc hg hm hg2 hm2 hg3 hm3 (pa_cons he (pa_cons he2 pa_nil (star_of s2)) (star_of s1)) (star_of s1) (star_any (by rw [List.all_cons, s2]; rfl) pos)) fun σ H Q h => dz_read hK h
/-! ### {k: v, ..} -/
def trsOf (P : Pr) : DA → List (TE × TE)
  | .cons k (.cons v l) => (tM P .val k, tM P .val v) :: trsOf P l
  | _ => []
def pairUp : List V → List (V × V)
  | x :: y :: r => (x, y) :: pairUp r
  | _ => []
def evenA : DA → Bool
  | .nil => true
  | .cons _ (.cons _ l) => evenA l
  | _ => false
theorem disp_read : ∀ (l : DA) {w : Wd} {g : Ev} {S : Store} {σ : L2.St} {H : Hp} {R : List (V × V) → Hp → Prop}, evenA l = true → P.Wo w g S σ H → (match eva P.T P.cf l g S with
    | .ok ds S' => ∀ vs w' H', P.Wo w' g S' σ H' → Le w H w' H' → Reps P.L w' ds vs → R (pairUp vs) H'
    | .exc e S' => P.X w g σ H e S'
    | .bad => False) → tPairs (trsOf P l) σ H R
  | .nil, w, g, S, σ, H, R, _, W, h => by
    unfold eva at h
    exact h [] w H W (Le.refl _ _) (by simp only [Reps])
  | .cons _ .nil, w, g, S, σ, H, R, he, W, h => by cases he
  | .cons k (.cons v l), w, g, S, σ, H, R, he, W, h => by
    have he : evenA l = true := he
    unfold eva eva at h
    show tM P .val k σ H fun x H1 => tM P .val v σ H1 fun y H2 => tPairs (trsOf P l) σ H2 fun ps H3 => R ((x, y) :: ps) H3
    refine ⟨w, g, S, W, ?_⟩
    cases ea : ev P.T P.cf k g S with
    | bad => rw [ea] at h; exact h
    | exc x S1 => rw [ea] at h; exact h
    | ok x S1 =>
      rw [ea] at h
      simp only [Res.bind_ok] at h
      intro xv w1 H1 W1 l1 r1
      refine ⟨w1, g, S1, W1, ?_⟩
      cases eb : ev P.T P.cf v g S1 with
      | bad => rw [eb] at h; exact h
      | exc y S2 => rw [eb] at h; exact Pr.X.le l1 h
      | ok y S2 =>
        rw [eb] at h
        simp only [Res.bind_ok] at h
        intro yv w2 H2 W2 l2 r2
        refine disp_read l he W2 ?_
        cases ec : eva P.T P.cf l g S2 with
        | bad => rw [ec] at h; exact h
        | exc z S3 => rw [ec] at h; exact Pr.X.le (l1.trans l2) h
        | ok ds S3 =>
          rw [ec] at h
          intro vs w3 H3 W3 l3 r3
          refine h (xv :: yv :: vs) w3 H3 W3 ((l1.trans l2).trans l3) ?_
          simp only [Reps]
          exact ⟨xv, _, rfl, Rep.le (H := H1) (H' := H3) r1 (l2.trans l3), yv, vs, rfl, Rep.le (H := H2) (H' := H3) r2 l3, r3⟩
theorem dsp_rep : ∀ {ds : List Zd.D} {vs : List V} {ps : List (Zd.D × Zd.D)}, Reps L w ds vs → dspD ds = some ps → ∃ kvs : List (Key × V), pairUp vs = kvs.map (fun kv => (kV kv.1, kv.2)) ∧ ps.map (fun p => keyK p.1) = kvs.map (fun p => some p.1) ∧ Reps L w (ps.map (·.2)) (kvs.map (·.2)) ∧ kvs.length = ps.length ∧ 2 * ps.length = ds.length
  | [], vs, ps, r, e => by
    simp only [Reps] at r
    subst r
    cases e
    exact ⟨[], rfl, rfl, by simp only [List.map_nil, Reps], rfl, rfl⟩
  | [d], vs, ps, r, e => by cases e
  | k :: v :: ds, vs, ps, r, e => by
    simp only [Reps] at r
    obtain ⟨x, r1, rfl, a1, y, r2, rfl, a2, a3⟩ := r
    simp only [dspD] at e
    split at e
    · rename_i hk
      obtain ⟨qs, e1, rfl⟩ := Option.map_eq_some_iff.mp e
      obtain ⟨kvs, z1, z2, z3, z4, z5⟩ := dsp_rep a3 e1
      obtain ⟨j, hj⟩ := keyK_some hk
      obtain ⟨v', ev, hv'⟩ := keyK_v (L := L) (w := w) (H := fun _ => none) hj
      have ex : x = kV j := by rw [hv' x (.inl a1), ev]
      refine ⟨(j, y) :: kvs, ?_, ?_, ?_, by rw [List.length_cons, List.length_cons, z4], by rw [List.length_cons, List.length_cons, List.length_cons, ← z5]; omega⟩
      · show (x, y) :: pairUp r2 = _
        rw [List.map_cons, z1, ex]
      · rw [List.map_cons, List.map_cons, z2]
        show keyK k :: _ = some j :: _
        rw [hj]
      · simp only [List.map_cons, Reps]
        exact ⟨_, _, rfl, a2, z3⟩
    · cases e
theorem n_dsp0 : PE X (.Dict [] [] pos) (tF P (.dsp .nil)) := PE.imp pe_dnewK fun σ H Q q => by
  obtain ⟨w, g, S, W, q⟩ := q
  unfold ev eva at q
  intro p hp
  refine q p _ w H W (Le.refl _ _) hp ?_
  show Con P.L w _ (.dic [] []) p
  simp only [Con]
  exact ⟨[], upd_same, rfl, by simp only [List.map_nil, Reps], Nat.zero_le _⟩
/-- a thing that nobody tracks is let go -/
def rid (H : Hp) (a : Addr) : Hp := fun b => if b = a then none else H b
theorem rid_ne {H : Hp} {a b : Addr} (h : b ≠ a) : rid H a b = H b := if_neg h
theorem rid_same {H : Hp} {a : Addr} : rid H a a = none := if_pos rfl
theorem upd_rid {H : Hp} {a : Addr} {o : HO} : upd (rid H a) a o = upd H a o := by
  funext b
  by_cases h : b = a
  · subst h; rw [upd_same, upd_same]
  · rw [upd_ne h, upd_ne h, rid_ne h]
/-- behind what was done while the new thing at p stood aside -/
theorem aside {w w' : Wd} {S S' : Store} {H H' : Hp} {p : Addr} {o : HO} (c : Core L w S H) (hp : H p = none) (c' : Core L w' S' H') (l : Le w (upd H p o) w' H') : H' p = some o ∧ Core L w' S' (rid H' p) ∧ Le w H w' (rid H' p) := by
  have wp : w.Hs p = none := by
    cases z : w.Hs p with
    | none => rfl
    | some u => rw [c.sub _ _ z] at hp; cases hp
  have wp' : w'.Hs p = none := l.out p o upd_same wp
  have rho : ∀ k, k < w'.n → w'.rho k ≠ p := fun k hk => by
    by_cases q : k < w.n
    · rw [l.rho k q]
      exact c.rhoNe q hp
    · intro e
      have z := l.new k (by omega) hk
      rw [e, upd_same] at z
      cases z
  have nep : ∀ {a : Addr} {u : HO}, H a = some u → a ≠ p := fun {a u} e z => by rw [z, hp] at e; cases e
  refine ⟨l.keep p o upd_same fun k hk => c.rhoNe hk hp, ⟨fun a u e => ?_, c'.len, fun k d e => ?_, c'.inj⟩, ⟨l.hs, l.n, l.rho, fun a u e hk => ?_, fun a u e => ?_, fun a u e hn => ?_, fun k h1 h2 => ?_⟩⟩
  · rw [rid_ne (fun z => by rw [z, wp'] at e; cases e)]
    exact c'.sub a u e
  · obtain ⟨h1, h2⟩ := c'.st k d e
    have hk : k < w'.n := by rw [← c'.len]; exact (List.getElem?_eq_some_iff.mp e).1
    exact ⟨h1, h2.of (fun _ _ z => z) (Nat.le_refl _) (fun _ _ => rfl) (rid_ne (rho k hk))⟩
  · rw [rid_ne (nep e)]
    exact l.keep a u (by rw [upd_ne (nep e)]; exact e) hk
  · obtain ⟨u', q⟩ := l.there a u (by rw [upd_ne (nep e)]; exact e)
    exact ⟨u', by rw [rid_ne (nep e)]; exact q⟩
  · exact l.out a u (by rw [upd_ne (nep e)]; exact e) hn
  · have z := l.new k h1 h2
    rw [upd_ne (rho k h2)] at z
    exact z
theorem n_dsp {keys : List (Option Expr)} {values : List Expr} {l : DA} (h : PPs X pos keys values (trsOf P l)) (hall : keys.all (·.isSome) = true) (hl : keys.length = values.length) (h0 : keys ≠ []) (h15 : keys.length ≤ 15) (he : evenA l = true) (h30 : l.len ≤ 30) : PE X (.Dict keys values pos) (tF P (.dsp l)) :=
  PE.imp (pe_disp h hall hl h0 h15) fun σ H Q q => by
    obtain ⟨w, g, S, W, q⟩ := q
    unfold ev at q
    intro p hp
    refine disp_read l he (W.step (W.core.fresh (o := .dK []) hp) (Le.fresh hp)) ?_
    cases ec : eva P.T P.cf l g S with
    | bad => rw [ec] at q; exact q
    | exc z S3 => rw [ec] at q; exact Pr.X.le (Le.fresh hp) q
    | ok ds S3 =>
      rw [ec] at q
      simp only [Res.bind_ok] at q
      intro vs w' H' W' l' r'
      cases ed : dspD ds with
      | none => rw [ed] at q; exact q.elim
      | some ps =>
        rw [ed] at q
        obtain ⟨kvs, z1, z2, z3, z4, z5⟩ := dsp_rep r' ed
        obtain ⟨a1, a2, a3⟩ := aside W.core hp W'.core l'
        have len := eva_len l ec
        have hps : ps.length ≤ 15 := by omega
        refine ⟨a1, kvs, z1, by omega, ?_⟩
        rw [← upd_rid]
        exact q p _ w' (rid H' p) (W.step a2 a3) a3 rid_same (con_merge (n := 0) z2 z3 (Nat.le_trans hps (by decide)))
end
end Zd
set_option Elab.async false
set_option linter.all false
set_option maxRecDepth 100000
set_option maxHeartbeats 2000000
/-! Objects: fields, methods, instances made. -/
namespace Zd
open PySem PySem.Spec PyProof.Rows L2
section
variable {X : Cx} {P : Pr} {md : Md} {M' Mb : Ms} {pos p p2 apos cpos : Pos} {w w1 : Wd} {g : Ev} {σ : L2.St} {H H1 : Hp} {S : Store} {D : Ends} {Q : VK}
theorem fld_look {L : Lk} {n : Nat} {d : Zd.D} (inj : ∀ i j, L.fnm i = L.fnm j → i = j) : ∀ {ns : List Nat} {l : List Zd.D} {fs : List (Str × V)}, fs.map (·.1) = ns.map L.fnm → Reps L w l (fs.map (·.2)) → fieldD n ns l = some d → ∃ v, fs.lookup (L.fnm n) = some v ∧ Rep L w d v
  | [], l, fs, _, _, h => by cases l <;> cases h
  | k :: ns, [], fs, _, _, h => by cases h
  | k :: ns, y :: l, [], e, _, _ => by cases e
  | k :: ns, y :: l, (f, v) :: fs, e, r, h => by
    simp only [List.map_cons] at e r
    injection e with e1 e2
    simp only [Reps] at r
    obtain ⟨v', r', q, r1, r2⟩ := r
    injection q with q1 q2
    subst q1 q2
    have h : (if k = n then some y else fieldD n ns l) = some d := h
    rw [List.lookup_cons]
    by_cases kn : k = n
    · rw [if_pos kn] at h
      cases h
      rw [e1, kn]
      rw [beq_self_eq_true]
      exact ⟨v, rfl, r1⟩
    · rw [if_neg kn] at h
      have : (L.fnm n == f) = false := by
        rw [e1]
        exact beq_eq_false_iff_ne.mpr fun z => kn (inj _ _ z).symm
      rw [this]
      exact fld_look inj e2 r2 h
theorem fld_none {L : Lk} {m : Str} (hm : ∀ n, L.fnm n ≠ m) : ∀ {ns : List Nat} {fs : List (Str × V)}, fs.map (·.1) = ns.map L.fnm → fs.lookup m = none
  | [], [], _ => rfl
  | [], _ :: _, e => by cases e
  | _ :: _, [], e => by cases e
  | k :: ns, (f, v) :: fs, e => by
    simp only [List.map_cons] at e
    injection e with e1 e2
    rw [List.lookup_cons]
    have : (m == f) = false := by
      rw [e1]
      exact beq_eq_false_iff_ne.mpr fun z => hm k z.symm
    rw [this]
    exact fld_none hm e2
/-- e.f, a field -/
theorem n_att {e : Expr} {f : Str} {a : DE} {n : Nat} (hK : X.K = P.L.K) (hm : md = .val ∨ md = .top) (inj : ∀ i j, P.L.fnm i = P.L.fnm j → i = j) (hf : P.L.fnm n = f)
    (cl : ∀ k, P.T.fld k n = true → Cls X.K (P.L.ca k) ∧ NoAttr X.K (P.L.ca k) f) (ha : PE X e (tM P .top a)) (hb : notCall e = true) : PE X (.Attribute e f pos) (tM P md (.att a n)) := by
  refine PE.imp (pe_fld ha (base_of hb)) fun σ H Q h => ?_
  obtain ⟨w, g, S, W, h⟩ := h
  unfold ev at h
  refine ⟨w, g, S, W, ?_⟩
  cases ea : ev P.T P.cf a g S with
  | bad => rw [ea] at h; exact h
  | exc x S1 => rw [ea] at h; exact h
  | ok x S1 =>
    rw [ea] at h
    simp only [Res.bind_ok] at h
    intro v w1 H1 W1 l1 r1
    have rc := RepT.read r1 W1.core
    cases ex : rd S1 x with
    | obj k ns l =>
      rw [ex] at h rc
      obtain ⟨b, dx, fs, rfl, q, e1, e2⟩ := rc.obj W1.core
      replace h : PostM P md w g σ H Q (lift (if P.T.fld k n = true then fieldD n ns l else none) S1) := h
      by_cases hq : P.T.fld k n = true
      · rw [if_pos hq] at h
        cases e3 : fieldD n ns l with
        | none => rw [e3] at h; exact h.elim
        | some d =>
          rw [e3] at h
          obtain ⟨v, q1, q2⟩ := fld_look inj e1 e2 e3
          obtain ⟨c1, c2⟩ := cl k hq
          exact ⟨b, _, dx, fs, v, rfl, q, c1, c2, hf ▸ q1, h v w1 H1 W1 l1 (ArgR1.of hm q2)⟩
      · rw [if_neg hq] at h
        exact h.elim
    | _ => rw [ex] at h; exact h.elim
/-- a method's call, as the machine goes -/
theorem meth_eq {o : Expr} {m : Str} {es : List Expr} {env : Env} (hn : notCall o = true) (hf : methodCallForm (es.length + ([] : List Keyword).length) (backTo cpos (starEach es env)) (backToKw cpos (keywordEach [] env)) = true) (hl : (apos.endLine == cpos.line) = true) :
    eval (.Call (.Attribute o m apos) es [] cpos) env = (do
      let ov ← eval o env
      standAt apos.atName
      let (f, first) ← holding [ov] (getMethod ov m (do return (← importBound o env).getD true))
      callWith cpos f first (backTo cpos (starEach es env)) (backToKw cpos (keywordEach [] env))) := by
  rw [arm_eval_Call, base_of hn]
  unfold methodCall calleeOf methodCallPos
  rw [hf, hl]
  simp only [if_true, Bool.not_true, Bool.false_or]
  rfl
def tMt (C : Addr) (m : Str) (u : L2.St → List V → Hp → VK → Prop) (ta : TE) (t : TA) : TE := fun σ H Q => ta σ H fun x H1 => ∃ a dx fs, x = .ref a ∧ H1 a = some (.ins C dx fs) ∧ fs.lookup m = none ∧ t σ H1 fun vs H2 => u σ (x :: vs) H2 Q
theorem pe_mt {o e : Expr} {es : List Expr} {m : Str} {C gA : Addr} {u : L2.St → List V → Hp → VK → Prop} {ta : TE} {t : TA} (he : PE X o ta) (c : Cls X.K C) (hm : Meth X.K C m gA) (cl : Calls X gA u) (ha : PA X (e :: es) t) (hn : notCall o = true)
    (hf : methodCallForm ((e :: es).length + ([] : List Keyword).length) (backTo cpos (starEach (e :: es) X.env)) (backToKw cpos (keywordEach [] X.env)) = true) (hl : (apos.endLine == cpos.line) = true)
    (hst : starEach (e :: es) X.env = (false, eval e X.env) :: starEach es X.env) (hpl : (backTo cpos (starEach es X.env)).any (·.1) = false) : PE X (.Call (.Attribute o m apos) (e :: es) [] cpos) (tMt C m u ta t) := by
  refine ⟨fun pins s σ H Q I h => ?_⟩
  refine PySem.W.methodCall_KW (thn (he.run pins s σ H _ I h) fun u1 s1 ⟨x, H1, I1, rx, a, dx, fs, ex, ea, l, q⟩ => ?_) (meth_eq hn hf hl)
  subst ex
  obtain rfl : u1 = Value.ref a := rx
  refine getmeth_ok I1 ea c hm l ?_
  refine PySem.W.callWith_K (first := [.ref a]) (h₀ := X.base) I.ok.mod.kin hm.kp (thn (ha.run cpos pins s1 σ H1 _ I1 q) fun us s2 ⟨vs, H2, I2, r, q2⟩ => ⟨I2.kIn, ?_⟩) hst hpl
  exact cl.run pins σ H2 s2 Q (.ref a :: us) (.ref a :: vs) I2 (.cons rfl r) q2
theorem pe_mt0 {o : Expr} {m : Str} {C gA : Addr} {u : L2.St → List V → Hp → VK → Prop} {ta : TE} (he : PE X o ta) (c : Cls X.K C) (hm : Meth X.K C m gA) (cl : Calls X gA u) (hn : notCall o = true) (hl : (apos.endLine == cpos.line) = true) :
    PE X (.Call (.Attribute o m apos) [] [] cpos) (tMt C m u ta tNil) := by
  refine ⟨fun pins s σ H Q I h => ?_⟩
  refine PySem.W.methodCall_KW (thn (he.run pins s σ H _ I h) fun u1 s1 ⟨x, H1, I1, rx, a, dx, fs, ex, ea, l, q⟩ => ?_) (meth_eq hn rfl hl)
  subst ex
  obtain rfl : u1 = Value.ref a := rx
  refine getmeth_ok I1 ea c hm l ?_
  exact PySem.W.callWith_K0 (first := [.ref a]) I1.kIn hm.kp (cl.run pins σ H1 s1 Q [.ref a] [.ref a] I1 (.cons rfl .nil) q)
/-- o.m(es): the reading -/
theorem mth_read {k f : Nat} {a : DE} {l : DA} {ms : List Md} {m : Str} (hmd : md = .val ∨ md = .top) (hm : ∀ n, P.L.fnm n ≠ m) (hl : l.len = ms.length) (h : tM P md (.mth k f a l) σ H Q) :
    tMt (P.L.ca k) m (fun σ vs H Q => ∃ w S ds, Core P.L w S H ∧ ArgR P.L w H (.val :: ms) ds vs ∧ ds.length = (Md.val :: ms).length ∧ PostC P.L w H Q (fun cls d H' => P.W cls d σ H') (P.cf f ds S)) (tM P .val a) (tAr P ms l) σ H Q := by
  obtain ⟨w, g, S, W, h⟩ := h
  unfold ev at h
  refine ⟨w, g, S, W, ?_⟩
  cases ea : ev P.T P.cf a g S with
  | bad => rw [ea] at h; exact h
  | exc x S1 => rw [ea] at h; exact h
  | ok x S1 =>
    rw [ea] at h
    simp only [Res.bind_ok] at h
    intro v w1 H1 W1 l1 r1
    have rc := RepT.read (RepT.val r1 : RepT P.L w1 H1 x v) W1.core
    cases ex : rd S1 x with
    | obj c ns l' =>
      rw [ex] at h rc
      replace h : PostM P md w g σ H Q (if c = k then (eva P.T P.cf l g S1).bind fun xs S => P.cf f (x :: xs) S else .bad) := h
      by_cases ck : c = k
      · rw [if_pos ck] at h
        subst ck
        obtain ⟨b, dx, fs, rfl, q, e1, e2⟩ := rc.obj W1.core
        refine ⟨b, dx, fs, rfl, q, fld_none hm e1, w1, g, S1, W1, ?_⟩
        cases ec : eva P.T P.cf l g S1 with
        | bad => rw [ec] at h; exact h
        | exc y S2 => rw [ec] at h; exact Pr.X.le l1 h
        | ok ds S2 =>
          rw [ec] at h
          simp only [Res.bind_ok] at h
          intro vs w2 H2 W2 l2 r2
          have r1 : Rep P.L w1 x (.ref b) := r1
          refine ⟨w2, S2, x :: ds, W2.core, ?_, by rw [List.length_cons, List.length_cons, (eva_len l ec).trans hl], ?_⟩
          · unfold ArgR
            exact ⟨_, vs, rfl, Rep.le (H := H1) (H' := H2) r1 l2, r2⟩
          · cases ef : P.cf f (x :: ds) S2 with
            | bad => rw [ef] at h; exact h
            | exc y S3 => rw [ef] at h; exact fun w' H' cls dx c' l' r' => h w' H' cls dx (W2.step c' l') ((l1.trans l2).trans l') r'
            | ok y S3 => rw [ef] at h; exact fun v w' H' c' l' r' => h v w' H' (W2.step c' l') ((l1.trans l2).trans l') (ArgR1.of hmd r')
      · rw [if_neg ck] at h
        exact h.elim
    | _ => rw [ex] at h; exact h.elim
theorem n_mth {k f : Nat} {a : DE} {l : DA} {ms : List Md} {m : Str} {o e : Expr} {es : List Expr} {gA : Addr} (hmd : md = .val ∨ md = .top) (C : Callee X P f gA (.val :: ms)) (c : Cls X.K (P.L.ca k)) (mt : Meth X.K (P.L.ca k) m gA) (hm : ∀ n, P.L.fnm n ≠ m) (hl : l.len = ms.length)
    (ho : PE X o (tM P .val a)) (ha : PA X (e :: es) (tAr P ms l)) (hn : notCall o = true) (hline : (apos.endLine == cpos.line) = true) (s1 : notStar e = true) (s2 : es.all notStar = true)
    (hf : methodCallForm ((e :: es).length + ([] : List Keyword).length) (backTo cpos (starEach (e :: es) X.env)) (backToKw cpos (keywordEach [] X.env)) = true) : PE X (.Call (.Attribute o m apos) (e :: es) [] cpos) (tM P md (.mth k f a l)) :=
  PE.imp (pe_mt ho c mt C.calls ha hn hf hline (star_of s1) (star_any s2 cpos)) fun σ H Q h => mth_read hmd hm hl h
theorem n_mth0 {k f : Nat} {a : DE} {m : Str} {o : Expr} {gA : Addr} (hmd : md = .val ∨ md = .top) (C : Callee X P f gA [.val]) (c : Cls X.K (P.L.ca k)) (mt : Meth X.K (P.L.ca k) m gA) (hm : ∀ n, P.L.fnm n ≠ m)
    (ho : PE X o (tM P .val a)) (hn : notCall o = true) (hline : (apos.endLine == cpos.line) = true) : PE X (.Call (.Attribute o m apos) [] [] cpos) (tM P md (.mth k f a .nil)) :=
  PE.imp (pe_mt0 ho c mt C.calls hn hline) fun σ H Q h => by
    have z := mth_read (l := .nil) (ms := []) hmd hm rfl h
    obtain ⟨w, g, S, W, z⟩ := z
    refine ⟨w, g, S, W, ?_⟩
    cases ea : ev P.T P.cf a g S with
    | bad => rw [ea] at z; exact z
    | exc x S1 => rw [ea] at z; exact z
    | ok x S1 =>
      rw [ea] at z
      intro v w1 H1 W1 l1 r1
      obtain ⟨b, dx, fs, e1, e2, e3, w2, g2, S2, W2, z⟩ := z v w1 H1 W1 l1 r1
      refine ⟨b, dx, fs, e1, e2, e3, ?_⟩
      unfold eva at z
      exact z [] w2 H1 W2 (Le.refl _ _) (by unfold ArgR; rfl)
/-- what stands at C is made by the def f -/
structure Maker (X : Cx) (P : Pr) (k f : Nat) (C : Addr) (ms : List Md) : Prop where
  calls : Calls X C fun σ vs H Q => ∃ w S ds, Core P.L w S H ∧ ArgR P.L w H ms ds vs ∧ ds.length = ms.length ∧ PostC P.L w H Q (fun cls d H' => P.W cls d σ H') (P.cf f (.obj k [] [] :: ds) S)
  kp : PySem.W.keepIn X.K (.ref C) = true
theorem new_read {k f : Nat} {l : DA} {ms : List Md} (hm : md = .val ∨ md = .top) (hl : l.len = ms.length) (h : tM P md (.new k f l) σ H Q) : tAr P ms l σ H fun vs H1 => ∃ w S ds, Core P.L w S H1 ∧ ArgR P.L w H1 ms ds vs ∧ ds.length = ms.length ∧ PostC P.L w H1 Q (fun cls d H' => P.W cls d σ H') (P.cf f (.obj k [] [] :: ds) S) := by
  obtain ⟨w, g, S, W, h⟩ := h
  unfold ev at h
  refine ⟨w, g, S, W, ?_⟩
  cases ec : eva P.T P.cf l g S with
  | bad => rw [ec] at h; exact h
  | exc y S2 => rw [ec] at h; exact h
  | ok ds S1 =>
    rw [ec] at h
    simp only [Res.bind_ok] at h
    intro vs w1 H1 W1 l1 r1
    refine ⟨w1, S1, ds, W1.core, r1, (eva_len l ec).trans hl, ?_⟩
    cases ef : P.cf f (.obj k [] [] :: ds) S1 with
    | bad => rw [ef] at h; exact h
    | exc y S2 => rw [ef] at h; exact fun w' H' cls dx c' l' r' => h w' H' cls dx (W1.step c' l') (l1.trans l') r'
    | ok y S2 => rw [ef] at h; exact fun v w' H' c' l' r' => h v w' H' (W1.step c' l') (l1.trans l') (ArgR1.of hm r')
theorem n_new {k f : Nat} {C : Addr} {x : Str} {e : Expr} {es : List Expr} {l : DA} {ms : List Md} (hm : md = .val ∨ md = .top) (c : Maker X P k f C ms) (hg : Gl X x) (hmg : X.mg x = some (.ref C)) (hdb : (x == ("__debug__" : Str)) = false) (hl : l.len = ms.length) (ha : PA X (e :: es) (tAr P ms l))
    (s1 : notStar e = true) (s2 : es.all notStar = true) : PE X (.Call (.Name x p) (e :: es) [] pos) (tM P md (.new k f l)) :=
  PE.imp (pe_cl c.calls hg hmg c.kp ha hdb (star_of s1) (star_any s2 pos)) fun σ H Q h => new_read hm hl h
theorem n_new0 {k f : Nat} {C : Addr} {x : Str} (hm : md = .val ∨ md = .top) (c : Maker X P k f C []) (hg : Gl X x) (hmg : X.mg x = some (.ref C)) (hdb : (x == ("__debug__" : Str)) = false) : PE X (.Call (.Name x p) [] [] pos) (tM P md (.new k f .nil)) :=
  PE.imp (pe_cl0 c.calls hg hmg c.kp hdb) fun σ H Q h => by
    obtain ⟨w, g, S, W, h⟩ := new_read (l := .nil) (ms := []) hm rfl h
    unfold eva at h
    exact h [] w H W (Le.refl _ _) (by unfold ArgR; rfl)
/-! ### self.f = e -/
theorem put_names {L : Lk} {n : Nat} {v : V} (inj : ∀ i j, L.fnm i = L.fnm j → i = j) : ∀ {ns : List Nat} {fs : List (Str × V)}, fs.map (·.1) = ns.map L.fnm → (putF (L.fnm n) v fs).map (·.1) = (putNs n ns).map L.fnm
  | [], [], _ => rfl
  | [], _ :: _, e => by cases e
  | _ :: _, [], e => by cases e
  | k :: ns, (f, y) :: fs, e => by
    simp only [List.map_cons] at e
    injection e with e1 e2
    have e1 : f = L.fnm k := e1
    show (if f = L.fnm n then (f, v) :: fs else (f, y) :: putF (L.fnm n) v fs).map (·.1) = (if k = n then k :: ns else k :: putNs n ns).map L.fnm
    by_cases kn : k = n
    · rw [if_pos kn, if_pos (by rw [e1, kn]), List.map_cons, List.map_cons, e2, e1]
    · rw [if_neg kn, if_neg (by rw [e1]; exact fun z => kn (inj _ _ z)), List.map_cons, List.map_cons, put_names inj e2, e1]
theorem put_vals {L : Lk} {n : Nat} {v : V} {d : Zd.D} (inj : ∀ i j, L.fnm i = L.fnm j → i = j) (rv : Rep L w d v) : ∀ {ns : List Nat} {l : List Zd.D} {fs : List (Str × V)}, fs.map (·.1) = ns.map L.fnm → Reps L w l (fs.map (·.2)) → Reps L w (putVs n d ns l) ((putF (L.fnm n) v fs).map (·.2))
  | [], l, [], _, r => by
    simp only [List.map_nil] at r
    have hl : l = [] := by
      have := r.length
      exact List.length_eq_zero_iff.mp this.symm
    subst hl
    show Reps L w [d] [v]
    exact Reps.one rv
  | [], _, _ :: _, e, _ => by cases e
  | _ :: _, _, [], e, _ => by cases e
  | k :: ns, [], (f, y) :: fs, e, r => by
    have := r.length
    simp at this
  | k :: ns, x :: l, (f, y) :: fs, e, r => by
    simp only [List.map_cons] at e r
    injection e with e1 e2
    have e1 : f = L.fnm k := e1
    simp only [Reps] at r
    obtain ⟨v', r', q, r1, r2⟩ := r
    injection q with q1 q2
    subst q1 q2
    show Reps L w (if k = n then d :: l else x :: putVs n d ns l) ((if f = L.fnm n then (f, v) :: fs else (f, y) :: putF (L.fnm n) v fs).map (·.2))
    by_cases kn : k = n
    · rw [if_pos kn, if_pos (by rw [e1, kn])]
      simp only [List.map_cons, Reps]
      exact ⟨v, _, rfl, rv, r2⟩
    · rw [if_neg kn, if_neg (by rw [e1]; exact fun z => kn (inj _ _ z))]
      simp only [List.map_cons, Reps]
      exact ⟨y, _, rfl, r1, put_vals inj rv e2 r2⟩
/-- x.f = e, x a thing of one's own -/
theorem satt_read {i n : Nat} {d : DE} {f : Str} (hm : (P.M i).mine = true) (inj : ∀ i j, P.L.fnm i = P.L.fnm j → i = j) (hf : P.L.fnm n = f) (cl : ∀ k, P.T.fld k n = true → Cls X.K (P.L.ca k) ∧ NoAttr X.K (P.L.ca k) f)
    (h : tSt P P.M Mb (.satt i n d) D σ H) : sFld X.K (tVar i) (tM P .val d) f D σ H := by
  obtain ⟨w, g, S, W, h⟩ := h
  unfold exs at h
  split at h
  · rename_i c ns l hg
    refine go_read W h fun v S1 u w1 H1 W1 l1 r1 h1 => ?_
    obtain ⟨a, ha, oa⟩ := own_at W1 hm hg
    refine ⟨_, ha, ?_⟩
    have oc := oa.2.1
    simp only [Con] at oc
    obtain ⟨dx, fs, q, e1, e2⟩ := oc
    split at h1
    · rename_i hq
      rw [Bool.and_eq_true, decide_eq_true_eq] at hq
      obtain ⟨c1, c2⟩ := cl c hq.1
      have hlen : fs.length = ns.length := by have := congrArg List.length e1; simpa using this
      refine ⟨a, _, dx, fs, rfl, q, c1, c2, by omega, ?_⟩
      have hc : Con P.L w1 (upd H1 a (.ins (P.L.ca c) dx (putF f u fs))) (.obj c (putNs n ns) (putVs n v ns l)) a := by
        simp only [Con]
        subst hf
        exact ⟨dx, _, upd_same, put_names inj e1, put_vals inj r1 e1 e2⟩
      have W2 := changed W1 hm hg ha hc
      exact h1 _ w1 _ W2 (Ge.refl _)
    · exact h1.elim
  · exact h.elim
/-! ### displays with stars -/
def PostDs (P : Pr) (w : Wd) (g : Ev) (σ : L2.St) (H : Hp) (Q : List V → Hp → Prop) : Res (List Zd.D) → Prop
  | .ok ds S' => ∀ vs w' H', P.Wo w' g S' σ H' → Le w H w' H' → Reps P.L w' ds vs → Q vs H'
  | .exc e S' => P.X w g σ H e S'
  | .bad => False
def tDs (P : Pr) (l : DL) : TA := fun σ H Q => ∃ w g S, P.Wo w g S σ H ∧ PostDs P w g σ H Q (evd P.T P.cf l g S)
theorem d_nil : PA X [] (tDs P .nil) := PA.imp pa_nil fun σ H Q h => by
  obtain ⟨w, g, S, W, h⟩ := h
  unfold evd at h
  exact h [] w H W (Le.refl _ _) (by simp only [Reps])
theorem d_one {e : Expr} {es : List Expr} {a : DE} {l : DL} (h1 : PE X e (tM P .val a)) (h2 : PA X es (tDs P l)) (hs : notStar e = true) : PA X (e :: es) (tDs P (.one a l)) := PA.imp (pa_cons h1 h2 (star_of hs)) fun σ H Q h => by
  obtain ⟨w, g, S, W, h⟩ := h
  unfold evd at h
  refine ⟨w, g, S, W, ?_⟩
  cases ea : ev P.T P.cf a g S with
  | bad => rw [ea] at h; exact h
  | exc x S1 => rw [ea] at h; exact h
  | ok x S1 =>
    rw [ea] at h
    simp only [Res.bind_ok] at h
    intro v w1 H1 W1 l1 r1
    refine ⟨w1, g, S1, W1, ?_⟩
    cases el : evd P.T P.cf l g S1 with
    | bad => rw [el] at h; exact h
    | exc y S2 => rw [el] at h; exact Pr.X.le l1 h
    | ok ys S2 =>
      rw [el] at h
      simp only [Res.bind_ok] at h
      intro vs w2 H2 W2 l2 r2
      exact h (v :: vs) w2 H2 W2 (l1.trans l2) (by simp only [Reps]; exact ⟨v, vs, rfl, Rep.le (H := H1) (H' := H2) r1 l2, r2⟩)
theorem d_star {e : Expr} {es : List Expr} {a : DE} {l : DL} {sp : Pos} (hK : X.K = P.L.K) (h1 : PE X e (tM P .top a)) (h2 : PA X es (tDs P l)) : PA X (.Starred e sp :: es) (tDs P (.star a l)) := PA.imp (StX.pa_star h1 h2) fun σ H Q h => by
  obtain ⟨w, g, S, W, h⟩ := h
  unfold evd at h
  refine ⟨w, g, S, W, ?_⟩
  cases ea : ev P.T P.cf a g S with
  | bad => rw [ea] at h; exact h
  | exc x S1 => rw [ea] at h; exact h
  | ok x S1 =>
    rw [ea] at h
    simp only [Res.bind_ok] at h
    intro v w1 H1 W1 l1 r1
    have rc := RepT.read r1 W1.core
    cases es : (rd S1 x).seq with
    | none => rw [es] at h; exact h.elim
    | some zs =>
      rw [es] at h
      simp only [lift_some, Res.bind_ok] at h
      have sq : ∃ p us, v = .ref p ∧ (SqT X.K H1 p us ∨ SqL X.K H1 p us) ∧ Reps P.L w1 zs us := by
        cases ex : rd S1 x with
        | tup l' =>
          rw [ex] at rc es
          cases es
          obtain ⟨b, us, rfl, q, r⟩ := rc.tup W1.core
          exact ⟨b, us, rfl, .inl (hK ▸ q), r⟩
        | lst l' =>
          rw [ex] at rc es
          cases es
          obtain ⟨b, us, rfl, q, r⟩ := rc.lst W1.core
          exact ⟨b, us, rfl, .inr (SqL.of q), r⟩
        | _ => rw [ex] at es; cases es
      obtain ⟨p, us, rfl, q, r⟩ := sq
      refine ⟨p, us, rfl, q, w1, g, S1, W1, ?_⟩
      cases el : evd P.T P.cf l g S1 with
      | bad => rw [el] at h; exact h
      | exc y S2 => rw [el] at h; exact Pr.X.le l1 h
      | ok ys S2 =>
        rw [el] at h
        simp only [Res.bind_ok] at h
        intro vs w2 H2 W2 l2 r2
        exact h (us ++ vs) w2 H2 W2 (l1.trans l2) ((r.le l2).append r2)
theorem n_tups {es : List Expr} {x1 : Nat} {l : DL} (hm : md = .val ∨ md = .top) (ha : PA X es (tDs P l)) : PE X (.Tuple es x1 pos) (tM P md (.tups l)) := PE.imp (pe_tup ha) fun σ H Q h => by
  obtain ⟨w, g, S, W, h⟩ := h
  unfold ev at h
  refine ⟨w, g, S, W, ?_⟩
  cases el : evd P.T P.cf l g S with
  | bad => rw [el] at h; exact h
  | exc y S2 => rw [el] at h; exact h
  | ok ys S2 =>
    rw [el] at h
    simp only [Res.bind_ok] at h
    intro vs w2 H2 W2 l2 r2
    by_cases z : ys.length ≤ line
    · rw [if_pos z] at h
      refine ⟨by rw [r2.length]; exact line_le z, fun p hp => h _ _ _ (W2.step (W2.core.laid hp) (Le.laid W2.core hp)) (l2.trans (Le.laid W2.core hp)) (ArgR1.of hm ?_)⟩
      simp only [Rep]
      exact ⟨p, vs, rfl, SqT.of upd_same, r2.le (Le.laid W2.core hp), z⟩
    · rw [if_neg z] at h
      exact h.elim
theorem n_lsts {es : List Expr} {l : DL} (ha : PA X es (tDs P l)) : PE X (.List es pos) (tF P (.lsts l)) := PE.imp (pe_lst ha) fun σ H Q h => by
  obtain ⟨w, g, S, W, h⟩ := h
  unfold ev at h
  refine ⟨w, g, S, W, ?_⟩
  cases el : evd P.T P.cf l g S with
  | bad => rw [el] at h; exact h
  | exc y S2 => rw [el] at h; exact h
  | ok ys S2 =>
    rw [el] at h
    simp only [Res.bind_ok] at h
    intro vs w2 H2 W2 l2 r2
    by_cases z : ys.length ≤ line
    · rw [if_pos z] at h
      exact ⟨by rw [r2.length]; exact line_le z, fun p hp => h p _ w2 H2 W2 l2 hp ⟨vs, upd_same, r2, z⟩⟩
    · rw [if_neg z] at h
      exact h.elim
end
end Zd
set_option Elab.async false
set_option linter.all false
set_option maxRecDepth 100000
set_option maxHeartbeats 2000000
/-! Methods of texts. -/
namespace Zd
open PySem PySem.Spec PyProof.Rows L2
def TX.id : TX → String
  | .join => "str.join" | .split => "str.split" | .part => "str.partition" | .starts => "str.startswith"
def TX.nm : TX → Str
  | .join => "join" | .split => "split" | .part => "partition" | .starts => "startswith"
theorem toS_of (x : Str) : toS x.cps.toList = x := by
  obtain ⟨c⟩ := x
  show (⟨c.toList.toArray⟩ : Str) = _
  simp
section
variable {L : Lk} {w : Wd} {S : Store} {H : Hp}
theorem strs_rep : ∀ {l : List D} {vs : List V} {ys : List (List Nat)}, Reps L w l vs → strsD l = some ys → vs = (ys.map toS).map V.str
  | [], vs, ys, h, e => by
    simp only [Reps] at h
    cases e
    exact h
  | d :: l, vs, ys, h, e => by
    simp only [Reps] at h
    obtain ⟨v, r, rfl, h1, h2⟩ := h
    cases d <;> first
      | (cases e; done)
      | skip
    rename_i s
    have e : (strsD l).map (s :: ·) = some ys := e
    obtain ⟨zs, hz, rfl⟩ := Option.map_eq_some_iff.mp e
    simp only [Rep] at h1
    obtain ⟨rfl, _⟩ := h1
    rw [strs_rep h2 hz]
    rfl
theorem rep_S {x : Str} (h : fitS x = true) : Rep L w (ofS x) (.str x) := by
  unfold ofS
  simp only [Rep]
  refine ⟨trivial, ?_⟩
  have : x.cps.size ≤ line := of_decide_eq_true h
  simpa using this
theorem reps_S : ∀ {xs : List Str}, xs.all fitS = true → Reps L w (xs.map ofS) (xs.map V.str)
  | [], _ => by simp only [List.map_nil, Reps]
  | x :: xs, h => by
    rw [List.all_cons, Bool.and_eq_true] at h
    simp only [List.map_cons, Reps]
    exact ⟨_, _, rfl, rep_S h.1, reps_S h.2⟩
end
section
variable {X : Cx} {P : Pr} {md : Md} {apos cpos : Pos}
def rTx (P : Pr) (m : TX) : V → List V → Hp → VK → Prop := fun x xs H Q => ∃ (a : List Nat) (y : V) (w : Wd) (S : Store) (d r : D), x = .str (toS a) ∧ xs = [y] ∧ a.length ≤ line ∧ Core P.L w S H ∧ RepC P.L w H d y ∧ txD m a d = some r ∧
  ∀ v w' H', Core P.L w' S H' → Le w H w' H' → Rep P.L w' r v → Q v H'
theorem len_toS (a : List Nat) : (toS a).length = a.length := by
  show a.toArray.size = _
  simp
theorem tx_ok (hK : X.K = P.L.K) (m : TX) : MtR X m.id (rTx P m) := by
  intro pins s σ H x xs v us Q I rx rs h
  obtain ⟨a, y, w, S, d, r, rfl, rfl, ha, c, hd, e, k⟩ := h
  cases m with
  | join =>
    have key : ∀ l p vs, d.seq = some l → y = .ref p → (SqL X.K H p vs ∨ SqT X.K H p vs) → Reps P.L w l vs → wpAny (model X.prog X.w) X.A (call (.builtin TX.join.id) (v :: us)) (EP X pins σ Q) X.xe s := by
      intro l p vs e1 e2 e3 rr
      have e : (match d.seq.bind strsD with
        | some ys => if decide ((ys.map (·.length)).sum + ys.length * a.length ≤ 16777216) && fitS (PySem.Txt.join (toS a) (ys.map toS)) then some (ofS (PySem.Txt.join (toS a) (ys.map toS))) else none
        | none => none) = some r := e
      rw [e1] at e
      split at e
      · rename_i ys hy
        have hy : strsD l = some ys := hy
        split at e
        · rename_i hb
          cases e
          rw [Bool.and_eq_true, decide_eq_true_eq] at hb
          have ev := strs_rep rr hy
          subst ev e2
          refine mt_join pins s σ H _ _ v us Q I rx rs ⟨toS a, p, ys.map toS, rfl, rfl, e3, ?_, k _ w H c (Le.refl _ _) (rep_S hb.2)⟩
          have el : (ys.map toS).map (·.length) = ys.map (·.length) := by
            rw [List.map_map]
            exact List.map_congr_left fun z _ => len_toS z
          rw [el, List.length_map, len_toS]
          exact hb.1
        · cases e
      · cases e
    cases d with
    | lst l =>
      obtain ⟨p, vs, e2, q, rr⟩ := hd.lst c
      exact key l p vs rfl e2 (.inl (SqL.of q)) rr
    | tup l =>
      obtain ⟨p, vs, e2, q, rr⟩ := hd.tup c
      exact key l p vs rfl e2 (.inr (hK ▸ q)) rr
    | _ => cases e
  | split =>
    cases d <;> first
      | (cases e; done)
      | skip
    rename_i b
    obtain ⟨rfl, hb0⟩ := hd.str
    have e : (if (!b.isEmpty && decide (a.length + 2 ≤ line) && decide ((PySem.Txt.split (toS a) (toS b)).length ≤ line) && (PySem.Txt.split (toS a) (toS b)).all fitS) = true then some (D.lst ((PySem.Txt.split (toS a) (toS b)).map ofS)) else none) = some r := e
    split at e
    · rename_i hb
      cases e
      simp only [Bool.and_eq_true, decide_eq_true_eq, Bool.not_eq_true'] at hb
      obtain ⟨⟨⟨h1, h2⟩, h3⟩, h4⟩ := hb
      refine mt_split pins s σ H _ _ v us Q I rx rs ⟨toS a, toS b, rfl, rfl, ?_, ?_, fun p hp => k _ _ _ (c.laid hp) (Le.laid c hp) ?_⟩
      · rw [len_toS]
        cases b with
        | nil => cases h1
        | cons => rfl
      · rw [len_toS, ← line_eq]
        exact h2
      · simp only [Rep]
        exact ⟨p, _, rfl, upd_same, reps_S h4, by rw [List.length_map]; exact h3⟩
    · cases e
  | part =>
    cases d <;> first
      | (cases e; done)
      | skip
    rename_i b
    obtain ⟨rfl, hb0⟩ := hd.str
    have e : (if (!b.isEmpty && decide (a.length ≤ line) && fitS (PySem.Txt.partition (toS a) (toS b)).1 && fitS (PySem.Txt.partition (toS a) (toS b)).2.1 && fitS (PySem.Txt.partition (toS a) (toS b)).2.2) = true then
      some (D.tup [ofS (PySem.Txt.partition (toS a) (toS b)).1, ofS (PySem.Txt.partition (toS a) (toS b)).2.1, ofS (PySem.Txt.partition (toS a) (toS b)).2.2]) else none) = some r := e
    split at e
    · rename_i hb
      cases e
      simp only [Bool.and_eq_true, decide_eq_true_eq, Bool.not_eq_true'] at hb
      obtain ⟨⟨⟨⟨h1, h2⟩, h3⟩, h4⟩, h5⟩ := hb
      refine mt_partition pins s σ H _ _ v us Q I rx rs ⟨toS a, toS b, rfl, rfl, ?_, ?_, fun p hp => k _ _ _ (c.laid hp) (Le.laid c hp) ?_⟩
      · rw [len_toS]
        cases b with
        | nil => cases h1
        | cons => rfl
      · rw [len_toS, ← line_eq]
        exact h2
      · simp only [Rep, Reps]
        exact ⟨p, _, rfl, SqT.of upd_same, ⟨_, _, rfl, rep_S h3, _, _, rfl, rep_S h4, _, _, rfl, rep_S h5, rfl⟩, by show 3 ≤ 16777216; decide⟩
    · cases e
  | starts =>
    cases d <;> first
      | (cases e; done)
      | skip
    rename_i b
    obtain ⟨rfl, hb0⟩ := hd.str
    cases e
    exact mt_startswith pins s σ H _ _ v us Q I rx rs ⟨toS a, toS b, rfl, rfl, k _ w H c (Le.refl _ _) (by simp only [Rep])⟩
/-- o.m(e), o a text -/
theorem n_tx {m : TX} {x : Str} {o e : Expr} {a b : DE} (hK : X.K = P.L.K) (hm : md = .val ∨ md = .top) (hx : x = m.nm) (ho : PE X o (tM P .top a)) (he : PE X e (tM P .top b)) (hb : notCall o = true) (hs : notStar e = true) (hl : (apos.endLine == cpos.line) = true) :
    PE X (.Call (.Attribute o x apos) [e] [] cpos) (tM P md (.tx m a b)) := by
  have main : ∀ σ H Q, tM P md (.tx m a b) σ H Q → tM1 (rTx P m) (tM P .top a) (tM P .top b) σ H Q := fun σ H Q h => by
    obtain ⟨w, g, S, W, h⟩ := h
    unfold ev at h
    refine ⟨w, g, S, W, ?_⟩
    cases ea : ev P.T P.cf a g S with
    | bad => rw [ea] at h; exact h
    | exc y S2 => rw [ea] at h; exact h
    | ok x1 S1 =>
      rw [ea] at h
      simp only [Res.bind_ok] at h
      intro v1 w1 H1 W1 l1 r1
      have rc := RepT.read r1 W1.core
      cases er : rd S1 x1 with
      | str s =>
        rw [er] at h rc
        obtain ⟨rfl, hls⟩ := rc.str
        refine ⟨⟨_, rfl⟩, w1, g, S1, W1, ?_⟩
        simp only at h
        cases eb : ev P.T P.cf b g S1 with
        | bad => rw [eb] at h; exact h
        | exc y S2 => rw [eb] at h; exact Pr.X.le l1 h
        | ok y S2 =>
          rw [eb] at h
          simp only [Res.bind_ok] at h
          intro v2 w2 H2 W2 l2 r2
          cases et : txD m s (rd S2 y) with
          | none => rw [et] at h; exact h.elim
          | some r =>
            rw [et] at h
            exact ⟨s, v2, w2, S2, _, r, rfl, rfl, hls, W2.core, RepT.read r2 W2.core, et, fun v' w' H' c' l' r' => h v' w' H' (W2.step c' l') ((l1.trans l2).trans l') (ArgR1.of hm r')⟩
      | _ => rw [er] at h; exact h.elim
  subst hx
  cases m with
  | join => exact PE.imp (pe_m1 F.slot_str_join F.type_str_join (tx_ok hK .join) ho he (star_of hs) (base_of hb) hl) main
  | split => exact PE.imp (pe_m1 F.slot_str_split F.type_str_split (tx_ok hK .split) ho he (star_of hs) (base_of hb) hl) main
  | part => exact PE.imp (pe_m1 F.slot_str_partition F.type_str_partition (tx_ok hK .part) ho he (star_of hs) (base_of hb) hl) main
  | starts => exact PE.imp (pe_m1 F.slot_str_startswith F.type_str_startswith (tx_ok hK .starts) ho he (star_of hs) (base_of hb) hl) main
end
end Zd
set_option Elab.async false
set_option linter.all false
set_option maxRecDepth 100000
set_option maxHeartbeats 1000000
/-! Classmethods: C.m(..), cls(..). -/
namespace Zd
open PySem PySem.Spec PyProof.Rows L2
/-- a def's run, as code -/
def endC (X : Cx) (pins : List (Addr × Obj)) (σ : L2.St) (Q : VK) : Result → Shared → Prop := fun r s' => match r with
  | .ok (.ret u) => EP X pins σ Q u s'
  | .ok _ => False
  | .error u => X.xe u s'
structure CallsC (X : Cx) (g : Addr) (t : L2.St → List V → Hp → VK → Prop) : Prop where
  run : ∀ (pins : List (Addr × Obj)) (σ : L2.St) (H : Hp) (s : Shared) (Q : VK) (us : List Value) (vs : List V), L2.Inv X pins σ H s → Vals vs us → t σ vs H Q → codeAny (model X.prog X.w) X.A (.call (.ref g) ⟨us, []⟩) (endC X pins σ Q) s
theorem run_fC {X : Cx} {CX : CXT} {k : Nat} {f : Addr} {fd : FuncData} {ps : List Str} {sp : Sp} {dvs : List V} {ds : List Value} {E : L2.St → XK} {pins : List (Addr × Obj)} {σ : L2.St} {H : Hp} {s : Shared} {Q : VK} {us : List Value} {vs : List V}
    (F : FOk X.prog X.w X.K X.mg X.base CX k f fd ps sp) (hr : Rm k X.A) (hb : Binds X.K fd ps ds) (hd : Vals dvs ds) (hx : PassesAt CX X σ (E σ)) (I : L2.Inv X pins σ H s) (r : Vals vs us) (h : sp (vs ++ dvs) H Q (E σ)) :
    codeAny (model X.prog X.w) X.A (.call (.ref f) ⟨us, []⟩) (endC X pins σ Q) s := by
  have r2 := r.append hd
  have hl := r2.length.symm.trans (F.len h)
  refine codeAny_mono (F.run X.A X.stack s H ⟨us, []⟩ (us ++ ds) (vs ++ dvs) Q _ hr I.env0 (hb s us I.kIn hl) r2 h) fun r s' hq => ?_
  have z := ends_caller hx I hq
  cases r with
  | error e => exact z
  | ok fl => cases fl <;> exact z
section
variable {X : Cx} {P : Pr} {md : Md} {p pos apos cpos : Pos}
/-- what is called as a def, by its parameters' modes, as code -/
structure CalleeC (X : Cx) (P : Pr) (f : Nat) (g : Addr) (ms : List Md) : Prop where
  calls : CallsC X g fun σ vs H Q => ∃ w S ds, Core P.L w S H ∧ ArgR P.L w H ms ds vs ∧ ds.length = ms.length ∧ PostC P.L w H Q (fun cls d H' => P.W cls d σ H') (P.cf f ds S)
/-- C.m(es): m a classmethod of C -/
def tCm (C : Addr) (u : L2.St → List V → Hp → VK → Prop) (t : TA) : TE := fun σ H Q => t σ H fun vs H2 => u σ (.ref C :: vs) H2 Q
theorem pe_cm {x : Str} {e : Expr} {es : List Expr} {m : Str} {C q gA : Addr} {mc : Value} {u : L2.St → List V → Hp → VK → Prop} {t : TA} (r : ClX.CRead X.K C mc) (c : ClX.CMet X.K C mc m q gA) (cl : CallsC X gA u) (hg : Gl X x) (hmg : X.mg x = some (.ref C)) (hdb : (x == ("__debug__" : Str)) = false)
    (ha : PA X (e :: es) t) (hf : methodCallForm ((e :: es).length + ([] : List Keyword).length) (backTo cpos (starEach (e :: es) X.env)) (backToKw cpos (keywordEach [] X.env)) = true) (hl : (apos.endLine == cpos.line) = true)
    (hst : starEach (e :: es) X.env = (false, eval e X.env) :: starEach es X.env) (hpl : (backTo cpos (starEach es X.env)).any (·.1) = false) : PE X (.Call (.Attribute (.Name x p) m apos) (e :: es) [] cpos) (tCm C u t) := by
  refine ⟨fun pins s σ H Q I h => ?_⟩
  refine PySem.W.methodCall_KW (thn ((pe_glob (pos := p) (v := .ref C) hg hmg rfl hdb).run pins s σ H (fun v H1 => v = .ref C ∧ H1 = H) I ⟨rfl, rfl⟩) fun u1 s1 ⟨v, H1, I1, rx, ex, eh⟩ => ?_) (meth_eq rfl hf hl)
  subst ex
  subst eh
  obtain rfl : u1 = Value.ref C := rx
  refine ClX.getmethcm_ok I1 r c fun s2 I2 => ?_
  refine ClX.callwith_cm I2 (ClX.base_none I1 (Nat.le_refl _)) c.fi (thn (ha.run cpos _ s2 σ _ _ I2 h) fun us s3 ⟨vs, H2, I3, rv, q2⟩ => ⟨⟨ClX.pin_at I3, I3.kIn⟩, ?_⟩) hst hpl
  have z : wpAny (model X.prog X.w) X.A (call (.ref s1.heap.objs.size) us) (EP X ((s1.heap.objs.size, PySem.W.methodObj (.ref gA) (.ref C)) :: pins) σ Q) X.xe s3 :=
    wpAny_call (PySem.W.method_call (ClX.pin_at I3) (codeAny_mono (cl.run _ σ H2 s3 Q (.ref C :: us) (.ref C :: vs) I3 (.cons rfl rv) q2) fun r s' hq => by
      cases r with
      | error e => exact hq
      | ok fl => cases fl <;> exact hq))
  exact thn z fun _ _ y => ClX.unpinE y
theorem n_cmt {k f : Nat} {l : DA} {ms : List Md} {x : Str} {e : Expr} {es : List Expr} {m : Str} {q gA : Addr} {mc : Value} (hmd : md = .val ∨ md = .top) (C : CalleeC X P f gA (.cls k :: ms)) (r : ClX.CRead X.K (P.L.ca k) mc) (c : ClX.CMet X.K (P.L.ca k) mc m q gA) (hg : Gl X x) (hmg : X.mg x = some (.ref (P.L.ca k))) (hdb : (x == ("__debug__" : Str)) = false)
    (hl : l.len = ms.length) (ha : PA X (e :: es) (tAr P ms l)) (hline : (apos.endLine == cpos.line) = true) (s1 : notStar e = true) (s2 : es.all notStar = true)
    (hf : methodCallForm ((e :: es).length + ([] : List Keyword).length) (backTo cpos (starEach (e :: es) X.env)) (backToKw cpos (keywordEach [] X.env)) = true) : PE X (.Call (.Attribute (.Name x p) m apos) (e :: es) [] cpos) (tM P md (.cmt k f l)) :=
  PE.imp (pe_cm r c C.calls hg hmg hdb ha hf hline (star_of s1) (star_any s2 cpos)) fun σ H Q h => by
    obtain ⟨w, g, S, W, h⟩ := h
    unfold ev at h
    refine ⟨w, g, S, W, ?_⟩
    cases ec : eva P.T P.cf l g S with
    | bad => rw [ec] at h; exact h
    | exc y S2 => rw [ec] at h; exact h
    | ok ds S1 =>
      rw [ec] at h
      simp only [Res.bind_ok] at h
      intro vs w1 H1 W1 l1 r1
      refine ⟨w1, S1, .non :: ds, W1.core, ?_, by rw [List.length_cons, List.length_cons, (eva_len l ec).trans hl], ?_⟩
      · unfold ArgR
        exact ⟨_, vs, rfl, rfl, r1⟩
      · cases ef : P.cf f (.non :: ds) S1 with
        | bad => rw [ef] at h; exact h
        | exc y S2 => rw [ef] at h; exact fun w' H' cls dx c' l' r' => h w' H' cls dx (W1.step c' l') (l1.trans l') r'
        | ok y S2 => rw [ef] at h; exact fun v w' H' c' l' r' => h v w' H' (W1.step c' l') (l1.trans l') (ArgR1.of hmd r')
/-- cls(es), cls the class in a slot -/
theorem pe_clv {i : Nat} {x : Str} {e : Expr} {es : List Expr} {g : Addr} {u : L2.St → List V → Hp → VK → Prop} {t : TA} (c : Calls X g u) (hN : X.N[i]? = some x) (hv : Vis X.env.scope x) (hk : PySem.W.keepIn X.K (.ref g) = true) (ha : PA X (e :: es) t) (hdb : (x == ("__debug__" : Str)) = false) (hcd : (x == ("__classdict__" : Str)) = false)
    (he : starEach (e :: es) X.env = (false, eval e X.env) :: starEach es X.env) (hpl : (backTo pos (starEach es X.env)).any (·.1) = false) : PE X (.Call (.Name x p) (e :: es) [] pos) (fun σ H Q => σ[i]? = some (some (.ref g)) ∧ t σ H fun vs H1 => u σ vs H1 Q) := by
  refine ⟨fun pins s σ H Q I h => ?_⟩
  obtain ⟨hs, ht⟩ := h
  refine wpAny_Call_Name_kw (thn ((pe_var (pos := p) hN hv hdb hcd).run pins s σ H (fun v H1 => v = .ref g ∧ H1 = H) I ⟨.ref g, hs, rfl, rfl⟩) fun u1 s1 ⟨v, H1, I1, r1, q1⟩ => ?_)
  obtain ⟨rfl, rfl⟩ := q1
  cases r1
  exact PySem.W.callWith_K (h₀ := X.base) I.ok.mod.kin hk (thn (ha.run pos pins s1 σ _ _ I1 ht) fun us s2 ⟨vs, H2, I2, r, q⟩ => ⟨I2.kIn, c.run pins σ H2 s2 Q us vs I2 r q⟩) he hpl
theorem n_nwc {i k f : Nat} {C : Addr} {x : Str} {e : Expr} {es : List Expr} {l : DA} {ms : List Md} (hm : md = .val ∨ md = .top) (c : Maker X P k f C ms) (hM : P.M i = .cls k) (hC : P.L.ca k = C) (hN : X.N[i]? = some x) (hv : Vis X.env.scope x) (hdb : (x == ("__debug__" : Str)) = false) (hcd : (x == ("__classdict__" : Str)) = false)
    (hl : l.len = ms.length) (ha : PA X (e :: es) (tAr P ms l)) (s1 : notStar e = true) (s2 : es.all notStar = true) : PE X (.Call (.Name x p) (e :: es) [] pos) (tM P md (.nwc i k f l)) :=
  PE.imp (pe_clv c.calls hN hv c.kp ha hdb hcd (star_of s1) (star_any s2 pos)) fun σ H Q h => by
    obtain ⟨w, g, S, W, h⟩ := h
    unfold ev at h
    split at h
    · rename_i d hg
      obtain ⟨v, e1, r⟩ := W.slot i d hg
      rw [hM] at r
      have r : v = .ref (P.L.ca k) := r
      rw [hC] at r
      subst r
      refine ⟨e1, new_read hm hl ⟨w, g, S, W, ?_⟩⟩
      unfold ev
      exact h
    · exact h.elim
end
end Zd
set_option Elab.async false
set_option linter.all false
set_option maxRecDepth 100000
set_option maxHeartbeats 1000000
/-! len of an own thing; the names of a dict, as texts. -/
namespace PySem.W
open PySem PySem.Calls PyProof.Rows Builtin
theorem len_K' {prog : Program} {w : World} {A : Around} {E : Value → Shared → Prop} {s : Shared} {K : Frag} {x C f : Addr} {ox : Obj} {od : Option Obj} {Q : Value → Shared → Prop} (X : K.In s.heap) (I : InstAt s.heap x ox C od) (hs : findIn K (.ref C) "__len__" = some (some (.ref f))) (hf : isFn K (.ref f) = true)
    (h : wpAny (model prog w) A.in1 (call (.ref f) [.ref x]) (LenBack Q) E s) : wpAny (model prog w) A (call (.builtin "len") [.ref x]) Q E s := by
  refine Calls.call_function_entry kind_len plain_len entry_len (args_len1 _) ?_
  unfold Builtin.«len»
  refine wpAny_bind (m := oneArg "len" _) (wpAny_pure ?_)
  refine wpAny_bind (m := callSpecial? (.ref x) (Str.ofString "__len__")) (special_fn X I hs (beq_iff_eq.mp hf) (wpAny_mono h (fun r s' hr => ?_) fun _ _ y => y))
  cases r <;> first | exact hr.elim | skip
  rename_i n u
  obtain ⟨⟨h0, h1⟩, hq⟩ := hr
  refine wpAny_bind (wpAny_holding (wpAny_pure ?_))
  refine wpAny_bind (wpAny_letGo ?_)
  show wpAny _ _ (if n < 0 then _ else _) _ _ _
  rw [if_neg (by omega)]
  show wpAny _ _ (if n ≥ 2 ^ 63 then _ else _) _ _ _
  rw [if_neg (by omega)]
  exact wpAny_bind (wpAny_mkInt (wpAny_pure ⟨_, rfl, hq⟩))
end PySem.W
namespace Zd
open PySem PySem.Spec PyProof.Rows L2
theorem Rm.in1 {k : Nat} {A : Around} (r : Rm (k + 1) A) : Rm k A.in1 := ⟨r.room.in1, r.gd⟩
/-- a def's run, within a built-in's call -/
structure CallsI (X : Cx) (g : Addr) (t : L2.St → List V → Hp → VK → Prop) : Prop where
  run : ∀ (pins : List (Addr × Obj)) (σ : L2.St) (H : Hp) (s : Shared) (Q : VK) (us : List Value) (vs : List V), L2.Inv X pins σ H s → Vals vs us → t σ vs H Q → wpAny (model X.prog X.w) X.A.in1 (call (.ref g) us) (EP X pins σ Q) X.xe s
theorem run_fI {X : Cx} {CX : CXT} {k : Nat} {f : Addr} {fd : FuncData} {ps : List Str} {sp : Sp} {dvs : List V} {ds : List Value} {E : L2.St → XK} {pins : List (Addr × Obj)} {σ : L2.St} {H : Hp} {s : Shared} {Q : VK} {us : List Value} {vs : List V}
    (F : FOk X.prog X.w X.K X.mg X.base CX k f fd ps sp) (hr : Rm k X.A.in1) (hb : Binds X.K fd ps ds) (hd : Vals dvs ds) (hx : PassesAt CX X σ (E σ)) (I : L2.Inv X pins σ H s) (r : Vals vs us) (h : sp (vs ++ dvs) H Q (E σ)) :
    wpAny (model X.prog X.w) X.A.in1 (call (.ref f) us) (EP X pins σ Q) X.xe s := by
  have r2 := r.append hd
  have hl := r2.length.symm.trans (F.len h)
  refine wpAny_call (codeAny_mono (F.run X.A.in1 X.stack s H ⟨us, []⟩ (us ++ ds) (vs ++ dvs) Q _ hr I.env0.in1 (hb s us I.kIn hl) r2 h) fun r s' hq => ?_)
  have z := ends_caller hx I hq
  cases r with
  | error e => exact z
  | ok fl => cases fl <;> exact z
section
variable {X : Cx} {P : Pr} {md : Md} {p pos : Pos}
structure CalleeI (X : Cx) (P : Pr) (f : Nat) (g : Addr) (ms : List Md) : Prop where
  calls : CallsI X g fun σ vs H Q => ∃ w S ds, Core P.L w S H ∧ ArgR P.L w H ms ds vs ∧ ds.length = ms.length ∧ PostC P.L w H Q (fun cls d H' => P.W cls d σ H') (P.cf f ds S)
theorem pe_lno {e : Expr} {C gA : Addr} {u : L2.St → List V → Hp → VK → Prop} {ta : TE} (m : Meth X.K C ("__len__" : Str) gA) (cl : CallsI X gA u) (hg : Gl X ("len" : Str)) (hm : X.mg ("len" : Str) = none) (he : PE X e ta) (hs : notStar e = true) :
    PE X (.Call (.Name ("len" : Str) p) [e] [] pos) (fun σ H Q => ta σ H fun v H1 => ∃ a dx fs, v = .ref a ∧ H1 a = some (.ins C dx fs) ∧ u σ [.ref a] H1 fun r H2 => ∃ n : Int, r = .int n ∧ 0 ≤ n ∧ n < 9223372036854775808 ∧ Q (.int n) H2) := by
  refine ⟨fun pins s σ H Q I h => ?_⟩
  have ha : PA X [e] (tCons ta tNil) := pa_cons he pa_nil (star_of hs)
  refine wpAny_Call_Name_kw (ld_blt I hg hm (by decide +kernel : bootBuiltins ("len" : Str) = some (.builtin "len")) ?_ (by decide) (by decide))
  refine PyProof.Rows.callWith_builtin1 (thn (ha.run pos pins s σ H (fun vs H1 => match vs with
    | [v] => ∃ a dx fs, v = .ref a ∧ H1 a = some (.ins C dx fs) ∧ u σ [.ref a] H1 fun r H2 => ∃ n : Int, r = .int n ∧ 0 ≤ n ∧ n < 9223372036854775808 ∧ Q (.int n) H2
    | _ => False) I h) fun us s1 ⟨vs, H1, I1, r1, q⟩ => ?_) (star_of hs) (star_any (es := []) rfl pos)
  cases r1 with
  | nil => exact q.elim
  | cons r1 r2 =>
    cases r2 with
    | cons _ _ => exact q.elim
    | nil =>
    obtain ⟨a, dx, fs, ev, ea, q⟩ := q
    subst ev
    cases r1
    obtain ⟨mA, O, rr, _, _, _⟩ := ins_get I1.hok ea
    obtain ⟨od, J, hl⟩ := O.look
    refine PySem.W.len_K' I1.kIn J m.at_ m.fn (thn (cl.run pins σ H1 s1 _ [.ref a] [.ref a] I1 (.cons rfl .nil) q) fun v s2 ⟨y, H2, I2, ry, n, en, h0, h1, q2⟩ => ?_)
    subst en
    obtain ⟨t, rfl⟩ := ry
    exact ⟨⟨h0, by omega⟩, .int n, H2, I2.tok _, ⟨_, rfl⟩, q2⟩
theorem n_lno {k f : Nat} {a : DE} {e : Expr} {gA : Addr} (hmd : md = .val ∨ md = .top) (C : CalleeI X P f gA [.val]) (mt : Meth X.K (P.L.ca k) ("__len__" : Str) gA) (hg : Gl X ("len" : Str)) (hm : X.mg ("len" : Str) = none) (he : PE X e (tM P .val a)) (hs : notStar e = true) :
    PE X (.Call (.Name ("len" : Str) p) [e] [] pos) (tM P md (.lno k f a)) := PE.imp (pe_lno mt C.calls hg hm he hs) fun σ H Q h => by
  obtain ⟨w, g, S, W, h⟩ := h
  unfold ev at h
  refine ⟨w, g, S, W, ?_⟩
  cases ec : ev P.T P.cf a g S with
  | bad => rw [ec] at h; exact h
  | exc y S2 => rw [ec] at h; exact h
  | ok x S1 =>
    rw [ec] at h
    simp only [Res.bind_ok] at h
    intro v w1 H1 W1 l1 r1
    have r1' : Rep P.L w1 x v := r1
    have rc := RepT.read (Or.inl r1') W1.core
    cases ex : rd S1 x with
    | obj c ns l' =>
      rw [ex] at h rc
      replace h : PostM P md w g σ H Q (if c = k then (P.cf f [x] S1).bind fun v S => (match v with
        | .int n => if 0 ≤ n ∧ n < 9223372036854775808 then .ok (.int n) S else .bad
        | _ => .bad) else .bad) := h
      by_cases ck : c = k
      · rw [if_pos ck] at h
        subst ck
        obtain ⟨b, dx, fs, rfl, q, e1, e2⟩ := rc.obj W1.core
        refine ⟨b, dx, fs, rfl, q, w1, S1, [x], W1.core, ?_, rfl, ?_⟩
        · unfold ArgR
          exact ⟨_, [], rfl, r1, by unfold ArgR; rfl⟩
        · cases ef : P.cf f [x] S1 with
          | bad => rw [ef] at h; exact h
          | exc y S3 => rw [ef] at h; exact fun w' H' cls dx c' l' r' => h w' H' cls dx (W1.step c' l') (l1.trans l') r'
          | ok y S3 =>
            rw [ef] at h
            intro v w' H' c' l' r'
            have r' : Rep P.L w' y v := r'
            cases y with
            | int n =>
              simp only [Rep] at r'
              replace h : PostM P md w g σ H Q (if 0 ≤ n ∧ n < 9223372036854775808 then .ok (.int n) S3 else .bad) := h
              by_cases hn : 0 ≤ n ∧ n < 9223372036854775808
              · rw [if_pos hn] at h
                exact ⟨n, r', hn.1, hn.2, h _ w' H' (W1.step c' l') (l1.trans l') (ArgR1.of hmd (by simp only [Rep]))⟩
              · rw [if_neg hn] at h
                exact h.elim
            | _ => exact h.elim
      · rw [if_neg ck] at h
        exact h.elim
    | _ => rw [ex] at h; exact h.elim
/-! ### [str(x) for x in d] -/
theorem keys_str {L : Lk} {w : Wd} : ∀ {ks : List D} {kvs : List (Key × V)}, ks.map keyK = kvs.map (fun p => some p.1) → ks.all D.isStr = true → Reps L w ks (kvs.map fun p => kV p.1)
  | [], [], _, _ => by simp only [List.map_nil, Reps]
  | [], _ :: _, e, _ => by cases e
  | _ :: _, [], e, _ => by cases e
  | k :: ks, (q, v) :: kvs, e, h => by
    simp only [List.map_cons] at e
    injection e with e1 e2
    rw [List.all_cons, Bool.and_eq_true] at h
    have ih := keys_str (L := L) (w := w) e2 h.2
    cases k with
    | str s =>
      have e1 : some (.inr ⟨s.toArray⟩ : Key) = some q := e1
      cases e1
      have hl : s.length ≤ line := of_decide_eq_true h.1
      simp only [List.map_cons, Reps]
      exact ⟨_, _, rfl, by simp only [Rep]; exact ⟨rfl, hl⟩, ih⟩
    | _ => cases h.1
theorem key_txt {L : Lk} {w : Wd} {ks : List D} {kvs : List (Key × V)} (h : ks.map keyK = kvs.map (fun p => some p.1)) (ha : ks.all D.isStr = true) {i : Nat} {k : Key} {v : V} (e : kvs[i]? = some (k, v)) : ∃ x, kV k = .str x := by
  have z := congrArg (fun l => l[i]?) h
  simp only [List.getElem?_map, e, Option.map_some] at z
  cases q : ks[i]? with
  | none => rw [q] at z; cases z
  | some d =>
    rw [q] at z
    have hd := List.all_eq_true.mp ha d (List.mem_of_getElem? q)
    cases d with
    | str s =>
      have z : some (some (.inr ⟨s.toArray⟩ : Key)) = some (some k) := z
      cases z
      exact ⟨_, rfl⟩
    | _ => cases hd
theorem n_dks {i j : Nat} {x : Str} {elt tg : Expr} {sc : Scope} {own : List (Str × Nat)} (hc : X.calm = true) (hN : X.N.Nodup) (hj : X.N[j]? = some x) (hv : Vis X.env.scope x) (hdb : (x == ("__debug__" : Str)) = false) (hcd : (x == ("__classdict__" : Str)) = false)
    (ok : BlkOk X.N X.env.scope sc own) (ho : own.map (·.2) = [i]) (hM : P.M j = .val)
    (hg : ∀ (s : Shared) (H : Hp) (C : Addr) (cl : List (Str × Addr)) (fp : List Addr), PG (X.blk s H sc (compEnvC sc cl C X.env) fp) tg (gName i))
    (he : ∀ (s : Shared) (H : Hp) (C : Addr) (cl : List (Str × Addr)) (fp : List Addr), PE (X.blk s H sc (compEnvC sc cl C X.env) fp) elt (tCB (fun xs H Q => ∃ a, xs = [.str a] ∧ Q (.str a) H) (tCons (tVar i) tNil)))
    (hs : ∀ z, foldedSetIterable (.Name x p) X.env z = pure z) :
    PE X (.ListComp elt [⟨tg, .Name x p, [], 0⟩] sc pos) (tF P (.dks i j)) := by
  refine PE.imp (pe_lock (pe_lc hc hN (pi_keys (pe_var hj hv hdb hcd)) ok hg (fun _ _ _ _ _ => pts_nil) he hs)) fun σ H Q q => ?_
  obtain ⟨w, g, S, W, h⟩ := q
  unfold ev at h
  split at h
  · rename_i ks vs hgj
    split at h
    · rename_i hall
      rw [Bool.and_eq_true, decide_eq_true_eq] at hall
      obtain ⟨hall, hi⟩ := hall
      rw [W.len] at hi
      obtain ⟨v, e1, r⟩ := W.slot j _ hgj
      rw [hM] at r
      have r : Rep P.L w (.dic ks vs) v := r
      simp only [Rep] at r
      obtain ⟨a, kvs, rfl, hsa, hk, _, hl⟩ := r
      have hH : H a = some (.dK kvs) := W.core.sub _ _ hsa
      have ky := keys_str (L := P.L) (w := w) hk hall
      have kl : ks.length = kvs.length := by have := congrArg List.length hk; simpa using this
      refine ⟨a, .dK kvs, hH, trivial, fun od => ?_⟩
      refine ⟨.ref a, e1, a, od, rfl, .inl ⟨kvs, upd_same, fun D hD => ?_⟩⟩
      have nDa : D ≠ a := fun e => by rw [e, upd_same] at hD; cases hD
      have hD' : H D = none := by rw [upd_ne nDa] at hD; exact hD
      rw [ho]
      refine ⟨fun i' m H' => m = kvs.length - i' ∧ i' ≤ kvs.length ∧ H' = upd (upd H a (.frz od (.dK kvs))) D (.lst ((kvs.take i').map fun p => kV p.1)), ⟨kvs.length, by simp⟩, ?_⟩
      rintro i' m H' ⟨rfl, hi', rfl⟩
      have at_a : ∀ l : List V, upd (upd H a (.frz od (.dK kvs))) D (.lst l) a = some (.frz od (.dK kvs)) := fun l => by rw [upd_ne (Ne.symm nDa), upd_same]
      by_cases hlt : i' < kvs.length
      · refine .inr ⟨⟨at_a _, hlt⟩, fun H'' => H'' = upd (upd H a (.frz od (.dK kvs))) D (.lst ((kvs.take (i' + 1)).map fun p => kV p.1)), fun H'' e => ⟨kvs.length - (i' + 1), by omega, rfl, hlt, e⟩, ?_⟩
        rintro x' H'' ⟨rfl, k, v, hkv, rfl⟩
        obtain ⟨tx, htx⟩ := key_txt (L := P.L) (w := w) hk hall hkv
        refine ⟨?_, ?_⟩
        · show ((σ.set i none).set i (some (kV k))).set i none = σ.set i none
          rw [List.set_set, List.set_set]
        · unfold tYes
          simp only [if_true]
          refine ⟨kV k, ?_, tx, by rw [htx], (kvs.take i').map fun p => kV p.1, upd_same, ?_, ?_⟩
          · show ((σ.set i none).set i (some (kV k)))[i]? = _
            rw [List.getElem?_set_self (by rw [List.length_set]; exact hi)]
          · rw [List.length_map, List.length_take]
            have : kvs.length ≤ sizeLine := by rw [← kl]; exact line_le hl
            omega
          · rw [upd_upd]
            congr 2
            rw [List.take_add_one, hkv, List.map_append, ← htx]
            rfl
      · have e : i' = kvs.length := by omega
        subst e
        refine .inl ⟨⟨at_a _, Nat.le_refl _⟩, at_a _, ?_⟩
        have eH : upd (upd (upd H a (.frz od (.dK kvs))) D (.lst ((kvs.take kvs.length).map fun p => kV p.1))) a (.dK kvs) = upd H D (.lst ((kvs.take kvs.length).map fun p => kV p.1)) := by
          funext b
          by_cases q1 : b = a
          · subst q1; rw [upd_same, upd_ne (Ne.symm nDa), hH]
          · rw [upd_ne q1]
            by_cases q2 : b = D
            · subst q2; rw [upd_same, upd_same]
            · rw [upd_ne q2, upd_ne q2, upd_ne q1]
        rw [eH]
        refine h D _ w H W (Le.refl _ _) hD' ?_
        simp only [Con]
        exact ⟨_, upd_same, by rw [List.take_length]; exact ky, hl⟩
    · exact h.elim
  · exact h.elim
end
end Zd
set_option Elab.async false
set_option linter.all false
set_option maxRecDepth 100000
set_option maxHeartbeats 1000000
/-! str of an own thing; == and != of two things of one own class. -/
namespace PySem.W
open PySem PySem.Calls PyProof.Rows Builtin
section
variable {prog : Program} {w : World} {A : Around} {E : Value → Shared → Prop} {s : Shared} {K : Frag} {x y C f : Addr} {ox oy : Obj} {od od' : Option Obj} {Q : Value → Shared → Prop}
/-- a special that is a built-in slot, bound -/
theorem ifBound_bK {M : Model} {name : Str} {id : String} {args : List Value} {Q : Option Value → Shared → Prop} (X : K.In s.heap) (I : InstAt s.heap x ox C od) (hs : findIn K (.ref C) name = some (some (.builtin id)))
    (hb : ∀ self, bindSpecial (.builtin id) self = pure (.builtin id, [self])) (h : wpAny M A (call (.builtin id) (.ref x :: args)) (fun v => Q (some v)) E s) : wpAny M A (callSpecialIfBound? (.ref x) name args) Q E s := by
  simp only [callSpecialIfBound?, bindSpecialIfBound?]
  refine wpAny_holding (wpAny_bind (wpAny_bind (wpAny_bind (I.type.here ((looks_findIn X hs).here ?_)))))
  refine wpAny_bind (wpAny_askSetting (wpAny_ite ?_))
  have fin : wpAny M A (call (.builtin id) ([.ref x] ++ args) >>= fun v => pure (some v)) Q E s := wpAny_bind (wpAny_mono h (fun v s' h' => wpAny_pure h') fun _ _ h' => h')
  split
  · exact wpAny_bind ((Looks.of_pure (hb _)).here (wpAny_pure (by exact fin)))
  · exact wpAny_tryCatch (wpAny_bind ((Looks.of_pure (hb _)).here (wpAny_pure (by exact fin))))
/-- what a thing of the class at C is compared with: another, a text, a tuple -/
inductive Oth (s : Shared) (C : Addr) (b : Value) : Prop
  | own {y : Addr} {oy : Obj} {od : Option Obj} (e : b = .ref y) (J : InstAt s.heap y oy C od)
  | ty {T : String} (h : s.TypeIs b T) (e : subIn K (.type T) (.ref C) = some false)
theorem one_cls {op : CmpOp} {b : Value} (hu : A.units < cLine) (X : K.In s.heap) (I : InstAt s.heap x ox C od) (J : Oth (K := K) s C b)
    (one : wpAny (model prog w) A (tryCompare (.ref x) (cmpInfo op).2.1 b) (fun r s' => ∃ v, r = some v ∧ Q v s') E s) : wpAny (model prog w) A (richCompare op (.ref x) b) Q E s := by
  unfold richCompare
  simp only [oneThing_ref]
  refine wpAny_holding (wpAny_bind (wpAny_cRoomFor hu ?_))
  rcases J with ⟨rfl, J⟩ | ⟨h, e⟩
  · refine wpAny_bind (I.type.here (wpAny_bind (J.type.here ?_)))
    rw [show (Value.ref C != Value.ref C) = false from by simp]
    simp only [Bool.false_eq_true, if_false]
    refine wpAny_bind (wpAny_pure ?_)
    simp only [Bool.false_eq_true, if_false]
    refine wpAny_bind (wpAny_mono one (fun r s' z => ?_) fun _ _ e => e)
    obtain ⟨v, rfl, hq⟩ := z
    exact wpAny_pure hq
  · refine wpAny_bind (I.type.here (wpAny_bind (wpAny_typeOf h ?_)))
    rename_i T
    rw [show (Value.ref C != Value.type T) = true from by simp]
    simp only [if_true]
    refine wpAny_bind ((looks_subIn X e).here ?_)
    simp only [Bool.false_eq_true, if_false]
    refine wpAny_bind (wpAny_mono one (fun r s' z => ?_) fun _ _ e => e)
    obtain ⟨v, rfl, hq⟩ := z
    exact wpAny_pure hq
theorem eq_one {b : Value} (hu : A.units < cLine) (X : K.In s.heap) (I : InstAt s.heap x ox C od) (J : Oth (K := K) s C b) (hs : findIn K (.ref C) "__eq__" = some (some (.ref f))) (hf : isFn K (.ref f) = true)
    (h : wpAny (model prog w) A (call (.ref f) [.ref x, b]) (fun v s' => ∃ b, v = .bool b ∧ Q (.bool b) s') E s) : wpAny (model prog w) A (compareOp .Eq (.ref x) b) Q E s := by
  refine cmp_ofEq (one_cls hu X I J ?_)
  unfold tryCompare
  refine wpAny_bind (ifBound_K X I hs hf (wpAny_mono h (fun v s' hv => ?_) fun _ _ e => e))
  obtain ⟨b, rfl, q⟩ := hv
  exact wpAny_pure ⟨_, rfl, q⟩
theorem ne_one {b : Value} (hu : A.units + 1 < cLine) (X : K.In s.heap) (I : InstAt s.heap x ox C od) (J : Oth (K := K) s C b) (hs : findIn K (.ref C) "__eq__" = some (some (.ref f))) (hf : isFn K (.ref f) = true)
    (hn : findIn K (.ref C) "__ne__" = some (some (.builtin "object.__ne__"))) (hm : mroIn K C (.type "object") = some true)
    (h : wpAny (model prog w) A.in1 (call (.ref f) [.ref x, b]) (fun v s' => ∃ b, v = .bool b ∧ Q (.bool (!b)) s') E s) : wpAny (model prog w) A (compareOp .NotEq (.ref x) b) Q E s := by
  refine cmp_ofNotEq (one_cls (Nat.lt_of_succ_lt hu) X I J ?_)
  unfold tryCompare
  refine wpAny_bind (ifBound_bK X I hn PySem.F.cmp_object.ne.bind (wpAny_call (codeAny_call_builtin PySem.F.cmp_object.ne.plain PySem.F.cmpEntry_ne (check_slot (i := "object.__ne__") (owner := "object") (n := "__ne__") PySem.F.cmpKind_ne PySem.F.cmpSplit_ne (I.type.andThen (looks_mroIn X hm)) (PySem.F.cmpArgs_ne _ _) ?_))))
  unfold Builtin.«object.__ne__»
  repeat (first
    | with_reducible refine wpAny_cRoomFor hu ?_
    | (refine wpAny_bind (m := callSpecialIfBound? (.ref x) (Str.ofString "__eq__") [b]) (ifBound_K X I hs hf (wpAny_mono h (fun r s' hr => by
        obtain ⟨b, rfl, hq⟩ := hr
        repeat (first | exact hq | exact wpAny_pure hq | exact wpAny_truthy_bool hq | (refine wpAny_bind (m := truthy (.bool _)) (wpAny_truthy_bool ?_)) | wp_step)
        all_goals first | exact ⟨_, rfl, hq⟩ | skip) fun _ _ e => e)))
    | wp_step)
end
end PySem.W
namespace Zd
open PySem PySem.Spec PyProof.Rows L2
theorem Rm.in2 {k : Nat} {A : Around} (r : Rm (k + 1) A) : Rm k A.in1.in1 :=
  ⟨⟨r.room.hd, by have := r.room.dp; show A.depth + 3 * k + 5 < _; omega, by have := r.room.un; show A.units + 1 + 1 + 16 * k + 200 < _; omega⟩, r.gd⟩
/-- a def's run, within a type's call -/
structure CallsJ (X : Cx) (g : Addr) (t : L2.St → List V → Hp → VK → Prop) : Prop where
  run : ∀ (pins : List (Addr × Obj)) (σ : L2.St) (H : Hp) (s : Shared) (Q : VK) (us : List Value) (vs : List V), L2.Inv X pins σ H s → Vals vs us → t σ vs H Q → wpAny (model X.prog X.w) X.A.in1.in1 (call (.ref g) us) (EP X pins σ Q) X.xe s
theorem run_fJ {X : Cx} {CX : CXT} {k : Nat} {f : Addr} {fd : FuncData} {ps : List Str} {sp : Sp} {dvs : List V} {ds : List Value} {E : L2.St → XK} {pins : List (Addr × Obj)} {σ : L2.St} {H : Hp} {s : Shared} {Q : VK} {us : List Value} {vs : List V}
    (F : FOk X.prog X.w X.K X.mg X.base CX k f fd ps sp) (hr : Rm k X.A.in1.in1) (hb : Binds X.K fd ps ds) (hd : Vals dvs ds) (hx : PassesAt CX X σ (E σ)) (I : L2.Inv X pins σ H s) (r : Vals vs us) (h : sp (vs ++ dvs) H Q (E σ)) :
    wpAny (model X.prog X.w) X.A.in1.in1 (call (.ref f) us) (EP X pins σ Q) X.xe s := by
  have r2 := r.append hd
  have hl := r2.length.symm.trans (F.len h)
  refine wpAny_call (codeAny_mono (F.run X.A.in1.in1 X.stack s H ⟨us, []⟩ (us ++ ds) (vs ++ dvs) Q _ hr I.env0.in1.in1 (hb s us I.kIn hl) r2 h) fun r s' hq => ?_)
  have z := ends_caller hx I hq
  cases r with
  | error e => exact z
  | ok fl => cases fl <;> exact z
/-- the class of a thing, for != -/
structure NeB (K : PySem.W.Frag) (C : Addr) : Prop where
  ne : PySem.W.findIn K (.ref C) "__ne__" = some (some (.builtin "object.__ne__"))
  ob : PySem.W.mroIn K C (.type "object") = some true
section
variable {X : Cx} {P : Pr} {md : Md} {p pos : Pos}
structure CalleeJ (X : Cx) (P : Pr) (f : Nat) (g : Addr) (ms : List Md) : Prop where
  calls : CallsJ X g fun σ vs H Q => ∃ w S ds, Core P.L w S H ∧ ArgR P.L w H ms ds vs ∧ ds.length = ms.length ∧ PostC P.L w H Q (fun cls d H' => P.W cls d σ H')
    (P.cf f ds S)
/-! ### str -/
theorem pe_sto {e : Expr} {C gA : Addr} {u : L2.St → List V → Hp → VK → Prop} {ta : TE} (hr : X.A.in1.in1.units < cLine) (m : Meth X.K C ("__str__" : Str) gA) (cl : CallsJ X gA u) (hg : Gl X ("str" : Str)) (hm : X.mg ("str" : Str) = none) (he : PE X e ta) (hs : notStar e = true) :
    PE X (.Call (.Name ("str" : Str) p) [e] [] pos) (fun σ H Q => ta σ H fun v H1 => ∃ a dx fs, v = .ref a ∧ H1 a = some (.ins C dx fs) ∧ u σ [.ref a] H1 fun r H2 => ∃ z : Str, r = .str z ∧ Q r H2) := by
  refine ⟨fun pins s σ H Q I h => ?_⟩
  have ha : PA X [e] (tCons ta tNil) := pa_cons he pa_nil (star_of hs)
  refine wpAny_Call_Name_kw (ld_blt I hg hm (by decide +kernel : bootBuiltins ("str" : Str) = some (.type "str")) ?_ (by decide) (by decide))
  refine PyProof.Rows.callWith_type1 (thn (ha.run pos pins s σ H (fun vs H1 => match vs with
    | [v] => ∃ a dx fs, v = .ref a ∧ H1 a = some (.ins C dx fs) ∧ u σ [.ref a] H1 fun r H2 => ∃ z : Str, r = .str z ∧ Q r H2
    | _ => False) I h) fun us s1 ⟨vs, H1, I1, r1, q⟩ => ?_) (star_of hs) (star_any (es := []) rfl pos)
  cases r1 with
  | nil => exact q.elim
  | cons r1 r2 =>
    cases r2 with
    | cons _ _ => exact q.elim
    | nil =>
    obtain ⟨a, dx, fs, ev, ea, q⟩ := q
    subst ev
    cases r1
    obtain ⟨mA, O, rr, _, _, _⟩ := ins_get I1.hok ea
    obtain ⟨od, J, hl⟩ := O.look
    refine PySem.W.kso_call hr I1.kIn J m.at_ m.fn (thn (cl.run pins σ H1 s1 _ [.ref a] [.ref a] I1 (.cons rfl .nil) q) fun v s2 ⟨y, H2, I2, ry, z, en, q2⟩ => ?_)
    subst en
    obtain ⟨t, rfl⟩ := ry
    exact ⟨.str z, H2, I2, ⟨t, rfl⟩, q2⟩
theorem n_sto {k f : Nat} {a : DE} {e : Expr} {gA : Addr} (hr : X.A.in1.in1.units < cLine) (hmd : md = .val ∨ md = .top) (C : CalleeJ X P f gA [.val]) (mt : Meth X.K (P.L.ca k) ("__str__" : Str) gA) (hg : Gl X ("str" : Str)) (hm : X.mg ("str" : Str) = none) (he : PE X e (tM P .val a)) (hs : notStar e = true) :
    PE X (.Call (.Name ("str" : Str) p) [e] [] pos) (tM P md (.sto k f a)) := PE.imp (pe_sto hr mt C.calls hg hm he hs) fun σ H Q h => by
  obtain ⟨w, g, S, W, h⟩ := h
  unfold ev at h
  refine ⟨w, g, S, W, ?_⟩
  cases ec : ev P.T P.cf a g S with
  | bad => rw [ec] at h; exact h
  | exc y S2 => rw [ec] at h; exact h
  | ok x S1 =>
    rw [ec] at h
    simp only [Res.bind_ok] at h
    intro v w1 H1 W1 l1 r1
    have r1' : Rep P.L w1 x v := r1
    have rc := RepT.read (Or.inl r1') W1.core
    cases ex : rd S1 x with
    | obj c ns l' =>
      rw [ex] at h rc
      replace h : PostM P md w g σ H Q (if c = k then (P.cf f [x] S1).bind fun v S => (match v with
        | .str s => .ok (.str s) S
        | _ => .bad) else .bad) := h
      by_cases ck : c = k
      · rw [if_pos ck] at h
        subst ck
        obtain ⟨b, dx, fs, rfl, q, e1, e2⟩ := rc.obj W1.core
        refine ⟨b, dx, fs, rfl, q, w1, S1, [x], W1.core, ?_, rfl, ?_⟩
        · unfold ArgR
          exact ⟨_, [], rfl, r1, by unfold ArgR; rfl⟩
        · cases ef : P.cf f [x] S1 with
          | bad => rw [ef] at h; exact h
          | exc y S3 => rw [ef] at h; exact fun w' H' cls dx c' l' r' => h w' H' cls dx (W1.step c' l') (l1.trans l') r'
          | ok y S3 =>
            rw [ef] at h
            intro v w' H' c' l' r'
            have r' : Rep P.L w' y v := r'
            cases y with
            | str z =>
              have r2 := r'
              simp only [Rep] at r2
              obtain ⟨rfl, r3⟩ := r2
              exact ⟨_, rfl, h _ w' H' (W1.step c' l') (l1.trans l') (ArgR1.of hmd r')⟩
            | _ => exact h.elim
      · rw [if_neg ck] at h
        exact h.elim
    | _ => rw [ex] at h; exact h.elim
/-! ### == and != -/
/-- an operation whose reading knows the slots -/
def OpS (X : Cx) (f : Value → Value → Sem Value) (r : L2.St → R2) : Prop :=
  ∀ (pins : List (Addr × Obj)) (s : Shared) (σ : L2.St) (H : Hp) (x y : V) (v u : Value) (Q : VK), L2.Inv X pins σ H s → RelV x v → RelV y u → r σ x y H Q → wpAny (model X.prog X.w) X.A (f v u) (EP X pins σ Q) X.xe s
def tOpS (r : L2.St → R2) (ta tb : TE) : TE := fun σ H Q => ta σ H fun x H1 => tb σ H1 fun y H2 => r σ x y H2 Q
theorem pe_cmpS {a b : Expr} {ta tb : TE} {op : CmpOp} {r : L2.St → R2} (ho : OpS X (compareOp op) r) (ha : PE X a ta) (hb : PE X b tb) (hm : behindInMarks op b = false) : PE X (.Compare a [op] [b] pos) (tOpS r ta tb) := by
  refine ⟨fun pins s σ H Q I h => wpAny_Compare1 (thn (ha.run pins s σ H _ I h) fun v s1 ⟨x, H1, I1, r1, q1⟩ => thn (hb.run pins s1 σ H1 _ I1 q1) fun u s2 ⟨y, H2, I2, r2, q2⟩ => ho pins s2 σ H2 x y v u Q I2 r1 r2 q2) hm⟩
theorem pt_cmpS {a b : Expr} {ta tb : TE} {op : CmpOp} {r : L2.St → R2} (ho : OpS X (compareOp op) r) (ha : PE X a ta) (hb : PE X b tb) (hm : behindInMarks op b = false) : PT X (.Compare a [op] [b] pos) (tTest (tOpS r ta tb)) := by
  refine ⟨fun pins s σ H Q I h => ?_⟩
  refine wpAny_isTrue_Compare1 (thn (ha.run pins s σ H _ I h) fun v s1 ⟨x, H1, I1, r1, q1⟩ => thn (hb.run pins s1 σ H1 _ I1 q1) fun u s2 ⟨y, H2, I2, r2, q2⟩ =>
    thn (ho pins s2 σ H2 x y v u _ I2 r1 r2 q2) fun c s3 ⟨z, H3, I3, r3, k, e, q3⟩ => ?_) hm
  subst e
  cases r3
  exact wpAny_truthy_bool ⟨H3, I3, q3⟩
def ngO : Bool → CmpOp
  | false => .Eq
  | true => .NotEq
/-- what stands beside it -/
def OthR (K : PySem.W.Frag) (C : Addr) (H : Hp) (y : V) : Prop := (∃ b dy gs, y = .ref b ∧ H b = some (.ins C dy gs)) ∨ (∃ z, y = .str z) ∨ ∃ b xs, y = .ref b ∧ SqT K H b xs
def rOeq (K : PySem.W.Frag) (C : Addr) (ng : Bool) (u : L2.St → List V → Hp → VK → Prop) : L2.St → R2 := fun σ x y H Q => ∃ a dx fs, x = .ref a ∧ H a = some (.ins C dx fs) ∧ OthR K C H y ∧ u σ [x, y] H fun r H2 => ∃ k, r = .bl k ∧ Q (.bl (k != ng)) H2
theorem op_oeq {C gA : Addr} {ng : Bool} {u : L2.St → List V → Hp → VK → Prop} (hr : X.A.units + 1 < cLine) (m : Meth X.K C ("__eq__" : Str) gA) (nb : ng = true → NeB X.K C) (cl : Calls X gA u) (cl1 : CallsI X gA u) : OpS X (compareOp (ngO ng)) (rOeq X.K C ng u) := by
  intro pins s σ H x y v w Q I rx ry h
  obtain ⟨a, dx, fs, rfl, ea, hy, q⟩ := h
  cases (show v = Value.ref a from rx)
  obtain ⟨mA, O, _⟩ := ins_get I.hok ea
  obtain ⟨od, J, _⟩ := O.look
  have J' : PySem.W.Oth (K := X.K) s C w := by
    rcases hy with ⟨b, dy, gs, rfl, eb⟩ | ⟨z, rfl⟩ | ⟨b, xs, rfl, hb⟩
    · cases (show w = Value.ref b from ry)
      obtain ⟨mB, O', _⟩ := ins_get I.hok eb
      obtain ⟨od', J', _⟩ := O'.look
      exact .own rfl J'
    · obtain ⟨t, rfl⟩ := ry
      exact .ty (T := "str") (typeIs_str _ _ _) (by first | rfl | kernel_rfl)
    · cases (show w = Value.ref b from ry)
      obtain ⟨its, rv, ht, _⟩ := I.tuple hb
      exact .ty (T := "tuple") (let ⟨o, ho, hc, _⟩ := ht; ⟨o, ho, hc⟩) (by first | rfl | kernel_rfl)
  cases ng with
  | false =>
    refine PySem.W.eq_one (Nat.lt_of_succ_lt hr) I.kIn J J' m.at_ m.fn (thn (cl.run pins σ H s _ [.ref a, w] [.ref a, y] I (.cons rfl (.cons ry .nil)) q) fun v s2 ⟨y, H2, I2, ry, k, e, q2⟩ => ?_)
    subst e
    cases ry
    exact ⟨k, rfl, .bl k, H2, I2, rfl, by cases k <;> exact q2⟩
  | true =>
    refine PySem.W.ne_one hr I.kIn J J' m.at_ m.fn (nb rfl).ne (nb rfl).ob (thn (cl1.run pins σ H s _ [.ref a, w] [.ref a, y] I (.cons rfl (.cons ry .nil)) q) fun v s2 ⟨y, H2, I2, ry, k, e, q2⟩ => ?_)
    subst e
    cases ry
    exact ⟨k, rfl, .bl (!k), H2, I2, rfl, by cases k <;> exact q2⟩
def uC (P : Pr) (f : Nat) (ms : List Md) : L2.St → List V → Hp → VK → Prop := fun σ vs H Q => ∃ w S ds, Core P.L w S H ∧ ArgR P.L w H ms ds vs ∧ ds.length = ms.length ∧ PostC P.L w H Q (fun cls d H' => P.W cls d σ H') (P.cf f ds S)
theorem oeq_core {k f : Nat} {ng : Bool} {da db : DE} (hK : X.K = P.L.K) (hmd : md = .val ∨ md = .top) {σ : L2.St} {H : Hp} {Q : VK} (h : tM P md (.oeq k f ng da db) σ H Q) : tOpS (rOeq X.K (P.L.ca k) ng (uC P f [.val, .val])) (tM P .val da) (tM P .val db) σ H Q := by
  obtain ⟨w, g, S, W, h⟩ := h
  unfold ev at h
  refine ⟨w, g, S, W, ?_⟩
  cases ea : ev P.T P.cf da g S with
  | bad => rw [ea] at h; exact h
  | exc x S1 => rw [ea] at h; exact h
  | ok x S1 =>
    rw [ea] at h
    intro v w1 H1 W1 l1 r1
    refine ⟨w1, g, S1, W1, ?_⟩
    simp only [Res.bind_ok] at h
    cases eb : ev P.T P.cf db g S1 with
    | bad => rw [eb] at h; exact h
    | exc y S2 => rw [eb] at h; exact Pr.X.le l1 h
    | ok y S2 =>
      rw [eb] at h
      intro u w2 H2 W2 l2 r2
      simp only [Res.bind_ok] at h
      have rx : Rep P.L w2 x v := Rep.le (H := H1) (H' := H2) r1 l2
      have ry : Rep P.L w2 y u := r2
      have cx := RepT.read (Or.inl rx) W2.core
      have cy := RepT.read (Or.inl ry) W2.core
      cases ex : rd S2 x with
      | obj c ns l' =>
        rw [ex] at h cx
        replace h : PostM P md w g σ H Q (if c = k ∧ eqOk k (rd S2 y) = true then (P.cf f [x, y] S2).bind fun v S => (match v with
            | .bl r => .ok (.bl (r != ng)) S
            | _ => .bad) else .bad) := h
        by_cases ck : c = k ∧ eqOk k (rd S2 y) = true
        · rw [if_pos ck] at h
          obtain ⟨rfl, hy⟩ := ck
          obtain ⟨a1, dx, fs, rfl, q, e1, e2⟩ := cx.obj W2.core
          have ho : OthR X.K (P.L.ca c) H2 u := by
            cases ey : rd S2 y with
            | obj d ns' l'' =>
              rw [ey] at hy cy
              have hd := beq_iff_eq.mp (show (d == c) = true from hy)
              subst hd
              obtain ⟨a2, dy, gs, rfl, q', _⟩ := cy.obj W2.core
              exact .inl ⟨a2, dy, gs, rfl, q'⟩
            | str z =>
              rw [ey] at cy
              exact .inr (.inl ⟨_, cy.str.1⟩)
            | tup z =>
              rw [ey] at cy
              obtain ⟨a2, xs, rfl, q', _⟩ := cy.tup W2.core
              exact .inr (.inr ⟨a2, xs, rfl, hK ▸ q'⟩)
            | _ => rw [ey] at hy; cases hy
          refine ⟨a1, dx, fs, rfl, q, ho, w2, S2, [x, y], W2.core, ?_, rfl, ?_⟩
          · unfold ArgR
            refine ⟨_, _, rfl, rx, ?_⟩
            unfold ArgR
            exact ⟨_, [], rfl, ry, by unfold ArgR; rfl⟩
          · cases ef : P.cf f [x, y] S2 with
            | bad => rw [ef] at h; exact h
            | exc z S3 => rw [ef] at h; exact fun w' H' cls dx c' l' r' => h w' H' cls dx (W2.step c' l') ((l1.trans l2).trans l') r'
            | ok z S3 =>
              rw [ef] at h
              intro v w' H' c' l' r'
              have r' : Rep P.L w' z v := r'
              cases z with
              | bl r =>
                simp only [Rep] at r'
                exact ⟨r, r', h _ w' H' (W2.step c' l') ((l1.trans l2).trans l') (ArgR1.of hmd (by simp only [Rep]))⟩
              | _ => exact h.elim
        · rw [if_neg ck] at h
          exact h.elim
      | _ =>
        rw [ex] at h
        exact h.elim
theorem oeq_bl {T : Tab} {cf : CF} {k f : Nat} {ng : Bool} {da db : DE} {g : Ev} {S S' : Store} {x : D} (h : ev T cf (.oeq k f ng da db) g S = .ok x S') : ∃ r, x = .bl r := by
  unfold ev at h
  cases ea : ev T cf da g S with
  | bad => rw [ea] at h; cases h
  | exc y S1 => rw [ea] at h; cases h
  | ok y S1 =>
    rw [ea] at h
    simp only [Res.bind_ok] at h
    cases eb : ev T cf db g S1 with
    | bad => rw [eb] at h; cases h
    | exc z S2 => rw [eb] at h; cases h
    | ok z S2 =>
      rw [eb] at h
      simp only [Res.bind_ok] at h
      split at h
      · split at h
        · cases ef : cf f [y, z] S2 with
          | bad => rw [ef] at h; cases h
          | exc u S3 => rw [ef] at h; cases h
          | ok u S3 =>
            rw [ef] at h
            simp only [Res.bind_ok] at h
            split at h
            · cases h
              exact ⟨_, rfl⟩
            · cases h
        · cases h
      · cases h
section
variable {k f : Nat} {ng : Bool} {da db : DE} {a b : Expr} {gA : Addr} (hK : X.K = P.L.K) (hr : X.A.units + 1 < cLine) (m : Meth X.K (P.L.ca k) ("__eq__" : Str) gA) (nb : ng = true → NeB X.K (P.L.ca k)) (C : Callee X P f gA [.val, .val]) (C1 : CalleeI X P f gA [.val, .val])
  (ha : PE X a (tM P .val da)) (hb : PE X b (tM P .val db)) (hmk : behindInMarks (ngO ng) b = false)
include hK hr m nb C C1 ha hb hmk
theorem n_oeq (hmd : md = .val ∨ md = .top) : PE X (.Compare a [ngO ng] [b] pos) (tM P md (.oeq k f ng da db)) :=
  PE.imp (pe_cmpS (op_oeq (u := uC P f [.val, .val]) hr m nb C.calls C1.calls) ha hb hmk) fun _ _ _ h => oeq_core hK hmd h
theorem t_oeq : PT X (.Compare a [ngO ng] [b] pos) (tBo P (.oeq k f ng da db)) :=
  PT.imp (pt_cmpS (op_oeq (u := uC P f [.val, .val]) hr m nb C.calls C1.calls) ha hb hmk) fun σ H Q h => by
    refine oeq_core hK (md := .val) (.inl rfl) ?_
    obtain ⟨w, g, S, W, h⟩ := h
    refine ⟨w, g, S, W, ?_⟩
    cases ec : ev P.T P.cf (.oeq k f ng da db) g S with
    | bad => rw [ec] at h; exact h
    | exc y S2 => rw [ec] at h; exact h
    | ok x S1 =>
      rw [ec] at h
      obtain ⟨r, rfl⟩ := oeq_bl ec
      intro v w' H' W' l' r'
      have r' : Rep P.L w' (.bl r) v := r'
      simp only [Rep] at r'
      exact ⟨r, r', h w' H' W' l'⟩
end
/-! ### f-strings -/
inductive JRel (P : Pr) : List TE → DA → Prop where
  | nil : JRel P [] .nil
  | fmt {a : DE} {ts : List TE} {l : DA} (h : JRel P ts l) : JRel P (tFmt (tM P .val a) :: ts) (.cons a l)
  | txt {s : List Nat} {ts : List TE} {l : DA} (h : JRel P ts l) : JRel P (tM P .val (.cst (.str s)) :: ts) (.cons (.cst (.str s)) l)
theorem str_cat (a b : List Nat) : ((⟨a.toArray⟩ : Str) ++ ⟨b.toArray⟩) = ⟨(a ++ b).toArray⟩ := by
  show (⟨a.toArray ++ b.toArray⟩ : Str) = _
  rw [List.append_toArray]
theorem joinRead (hmd : md = .val ∨ md = .top) {Q : VK} {w0 : Wd} {H0 : Hp} {g : Ev} {σ : L2.St} {ts : List TE} {l : DA} (hj : JRel P ts l) : ∀ (acc : List Nat) (w : Wd) (S : Store) (H : Hp), acc.length ≤ line → P.Wo w g S σ H → Le w0 H0 w H → PostM P md w0 g σ H0 Q (evf P.T P.cf l acc g S) → tJs ts ⟨acc.toArray⟩ σ H fun out H1 => Q (.str out) H1 := by
  induction hj with
  | nil =>
    intro acc w S H ha W l h
    unfold evf at h
    unfold tJs
    exact h _ w H W l (ArgR1.of hmd (by simp only [Rep]; exact ⟨trivial, ha⟩))
  | @fmt a ts dl hj ih =>
    intro acc w S H ha W l h
    unfold evf at h
    unfold tJs tFmt
    refine ⟨w, g, S, W, ?_⟩
    cases ec : ev P.T P.cf a g S with
    | bad => rw [ec] at h; exact h.elim
    | exc y S2 => rw [ec] at h; exact Pr.X.le l h
    | ok x S1 =>
      rw [ec] at h
      simp only [Res.bind_ok] at h
      intro v w1 H1 W1 l1 r1
      have r1 : Rep P.L w1 x v := r1
      have go : ∀ t, fmtT x = some t → ∃ _ : acc.length + t.length ≤ line, tJs ts ⟨(acc ++ t).toArray⟩ σ H1 fun out H1 => Q (.str out) H1 := fun t ht => by
        rw [ht] at h
        simp only at h
        by_cases q : acc.length + t.length ≤ line
        · rw [if_pos q] at h
          exact ⟨q, ih (acc ++ t) w1 S1 H1 (by rw [List.length_append]; exact q) W1 (l.trans l1) h⟩
        · rw [if_neg q] at h
          exact h.elim
      cases x with
      | str s =>
        simp only [Rep] at r1
        obtain ⟨rfl, r2⟩ := r1
        obtain ⟨q, z⟩ := go s rfl
        exact .inl ⟨_, rfl, line_le r2, ⟨s.toArray⟩, rfl, by rw [str_cat]; show (acc ++ s).toArray.size ≤ _; rw [List.size_toArray, List.length_append]; exact line_le q, by rw [str_cat]; exact z⟩
      | int i =>
        simp only [Rep] at r1
        subst r1
        by_cases hi : i.natAbs.log2 < 1920
        · obtain ⟨q, z⟩ := go (toString i : Str).cps.toList (by show (if _ then _ else _) = _; rw [if_pos hi])
          have e : (⟨(toString i : Str).cps.toList.toArray⟩ : Str) = (toString i : Str) := by rw [Array.toArray_toList]
          exact .inr ⟨i, rfl, hi, _, rfl, by rw [← e, str_cat]; show (acc ++ _).toArray.size ≤ _; rw [List.size_toArray, List.length_append]; exact line_le q, by rw [← e, str_cat]; exact z⟩
        · have hn : fmtT (.int i) = none := by show (if _ then _ else _) = _; rw [if_neg hi]
          rw [hn] at h
          exact h.elim
      | _ => exact h.elim
  | @txt s ts dl hj ih =>
    intro acc w S H ha W l h
    unfold evf at h
    unfold tJs
    have ec : ev P.T P.cf (.cst (.str s)) g S = .ok (.str s) S := by unfold ev; rfl
    refine ⟨w, g, S, W, ?_⟩
    rw [ec] at h ⊢
    simp only [Res.bind_ok] at h
    intro v w1 H1 W1 l1 r1
    have r1 : Rep P.L w1 (.str s) v := r1
    simp only [Rep] at r1
    obtain ⟨rfl, r2⟩ := r1
    replace h : PostM P md w0 g σ H0 Q (if acc.length + s.length ≤ line then evf P.T P.cf dl (acc ++ s) g S else .bad) := h
    by_cases q : acc.length + s.length ≤ line
    · rw [if_pos q] at h
      exact ⟨⟨s.toArray⟩, rfl, by rw [str_cat]; show (acc ++ s).toArray.size ≤ _; rw [List.size_toArray, List.length_append]; exact line_le q, by rw [str_cat]; exact ih (acc ++ s) w1 S H1 (by rw [List.length_append]; exact q) W1 (l.trans l1) h⟩
    · rw [if_neg q] at h
      exact h.elim
theorem n_fst {v1 v2 : Expr} {rest : List Expr} {ts : List TE} {l : DA} (hmd : md = .val ∨ md = .top) (h : PJ X (v1 :: v2 :: rest) ts) (hj : JRel P ts l) : PE X (.JoinedStr (v1 :: v2 :: rest) pos) (tM P md (.fst l)) :=
  PE.imp (pe_joined h) fun σ H Q q => by
    obtain ⟨w, g, S, W, q⟩ := q
    unfold ev at q
    exact joinRead hmd hj [] w S H (Nat.zero_le _) W (Le.refl _ _) q
end
end Zd
set_option Elab.async false
set_option linter.all false
set_option maxRecDepth 100000
set_option maxHeartbeats 2000000
/-! Ordered sets of rows, and sorted by a key: the nodes. -/
namespace Zd
open PySem PySem.Spec PyProof.Rows L2
theorem reps_rows {L : Lk} {w : Wd} : ∀ {es : List (List (Option Int) × Addr)}, KsT L.K w.Hs es → Reps L w ((es.map (·.1)).map rwD) (es.map fun e => V.ref e.2)
  | [], _ => by simp only [List.map_nil, Reps]
  | e :: es, h => by
    simp only [List.map_cons, Reps]
    obtain ⟨h1, h2⟩ := h e List.mem_cons_self
    exact ⟨_, _, rfl, row_rep h1 h2, reps_rows fun e he => h e (List.mem_cons_of_mem _ he)⟩
section
variable {X : Cx} {P : Pr} {M' Mb : Ms} {md : Md} {p pos apos cpos : Pos} {w : Wd} {g : Ev} {σ : L2.St} {H : Hp} {S : Store} {D : Ends} {Q : VK}
/-! ### {} -/
theorem n_rnw : PE X (.Dict [] [] pos) (tF P .rnw) := PE.imp pe_rnw fun σ H Q h => by
  obtain ⟨w, g, S, W, h⟩ := h
  unfold ev at h
  exact fun q hq => h q _ w H W (Le.refl _ _) hq ⟨[], rfl, upd_same, nofun, List.nodup_nil, Nat.zero_le _⟩
/-! ### list(d) -/
theorem n_rls {i : Nat} {x : Str} (hc : X.calm = true) (hK : X.K = P.L.K) (hm : (P.M i).mine = true) (hg : Gl X ("list" : Str)) (hmg : X.mg ("list" : Str) = none) (hx : PE X (.Name x p) (tVar i)) :
    PE X (.Call (.Name ("list" : Str) cpos) [.Name x p] [] pos) (tF P (.rls i)) := by
  refine PE.imp (pe_callTy (call_rls hc) hg hmg (by decide +kernel) (pa_cons hx pa_nil (star_of rfl)) (by decide) (by decide) (star_of rfl) (star_any (es := []) rfl pos)) fun σ H Q h => ?_
  obtain ⟨w, g, S, W, h⟩ := h
  unfold ev at h
  split at h
  · rename_i ks hgi
    obtain ⟨a, hs, o⟩ := own_at W hm hgi
    obtain ⟨_, ⟨es, e1, ha, hk, nd, hz⟩, _⟩ := o
    have lz : es.length = ks.length := by rw [← e1, List.length_map]
    refine ⟨_, hs, a, es, rfl, ha, by rw [hK]; exact hk.mono W.core.sub, e1 ▸ nd, line_le (by omega), fun q hq => ?_⟩
    refine h q _ w H W (Le.refl _ _) hq ?_
    refine ⟨_, upd_same, ?_, by rw [List.length_map]; exact hz⟩
    rw [← e1]
    exact reps_rows hk
  · exact h.elim
/-! ### {e: True for t in it} -/
theorem rc_cons {f : Ev → Store → Res Zd.D} {t : Tg} {g : Ev} {x : Zd.D} {xs : List Zd.D} {acc ys : List (List (Option Int))} {S Sf : Store} (h : rcGo f t g (x :: xs) acc S = .ok ys Sf) : ∃ g' y S' k, bindT t x g = some g' ∧ f g' S = .ok y S' ∧ rwO y = some k ∧ acc.length < line ∧ rcGo f t g xs (putR k acc) S' = .ok ys Sf := by
  unfold rcGo at h
  cases hb : bindT t x g with
  | none => rw [hb] at h; cases h
  | some g' =>
    rw [hb] at h
    simp only at h
    cases hf : f g' S with
    | bad => rw [hf] at h; cases h
    | exc d S' => rw [hf] at h; cases h
    | ok y S' =>
      rw [hf] at h
      simp only at h
      cases hr : rwO y with
      | none => rw [hr] at h; cases h
      | some k =>
        rw [hr] at h
        simp only at h
        split at h
        · rename_i hl
          exact ⟨g', y, S', k, rfl, hf, hr, hl, h⟩
        · cases h
theorem rcm_read {K : PySem.W.Frag} {t : Tg} {it : DI} {e : DE} {vs : List Nat} (hK : K = P.L.K) (hv : ∀ v, v ∈ vs ↔ v ∈ t.slots) (hM : ∀ i, i ∈ t.slots → P.M i = .val) (h : tF P (.rcm e t it) σ H Q) : tRc K (tIt P false it) (tgG K t) tYes (tM P.calm .val e) (tC (.bl true)) vs σ H Q := by
  obtain ⟨w, g, S, W, h⟩ := h
  unfold ev at h
  refine ⟨w, g, S, W, ?_⟩
  cases ei : evi P.T P.cf it g S with
  | bad => rw [ei] at h; exact h
  | exc x S1 => rw [ei] at h; exact h
  | ok xs S1 =>
    rw [ei] at h
    simp only [Res.bind_ok] at h
    intro J srcs w1 H1 W1 l1 hsrc hit hlen D hD
    cases el : rcGo (ev P.T P.cf e) t g xs [] S1 with
    | bad => rw [el] at h; exact h.elim
    | exc x S2 => rw [el] at h; exact h.elim
    | ok ys Sf =>
      rw [el] at h
      have nD : w1.Hs D = none := by
        cases z : w1.Hs D with
        | none => rfl
        | some u => rw [W1.core.sub _ _ z] at hD; cases hD
      refine ⟨fun i m H => m = xs.length - i ∧ i ≤ xs.length ∧ ∃ w' Si acc, Core P.L w' Si H ∧ Le w1 H1 w' H ∧ Own P.L w' H (.rdc acc) D ∧ rcGo (ev P.T P.cf e) t g (xs.drop i) acc Si = .ok ys Sf,
        ⟨_, rfl, Nat.zero_le _, w1, S1, [], W1.core.fresh hD, Le.fresh hD, ⟨nD, ⟨[], rfl, upd_same, nofun, List.nodup_nil, Nat.zero_le _⟩, fun k hk => W1.core.rhoNe hk hD⟩, el⟩, ?_⟩
      rintro i m H2 ⟨rfl, hi, w', Si, acc, c, l, o, hgo⟩
      have hs : ∀ p ∈ srcs, RepC P.L w' H2 p.1 p.2 := fun p hp => ((hsrc p hp).le l).repC
      by_cases hlt : i < xs.length
      · have hx : xs[i]? = some xs[i] := List.getElem?_eq_getElem hlt
        obtain ⟨g1, g2⟩ := hit.go w' H2 Si i _ c hs hx
        refine .inr ⟨g1, fun H' => ((xs.length - (i + 1) : Nat) = xs.length - (i + 1)) ∧ i + 1 ≤ xs.length ∧ ∃ w' Si acc, Core P.L w' Si H' ∧ Le w1 H1 w' H' ∧ Own P.L w' H' (.rdc acc) D ∧ rcGo (ev P.T P.cf e) t g (xs.drop (i + 1)) acc Si = .ok ys Sf,
          fun H' q => ⟨xs.length - (i + 1), by omega, q⟩, fun x H' y => ?_⟩
        obtain ⟨w2, c2, l2, rx⟩ := g2 x H' y
        rw [List.drop_eq_getElem_cons hlt] at hgo
        obtain ⟨g', yd, S', k, hb, he, hk, hla, hgo'⟩ := rc_cons hgo
        have W2 := ((W1.step c2 (l.trans l2)).wip vs)
        rw [wip_wipe]
        refine W2.bind hK rx hM (by rw [bindT_wip fun v z => (hv v).mp z]; exact hb) fun us W3 hus => ?_
        refine ⟨by rw [wip_wipe]; exact wip_sets fun v z => (hv v).mpr z, ?_⟩
        unfold tYes
        show (if (true : Bool) = true then _ else _)
        rw [if_pos rfl]
        refine ⟨w2, g', Si, W3, ?_⟩
        show PostM P.calm .val w2 g' _ H' _ (ev P.T P.cf e g' Si)
        rw [he]
        intro v w3 H3 W4 l3 r3
        have r3 : Rep P.L w3 yd v := r3
        rw [rwO_eq hk] at r3
        obtain ⟨u, rfl, hu, hlr⟩ := rep_row r3
        obtain ⟨n3, ⟨es, e1, hD3, hks, nd, z⟩, d3⟩ := (o.le l2).le l3
        have lz : es.length = acc.length := by rw [← e1, List.length_map]
        show ∃ es r u', _
        refine ⟨es, k, u, rfl, rfl, hD3, by rw [hK]; exact hks.mono W4.core.sub, e1 ▸ nd, by rw [← line_eq]; omega, by rw [hK]; exact SqT.mono W4.core.sub hu, rfl, hlt, w3, S', putR k acc, W4.core.change n3 d3, ((l.trans l2).trans l3).change hD, ⟨n3, con_rdc e1 hks nd hla hu hlr, d3⟩, hgo'⟩
      · have ei : i = xs.length := by omega
        refine .inl ⟨by rw [ei]; exact hit.stop w' H2 Si c hs, ?_⟩
        rw [List.drop_eq_nil_of_le (by omega)] at hgo
        unfold rcGo at hgo
        cases hgo
        obtain ⟨n3, ⟨es, e1, hD3, hks, nd, z⟩, d3⟩ := o
        have q := h D (RD es D) w' (less H2 D) (W1.step (c.less n3 d3) (l.less hD)) (l1.trans (l.less hD)) less_same (by rw [less_upd hD3]; exact ⟨es, e1, hD3, hks, nd, z⟩)
        rw [less_upd hD3] at q
        exact q
/-! ### d.update(e), e a new ordered set -/
theorem storedAll_xs (ms : List (List (Option Int) × Addr)) : ∀ es : List (List (Option Int) × Addr), storedAllH (xsR es) (xsR ms) = xsR (ms.foldl (fun acc e => putE acc e.1 e.2) es) := by
  induction ms with
  | nil => exact fun _ => rfl
  | cons m ms ih =>
    intro es
    show storedAllH (storedH (xsR es) (rwK m.1) m.2 (.bool true)) (xsR ms) = _
    rw [stored_xs, ih]
    rfl
def putEs (es ms : List (List (Option Int) × Addr)) : List (List (Option Int) × Addr) := ms.foldl (fun acc e => putE acc e.1 e.2) es
theorem putEs_all {w : Wd} {L : Lk} (ms : List (List (Option Int) × Addr)) : ∀ es : List (List (Option Int) × Addr), KsT L.K w.Hs es → KsT L.K w.Hs ms → (es.map (·.1)).Nodup → es.length + ms.length ≤ line →
    (putEs es ms).map (·.1) = (ms.map (·.1)).foldl (fun a k => putR k a) (es.map (·.1)) ∧ KsT L.K w.Hs (putEs es ms) ∧ ((putEs es ms).map (·.1)).Nodup ∧ (putEs es ms).length ≤ line := by
  induction ms with
  | nil => exact fun es h _ nd hl => ⟨rfl, h, nd, (by simpa using hl : es.length ≤ line)⟩
  | cons m ms ih =>
    intro es h1 h2 nd hl
    rw [List.length_cons] at hl
    have hm := h2 m List.mem_cons_self
    have le := len_putE es m.1 m.2
    have z := ih (putE es m.1 m.2) (fun e he => by
      rcases mem_putE he with q | q
      · exact h1 e q
      · rw [q]; exact hm) (fun e he => h2 e (List.mem_cons_of_mem _ he)) (by rw [putE_keys]; exact nodup_putR nd) (by omega)
    rw [putE_keys] at z
    exact z
def rRup (K : PySem.W.Frag) : V → List V → Hp → VK → Prop := fun x xs H Q => ∃ a d es ms, x = .ref a ∧ xs = [.ref d] ∧ a ≠ d ∧ H a = some (RD es a) ∧ H d = some (RD ms d) ∧ KsT K H es ∧ KsT K H ms ∧ (es.map (·.1)).Nodup ∧ (ms.map (·.1)).Nodup ∧ (es ≠ [] ∨ ms.length ≤ 1) ∧ es.length + ms.length ≤ sizeLine ∧
  Q .non (upd H a (RD (putEs es ms) a))
theorem mt_rup (hu : X.A.units + 1 < cLine) : MtR X "dict.update" (rRup X.K) := by
  intro pins s σ H x xs v us Q I rx rs h
  obtain ⟨a, d, es, ms, rfl, rfl, ne, ha, hd, k1, k2, n1, n2, hap, hz, q⟩ := h
  cases rx
  obtain ⟨u, rfl, ru⟩ := rs.one
  cases ru
  obtain ⟨s1, d1⟩ := RD_dict I ha k1 n1
  obtain ⟨s2, d2⟩ := RD_dict I hd k2 n2
  refine PySem.call_update_dictH (tupleKind_room_in1 hu) ne s2 d1 d2 ?_ (by unfold xsR; rw [List.length_map, List.length_map]; exact hz) fun h' q1 q2 sb => ?_
  · rcases hap with e | e
    · exact .inl fun z => e (List.map_eq_nil_iff.mp z)
    · refine .inr ⟨keyed_apart tupleKind_stays d2, ?_⟩
      match ms, e with
      | [], _ => exact List.nodup_nil
      | [m], _ => simp [xsR]
      | _ :: _ :: _, e => simp at e
  · rw [storedAll_xs] at q1
    have he : ∃ q, h'.get? a = some q := let ⟨q, _, _, hq, _⟩ := q1; ⟨q, hq⟩
    exact ⟨.non, _, d_write (t' := s.toks) I (by rw [ha]; exact mut_RD) sb he (RD_ok s1 q1), rfl, q⟩
def tUp (K : PySem.W.Frag) (to : TE) (t : TA) : TE := fun σ H Q => to σ H fun x H1 => (∃ a es, x = .ref a ∧ H1 a = some (RD es a)) ∧ t σ H1 fun xs H2 => rRup K x xs H2 Q
theorem pe_rup {o e : Expr} {to te : TE} {name : Str} (hn : name = ("update" : Str)) (hu : X.A.units + 1 < cLine) (ho : PE X o to) (he : PE X e te)
    (hbase : attributeBase o name X.env (eval o X.env) = eval o X.env)
    (hfew : ((backTo cpos (starEach [e] X.env)).all (fun x => !x.1) && (backToKw cpos (keywordEach [] X.env)).all (fun x => x.1.isSome)
      && decide (([e] : List Expr).length + ([] : List Keyword).length + (if ([] : List Keyword).isEmpty then 0 else 1) < 30)) = true)
    (hline : (apos.endLine == cpos.line) = true) (hs : starEach [e] X.env = (false, eval e X.env) :: starEach [] X.env) :
    PE X (.Call (.Attribute o name apos) [e] [] cpos) (tUp X.K to (tCons te tNil)) := by
  subst hn
  refine ⟨fun pins s σ H Q I h => ?_⟩
  refine wpAny_Call_method_late hbase hfew hline rfl (thn (ho.run pins s σ H _ I h) fun v s1 ⟨x, H1, I1, r1, ⟨a, es, ex, ha⟩, q1⟩ => ?_)
  subst ex
  cases r1
  obtain ⟨⟨_, o1, arr, ep, e1, hx, hd, _⟩, _, _⟩ := (show ObjOk X.prog X.w H1 s1.heap a (RD es a) from I1.hok a _ ha)
  refine ⟨"dict", "dict.update", PySem.F.plainAttrs_dict, PySem.F.slot_dict_update, PySem.F.type_dict_update, ⟨o1, e1, hx.1⟩, fun b eb => ?_, ?_⟩
  · cases eb
    exact ⟨o1, e1, hx.2.1⟩
  have hA := (pa_cons he pa_nil hs : PA X [e] (tCons te tNil)).run cpos pins s1 σ H1 _ I1 q1
  rw [hs] at hA ⊢
  refine Calls.callWith_builtin rfl (Calls.evalArgs_plain ?_)
  exact thn hA fun us s2 ⟨vs, H2, I2, r2, q2⟩ => mt_rup hu pins s2 σ H2 (.ref a) vs (.ref a) us Q I2 rfl r2 q2
theorem rup_read {i : Nat} {e : DE} (hK : X.K = P.L.K) (hm : (P.M i).mine = true) (h : tSt P P.M Mb (.rup i e) D σ H) : tDrop (tUp X.K (tVar i) (tCons (tF P e) tNil)) D σ H := by
  obtain ⟨w, g, S, W, h⟩ := h
  unfold exs at h
  split at h
  · rename_i ks hg
    obtain ⟨a, hs, o⟩ := own_at W hm hg
    obtain ⟨_, ⟨es0, _, ha0, _⟩, _⟩ := id o
    refine ⟨_, hs, ⟨a, es0, rfl, ha0⟩, ?_⟩
    refine go_fresh W h fun x S1 q ob w1 H1 W1 l1 hq hc h1 => ?_
    split at h1
    · rename_i ms
      split at h1
      · rename_i hb
        simp only [Bool.and_eq_true, Bool.or_eq_true, decide_eq_true_eq, Bool.not_eq_true'] at hb
        obtain ⟨hap, hlen⟩ := hb
        have W2 := W1.step (W1.core.fresh (o := ob) hq) (Le.fresh hq)
        obtain ⟨_, ⟨es, e1, ha, hk, nd, hz⟩, _⟩ := (o.le l1).le (Le.fresh (o := ob) hq)
        obtain ⟨fs, f1, hd, hk2, nd2, hz2⟩ := hc
        have lz : es.length = ks.length := by rw [← e1, List.length_map]
        have lz2 : fs.length = ms.length := by rw [← f1, List.length_map]
        have ne : a ≠ q := fun z => by
          obtain ⟨o', ho'⟩ := (o.le l1).2.1.there
          rw [z, hq] at ho'
          cases ho'
        obtain ⟨p1, p2, p3, p4⟩ := putEs_all fs es hk hk2 (e1 ▸ nd) (by omega)
        refine ⟨a, q, es, fs, rfl, rfl, ne, ha, hd, by rw [hK]; exact hk.mono W2.core.sub, by rw [hK]; exact hk2.mono W2.core.sub, e1 ▸ nd, f1 ▸ nd2, ?_, line_le (by omega), h1 σ w1 _ (changed W2 hm hg hs ?_) (Ge.refl _)⟩
        · rcases hap with z | z
          · refine .inl fun z2 => ?_
            rw [z2] at e1
            rw [← e1] at z
            cases z
          · exact .inr (by omega)
        · rw [e1, f1] at p1
          rw [p1] at p3
          exact ⟨_, p1, upd_same, p2, p3, by rw [← p1, List.length_map]; exact p4⟩
      · exact h1.elim
    · exact h1.elim
  · exact h.elim
/-! ### sorted(a, key=f) -/
/-- a def's run, within a type's call and one within; no exception -/
structure CalleeN (X : Cx) (P : Pr) (f : Nat) (gA : Addr) : Prop where
  calls : ∀ (pins : List (Addr × Obj)) (σ : L2.St) (H : Hp) (s : Shared) (Q : VK) (u : Value) (v : V), L2.Inv X pins σ H s → RelV v u → (∃ w S d, Core P.L w S H ∧ Rep P.L w d v ∧ PostC P.L w H Q (fun _ _ _ => False) (P.cf f [d] S)) →
    wpAny (model X.prog X.w) X.A.in1.in1 (call (.ref gA) [u]) (EP X pins σ Q) (fun _ _ => False) s
theorem pys_app : ∀ {a b : List Zd.D} {ps : List PyData}, Zd.D.pys (a ++ b) = some ps → Zd.D.pys a = some (ps.take a.length)
  | [], b, ps, _ => by simp [Zd.D.pys]
  | x :: a, b, ps, h => by
    simp only [List.cons_append, Zd.D.pys] at h ⊢
    cases hx : x.py with
    | none => rw [hx] at h; cases h
    | some y =>
      rw [hx] at h
      simp only at h ⊢
      cases hr : Zd.D.pys (a ++ b) with
      | none => rw [hr] at h; cases h
      | some xs =>
        rw [hr] at h
        cases h
        rw [pys_app hr]
        rfl
theorem keys_cons {f : Zd.D → Store → Res Zd.D} {x : Zd.D} {xs ys : List Zd.D} {S Sf : Store} (h : keysGo f (x :: xs) S = .ok ys Sf) : ∃ y S' ys', f x S = .ok y S' ∧ keysGo f xs S' = .ok ys' Sf ∧ ys = y :: ys' := by
  unfold keysGo at h
  cases hf : f x S with
  | bad => rw [hf] at h; cases h
  | exc d S' => rw [hf] at h; cases h
  | ok y S' =>
    rw [hf] at h
    simp only at h
    cases hr : keysGo f xs S' with
    | bad => rw [hr] at h; cases h
    | exc d S' => rw [hr] at h; cases h
    | ok ys' S2 =>
      rw [hr] at h
      simp only at h
      cases h
      exact ⟨y, S', ys', rfl, hr, rfl⟩
theorem keys_len {f : Zd.D → Store → Res Zd.D} : ∀ {xs ys : List Zd.D} {S Sf : Store}, keysGo f xs S = .ok ys Sf → ys.length = xs.length
  | [], ys, S, Sf, h => by unfold keysGo at h; cases h; rfl
  | x :: xs, ys, S, Sf, h => by
    obtain ⟨y, S', ys', _, h2, rfl⟩ := keys_cons h
    rw [List.length_cons, List.length_cons, keys_len h2]
def rSrk (K : PySem.W.Frag) (P : Pr) (gA : Addr) (f : Nat) : List V → List V → Hp → VK → Prop := fun vs zs H Q => ∃ (a : Addr) (xv : List V) (xs ks : List Zd.D) (ps : List PyData) (w : Wd) (S Sf : Store), vs = [V.ref a] ∧ zs = [V.ref gA] ∧ SqL K H a xv ∧ Core P.L w S H ∧ Reps P.L w xs xv ∧
  keysGo (fun y S => P.cf f [y] S) xs S = .ok ks Sf ∧ Zd.D.pys ks = some ps ∧ PySem.W.AllAlike ps ∧ PySem.W.Sortable ps ∧ (∀ d, d ∈ ps → d.depth ≤ 100) ∧ ∀ w' H' p, Core P.L w' Sf H' → Le w H w' H' → H' p = none → Q (.ref p) (upd H' p (.lst (sortV xv ps)))
theorem cr_srk {f : Nat} {gA : Addr} (hu : X.A.units + 200 < cLine) (hK : X.K = P.L.K) (C : CalleeN X P f gA) : CallRK X (.builtin "sorted") [Str.ofString "key"] (rSrk X.K P gA f) := by
  intro pins s σ H xs0 zs us ws Q I rv rz h
  obtain ⟨a, xv, xs, ks, ps, w, S, Sf, rfl, rfl, hs, c, rr, hgo, hps, hal, hsk, hdp, k⟩ := h
  obtain ⟨u, rfl, ru⟩ := L2.vals1 rv
  obtain ⟨u2, rfl, ru2⟩ := L2.vals1 rz
  cases ru
  cases ru2
  obtain ⟨its, ri, pl, hz⟩ := I.list hs
  have l1 := rr.length
  have l2 := keys_len hgo
  have l3 := pys_len hps
  have e1 : (xv.zip ps).map (·.1) = xv := List.map_fst_zip (by omega)
  have e2 : (xv.zip ps).map (·.2) = ps := List.map_snd_zip (by omega)
  show wpAny _ _ (call (.builtin "sorted") [.ref a] [(Str.ofString "key", .ref gA)]) _ _ _
  refine sorted_keyI (bs := xv.zip ps) (vs := its) (T := fun i H' ys => ∃ w' Si kd rest, Core P.L w' Si H' ∧ Le w H w' H' ∧ Reps P.L w' kd ys ∧ kd.length = i ∧ keysGo (fun y S => P.cf f [y] S) (xs.drop i) Si = .ok rest Sf ∧ kd ++ rest = ks)
    I pl.isList (by rw [e1]; exact ri) (by rw [← ri.length]; exact hz) (by rw [e2]; exact hal) (by rw [e2]; exact hsk) (fun d hd => by rw [e2] at hd; have := hdp d hd; show X.A.units + 1 + 1 + d.depth < cLine; omega)
    ⟨w, S, [], ks, c, Le.refl _ _, by simp only [Reps], rfl, hgo, rfl⟩ ?_ ?_ ?_
  · rintro i H' ys ⟨w', Si, kd, rest, c', l', r', hl', hgo', ek⟩
    rw [e2]
    refine ⟨r'.length.trans hl', Reps.dp hK c' kd ys _ r' ?_⟩
    have z := pys_app (a := kd) (b := rest) (ps := ps) (by rw [ek]; exact hps)
    rw [hl'] at z
    exact z
  · rintro i v x ys hx rx pins' H' s' I' ⟨w', Si, kd, rest, c', l', r', hl', hgo', ek⟩
    rw [e1] at hx
    have hi : i < xs.length := by have := (List.getElem?_eq_some_iff.mp hx).1; omega
    rw [List.drop_eq_getElem_cons hi] at hgo'
    obtain ⟨y, S', rest', hf, hgo2, rfl⟩ := keys_cons hgo'
    obtain ⟨x', hx', rx'⟩ := rr.get (List.getElem?_eq_getElem hi)
    rw [hx] at hx'
    cases hx'
    refine C.calls pins' σ H' s' _ v x I' rx ⟨w', Si, xs[i], c', rx'.le l', ?_⟩
    rw [hf]
    intro vy w2 H2 c2 l2 r2
    exact ⟨w2, S', kd ++ [y], rest', c2, l'.trans l2, (r'.le l2).append (.one r2), by rw [List.length_append, hl']; rfl, hgo2, by rw [List.append_assoc]; exact ek⟩
  · rintro H' ys p ⟨w', Si, kd, rest, c', l', r', hl', hgo', ek⟩ hp
    rw [List.drop_eq_nil_of_le (by have := ri.length; omega)] at hgo'
    unfold keysGo at hgo'
    cases hgo'
    exact k w' H' p c' l' hp
theorem n_srk {f : Nat} {a : DE} {y : Expr} {x : Str} {gA : Addr} {px kp : Pos} (hu : X.A.units + 200 < cLine) (hK : X.K = P.L.K) (C : CalleeN X P f gA) (hg : Gl X ("sorted" : Str)) (hm : X.mg ("sorted" : Str) = none) (ha : PE X y (tM P .top a)) (hs : notStar y = true)
    (hgx : Gl X x) (hmx : X.mg x = some (.ref gA)) (hdx : (x == ("__debug__" : Str)) = false) :
    PE X (.Call (.Name ("sorted" : Str) p) [y] [⟨some ("key" : Str), .Name x px, kp⟩] pos) (tF P (.srk f a)) := by
  refine PE.imp (pe_callBK (cr_srk hu hK C) hg hm (by decide +kernel) (pa_cons ha pa_nil (star_of hs)) (pk_cons (pe_glob (v := .ref gA) hgx hmx rfl hdx) pk_nil) (by decide) (by decide) (by show backTo pos (starEach [y] X.env) = _; rw [star_of hs]; rfl) (by show (backTo pos (starEach [y] X.env)).any _ = false; rw [star_of hs]; rfl)) fun σ H Q h => ?_
  obtain ⟨w, g, S, W, h⟩ := h
  unfold ev at h
  refine ⟨w, g, S, W, ?_⟩
  cases ec : ev P.T P.cf a g S with
  | bad => rw [ec] at h; exact h
  | exc d S2 => rw [ec] at h; exact h
  | ok d S1 =>
    rw [ec] at h
    simp only [Res.bind_ok] at h
    intro v w1 H1 W1 l1 r1
    have r1 : RepT P.L w1 H1 d v := r1
    have rc := r1.read W1.core
    cases ex : rd S1 d with
    | lst xs =>
      rw [ex] at h rc
      simp only at h
      obtain ⟨b, xv, rfl, q, rr⟩ := rc.lst W1.core
      cases hk : keysGo (fun y S => P.cf f [y] S) xs S1 with
      | bad => rw [hk] at h; exact h.elim
      | exc d S2 => rw [hk] at h; exact h.elim
      | ok ks Sf =>
        rw [hk] at h
        simp only at h
        unfold srtKD at h
        cases hp : Zd.D.pys ks with
        | none => rw [hp] at h; exact h.elim
        | some ps =>
          rw [hp] at h
          simp only at h
          split at h
          · rename_i hb
            simp only [Bool.and_eq_true] at hb
            obtain ⟨⟨b1, b2⟩, b3⟩ := hb
            rw [msF_eq _ _ _ (Nat.le_refl _)] at h
            have zz : xs.length ≤ line := by
              exact rc.len rfl
            refine ⟨b, xv, xs, ks, ps, w1, S1, Sf, rfl, rfl, SqL.of q, W1.core, rr, hk, hp, alike_of b1, sortable_of b2, fun d hd => of_decide_eq_true (List.all_eq_true.mp b3 d hd), fun w' H' q c' l' hq => ?_⟩
            exact h q _ w' H' (W1.step c' l') (l1.trans l') hq ⟨_, upd_same, reps_sort (rr.le l'), by rw [List.length_map, List.length_mergeSort, List.length_zip]; omega⟩
          · exact h.elim
    | _ => rw [ex] at h; exact h.elim
end
end Zd
set_option Elab.async false
set_option linter.all false
set_option maxRecDepth 100000
set_option maxHeartbeats 2000000
/-! The checker: does a node stand for an expression of the text? -/
namespace Zd
open PySem PySem.Spec PyProof.Rows L2
/-- texts compared by their signs -/
def strB (x y : Str) : Bool := x.cps.toList == y.cps.toList
theorem strB_eq {x y : Str} (h : strB x y = true) : x = y := by
  unfold strB at h
  have h := beq_iff_eq.mp h
  obtain ⟨⟨a⟩⟩ := x
  obtain ⟨⟨b⟩⟩ := y
  simp only at h
  rw [h]
/-- a def that may be called: its name, its place, its parameters' modes, how many must be written -/
structure FInfo where
  name : Str
  g : Addr
  ms : List Md
  need : Nat
  own : Option (Nat × Str) := none
  cm : Bool := false
/-- a class that may be called: its name, its place, its __init__, that one's parameters' modes behind self -/
structure CInfo where
  name : Str
  addr : Addr
  init : Nat
  ms : List Md
  need : Nat
/-- where a node stands -/
structure Cc where
  N : List Str
  sc : Scope
  fnb : Option Scope
  M : List Md
  fns : Nat → Option FInfo
  cls : Nat → Option CInfo
  fnm : Nat → Str
  gv : Str → D → Bool
def mdB : Md → Md → Bool
  | .val, .val => true
  | .own, .own => true
  | .top, .top => true
  | .scr, .scr => true
  | .slf, .slf => true
  | .cls i, .cls j => i == j
  | _, _ => false
theorem mdB_eq {a b : Md} (h : mdB a b = true) : a = b := by
  cases a <;> cases b <;> first
    | rfl
    | (cases h)
    | (rw [beq_iff_eq.mp h])
def msOf (l : List Md) : Ms := fun i => l.getD i .val
inductive Kn where
  | val | top | scr | new | tst | src (st : Bool)
/-- modes of parameters that an argument is written for -/
def Md.plain : Md → Bool
  | .val => true
  | .top => true
  | .scr => true
  | _ => false
def Md.kn : Md → Kn
  | .val => .val
  | .top => .top
  | .scr => .scr
  | .own => .new
  | .slf => .new
  | .cls _ => .new
def boolE : Expr → Bool
  | .BoolOp _ _ _ => true
  | _ => false
/-- kinds that a value's node serves -/
def kOk : Kn → Expr → Bool
  | .val, _ => true
  | .top, _ => true
  | .src _, _ => true
  | .tst, e => plainTest e
  | _, _ => false
def kNew : Kn → Expr → Bool
  | .new, _ => true
  | k, e => kOk k e
def kindIn (sc : Scope) (x : Str) : Option NameKind := sc.names.lookup x
def visB (sc : Scope) (x : Str) : Bool := match kindIn sc x with
  | some .local => true
  | some .cell => true
  | some .free => true
  | _ => false
def locB (sc : Scope) (x : Str) : Bool := match kindIn sc x with
  | some .local => true
  | some .cell => true
  | _ => false
def lclB (sc : Scope) (x : Str) : Bool := match kindIn sc x with
  | some .local => true
  | _ => false
def glB (sc : Scope) (x : Str) : Bool := match kindIn sc x with
  | some .globalImplicit => true
  | _ => false
def fnB (o : Option Scope) (x : Str) : Bool := match o with
  | none => true
  | some s => s.names.lookup x == some .cell
def plainName (x : Str) : Bool := !(x == ("__debug__" : Str)) && !(x == ("__classdict__" : Str))
def atN (N : List Str) (i : Nat) (x : Str) : Bool := match N[i]? with
  | some y => strB y x
  | none => false
/-- a stored name -/
def tgB (c : Cc) (i : Nat) : Expr → Bool
  | .Name x _ => atN c.N i x && locB c.sc x && (fnB c.fnb x || lclB c.sc x)
  | _ => false
def tgsB (c : Cc) : List Nat → List Expr → Bool
  | [], [] => true
  | i :: is, e :: es => tgB c i e && tgsB c is es
  | _, _ => false
def okTg (c : Cc) : Tg → Expr → Bool
  | .one i, e => tgB c i e
  | .many is, .Tuple es _ _ => tgsB c is es
  | _, _ => false
def ngB : Bool → CmpOp → Bool
  | false, .Eq => true
  | true, .NotEq => true
  | _, _ => false
theorem ngB_eq {b : Bool} {p : CmpOp} (h : ngB b p = true) : p = ngO b := by
  cases b <;> cases p <;> first
    | rfl
    | cases h
def isTxt : DE → Bool
  | .cst (.str _) => true
  | _ => false
def boB : BO → Operator → Bool
  | .add, .Add => true
  | .sub, .Sub => true
  | .mul, .Mult => true
  | .fdiv, .FloorDiv => true
  | .mod, .Mod => true
  | .pow, .Pow => true
  | _, _ => false
def coB : CO → CmpOp → Bool
  | .eq, .Eq => true
  | .ne, .NotEq => true
  | .lt, .Lt => true
  | .le, .LtE => true
  | .gt, .Gt => true
  | .ge, .GtE => true
  | .isN, .Is => true
  | .notN, .IsNot => true
  | .isB, .Is => true
  | .ntB, .IsNot => true
  | .inn, .In => true
  | .nin, .NotIn => true
  | _, _ => false
theorem boB_eq {o : BO} {p : Operator} (h : boB o p = true) : p = o.op := by
  cases o <;> cases p <;> first
    | rfl
    | (cases h)
theorem coB_eq {o : CO} {p : CmpOp} (h : coB o p = true) : p = o.op := by
  cases o <;> cases p <;> first
    | rfl
    | (cases h)
def isB : CO → Bool
  | .isN => true
  | .notN => true
  | _ => false
def notSetE : Expr → Bool
  | .Set _ _ _ => false
  | _ => true
def noneB : DE → Expr → Bool
  | .cst .non, .Constant .none _ _ => true
  | _, _ => false
/-- an expression that is -1 -/
def minus1 : Expr → Bool
  | .UnaryOp .USub (.Constant (.int 1) _ _) _ => true
  | .BinOp (.Constant (.int 0) _ _) .Sub (.Constant (.int 1) _ _) _ => true
  | _ => false
def tyB (c : Cc) : List Nat → List Expr → Bool
  | [], [] => true
  | k :: ks, .Name x _ :: es => (match tyNm k with | some n => strB x (Str.ofString n) | none => false) && glB c.sc x && tyB c ks es
  | _, _ => false
/-- an own class's name -/
def ownT (c : Cc) (n : Nat) : Expr → Bool
  | .Name x _ => decide (100 ≤ n) && (match c.cls (n - 100) with
    | some ci => strB x ci.name && plainName x && glB c.sc x
    | none => false)
  | _ => false
def Tg.allVal (c : Cc) (t : Tg) : Bool := t.slots.all fun i => mdB (msOf c.M i) .val
def ownOf (N : List Str) : List Nat → Option (List (Str × Nat))
  | [] => some []
  | i :: is => match N[i]?, ownOf N is with
    | some x, some r => some ((x, i) :: r)
    | _, _ => none
def Cc.into (c : Cc) (sc : Scope) : Cc := { c with sc := relS sc c.sc, fnb := some sc }
def nm (s : String) : Str := Str.ofString s
/-- one parameter, a value or read only -/
def oneB : List Md → Bool
  | [.val] => true
  | [.top] => true
  | _ => false
def isTupE : Expr → Bool
  | .Tuple _ _ _ => true
  | _ => false
mutual
def okE : DE → Cc → Kn → Expr → Bool
  | .cst d, c, k, e => kOk k e && (match e with | .Constant x _ _ => constB d x | _ => false)
  | .var i, c, k, e => (match e with | .Name x _ => atN c.N i x && visB c.sc x && plainName x | _ => false) && (match k, msOf c.M i with
    | .val, .val => true
    | .top, .val => true
    | .top, .own => true
    | .top, .top => true
    | .scr, .scr => true
    | .src _, .val => true
    | .src _, .top => true
    | .tst, .val => true
    | .tst, .own => true
    | .tst, .top => true
    | _, _ => false)
  | .glob d, c, k, e => kOk k e && (match e with | .Name x _ => glB c.sc x && plainName x && c.gv x d | _ => false)
  | .neg a, c, k, e => kOk k e && (match e with | .UnaryOp .USub x _ => okE a c .val x | _ => false)
  | .nt a, c, k, e => match k, e with
    | .tst, .UnaryOp .Not x _ => okE a c .tst x
    | .tst, _ => false
    | k, .UnaryOp .Not x _ => kOk k e && okE a c .top x
    | _, _ => false
  | .bin o a b, c, k, e => kOk k e && (match e with | .BinOp x p y _ => boB o p && okE a c .top x && okE b c .top y | _ => false)
  | .cmp o a b, c, k, e => (match k with | .tst => true | k => kOk k e) && (match e with | .Compare x [p] [y] _ => coB o p && okE a c .top x && okE b c .top y && (!isB o || noneB b y) && notSetE y | _ => false)
  | .chn o q a b d, c, k, e => (match k with | .tst => true | k => kOk k e) && (match e with | .Compare x [p, r] [y, z] _ => coB o p && coB q r && !isB o && !isB q && okE a c .top x && okE b c .top y && okE d c .top z && notSetE z | _ => false)
  | .and a b, c, k, e => match e with
    | .BoolOp .And (x :: y :: r) p => (match k with | .val => true | .top => true | .tst => true | _ => false) && okE a c k x && (match r with | [] => okE b c k y | _ => okE b c k (.BoolOp .And (y :: r) p))
    | _ => false
  | .or a b, c, k, e => match e with
    | .BoolOp .Or (x :: y :: r) p => (match k with | .val => true | .top => true | .tst => true | _ => false) && okE a c k x && (match r with | [] => okE b c k y | _ => okE b c k (.BoolOp .Or (y :: r) p))
    | _ => false
  | .ite d a b, c, k, e => (match k with | .val => true | .top => true | _ => false) && (match e with | .IfExp z x y _ => okE d c .tst z && okE a c k x && okE b c k y | _ => false)
  | .tup l, c, k, e => kOk k e && (match e with | .Tuple es _ _ => decide (l.len ≤ line) && okA l c (es.map fun _ => .val) es | _ => false)
  | .lst l, c, k, e => kNew k e && (match e with | .List es _ => decide (l.len ≤ line) && okA l c (es.map fun _ => .val) es | _ => false)
  | .tups l, c, k, e => kOk k e && (match e with | .Tuple es _ _ => okD l c es | _ => false)
  | .lsts l, c, k, e => kNew k e && (match e with | .List es _ => okD l c es | _ => false)
  | .pl a, c, k, e => (match k with | .val => true | .top => true | _ => false) && okE a c .new e
  | .att a n, c, k, e => kOk k e && (match e with | .Attribute x f _ => strB (c.fnm n) f && notCall x && okE a c .top x | _ => false)
  | .ix a i, c, k, e => kOk k e && (match e with | .Subscript x y _ => notSlice y && okE a c .top x && okE i c .top y | _ => false)
  | .slc a lo hi, c, k, e => kOk k e && (match e with | .Subscript x (.Slice l h none _) _ => (okE a c .top x || okE a c .scr x) && okO lo c l && okO hi c h | _ => false)
  | .rev a, c, k, e => kNew k e && (match e with | .Subscript x (.Slice none none (some st) _) _ => minus1 st && okE a c .top x | _ => false)
  | .call f l, c, k, e => kOk k e && (match e with
    | .Call (.Name x _) es [] _ => (match c.fns f with
      | some fi => fi.own.isNone && strB x fi.name && plainName x && glB c.sc x && decide (fi.need ≤ es.length) && decide (es.length ≤ fi.ms.length) && es.all notStar && decide (l.len = es.length) && okA l c (fi.ms.take es.length) es
      | none => false)
    | _ => false)
  | .mth kk f a l, c, k, e => kOk k e && (match e with
    | .Call (.Attribute o m apos) es [] cpos => (match c.fns f with
      | some fi => (match fi.own, fi.ms with
        | some km, .val :: ms => !fi.cm && (km.1 == kk) && strB km.2 m && notCall o && (apos.endLine == cpos.line) && decide (fi.need ≤ es.length + 1) && decide (es.length ≤ ms.length) && es.all notStar && decide (es.length < 29) && decide (l.len = es.length) && okE a c .val o && okA l c (ms.take es.length) es
        | _, _ => false)
      | none => false)
    | _ => false)
  | .new kk f l, c, k, e => kOk k e && (match e with
    | .Call (.Name x _) es [] _ => (match c.cls kk with
      | some ci => (ci.init == f) && strB x ci.name && plainName x && glB c.sc x && decide (ci.need ≤ es.length) && decide (es.length ≤ ci.ms.length) && es.all notStar && decide (l.len = es.length) && okA l c (ci.ms.take es.length) es
      | none => false)
    | _ => false)
  | .lno kk f a, c, k, e => kOk k e && (match e with
    | .Call (.Name x _) [y] [] _ => (match c.fns f with
      | some fi => (match fi.own, fi.ms with
        | some km, [.val] => !fi.cm && (km.1 == kk) && strB km.2 (nm "__len__") && strB x (nm "len") && glB c.sc x && decide (fi.need ≤ 1) && notStar y && okE a c .val y
        | _, _ => false)
      | none => false)
    | _ => false)
  | .sto kk f a, c, k, e => kOk k e && (match e with
    | .Call (.Name x _) [y] [] _ => (match c.fns f with
      | some fi => (match fi.own, fi.ms with
        | some km, [.val] => !fi.cm && (km.1 == kk) && strB km.2 (nm "__str__") && strB x (nm "str") && glB c.sc x && decide (fi.need ≤ 1) && notStar y && okE a c .val y
        | _, _ => false)
      | none => false)
    | _ => false)
  | .oeq kk f ng a b, c, k, e => (match k with | .tst => true | k => kOk k e) && (match e with
    | .Compare x [p] [y] _ => (match c.fns f with
      | some fi => (match fi.own, fi.ms with
        | some km, [.val, .val] => !fi.cm && (km.1 == kk) && strB km.2 (nm "__eq__") && ngB ng p && decide (fi.need ≤ 2) && okE a c .val x && okE b c .val y && notSetE y
        | _, _ => false)
      | none => false)
    | _ => false)
  | .fst l, c, k, e => kOk k e && (match e with
    | .JoinedStr (v1 :: v2 :: rest) _ => okJ l c (v1 :: v2 :: rest)
    | _ => false)
  | .dks i j, c, k, e => kNew k e && (match e with
    | .ListComp (.Call (.Name f _) [.Name y _] [] _) [⟨tg, .Name x _, [], 0⟩] sc _ => (match ownOf c.N [i] with
      | some own => blkC c.N c.sc sc own && tgB (c.into sc) i tg && strB f (nm "str") && glB (c.into sc).sc f && atN c.N i y && visB (c.into sc).sc y && plainName y && atN c.N j x && visB c.sc x && plainName x && mdB (msOf c.M j) .val && mdB (msOf c.M i) .val
      | none => false)
    | _ => false)
  | .rnw, _, k, e => kNew k e && (match e with
    | .Dict [] [] _ => true
    | _ => false)
  | .rls i, c, k, e => kNew k e && (match e with
    | .Call (.Name x _) [.Name z _] [] _ => strB x (nm "list") && glB c.sc x && (msOf c.M i).mine && atN c.N i z && visB c.sc z && plainName z
    | _ => false)
  | .rcm d t it, c, k, e => kNew k e && (match e with
    | .DictComp x (.Constant (.bool true) _ _) [⟨tg, iter, [], 0⟩] sc _ => (match ownOf c.N t.slots with
      | some own => blkC c.N c.sc sc own && okTg (c.into sc) t tg && t.allVal c && notSetE iter && okI it c false tg iter && okE d (c.into sc) .val x
      | none => false)
    | _ => false)
  | .srk f a, c, k, e => kNew k e && (match e with
    | .Call (.Name x _) [y] [⟨some kw, .Name z _, _⟩] _ => (match c.fns f with
      | some fi => fi.own.isNone && strB x (nm "sorted") && glB c.sc x && strB kw (nm "key") && strB z fi.name && plainName z && glB c.sc z && decide (fi.need ≤ 1) && oneB fi.ms && notStar y && okE a c .top y
      | none => false)
    | _ => false)
  | .nwc i kk f l, c, k, e => kOk k e && (match e with
    | .Call (.Name x _) es [] _ => (match c.cls kk with
      | some ci => (ci.init == f) && atN c.N i x && visB c.sc x && plainName x && mdB (msOf c.M i) (.cls kk) && decide (ci.need ≤ es.length) && decide (es.length ≤ ci.ms.length) && !es.isEmpty && es.all notStar && decide (l.len = es.length) && okA l c (ci.ms.take es.length) es
      | none => false)
    | _ => false)
  | .cmt kk f l, c, k, e => kOk k e && (match e with
    | .Call (.Attribute (.Name x _) m apos) es [] cpos => (match c.fns f, c.cls kk with
      | some fi, some ci => (match fi.own, fi.ms with
        | some km, .cls k2 :: ms => fi.cm && (k2 == kk) && (km.1 == kk) && strB km.2 m && strB x ci.name && plainName x && glB c.sc x && (apos.endLine == cpos.line) && decide (fi.need ≤ es.length + 1) && decide (es.length ≤ ms.length) && !es.isEmpty && es.all notStar && decide (es.length < 29) && decide (l.len = es.length) && okA l c (ms.take es.length) es
        | _, _ => false)
      | _, _ => false)
    | _ => false)
  | .bi b l, c, k, e => match k with
    | .new => (match b, l, e with
      | .list, .cons a .nil, .Call (.Name x _) [y] [] _ => strB x (nm "list") && glB c.sc x && notStar y && okE a c .top y
      | _, _, _ => false)
    | k => kOk k e && (match e with | .Call (.Name x _) (y :: es) [] _ => strB x b.nm && glB c.sc x && notStar y && es.all notStar && okA l c ((y :: es).map fun _ => .top) (y :: es) | _ => false)
  | .tx m o a, c, k, e => kOk k e && (match e with
    | .Call (.Attribute y x apos) [z] [] cpos => strB x m.nm && (apos.endLine == cpos.line) && notCall y && notStar z && okE o c .top y && okE a c .top z
    | _ => false)
  | .dz a b, c, k, e => kNew k e && (match e with
    | .Call (.Name x _) [.Call (.Name y _) [u, v] [] _] [] _ => strB x (nm "dict") && strB y (nm "zip") && glB c.sc x && glB c.sc y && notStar u && notStar v && okE a c .top u && okE b c .top v
    | .Call (.Name x _) [.Call (.Name y _) [.Call (.Name z _) [u, v] [] _] [] _] [] _ => strB x (nm "dict") && strB y (nm "list") && strB z (nm "zip") && glB c.sc x && glB c.sc y && glB c.sc z && notStar u && notStar v && okE a c .top u && okE b c .top v
    | _ => false)
  | .dsp l, c, k, e => kNew k e && (match e with
    | .Dict keys values _ => (match l with
      | .nil => keys.isEmpty && values.isEmpty
      | l => decide (keys.length = values.length) && !keys.isEmpty && decide (keys.length ≤ 15) && keys.all (·.isSome) && decide (l.len ≤ 30) && okK l c keys values)
    | _ => false)
  | .isi a cs, c, k, e => kOk k e && (match e with
    | .Call (.Name x _) [y, .Tuple es _ _] [] _ => strB x (nm "isinstance") && glB c.sc x && notStar y && okE a c .top y && tyB c cs es && !cs.isEmpty && decide (cs.length ≤ 50)
    | .Call (.Name x _) [y, z] [] _ => strB x (nm "isinstance") && glB c.sc x && notStar y && okE a c .top y && (match cs with | [n] => tyB c [n] [z] || ownT c n z | _ => false)
    | _ => false)
  | .lc d t it, c, k, e => kNew k e && (match e with
    | .ListComp x [⟨tg, iter, [], 0⟩] sc _ => (match ownOf c.N t.slots with
      | some own => blkC c.N c.sc sc own && okTg (c.into sc) t tg && t.allVal c && notSetE iter && okI it c false tg iter && okE d (c.into sc) .val x
      | none => false)
    | _ => false)
  | .lci d f t it, c, k, e => kNew k e && (match e with
    | .ListComp x [⟨tg, iter, [y], 0⟩] sc _ => (match ownOf c.N t.slots with
      | some own => blkC c.N c.sc sc own && okTg (c.into sc) t tg && t.allVal c && notSetE iter && okI it c false tg iter && okE d (c.into sc) .val x && okE f (c.into sc) .tst y
      | none => false)
    | _ => false)
def okA : DA → Cc → List Md → List Expr → Bool
  | .nil, _, _, es => es.isEmpty
  | .cons a l, c, ms, es => match ms, es with
    | md :: ms, e :: es => md.plain && notStar e && okE a c md.kn e && okA l c ms es
    | _, _ => false
def okJ : DA → Cc → List Expr → Bool
  | .nil, _, es => es.isEmpty
  | .cons a l, c, es => match es with
    | [] => false
    | .FormattedValue y m none _ :: es => decide (m = -1) && okE a c .val y && okJ l c es
    | v :: es => isTxt a && okE a c .val v && okJ l c es
def okK : DA → Cc → List (Option Expr) → List Expr → Bool
  | .nil, _, ks, vs => ks.isEmpty && vs.isEmpty
  | .cons a l, c, ks, vs => match l, ks, vs with
    | .cons b l, some x :: ks, y :: vs => okE a c .val x && okE b c .val y && okK l c ks vs
    | _, _, _ => false
def okD : DL → Cc → List Expr → Bool
  | .nil, _, es => es.isEmpty
  | .one a l, c, es => match es with
    | e :: es => notStar e && okE a c .val e && okD l c es
    | _ => false
  | .star a l, c, es => match es with
    | .Starred e _ :: es => okE a c .top e && okD l c es
    | _ => false
def okO : DO → Cc → Option Expr → Bool
  | .none, _, e => e.isNone
  | .some a, c, e => match e with
    | some x => okE a c .val x
    | none => false
def okI : DI → Cc → Bool → Expr → Expr → Bool
  | .seq a, c, st, _, e => okE a c (.src st) e
  | .rng a, c, _, _, e => match e with
    | .Call (.Name x _) [y] [] _ => strB x (nm "range") && glB c.sc x && notStar y && okE a c .val y
    | _ => false
  | .rng2 a b, c, _, _, e => match e with
    | .Call (.Name x _) [y, z] [] _ => strB x (nm "range") && glB c.sc x && notStar y && notStar z && okE a c .val y && okE b c .val z
    | _ => false
  | .zip a b, c, st, tg, e => match e with
    | .Call (.Name x _) [y, z] [] _ => isTupE tg && strB x (nm "zip") && glB c.sc x && notStar y && notStar z && okE a c (.src st) y && okE b c (.src st) z
    | _ => false
  | .enu a, c, st, tg, e => match e with
    | .Call (.Name x _) [y] [] _ => isTupE tg && strB x (nm "enumerate") && glB c.sc x && notStar y && okE a c (.src st) y
    | _ => false
  | .itm _, _, _, _, _ => false
end
end Zd
set_option Elab.async false
set_option linter.all false
set_option maxRecDepth 100000
set_option maxHeartbeats 2000000
/-! The checker is right: expressions. -/
namespace Zd
open PySem PySem.Spec PyProof.Rows L2
def spOf (L : Lk) (cf : CF) (f : Nat) (ms : List Md) : Sp := fun vs H Q E => ∃ w S ds, Core L w S H ∧ ArgR L w H ms ds vs ∧ ds.length = ms.length ∧ PostC L w H Q E (cf f ds S)
/-- an instance is made: its __init__ begins with the bare instance at x -/
def PostN (L : Lk) (w : Wd) (H : Hp) (x : Addr) (Q : VK) (E : XK) : Res D → Prop
  | .ok d S' => ∀ w' H', Core L w' S' H' → Le w H w' H' → Rep L w' d (.ref x) → Q .non H'
  | .exc e S' => ∀ w' H' cls dx, Core L w' S' H' → Le w H w' H' → ExR L w' e cls dx → E cls dx H'
  | .bad => False
def spIni (L : Lk) (cf : CF) (f k : Nat) (ms : List Md) : Sp := fun vs H Q E => ∃ x dx vs' H0 w S ds, vs = .ref x :: vs' ∧ H0 x = none ∧ H0 dx = none ∧ dx ≠ x ∧ H = upd (upd H0 dx (.own x)) x (.ins (L.ca k) dx []) ∧ Core L w S H0 ∧ ArgR L w H0 ms ds vs' ∧ ds.length = ms.length ∧ PostN L w H0 x Q E (cf f (.obj k [] [] :: ds) S)
/-- a class that may be called -/
structure IK (X : Cx) (P : Pr) (n k : Nat) (ci : CInfo) : Prop where
  fok : ∃ gA fd ps, Mk X.K ci.addr gA ∧ FOk X.prog X.w X.K X.mg X.base (L2.CX X.prog X.w) n gA fd ps (spIni P.L P.cf ci.init k ci.ms) ∧
    ∀ m, ci.need ≤ m → m ≤ ci.ms.length → ∃ ds dvs dd, Vals dvs ds ∧ Binds X.K fd ps ds ∧ (∀ w, Reps P.L w dd dvs) ∧ dd.length = (ci.ms.drop m).length ∧ (∀ md, md ∈ ci.ms.drop m → md = .val ∨ md = .top) ∧ ∀ xs S, xs.length = m → P.cf ci.init (.obj k [] [] :: xs) S = P.cf ci.init (.obj k [] [] :: (xs ++ dd)) S
  ca : P.L.ca k = ci.addr
  own : OwnC X.K ci.addr
  kp : PySem.W.keepIn X.K (.ref ci.addr) = true
  mg : X.mg ci.name = some (.ref ci.addr)
/-- a def that may be called -/
structure FK (X : Cx) (P : Pr) (n : Nat) (f : Nat) (fi : FInfo) : Prop where
  fok : ∃ fd ps, FOk X.prog X.w X.K X.mg X.base (L2.CX X.prog X.w) n fi.g fd ps (spOf P.L P.cf f fi.ms) ∧
    ∀ m, fi.need ≤ m → m ≤ fi.ms.length → ∃ ds dvs dd, Vals dvs ds ∧ Binds X.K fd ps ds ∧ (∀ w, Reps P.L w dd dvs) ∧ dd.length = (fi.ms.drop m).length ∧ (∀ md, md ∈ fi.ms.drop m → md = .val ∨ md = .top) ∧ ∀ xs S, xs.length = m → P.cf f xs S = P.cf f (xs ++ dd) S
  kp : PySem.W.keepIn X.K (.ref fi.g) = true
  mg : fi.own = none → X.mg fi.name = some (.ref fi.g)
  ct : ∀ km, fi.own = some km → fi.cm = true → ClX.CRead X.K (P.L.ca km.1) (.type "type") ∧ ∃ p, ClX.CMet X.K (P.L.ca km.1) (.type "type") km.2 p fi.g
  mt : ∀ km, fi.own = some km → fi.cm = false → Cls X.K (P.L.ca km.1) ∧ Meth X.K (P.L.ca km.1) km.2 fi.g ∧ (∀ n, P.L.fnm n ≠ km.2) ∧ (strB km.2 (nm "__eq__") = true → NeB X.K (P.L.ca km.1))
def blNames : List Str := [nm "len", nm "all", nm "any", nm "tuple", nm "list", nm "dict", nm "min", nm "max", nm "abs", nm "int", nm "str", nm "repr", nm "sorted", nm "range", nm "zip", nm "enumerate", nm "isinstance", nm "bool"]
/-- a context as the checker takes it -/
structure Good (c : Cc) (n : Nat) (X : Cx) (P : Pr) : Prop where
  hK : X.K = P.L.K
  rm : Rm (n + 1) X.A
  calm : X.calm = true
  nd : X.N.Nodup
  N : X.N = c.N
  sc : X.env.scope = c.sc
  fn : ∀ x, fnB c.fnb x = true → X.fn x = true
  M : P.M = msOf c.M
  bl : ∀ x, x ∈ blNames → X.mg x = none
  tk : Takes X P.W
  fk : ∀ f fi, c.fns f = some fi → FK X P n f fi
  ik : ∀ k ci, c.cls k = some ci → IK X P n k ci
  fnm : P.L.fnm = c.fnm
  inj : ∀ i j, P.L.fnm i = P.L.fnm j → i = j
  fld : ∀ k n, P.T.fld k n = true → Cls X.K (P.L.ca k) ∧ NoAttr X.K (P.L.ca k) (P.L.fnm n)
  io : Subs X.K P.L P.T
  gv : ∀ x d, c.gv x d = true → ∃ v u, X.mg x = some u ∧ RelV v u ∧ ∀ w, Rep P.L w d v
section
variable {c : Cc} {n : Nat} {X : Cx} {P : Pr}
theorem Good.hu (G : Good c n X P) : X.A.units + 200 < cLine := by have := G.rm.room.un; omega
theorem Good.blk (G : Good c n X P) (s : Shared) (H : Hp) (sc : Scope) (C : Addr) (cl : List (Str × Addr)) (fp : List Addr) : Good (c.into sc) n (X.blk s H sc (compEnvC sc cl C X.env) fp) P.calm where
  hK := G.hK
  rm := G.rm
  calm := G.calm
  nd := G.nd
  N := G.N
  sc := by show relS sc X.env.scope = relS sc c.sc; rw [G.sc]
  fn := fun x h => h
  M := G.M
  bl := G.bl
  tk := fun u s' ⟨_, _, _, _, _, _, _, _, _, _, _, _, _, _, _, _, q⟩ => q.elim
  fk := fun f fi h => let q := G.fk f fi h; ⟨q.fok, q.kp, q.mg, q.ct, q.mt⟩
  ik := fun k ci h => let q := G.ik k ci h; ⟨q.fok, q.ca, q.own, q.kp, q.mg⟩
  fnm := G.fnm
  inj := G.inj
  fld := G.fld
  io := G.io
  gv := G.gv
theorem ArgR.app {L : Lk} {w : Wd} {H : Hp} : ∀ {ms : List Md} {ds : List D} {vs : List V} {ns : List Md} {es : List D} {us : List V}, ArgR L w H ms ds vs → ds.length = ms.length → ArgR L w H ns es us → ArgR L w H (ms ++ ns) (ds ++ es) (vs ++ us)
  | [], [], vs, ns, es, us, h, _, q => by unfold ArgR at h; subst h; exact q
  | [], _ :: _, vs, ns, es, us, _, e, _ => by simp at e
  | _ :: _, [], vs, ns, es, us, _, e, _ => by simp at e
  | md :: ms, d :: ds, vs, ns, es, us, h, e, q => by
    simp only [ArgR] at h
    obtain ⟨v, r, rfl, h1, h2⟩ := h
    simp only [List.cons_append, ArgR]
    exact ⟨v, r ++ us, rfl, h1, h2.app (by simpa using e) q⟩
theorem ArgR.ofVals {L : Lk} {w : Wd} {H : Hp} : ∀ {ms : List Md} {ds : List D} {vs : List V}, Reps L w ds vs → ds.length = ms.length → (∀ md, md ∈ ms → md = .val ∨ md = .top) → ArgR L w H ms ds vs
  | _, [], vs, h, _, _ => by simp only [Reps] at h; subst h; simp [ArgR]
  | [], _ :: _, vs, _, e, _ => by simp at e
  | md :: ms, d :: ds, vs, h, e, hm => by
    simp only [Reps] at h
    obtain ⟨v, r, rfl, h1, h2⟩ := h
    simp only [ArgR]
    refine ⟨v, r, rfl, ?_, ArgR.ofVals h2 (by simpa using e) fun m q => hm m (List.mem_cons_of_mem _ q)⟩
    rcases hm md List.mem_cons_self with e | e
    · rw [e]; exact h1
    · rw [e]; exact .inl h1
theorem FK.callee {f : Nat} {fi : FInfo} {m : Nat} (F : FK X P n f fi) (rm : Rm (n + 1) X.A) (tk : Takes X P.W) (h1 : fi.need ≤ m) (h2 : m ≤ fi.ms.length) : Callee X P f fi.g (fi.ms.take m) := by
  obtain ⟨fd, ps, F0, hb⟩ := F.fok
  obtain ⟨ds, dvs, dd, hv, hbd, hr, hl, hval, hcf⟩ := hb m h1 h2
  refine ⟨⟨fun pins σ H s Q us vs I rv h => ?_⟩, F.kp⟩
  obtain ⟨w, S, xs, c, ra, rl, pc⟩ := h
  have lm : xs.length = m := by rw [rl, List.length_take]; omega
  refine run_f (E := WE P.W) (dvs := dvs) F0 (rm.mono (Nat.le_succ n)) hbd hv (passAt tk σ) I rv ⟨w, S, xs ++ dd, c, ?_, ?_, ?_⟩
  · have z := ra.app rl (ArgR.ofVals (H := H) (hr w) hl hval)
    rw [List.take_append_drop] at z
    exact z
  · rw [List.length_append, lm, hl, List.length_drop]
    omega
  · rw [← hcf xs S lm]
    exact pc
theorem FK.calleeC {f : Nat} {fi : FInfo} {m : Nat} (F : FK X P n f fi) (rm : Rm (n + 1) X.A) (tk : Takes X P.W) (h1 : fi.need ≤ m) (h2 : m ≤ fi.ms.length) : CalleeC X P f fi.g (fi.ms.take m) := by
  obtain ⟨fd, ps, F0, hb⟩ := F.fok
  obtain ⟨ds, dvs, dd, hv, hbd, hr, hl, hval, hcf⟩ := hb m h1 h2
  refine ⟨⟨fun pins σ H s Q us vs I rv h => ?_⟩⟩
  obtain ⟨w, S, xs, c, ra, rl, pc⟩ := h
  have lm : xs.length = m := by rw [rl, List.length_take]; omega
  refine run_fC (E := WE P.W) (dvs := dvs) F0 (rm.mono (Nat.le_succ n)) hbd hv (passAt tk σ) I rv ⟨w, S, xs ++ dd, c, ?_, ?_, ?_⟩
  · have z := ra.app rl (ArgR.ofVals (H := H) (hr w) hl hval)
    rw [List.take_append_drop] at z
    exact z
  · rw [List.length_append, lm, hl, List.length_drop]
    omega
  · rw [← hcf xs S lm]
    exact pc
theorem FK.calleeI {f : Nat} {fi : FInfo} {m : Nat} (F : FK X P n f fi) (rm : Rm (n + 1) X.A) (tk : Takes X P.W) (h1 : fi.need ≤ m) (h2 : m ≤ fi.ms.length) : CalleeI X P f fi.g (fi.ms.take m) := by
  obtain ⟨fd, ps, F0, hb⟩ := F.fok
  obtain ⟨ds, dvs, dd, hv, hbd, hr, hl, hval, hcf⟩ := hb m h1 h2
  refine ⟨⟨fun pins σ H s Q us vs I rv h => ?_⟩⟩
  obtain ⟨w, S, xs, c, ra, rl, pc⟩ := h
  have lm : xs.length = m := by rw [rl, List.length_take]; omega
  refine run_fI (E := WE P.W) (dvs := dvs) F0 rm.in1 hbd hv (passAt tk σ) I rv ⟨w, S, xs ++ dd, c, ?_, ?_, ?_⟩
  · have z := ra.app rl (ArgR.ofVals (H := H) (hr w) hl hval)
    rw [List.take_append_drop] at z
    exact z
  · rw [List.length_append, lm, hl, List.length_drop]
    omega
  · rw [← hcf xs S lm]
    exact pc
theorem FK.calleeJ {f : Nat} {fi : FInfo} {m : Nat} (F : FK X P n f fi) (rm : Rm (n + 1) X.A) (tk : Takes X P.W) (h1 : fi.need ≤ m) (h2 : m ≤ fi.ms.length) : CalleeJ X P f fi.g (fi.ms.take m) := by
  obtain ⟨fd, ps, F0, hb⟩ := F.fok
  obtain ⟨ds, dvs, dd, hv, hbd, hr, hl, hval, hcf⟩ := hb m h1 h2
  refine ⟨⟨fun pins σ H s Q us vs I rv h => ?_⟩⟩
  obtain ⟨w, S, xs, c, ra, rl, pc⟩ := h
  have lm : xs.length = m := by rw [rl, List.length_take]; omega
  refine run_fJ (E := WE P.W) (dvs := dvs) F0 rm.in2 hbd hv (passAt tk σ) I rv ⟨w, S, xs ++ dd, c, ?_, ?_, ?_⟩
  · have z := ra.app rl (ArgR.ofVals (H := H) (hr w) hl hval)
    rw [List.take_append_drop] at z
    exact z
  · rw [List.length_append, lm, hl, List.length_drop]
    omega
  · rw [← hcf xs S lm]
    exact pc
theorem one_md {ms : List Md} (h : oneB ms = true) : ∃ md, ms = [md] ∧ (md = .val ∨ md = .top) := by
  unfold oneB at h
  split at h
  · exact ⟨_, rfl, .inl rfl⟩
  · exact ⟨_, rfl, .inr rfl⟩
  · cases h
theorem FK.calleeN {f : Nat} {fi : FInfo} (F : FK X P n f fi) (rm : Rm (n + 1) X.A) (h1 : fi.need ≤ 1) (h2 : oneB fi.ms = true) : CalleeN X P f fi.g := by
  obtain ⟨fd, ps, F0, hb⟩ := F.fok
  obtain ⟨md, hms, hmd⟩ := one_md h2
  obtain ⟨ds, dvs, dd, hv, hbd, hr, hl, hval, hcf⟩ := hb 1 h1 (by rw [hms]; exact Nat.le_refl _)
  have dd0 : dd = [] := List.length_eq_zero_iff.mp (by rw [hl, hms]; rfl)
  subst dd0
  refine ⟨fun pins σ H s Q u v I rv h => ?_⟩
  obtain ⟨w, S, d, c, ra, pc⟩ := h
  have dv0 : dvs = [] := by have := hr w; simp only [Reps] at this; exact this
  subst dv0
  have ar : ArgR P.L w H fi.ms [d] [v] := by
    rw [hms]
    unfold ArgR
    exact ⟨v, [], rfl, ArgR1.of hmd ra, by unfold ArgR; rfl⟩
  have hs : spOf P.L P.cf f fi.ms [v] H Q (fun _ _ _ => False) := ⟨w, S, [d], c, ar, by rw [hms]; rfl, by cases e : P.cf f [d] S with
    | bad => rw [e] at pc; exact pc
    | ok x S' => rw [e] at pc; exact pc
    | exc x S' => rw [e] at pc; exact pc⟩
  have dz : ds = [] := by cases hv; rfl
  subst dz
  have r2 : Vals [v] [u] := .cons rv .nil
  have hlen := r2.length.symm.trans (F0.len hs)
  refine wpAny_call (codeAny_mono (F0.run X.A.in1.in1 X.stack s H ⟨[u], []⟩ [u] [v] Q _ rm.in2 I.env0.in1.in1 (by have := hbd s [u] I.kIn hlen; simpa using this) r2 hs) fun r s' hq => ?_)
  cases r with
  | error e =>
    obtain ⟨_, _, _, _, _, _, _, _, _, _, _, _, z⟩ := hq
    exact z.elim
  | ok fl => cases fl with
    | ret u => exact I.after hq
    | next => exact hq
    | brk => exact hq
    | cont => exact hq
theorem IK.maker {k : Nat} {ci : CInfo} {m : Nat} (I : IK X P n k ci) (rm : Rm (n + 1) X.A) (tk : Takes X P.W) (h1 : ci.need ≤ m) (h2 : m ≤ ci.ms.length) : Maker X P k ci.init ci.addr (ci.ms.take m) := by
  obtain ⟨gA, fd, ps, M, F0, hb⟩ := I.fok
  obtain ⟨ds, dvs, dd, hv, hbd, hr, hl, hval, hcf⟩ := hb m h1 h2
  refine ⟨⟨fun pins σ H s Q us vs J rv h => ?_⟩, I.kp⟩
  obtain ⟨w, S, xs, c, ra, rl, pc⟩ := h
  have lm : xs.length = m := by rw [rl, List.length_take]; omega
  refine run_mk (E := WE P.W) (dvs := dvs) M F0 rm hbd hv (passAt tk σ) J rv fun x dx hx hdx ne => ?_
  refine ⟨x, dx, _, H, w, S, xs ++ dd, rfl, hx, hdx, ne, by rw [I.ca], c, ?_, ?_, ?_⟩
  · have z := ra.app rl (ArgR.ofVals (H := H) (hr w) hl hval)
    rw [List.take_append_drop] at z
    exact z
  · rw [List.length_append, lm, hl, List.length_drop]
    omega
  · rw [hcf xs S lm] at pc
    cases e : P.cf ci.init (.obj k [] [] :: (xs ++ dd)) S with
    | bad => rw [e] at pc; exact pc
    | exc y S2 => rw [e] at pc; exact pc
    | ok d S2 => rw [e] at pc; exact fun w' H' c' l' r' => ⟨rfl, pc _ w' H' c' l' r'⟩
def Rd (X : Cx) (P : Pr) (k : Kn) (e : Expr) (d : DE) : Prop := match k with
  | .val => PE X e (tM P .val d)
  | .top => PE X e (tM P .top d)
  | .scr => PE X e (tM P .scr d)
  | .new => PE X e (tF P d)
  | .src st => PE X e (tSrc P st d)
  | .tst => PT X e (tBo P d) ∧ (boolE e = true → PW X e (tBo P d))
theorem rd_tst {e : Expr} {d : DE} (hK : X.K = P.L.K) (hp : plainTest e = true) (h : PE X e (tM P .top d)) : Rd X P .tst e d := ⟨t_val hK h hp, fun z => by
  cases e <;> first
    | (cases z; done)
    | (cases hp)⟩
theorem rd_val {e : Expr} {d : DE} {k : Kn} (hK : X.K = P.L.K) (hk : kOk k e = true) (h : ∀ md, md = .val ∨ md = .top → PE X e (tM P md d)) : Rd X P k e d := by
  cases k with
  | val => exact h .val (.inl rfl)
  | top => exact h .top (.inr rfl)
  | src st => exact PE.imp (h .val (.inl rfl)) fun σ H Q q => src_val q
  | tst => exact rd_tst hK hk (h .top (.inr rfl))
  | scr => cases hk
  | new => cases hk
theorem rd_new {e : Expr} {d : DE} {k : Kn} (hK : X.K = P.L.K) (hk : kNew k e = true) (h : PE X e (tF P d)) : Rd X P k e d := by
  cases k with
  | new => exact h
  | _ => exact rd_val hK hk fun md hm => n_fresh hm h
/-- a comparison, a test of it too -/
theorem rd_cmp {e : Expr} {d : DE} {k : Kn} (hK : X.K = P.L.K) (hb : boolE e = false) (hk : (match k with | .tst => true | k => kOk k e) = true) (h : ∀ md, md = .val ∨ md = .top → PE X e (tM P md d)) (ht : PT X e (tBo P d)) : Rd X P k e d := by
  cases k with
  | tst => exact ⟨ht, fun z => by rw [hb] at z; cases z⟩
  | val => exact rd_val hK hk h
  | top => exact rd_val hK hk h
  | src st => exact rd_val hK hk h
  | scr => cases hk
  | new => cases hk
theorem atN_eq {N : List Str} {i : Nat} {x : Str} (h : atN N i x = true) : N[i]? = some x := by
  unfold atN at h
  cases e : N[i]? with
  | none => rw [e] at h; cases h
  | some y =>
    rw [e] at h
    rw [strB_eq h]
theorem vis_of {sc : Scope} {x : Str} (h : visB sc x = true) : Vis sc x := by
  unfold visB kindIn at h
  split at h
  · rename_i e; exact .inl e
  · rename_i e; exact .inr (.inl e)
  · rename_i e; exact .inr (.inr e)
  · cases h
theorem loc_of {sc : Scope} {x : Str} (h : locB sc x = true) : Loc sc x := by
  unfold locB kindIn at h
  split at h
  · rename_i e; exact .inl e
  · rename_i e; exact .inr e
  · cases h
theorem lcl_of {sc : Scope} {x : Str} (h : lclB sc x = true) : sc.names.lookup x = some .local := by
  unfold lclB kindIn at h
  split at h
  · rename_i e; exact e
  · cases h
theorem gl_of (G : Good c n X P) {x : Str} (h : glB c.sc x = true) : Gl X x := by
  unfold glB kindIn at h
  show X.env.scope.names.lookup x = some .globalImplicit
  rw [G.sc]
  split at h
  · rename_i e; exact e
  · cases h
theorem plain_of' {x : Str} (h : plainName x = true) : (x == ("__debug__" : Str)) = false ∧ (x == ("__classdict__" : Str)) = false := by
  unfold plainName at h
  simpa [Bool.and_eq_true] using h
/-! ### targets -/
theorem tg_one (G : Good c n X P) {i : Nat} {e : Expr} (h : tgB c i e = true) : PG X e (gName i) := by
  cases e <;> first
    | (cases h; done)
    | skip
  rename_i x p
  unfold tgB at h
  simp only [Bool.and_eq_true, Bool.or_eq_true] at h
  refine pg_name G.nd (by rw [G.N]; exact atN_eq h.1.1) (by rw [G.sc]; exact loc_of h.1.2) ?_
  rcases h.2 with q | q
  · exact .inl (G.fn x q)
  · exact .inr (by rw [G.sc]; exact lcl_of q)
theorem name_of {i : Nat} {e : Expr} (h : tgB c i e = true) : ∃ x p, e = .Name x p := by
  cases e <;> first
    | (cases h; done)
    | exact ⟨_, _, rfl⟩
theorem tgs_ok (G : Good c n X P) : ∀ {is : List Nat} {es : List Expr}, tgsB c is es = true → PGs X es (gSets is) ∧ (assignEach es X.env).length = is.length ∧ (assignEach es X.env).findIdx? (·.1) = none
  | [], [], _ => ⟨pgs_nil, rfl, rfl⟩
  | [], _ :: _, h => by cases h
  | _ :: _, [], h => by cases h
  | i :: is, e :: es, h => by
    unfold tgsB at h
    rw [Bool.and_eq_true] at h
    obtain ⟨q1, q2, q3⟩ := tgs_ok G h.2
    have one := tg_one G h.1
    obtain ⟨x, p, rfl⟩ := name_of h.1
    refine ⟨pgs_cons one q1 rfl, ?_, ?_⟩
    · show (assignEach es X.env).length + 1 = is.length + 1
      rw [q2]
    · show List.findIdx? (·.1) ((false, assign (.Name x p) X.env) :: assignEach es X.env) = none
      rw [List.findIdx?_cons, q3]
      rfl
theorem tg_ok (G : Good c n X P) {t : Tg} {e : Expr} (h : okTg c t e = true) : PG X e (tgG X.K t) := by
  cases t with
  | one i => exact tg_one G h
  | many is =>
    cases e <;> first
      | (cases h; done)
      | skip
    obtain ⟨q1, q2, q3⟩ := tgs_ok G (h : tgsB c is _ = true)
    rename_i es k pos
    have h1 : PG X (.Tuple es k pos) (gTup X.K is.length (gSets is)) := pg_tup G.calm q1 q2 q3
    have h2 : PG X (.Tuple es k pos) (gUnl X.K is.length (gSets is)) := pg_unl G.calm q1 q2 q3
    exact ⟨fun pins s σ H v u Q I r hw => hw.elim (h1.run pins s σ H v u Q I r) (h2.run pins s σ H v u Q I r)⟩
theorem allVal_of (G : Good c n X P) {t : Tg} (h : t.allVal c = true) : ∀ i, i ∈ t.slots → P.M i = .val := fun i hi => by
  unfold Tg.allVal at h
  rw [G.M]
  exact mdB_eq (List.all_eq_true.mp h i hi)
theorem ownOf_map : ∀ {is : List Nat} {own : List (Str × Nat)}, ownOf c.N is = some own → own.map (·.2) = is
  | [], own, h => by cases h; rfl
  | i :: is, own, h => by
    unfold ownOf at h
    split at h
    · rename_i x r h1 h2
      cases h
      rw [List.map_cons, ownOf_map h2]
    · cases h
theorem fold_of {e : Expr} {env : Env} (h : notSetE e = true) (x : Value) : foldedSetIterable e env x = pure x := by
  cases e <;> first
    | rfl
    | (cases h)
theorem mark_of {op : CmpOp} {e : Expr} (h : notSetE e = true) : behindInMarks op e = false := by
  cases e <;> first
    | rfl
    | (cases h)
theorem none_of {b : DE} {y : Expr} (h : noneB b y = true) : ∃ k p, y = .Constant .none k p ∧ b = .cst .non := by
  unfold noneB at h
  split at h
  · exact ⟨_, _, rfl, rfl⟩
  · cases h
theorem isB_of {o : CO} (h : isB o = false) : o ≠ .isN ∧ o ≠ .notN := by
  cases o <;> first
    | (cases h; done)
    | exact ⟨nofun, nofun⟩
theorem minus_of {st : Expr} (h : minus1 st = true) : ∃ tst, PE X st tst ∧ ∀ σ H Q, Q (.int (-1)) H → tst σ H Q := by
  unfold minus1 at h
  split at h
  · exact ⟨_, pe_un un_neg pe_int, fun σ H Q q => ⟨1, rfl, q⟩⟩
  · exact ⟨_, pe_op op_sub pe_int pe_int, fun σ H Q q => ⟨0, 1, rfl, rfl, q⟩⟩
  · cases h
theorem ty_one (G : Good c n X P) {k : Nat} {nmx : String} {x : Str} {p : Pos} (hk : tyNm k = some nmx) (hx : x = Str.ofString nmx) (hg : glB c.sc x = true) : PE X (.Name x p) (tC (.ty nmx)) := by
  subst hx
  have g := gl_of G hg
  match k, hk with
  | 0, rfl => exact pe_bltn g (G.bl _ (by decide)) (by decide +kernel) rfl (by decide) (by decide)
  | 1, rfl => exact pe_bltn g (G.bl _ (by decide)) (by decide +kernel) rfl (by decide) (by decide)
  | 2, rfl => exact pe_bltn g (G.bl _ (by decide)) (by decide +kernel) rfl (by decide) (by decide)
  | 3, rfl => exact pe_bltn g (G.bl _ (by decide)) (by decide +kernel) rfl (by decide) (by decide)
  | 4, rfl => exact pe_bltn g (G.bl _ (by decide)) (by decide +kernel) rfl (by decide) (by decide)
theorem ty_ok (G : Good c n X P) : ∀ {ks : List Nat} {es : List Expr}, tyB c ks es = true → ∃ ns, tyNms ks = some ns ∧ ns.length = ks.length ∧ PA X es (tyArgs ns)
  | [], [], _ => ⟨[], rfl, rfl, pa_nil⟩
  | [], _ :: _, h => by cases h
  | _ :: _, [], h => by cases h
  | k :: ks, e :: es, h => by
    cases e <;> first
      | (cases h; done)
      | skip
    rename_i x p
    unfold tyB at h
    simp only [Bool.and_eq_true] at h
    obtain ⟨⟨h1, h2⟩, h3⟩ := h
    cases hk : tyNm k with
    | none => rw [hk] at h1; cases h1
    | some m =>
      rw [hk] at h1
      obtain ⟨ns, e1, e2, e3⟩ := ty_ok G h3
      refine ⟨m :: ns, ?_, by rw [List.length_cons, List.length_cons, e2], pa_cons (ty_one G hk (strB_eq h1) h2) e3 (star_of rfl)⟩
      unfold tyNms
      rw [hk, e1]
theorem ty_name {k : Nat} {e : Expr} (h : tyB c [k] [e] = true) : ∃ x p m, e = .Name x p ∧ tyNm k = some m ∧ x = Str.ofString m ∧ glB c.sc x = true := by
  cases e <;> first
    | (cases h; done)
    | skip
  rename_i x p
  unfold tyB at h
  simp only [Bool.and_eq_true] at h
  obtain ⟨⟨h1, h2⟩, h3⟩ := h
  cases hk : tyNm k with
  | none => rw [hk] at h1; cases h1
  | some m =>
    rw [hk] at h1
    exact ⟨x, p, m, rfl, rfl, strB_eq h1, h2⟩
end
theorem form_of {es : List Expr} {env : Env} {pos : Pos} (h : es.all notStar = true) (hl : es.length < 29) : methodCallForm (es.length + ([] : List Keyword).length) (backTo pos (starEach es env)) (backToKw pos (keywordEach [] env)) = true := by
  unfold methodCallForm
  have h1 : (backTo pos (starEach es env)).all (fun x => !x.1) = true := by
    have z := star_any h pos (env := env)
    rw [List.all_eq_true]
    intro x hx
    have := List.any_eq_false.mp z x hx
    simpa using this
  rw [h1]
  have h3 : backToKw pos (keywordEach [] env) = [] := rfl
  rw [h3]
  simp
  omega
/-! ### expressions -/
mutual
theorem sE : ∀ (d : DE) {c : Cc} {n : Nat} {X : Cx} {P : Pr} {k : Kn} {e : Expr}, Good c n X P → okE d c k e = true → Rd X P k e d
  | .cst x, c, n, X, P, k, e, G, h => by
    unfold okE at h
    rw [Bool.and_eq_true] at h
    obtain ⟨h1, h2⟩ := h
    split at h2
    · exact rd_val G.hK h1 fun md hm => n_cst hm h2
    · cases h2
  | .var i, c, n, X, P, k, e, G, h => by
    unfold okE at h
    rw [Bool.and_eq_true] at h
    obtain ⟨h1, h2⟩ := h
    split at h1
    · simp only [Bool.and_eq_true] at h1
      obtain ⟨⟨a1, a2⟩, a3⟩ := h1
      have hN := by rw [← G.N] at a1; exact atN_eq a1
      have hv := vis_of a2
      rw [← G.sc] at hv
      obtain ⟨p1, p2⟩ := plain_of' a3
      rw [← G.M] at h2
      split at h2
      · rename_i m; exact n_var hN hv p1 p2 (.inl ⟨rfl, m⟩)
      · rename_i m; exact n_var hN hv p1 p2 (.inr (.inl ⟨rfl, .inl m⟩))
      · rename_i m; exact n_var hN hv p1 p2 (.inr (.inl ⟨rfl, .inr (.inl m)⟩))
      · rename_i m; exact n_var hN hv p1 p2 (.inr (.inl ⟨rfl, .inr (.inr m)⟩))
      · rename_i m; exact n_var hN hv p1 p2 (.inr (.inr ⟨rfl, m⟩))
      · rename_i m; exact s_var hN hv p1 p2 (.inl m)
      · rename_i m; exact s_var hN hv p1 p2 (.inr m)
      · rename_i m; exact rd_tst G.hK rfl (n_var hN hv p1 p2 (.inr (.inl ⟨rfl, .inl m⟩)))
      · rename_i m; exact rd_tst G.hK rfl (n_var hN hv p1 p2 (.inr (.inl ⟨rfl, .inr (.inl m)⟩)))
      · rename_i m; exact rd_tst G.hK rfl (n_var hN hv p1 p2 (.inr (.inl ⟨rfl, .inr (.inr m)⟩)))
      · cases h2
    · cases h1
  | .glob d, c, n, X, P, k, e, G, h => by
    unfold okE at h
    rw [Bool.and_eq_true] at h
    obtain ⟨h1, h2⟩ := h
    split at h2
    · rename_i x p
      simp only [Bool.and_eq_true] at h2
      obtain ⟨⟨a1, a2⟩, a3⟩ := h2
      obtain ⟨v, u, q1, q2, q3⟩ := G.gv x d a3
      exact rd_val G.hK h1 fun md hm => PE.imp (pe_glob (gl_of G a1) q1 q2 (plain_of' a2).1) fun σ H Q q => by
        obtain ⟨w, g, S, W, q⟩ := q
        unfold ev at q
        exact q v w H W (Le.refl _ _) (ArgR1.of hm (q3 w))
    · cases h2
  | .neg a, c, n, X, P, k, e, G, h => by
    unfold okE at h
    rw [Bool.and_eq_true] at h
    obtain ⟨h1, h2⟩ := h
    split at h2
    · exact rd_val G.hK h1 fun md hm => n_neg hm (sE a G h2)
    · cases h2
  | .nt a, c, n, X, P, k, e, G, h => by
    unfold okE at h
    split at h
    · exact ⟨t_not (sE a (k := .tst) G h).1, nofun⟩
    · cases h
    · rename_i hk _ _
      rw [Bool.and_eq_true] at h
      exact rd_val G.hK h.1 fun md hm => n_nt G.hK hm (sE a (k := .top) G h.2)
    · cases h
  | .bin o a b, c, n, X, P, k, e, G, h => by
    unfold okE at h
    rw [Bool.and_eq_true] at h
    obtain ⟨h1, h2⟩ := h
    split at h2
    · simp only [Bool.and_eq_true] at h2
      have e1 := boB_eq h2.1.1
      subst e1
      exact rd_val G.hK h1 fun md hm => n_bin G.hK hm (sE a (k := .top) G h2.1.2) (sE b (k := .top) G h2.2)
    · cases h2
  | .cmp o a b, c, n, X, P, k, e, G, h => by
    unfold okE at h
    rw [Bool.and_eq_true] at h
    obtain ⟨h1, h2⟩ := h
    split at h2
    · simp only [Bool.and_eq_true, Bool.or_eq_true, Bool.not_eq_true'] at h2
      obtain ⟨⟨⟨⟨a1, a2⟩, a3⟩, a4⟩, a5⟩ := h2
      have e1 := coB_eq a1
      subst e1
      have hn : ∀ y, (isB o = false ∨ noneB b y = true) → (o = .isN ∨ o = .notN) → ∃ k p, y = .Constant .none k p ∧ b = .cst .non := fun y q z => by
        rcases q with q | q
        · obtain ⟨u1, u2⟩ := isB_of q
          rcases z with z | z
          · exact absurd z u1
          · exact absurd z u2
        · exact none_of q
      have ra := sE a (k := .top) G a2
      have rb := sE b (k := .top) G a3
      exact rd_cmp G.hK rfl h1 (fun md hm => n_cmp G.hK G.hu hm ra rb (hn _ a4) (mark_of a5)) (t_cmp G.hK G.hu ra rb (hn _ a4) (mark_of a5))
    · cases h2
  | .chn o q a b d, c, n, X, P, k, e, G, h => by
    unfold okE at h
    rw [Bool.and_eq_true] at h
    obtain ⟨h1, h2⟩ := h
    split at h2
    · simp only [Bool.and_eq_true, Bool.not_eq_true'] at h2
      obtain ⟨⟨⟨⟨⟨⟨⟨a1, a2⟩, a3⟩, a4⟩, a5⟩, a6⟩, a7⟩, a8⟩ := h2
      have e1 := coB_eq a1
      have e2 := coB_eq a2
      subst e1 e2
      have ra := sE a (k := .top) G a5
      have rb := sE b (k := .top) G a6
      have rd' := sE d (k := .top) G a7
      exact rd_cmp G.hK rfl h1 (fun md hm => n_chn G.hK G.hu hm ra rb rd' (isB_of a3) (isB_of a4) (mark_of a8)) (t_chn G.hK G.hu ra rb rd' (isB_of a3) (isB_of a4) (mark_of a8))
    · cases h2
  | .and a b, c, n, X, P, k, e, G, h => by
    unfold okE at h
    split at h
    · simp only [Bool.and_eq_true] at h
      obtain ⟨⟨hk, h1⟩, h2⟩ := h
      have ra := sE a G h1
      split at h2
      · have rb := sE b G h2
        cases k with
        | val => exact n_and G.hK (.inl rfl) ra (n_one rb)
        | top => exact n_and G.hK (.inr rfl) ra (n_one rb)
        | tst =>
          exact ⟨(w_and ra.1 (pw_and1 rb.1)).pt, fun _ => w_and ra.1 (pw_and1 rb.1)⟩
        | _ => cases hk
      · have rb := sE b G h2
        cases k with
        | val => exact n_and G.hK (.inl rfl) ra rb
        | top => exact n_and G.hK (.inr rfl) ra rb
        | tst =>
          exact ⟨(w_and ra.1 (rb.2 rfl)).pt, fun _ => w_and ra.1 (rb.2 rfl)⟩
        | _ => cases hk
    · cases h
  | .or a b, c, n, X, P, k, e, G, h => by
    unfold okE at h
    split at h
    · simp only [Bool.and_eq_true] at h
      obtain ⟨⟨hk, h1⟩, h2⟩ := h
      have ra := sE a G h1
      split at h2
      · have rb := sE b G h2
        cases k with
        | val => exact n_or G.hK (.inl rfl) ra (n_one rb)
        | top => exact n_or G.hK (.inr rfl) ra (n_one rb)
        | tst =>
          exact ⟨(w_or ra.1 (pw_or1 rb.1)).pt, fun _ => w_or ra.1 (pw_or1 rb.1)⟩
        | _ => cases hk
      · have rb := sE b G h2
        cases k with
        | val => exact n_or G.hK (.inl rfl) ra rb
        | top => exact n_or G.hK (.inr rfl) ra rb
        | tst =>
          exact ⟨(w_or ra.1 (rb.2 rfl)).pt, fun _ => w_or ra.1 (rb.2 rfl)⟩
        | _ => cases hk
    · cases h
  | .ite d a b, c, n, X, P, k, e, G, h => by
    unfold okE at h
    rw [Bool.and_eq_true] at h
    obtain ⟨h1, h2⟩ := h
    split at h2
    · simp only [Bool.and_eq_true] at h2
      obtain ⟨⟨a1, a2⟩, a3⟩ := h2
      have rd' := sE d (k := .tst) G a1
      have ra := sE a G a2
      have rb := sE b G a3
      cases k with
      | val => exact n_ite rd'.1 ra rb
      | top => exact n_ite rd'.1 ra rb
      | _ => cases h1
    · cases h2
  | .tup l, c, n, X, P, k, e, G, h => by
    unfold okE at h
    rw [Bool.and_eq_true] at h
    obtain ⟨h1, h2⟩ := h
    split at h2
    · rw [Bool.and_eq_true, decide_eq_true_eq] at h2
      exact rd_val G.hK h1 fun md hm => n_tup hm (sA l G h2.2) (fun m q => by obtain ⟨_, _, e⟩ := List.mem_map.mp q; exact e.symm) h2.1
    · cases h2
  | .lst l, c, n, X, P, k, e, G, h => by
    unfold okE at h
    rw [Bool.and_eq_true] at h
    obtain ⟨h1, h2⟩ := h
    split at h2
    · rw [Bool.and_eq_true, decide_eq_true_eq] at h2
      exact rd_new G.hK h1 (n_lst (sA l G h2.2) (fun m q => by obtain ⟨_, _, e⟩ := List.mem_map.mp q; exact e.symm) h2.1)
    · cases h2
  | .tups l, c, n, X, P, k, e, G, h => by
    unfold okE at h
    rw [Bool.and_eq_true] at h
    obtain ⟨h1, h2⟩ := h
    split at h2
    · exact rd_val G.hK h1 fun md hm => n_tups hm (sD l G h2)
    · cases h2
  | .lsts l, c, n, X, P, k, e, G, h => by
    unfold okE at h
    rw [Bool.and_eq_true] at h
    obtain ⟨h1, h2⟩ := h
    split at h2
    · exact rd_new G.hK h1 (n_lsts (sD l G h2))
    · cases h2
  | .pl a, c, n, X, P, k, e, G, h => by
    unfold okE at h
    rw [Bool.and_eq_true] at h
    have ra := sE a (k := .new) G h.2
    cases k with
    | val => exact n_pl (.inl rfl) ra
    | top => exact n_pl (.inr rfl) ra
    | _ => cases h.1
  | .att a n', c, n, X, P, k, e, G, h => by
    unfold okE at h
    rw [Bool.and_eq_true] at h
    obtain ⟨h1, h2⟩ := h
    split at h2
    · rename_i x f p
      simp only [Bool.and_eq_true] at h2
      obtain ⟨⟨a1, a2⟩, a3⟩ := h2
      have e1 := strB_eq a1
      rw [← G.fnm] at e1
      exact rd_val G.hK h1 fun md hm => n_att G.hK hm G.inj e1 (fun k q => e1 ▸ G.fld k n' q) (sE a (k := .top) G a3) a2
    · cases h2
  | .ix a i, c, n, X, P, k, e, G, h => by
    unfold okE at h
    rw [Bool.and_eq_true] at h
    obtain ⟨h1, h2⟩ := h
    split at h2
    · simp only [Bool.and_eq_true] at h2
      obtain ⟨⟨a1, a2⟩, a3⟩ := h2
      exact rd_val G.hK h1 fun md hm => n_ix G.hK G.hu hm (sE a (k := .top) G a2) (sE i (k := .top) G a3) a1
    · cases h2
  | .slc a lo hi, c, n, X, P, k, e, G, h => by
    unfold okE at h
    rw [Bool.and_eq_true] at h
    obtain ⟨h1, h2⟩ := h
    split at h2
    · simp only [Bool.and_eq_true, Bool.or_eq_true] at h2
      obtain ⟨⟨a1, a2⟩, a3⟩ := h2
      rcases a1 with a1 | a1
      · exact rd_val G.hK h1 fun md hm => n_slc (md' := .top) G.hK hm (.inl rfl) (sE a (k := .top) G a1) (sO lo G a2) (sO hi G a3)
      · exact rd_val G.hK h1 fun md hm => n_slc (md' := .scr) G.hK hm (.inr rfl) (sE a (k := .scr) G a1) (sO lo G a2) (sO hi G a3)
    · cases h2
  | .rev a, c, n, X, P, k, e, G, h => by
    unfold okE at h
    rw [Bool.and_eq_true] at h
    obtain ⟨h1, h2⟩ := h
    split at h2
    · rw [Bool.and_eq_true] at h2
      obtain ⟨tst, q1, q2⟩ := minus_of (X := X) h2.1
      exact rd_new G.hK h1 (n_rev G.hK (sE a (k := .top) G h2.2) q1 q2)
    · cases h2
  | .call f l, c, n, X, P, k, e, G, h => by
    unfold okE at h
    rw [Bool.and_eq_true] at h
    obtain ⟨h1, h2⟩ := h
    split at h2
    · rename_i x p es p2
      cases hf : c.fns f with
      | none => rw [hf] at h2; cases h2
      | some fi =>
        rw [hf] at h2
        simp only [Bool.and_eq_true, decide_eq_true_eq] at h2
        obtain ⟨⟨⟨⟨⟨⟨⟨⟨a0, a1⟩, a2⟩, a3⟩, a4⟩, a5⟩, a6⟩, a7⟩, a8⟩ := h2
        rw [Option.isNone_iff_eq_none] at a0
        have e1 := strB_eq a1
        subst e1
        have F := G.fk f fi hf
        have C := F.callee G.rm G.tk a4 a5
        have lt : (fi.ms.take es.length).length = es.length := by rw [List.length_take]; omega
        cases es with
        | nil =>
          cases l with
          | nil => exact rd_val G.hK h1 fun md hm => n_call0 hm C (gl_of G a3) (F.mg a0) (plain_of' a2).1
          | cons a l => simp [DA.len] at a7
        | cons y es =>
          rw [List.all_cons, Bool.and_eq_true] at a6
          exact rd_val G.hK h1 fun md hm => n_call hm C (gl_of G a3) (F.mg a0) (plain_of' a2).1 (a7.trans lt.symm) (sA l G a8) a6.1 a6.2
    · cases h2
  | .mth kk f a l, c, n, X, P, k, e, G, h => by
    unfold okE at h
    rw [Bool.and_eq_true] at h
    obtain ⟨h1, h2⟩ := h
    split at h2
    · rename_i o m apos es cpos
      cases hf : c.fns f with
      | none => rw [hf] at h2; cases h2
      | some fi =>
        rw [hf] at h2
        simp only at h2
        split at h2
        · rename_i km ms ho hms
          simp only [Bool.and_eq_true, decide_eq_true_eq] at h2
          obtain ⟨⟨⟨⟨⟨⟨⟨⟨⟨⟨⟨a0, a1⟩, a2⟩, a3⟩, a4⟩, a5⟩, a6⟩, a7⟩, a8⟩, a9⟩, b1⟩, b2⟩ := h2
          have e0 := beq_iff_eq.mp a1
          subst e0
          have e1 := strB_eq a2
          subst e1
          have F := G.fk f fi hf
          obtain ⟨c1, c2, c3, c4⟩ := F.mt km ho (by simpa using a0)
          have C := F.callee (m := es.length + 1) G.rm G.tk a5 (by rw [hms]; simpa using a6)
          rw [hms, List.take_succ_cons] at C
          have lt : (ms.take es.length).length = es.length := by rw [List.length_take]; omega
          cases es with
          | nil =>
            cases l with
            | nil => exact rd_val G.hK h1 fun md hm => n_mth0 hm C c1 c2 c3 (sE a (k := .val) G b1) a3 a4
            | cons a l => simp [DA.len] at a9
          | cons y es =>
            have a7' := a7
            rw [List.all_cons, Bool.and_eq_true] at a7'
            refine rd_val G.hK h1 fun md hm => n_mth hm C c1 c2 c3 (a9.trans lt.symm) (sE a (k := .val) G b1) (sA l G b2) a3 a4 a7'.1 a7'.2 ?_
            exact form_of a7 a8
        · cases h2
    · cases h2
  | .new kk f l, c, n, X, P, k, e, G, h => by
    unfold okE at h
    rw [Bool.and_eq_true] at h
    obtain ⟨h1, h2⟩ := h
    split at h2
    · rename_i x p es p2
      cases hc : c.cls kk with
      | none => rw [hc] at h2; cases h2
      | some ci =>
        rw [hc] at h2
        simp only [Bool.and_eq_true, decide_eq_true_eq] at h2
        obtain ⟨⟨⟨⟨⟨⟨⟨⟨a0, a1⟩, a2⟩, a3⟩, a4⟩, a5⟩, a6⟩, a7⟩, a8⟩ := h2
        have e0 := beq_iff_eq.mp a0
        subst e0
        have e1 := strB_eq a1
        subst e1
        have I := G.ik kk ci hc
        have C := I.maker G.rm G.tk a4 a5
        have lt : (ci.ms.take es.length).length = es.length := by rw [List.length_take]; omega
        cases es with
        | nil =>
          cases l with
          | nil => exact rd_val G.hK h1 fun md hm => n_new0 hm C (gl_of G a3) I.mg (plain_of' a2).1
          | cons a l => simp [DA.len] at a7
        | cons y es =>
          rw [List.all_cons, Bool.and_eq_true] at a6
          exact rd_val G.hK h1 fun md hm => n_new hm C (gl_of G a3) I.mg (plain_of' a2).1 (a7.trans lt.symm) (sA l G a8) a6.1 a6.2
    · cases h2
  | .lno kk f a, c, n, X, P, k, e, G, h => by
    unfold okE at h
    rw [Bool.and_eq_true] at h
    obtain ⟨h1, h2⟩ := h
    split at h2
    · rename_i x p y p2
      cases hf : c.fns f with
      | none => rw [hf] at h2; cases h2
      | some fi =>
        rw [hf] at h2
        simp only at h2
        split at h2
        · rename_i km ho hms
          simp only [Bool.and_eq_true, decide_eq_true_eq, Bool.not_eq_true'] at h2
          obtain ⟨⟨⟨⟨⟨⟨⟨a0, a1⟩, a2⟩, a3⟩, a4⟩, a5⟩, a6⟩, a7⟩ := h2
          have e0 := beq_iff_eq.mp a1
          subst e0
          have e1 := strB_eq a2
          have e2 := strB_eq a3
          subst e2
          have F := G.fk f fi hf
          obtain ⟨c1, c2, c3, c4⟩ := F.mt km ho a0
          rw [e1] at c2
          have C := F.calleeI (m := 1) G.rm G.tk a5 (by rw [hms]; exact Nat.le_refl _)
          rw [hms] at C
          exact rd_val G.hK h1 fun md hm => n_lno hm C c2 (gl_of G a4) (G.bl _ (by decide)) (sE a (k := .val) G a7) a6
        · cases h2
    · cases h2
  | .sto kk f a, c, n, X, P, k, e, G, h => by
    unfold okE at h
    rw [Bool.and_eq_true] at h
    obtain ⟨h1, h2⟩ := h
    split at h2
    · rename_i x p y p2
      cases hf : c.fns f with
      | none => rw [hf] at h2; cases h2
      | some fi =>
        rw [hf] at h2
        simp only at h2
        split at h2
        · rename_i km ho hms
          simp only [Bool.and_eq_true, decide_eq_true_eq, Bool.not_eq_true'] at h2
          obtain ⟨⟨⟨⟨⟨⟨⟨a0, a1⟩, a2⟩, a3⟩, a4⟩, a5⟩, a6⟩, a7⟩ := h2
          have e0 := beq_iff_eq.mp a1
          subst e0
          have e1 := strB_eq a2
          have e2 := strB_eq a3
          subst e2
          have F := G.fk f fi hf
          obtain ⟨c1, c2, c3, c4⟩ := F.mt km ho a0
          rw [e1] at c2
          have C := F.calleeJ (m := 1) G.rm G.tk a5 (by rw [hms]; exact Nat.le_refl _)
          rw [hms] at C
          exact rd_val G.hK h1 fun md hm => n_sto (by have := G.rm.room.un; show X.A.units + 1 + 1 < _; omega) hm C c2 (gl_of G a4) (G.bl _ (by decide)) (sE a (k := .val) G a7) a6
        · cases h2
    · cases h2
  | .oeq kk f ng a b, c, n, X, P, k, e, G, h => by
    unfold okE at h
    rw [Bool.and_eq_true] at h
    obtain ⟨h1, h2⟩ := h
    split at h2
    · rename_i x p y p2
      cases hf : c.fns f with
      | none => rw [hf] at h2; cases h2
      | some fi =>
        rw [hf] at h2
        simp only at h2
        split at h2
        · rename_i km ho hms
          simp only [Bool.and_eq_true, decide_eq_true_eq, Bool.not_eq_true'] at h2
          obtain ⟨⟨⟨⟨⟨⟨⟨a0, a1⟩, a2⟩, a3⟩, a5⟩, a6⟩, a7⟩, a8⟩ := h2
          have e0 := beq_iff_eq.mp a1
          subst e0
          have e1 := strB_eq a2
          have e2 := ngB_eq a3
          subst e2
          have F := G.fk f fi hf
          obtain ⟨c1, c2, c3, c4⟩ := F.mt km ho a0
          have c5 := c4 a2
          rw [e1] at c2
          have C := F.callee (m := 2) G.rm G.tk a5 (by rw [hms]; exact Nat.le_refl _)
          have C1 := F.calleeI (m := 2) G.rm G.tk a5 (by rw [hms]; exact Nat.le_refl _)
          rw [hms] at C C1
          have hu : X.A.units + 1 < cLine := by have := G.hu; omega
          exact rd_cmp G.hK rfl h1 (fun md hm => n_oeq G.hK hu c2 (fun _ => c5) C C1 (sE a (k := .val) G a6) (sE b (k := .val) G a7) (mark_of a8) hm) (t_oeq G.hK hu c2 (fun _ => c5) C C1 (sE a (k := .val) G a6) (sE b (k := .val) G a7) (mark_of a8))
        · cases h2
    · cases h2
  | .fst l, c, n, X, P, k, e, G, h => by
    unfold okE at h
    rw [Bool.and_eq_true] at h
    obtain ⟨h1, h2⟩ := h
    split at h2
    · obtain ⟨ts, q1, q2⟩ := sJ l G h2
      exact rd_val G.hK h1 fun md hm => n_fst hm q1 q2
    · cases h2
  | .dks i j, c, n, X, P, k, e, G, h => by
    unfold okE at h
    rw [Bool.and_eq_true] at h
    obtain ⟨h1, h2⟩ := h
    split at h2
    · rename_i f pf y py pc tg x px sc ps
      split at h2
      · rename_i own ho
        simp only [Bool.and_eq_true] at h2
        obtain ⟨⟨⟨⟨⟨⟨⟨⟨⟨⟨⟨a1, a2⟩, a3⟩, a4⟩, a5⟩, a6⟩, a7⟩, a8⟩, a9⟩, b0⟩, b1⟩, b2⟩ := h2
        have bo := blkOk_by a1
        rw [← G.N, ← G.sc] at bo
        have ov := ownOf_map ho
        have e3 := strB_eq a3
        subst e3
        have hj : X.N[j]? = some x := by rw [← G.N] at a8; exact atN_eq a8
        have hi : X.N[i]? = some y := by rw [← G.N] at a5; exact atN_eq a5
        have hv : Vis X.env.scope x := by have := vis_of a9; rwa [← G.sc] at this
        obtain ⟨p1, p2⟩ := plain_of' b0
        obtain ⟨q1, q2⟩ := plain_of' a7
        refine rd_new G.hK h1 (n_dks G.calm G.nd hj hv p1 p2 bo ov (by rw [G.M]; exact mdB_eq b1) (fun s H C cl fp => tg_one (G.blk s H _ C cl fp) a2) (fun s H C cl fp => ?_) (fold_of rfl))
        have G' := G.blk s H sc C cl fp
        have hv' : Vis (X.blk s H sc (compEnvC sc cl C X.env) fp).env.scope y := by have := vis_of a6; rwa [← G'.sc] at this
        exact pe_callTy SkE.call_str_str (gl_of G' a4) (G'.bl _ (by decide)) (by decide +kernel) (pa_cons (pe_var hi hv' q1 q2) pa_nil (star_of rfl)) (by decide) (by decide) (star_of rfl) (star_any (es := []) rfl pc)
      · cases h2
    · cases h2
  | .rnw, c, n, X, P, k, e, G, h => by
    unfold okE at h
    rw [Bool.and_eq_true] at h
    obtain ⟨h1, h2⟩ := h
    split at h2
    · exact rd_new G.hK h1 n_rnw
    · cases h2
  | .rls i, c, n, X, P, k, e, G, h => by
    unfold okE at h
    rw [Bool.and_eq_true] at h
    obtain ⟨h1, h2⟩ := h
    split at h2
    · rename_i x p z pz p2
      simp only [Bool.and_eq_true] at h2
      obtain ⟨⟨⟨⟨⟨a1, a2⟩, a3⟩, a4⟩, a5⟩, a6⟩ := h2
      have e1 := strB_eq a1
      subst e1
      have hj : X.N[i]? = some z := by rw [← G.N] at a4; exact atN_eq a4
      have hv : Vis X.env.scope z := by have := vis_of a5; rwa [← G.sc] at this
      obtain ⟨p1, p2⟩ := plain_of' a6
      exact rd_new G.hK h1 (n_rls G.calm G.hK (by rw [G.M]; exact a3) (gl_of G a2) (G.bl _ (by decide)) (pe_var hj hv p1 p2))
    · cases h2
  | .rcm d t it, c, n, X, P, k, e, G, h => by
    unfold okE at h
    rw [Bool.and_eq_true] at h
    obtain ⟨h1, h2⟩ := h
    split at h2
    · rename_i x j pj tg iter sc p
      split at h2
      · rename_i own ho
        simp only [Bool.and_eq_true] at h2
        obtain ⟨⟨⟨⟨⟨a1, a2⟩, a3⟩, a4⟩, a5⟩, a6⟩ := h2
        have bo := blkOk_by a1
        rw [← G.N, ← G.sc] at bo
        have ov := ownOf_map ho
        exact rd_new G.hK h1 (PE.imp (pe_rc (by have := G.hu; omega) G.calm G.nd (sI it G a5) bo (fun s H C cl fp => tg_ok (G.blk s H _ C cl fp) a2) (fun s H C cl fp => pts_nil) (fun s H C cl fp => sE d (k := .val) (G.blk s H _ C cl fp) a6) (fun s H C cl fp => pe_bl) (fold_of a4))
          fun σ H Q q => rcm_read G.hK (fun v => by rw [ov]) (allVal_of G a3) q)
      · cases h2
    · cases h2
  | .srk f a, c, n, X, P, k, e, G, h => by
    unfold okE at h
    rw [Bool.and_eq_true] at h
    obtain ⟨h1, h2⟩ := h
    split at h2
    · rename_i x p y kw z pz kp p2
      cases hf : c.fns f with
      | none => rw [hf] at h2; cases h2
      | some fi =>
        rw [hf] at h2
        simp only [Bool.and_eq_true, decide_eq_true_eq] at h2
        obtain ⟨⟨⟨⟨⟨⟨⟨⟨⟨⟨a0, a1⟩, a2⟩, a3⟩, a4⟩, a5⟩, a6⟩, a7⟩, a8⟩, a9⟩, b1⟩ := h2
        have e1 := strB_eq a1
        subst e1
        have e3 := strB_eq a3
        subst e3
        have e4 := strB_eq a4
        subst e4
        have F := G.fk f fi hf
        have a0 : fi.own = none := by simpa using a0
        exact rd_new G.hK h1 (n_srk G.hu G.hK (F.calleeN G.rm a7 a8) (gl_of G a2) (G.bl _ (by decide)) (sE a (k := .top) G b1) a9 (gl_of G a6) (F.mg a0) (plain_of' a5).1)
    · cases h2
  | .nwc i kk f l, c, n, X, P, k, e, G, h => by
    unfold okE at h
    rw [Bool.and_eq_true] at h
    obtain ⟨h1, h2⟩ := h
    split at h2
    · rename_i x p es p2
      cases hc : c.cls kk with
      | none => rw [hc] at h2; cases h2
      | some ci =>
        rw [hc] at h2
        simp only [Bool.and_eq_true, decide_eq_true_eq, Bool.not_eq_true'] at h2
        obtain ⟨⟨⟨⟨⟨⟨⟨⟨⟨⟨a0, a1⟩, a2⟩, a3⟩, a4⟩, a5⟩, a6⟩, a7⟩, a8⟩, a9⟩, b1⟩ := h2
        have e0 := beq_iff_eq.mp a0
        subst e0
        have hN : X.N[i]? = some x := by rw [← G.N] at a1; exact atN_eq a1
        have hv : Vis X.env.scope x := by have := vis_of a2; rwa [← G.sc] at this
        obtain ⟨p1, p2⟩ := plain_of' a3
        have hM : P.M i = .cls kk := by rw [G.M]; exact mdB_eq a4
        have I := G.ik kk ci hc
        have C := I.maker G.rm G.tk a5 a6
        have lt : (ci.ms.take es.length).length = es.length := by rw [List.length_take]; omega
        cases es with
        | nil => cases a7
        | cons y es =>
          rw [List.all_cons, Bool.and_eq_true] at a8
          exact rd_val G.hK h1 fun md hm => n_nwc hm C hM I.ca hN hv p1 p2 (a9.trans lt.symm) (sA l G b1) a8.1 a8.2
    · cases h2
  | .cmt kk f l, c, n, X, P, k, e, G, h => by
    unfold okE at h
    rw [Bool.and_eq_true] at h
    obtain ⟨h1, h2⟩ := h
    split at h2
    · rename_i x p m apos es cpos
      split at h2
      · rename_i fi ci hf hc
        split at h2
        · rename_i km k2 ms ho hms
          simp only [Bool.and_eq_true, decide_eq_true_eq, Bool.not_eq_true'] at h2
          obtain ⟨⟨⟨⟨⟨⟨⟨⟨⟨⟨⟨⟨⟨⟨a0, a1⟩, a2⟩, a3⟩, a4⟩, a5⟩, a6⟩, a7⟩, a8⟩, a9⟩, b0⟩, b1⟩, b2⟩, b3⟩, b4⟩ := h2
          have e1 := beq_iff_eq.mp a1
          have e2 := beq_iff_eq.mp a2
          subst e1
          have e3 := strB_eq a3
          subst e3
          have e4 := strB_eq a4
          subst e4
          have F := G.fk f fi hf
          have I := G.ik _ ci hc
          obtain ⟨c1, q, c2⟩ := F.ct km ho a0
          rw [e2] at c1 c2
          have C := F.calleeC (m := es.length + 1) G.rm G.tk a8 (by rw [hms]; simpa using a9)
          rw [hms, List.take_succ_cons] at C
          have lt : (ms.take es.length).length = es.length := by rw [List.length_take]; omega
          cases es with
          | nil => cases b0
          | cons y es =>
            have b1' := b1
            rw [List.all_cons, Bool.and_eq_true] at b1'
            refine rd_val G.hK h1 fun md hm => n_cmt hm C c1 c2 (gl_of G a6) (by rw [I.ca]; exact I.mg) (plain_of' a5).1 (b3.trans lt.symm) (sA l G b4) a7 b1'.1 b1'.2 ?_
            exact form_of b1 b2
        · cases h2
      · cases h2
    · cases h2
  | .bi b l, c, n, X, P, k, e, G, h => by
    unfold okE at h
    split at h
    · split at h
      · rename_i a x p y p2
        simp only [Bool.and_eq_true] at h
        obtain ⟨⟨⟨a1, a2⟩, a3⟩, a4⟩ := h
        have e1 := strB_eq a1
        subst e1
        exact n_list G.hK (gl_of G a2) (G.bl _ (by decide)) (sE a (k := .top) G a4) a3
      · cases h
    · rename_i hk
      rw [Bool.and_eq_true] at h
      obtain ⟨h1, h2⟩ := h
      split at h2
      · simp only [Bool.and_eq_true] at h2
        obtain ⟨⟨⟨⟨a1, a2⟩, a3⟩, a4⟩, a5⟩ := h2
        have e1 := strB_eq a1
        have hb : X.mg b.nm = none := by cases b <;> exact G.bl _ (by decide)
        subst e1
        exact rd_val G.hK h1 fun md hm => n_bi G.hK G.calm G.hu G.rm.gd hm rfl (gl_of G a2) hb (sA l G a5) (fun m q => by obtain ⟨_, _, e⟩ := List.mem_map.mp q; exact e.symm) a3 a4
      · cases h2
  | .tx m o a, c, n, X, P, k, e, G, h => by
    unfold okE at h
    rw [Bool.and_eq_true] at h
    obtain ⟨h1, h2⟩ := h
    split at h2
    · simp only [Bool.and_eq_true] at h2
      obtain ⟨⟨⟨⟨⟨a1, a2⟩, a3⟩, a4⟩, a5⟩, a6⟩ := h2
      exact rd_val G.hK h1 fun md hm => n_tx G.hK hm (strB_eq a1) (sE o (k := .top) G a5) (sE a (k := .top) G a6) a3 a4 a2
    · cases h2
  | .dz a b, c, n, X, P, k, e, G, h => by
    unfold okE at h
    rw [Bool.and_eq_true] at h
    obtain ⟨h1, h2⟩ := h
    split at h2
    · simp only [Bool.and_eq_true] at h2
      obtain ⟨⟨⟨⟨⟨⟨⟨a1, a2⟩, a3⟩, a4⟩, a5⟩, a6⟩, a7⟩, a8⟩ := h2
      have e1 := strB_eq a1
      have e2 := strB_eq a2
      subst e1 e2
      exact rd_new G.hK h1 (n_dz1 G.hK G.calm (gl_of G a4) (G.bl _ (by decide)) (gl_of G a3) (G.bl _ (by decide)) (sE a (k := .top) G a7) (sE b (k := .top) G a8) a5 a6)
    · simp only [Bool.and_eq_true] at h2
      obtain ⟨⟨⟨⟨⟨⟨⟨⟨⟨a1, a2⟩, a3⟩, a4⟩, a5⟩, a6⟩, a7⟩, a8⟩, a9⟩, b1⟩ := h2
      have e1 := strB_eq a1
      have e2 := strB_eq a2
      have e3 := strB_eq a3
      subst e1 e2 e3
      exact rd_new G.hK h1 (n_dz2 G.hK G.calm (gl_of G a6) (G.bl _ (by decide)) (gl_of G a4) (G.bl _ (by decide)) (gl_of G a5) (G.bl _ (by decide)) (sE a (k := .top) G a9) (sE b (k := .top) G b1) a7 a8)
    · cases h2
  | .dsp l, c, n, X, P, k, e, G, h => by
    unfold okE at h
    rw [Bool.and_eq_true] at h
    obtain ⟨h1, h2⟩ := h
    split at h2
    · split at h2
      · rw [Bool.and_eq_true, List.isEmpty_iff, List.isEmpty_iff] at h2
        obtain ⟨rfl, rfl⟩ := h2
        exact rd_new G.hK h1 n_dsp0
      · simp only [Bool.and_eq_true, decide_eq_true_eq] at h2
        obtain ⟨⟨⟨⟨⟨a1, a2⟩, a3⟩, a4⟩, a5⟩, a6⟩ := h2
        obtain ⟨q1, q2⟩ := sK l G a6
        exact rd_new G.hK h1 (n_dsp q1 a4 a1 (fun z => by subst z; simp at a2) a3 q2 a5)
    · cases h2
  | .isi a cs, c, n, X, P, k, e, G, h => by
    unfold okE at h
    rw [Bool.and_eq_true] at h
    obtain ⟨h1, h2⟩ := h
    split at h2
    · simp only [Bool.and_eq_true, decide_eq_true_eq, Bool.not_eq_true'] at h2
      obtain ⟨⟨⟨⟨⟨⟨a1, a2⟩, a3⟩, a4⟩, a5⟩, a6⟩, a7⟩ := h2
      have e1 := strB_eq a1
      subst e1
      obtain ⟨ns, e1, e2, e3⟩ := ty_ok G a5
      exact rd_val G.hK h1 fun md hm => n_isi G.hK G.io hm (gl_of G a2) (G.bl _ (by decide)) e1 (fun z => by rw [z] at a6; cases a6) (by rw [e2]; exact Nat.le_trans a7 (by decide)) (sE a (k := .top) G a4) e3 a3
    · simp only [Bool.and_eq_true] at h2
      obtain ⟨⟨⟨⟨a1, a2⟩, a3⟩, a4⟩, a5⟩ := h2
      have e1 := strB_eq a1
      subst e1
      split at a5
      · rw [Bool.or_eq_true] at a5
        rcases a5 with a5 | a5
        · obtain ⟨x, p, m, rfl, q1, q2, q3⟩ := ty_name a5
          exact rd_val G.hK h1 fun md hm => n_isi1 G.hK G.io hm (gl_of G a2) (G.bl _ (by decide)) q1 (sE a (k := .top) G a4) (ty_one G q1 q2 q3) a3 rfl
        · unfold ownT at a5
          split at a5
          · rename_i m0 _ x p _
            rw [Bool.and_eq_true, decide_eq_true_eq] at a5
            obtain ⟨b1, b2⟩ := a5
            split at b2
            · rename_i ci hc
              simp only [Bool.and_eq_true] at b2
              obtain ⟨⟨b3, b4⟩, b5⟩ := b2
              have e2 := strB_eq b3
              subst e2
              have Q := G.ik _ ci hc
              have en : m0 = 100 + (m0 - 100) := by omega
              rw [en]
              refine rd_val G.hK h1 fun md hm => n_isiO G.hK G.io (by rw [Q.ca]; exact Q.own) hm (gl_of G a2) (G.bl _ (by decide)) (sE a (k := .top) G a4) ?_ a3 rfl
              rw [Q.ca]
              exact pe_glob (gl_of G b5) Q.mg rfl (plain_of' b4).1
            · cases b2
          · cases a5
      · cases a5
    · cases h2
  | .lc d t it, c, n, X, P, k, e, G, h => by
    unfold okE at h
    rw [Bool.and_eq_true] at h
    obtain ⟨h1, h2⟩ := h
    split at h2
    · split at h2
      · rename_i own ho
        simp only [Bool.and_eq_true] at h2
        obtain ⟨⟨⟨⟨⟨a1, a2⟩, a3⟩, a4⟩, a5⟩, a6⟩ := h2
        have bo := blkOk_by a1
        rw [← G.N, ← G.sc] at bo
        have ov := ownOf_map ho
        refine rd_new G.hK h1 (PE.imp (pe_lc (g := tgG X.K t) G.calm G.nd (sI it G a5) bo (fun s H C cl fp => tg_ok (G.blk s H _ C cl fp) a2) (fun s H C cl fp => pts_nil) (fun s H C cl fp => sE d (k := .val) (G.blk s H _ C cl fp) a6) (fold_of a4)) fun σ H Q q => ?_)
        exact lc_read G.hK (fun v => by rw [ov]) (allVal_of G a3) q
      · cases h2
    · cases h2
  | .lci d f t it, c, n, X, P, k, e, G, h => by
    unfold okE at h
    rw [Bool.and_eq_true] at h
    obtain ⟨h1, h2⟩ := h
    split at h2
    · split at h2
      · rename_i own ho
        simp only [Bool.and_eq_true] at h2
        obtain ⟨⟨⟨⟨⟨⟨a1, a2⟩, a3⟩, a4⟩, a5⟩, a6⟩, a7⟩ := h2
        have bo := blkOk_by a1
        rw [← G.N, ← G.sc] at bo
        have ov := ownOf_map ho
        refine rd_new G.hK h1 (PE.imp (pe_lc (g := tgG X.K t) G.calm G.nd (sI it G a5) bo (fun s H C cl fp => tg_ok (G.blk s H _ C cl fp) a2) (fun s H C cl fp => pts_one (sE f (k := .tst) (G.blk s H _ C cl fp) a7).1) (fun s H C cl fp => sE d (k := .val) (G.blk s H _ C cl fp) a6) (fold_of a4)) fun σ H Q q => ?_)
        exact lci_read (fun _ _ _ q => q) G.hK (fun v => by rw [ov]) (allVal_of G a3) q
      · cases h2
    · cases h2
theorem sA : ∀ (l : DA) {c : Cc} {n : Nat} {X : Cx} {P : Pr} {ms : List Md} {es : List Expr}, Good c n X P → okA l c ms es = true → PA X es (tAr P ms l)
  | .nil, c, n, X, P, ms, es, G, h => by
    unfold okA at h
    rw [List.isEmpty_iff] at h
    subst h
    exact a_nil
  | .cons a l, c, n, X, P, ms, es, G, h => by
    unfold okA at h
    split at h
    · rename_i md ms e es
      simp only [Bool.and_eq_true] at h
      obtain ⟨⟨⟨a0, a1⟩, a2⟩, a3⟩ := h
      have ra := sE a G a2
      have rl := sA l G a3
      cases md with
      | val => exact a_cons ra rl a1
      | top => exact a_cons ra rl a1
      | scr => exact a_cons ra rl a1
      | own => cases a0
      | slf => cases a0
      | cls k => cases a0
    · cases h
theorem sJ : ∀ (l : DA) {c : Cc} {n : Nat} {X : Cx} {P : Pr} {es : List Expr}, Good c n X P → okJ l c es = true → ∃ ts, PJ X es ts ∧ JRel P ts l
  | .nil, c, n, X, P, es, G, h => by
    unfold okJ at h
    rw [List.isEmpty_iff] at h
    subst h
    exact ⟨_, .nil, .nil⟩
  | .cons a l, c, n, X, P, es, G, h => by
    unfold okJ at h
    split at h
    · cases h
    · rename_i y m p es
      simp only [Bool.and_eq_true, decide_eq_true_eq] at h
      obtain ⟨⟨a1, a2⟩, a3⟩ := h
      subst a1
      obtain ⟨ts, q1, q2⟩ := sJ l G a3
      exact ⟨_, .cons (pe_fmt (sE a (k := .val) G a2)) q1, .fmt q2⟩
    · rename_i v es _
      simp only [Bool.and_eq_true] at h
      obtain ⟨⟨a1, a2⟩, a3⟩ := h
      obtain ⟨ts, q1, q2⟩ := sJ l G a3
      have ra := sE a (k := .val) G a2
      unfold isTxt at a1
      split at a1
      · exact ⟨_, .cons ra q1, .txt q2⟩
      · cases a1
theorem sK : ∀ (l : DA) {c : Cc} {n : Nat} {X : Cx} {P : Pr} {pos : Pos} {ks : List (Option Expr)} {vs : List Expr}, Good c n X P → okK l c ks vs = true → PPs X pos ks vs (trsOf P l) ∧ evenA l = true
  | .nil, c, n, X, P, pos, ks, vs, G, h => by
    unfold okK at h
    rw [Bool.and_eq_true, List.isEmpty_iff, List.isEmpty_iff] at h
    obtain ⟨rfl, rfl⟩ := h
    exact ⟨pps_nil, rfl⟩
  | .cons a .nil, c, n, X, P, pos, ks, vs, G, h => by
    unfold okK at h
    cases h
  | .cons a (.cons b l), c, n, X, P, pos, ks, vs, G, h => by
    unfold okK at h
    split at h
    · rename_i e3
      cases e3
      simp only [Bool.and_eq_true] at h
      obtain ⟨q1, q2⟩ := sK l (pos := pos) G h.2
      exact ⟨pps_cons (sE a (k := .val) G h.1.1) (sE b (k := .val) G h.1.2) q1, q2⟩
    · cases h
theorem sD : ∀ (l : DL) {c : Cc} {n : Nat} {X : Cx} {P : Pr} {es : List Expr}, Good c n X P → okD l c es = true → PA X es (tDs P l)
  | .nil, c, n, X, P, es, G, h => by
    unfold okD at h
    rw [List.isEmpty_iff] at h
    subst h
    exact d_nil
  | .one a l, c, n, X, P, es, G, h => by
    unfold okD at h
    split at h
    · simp only [Bool.and_eq_true] at h
      exact d_one (sE a (k := .val) G h.1.2) (sD l G h.2) h.1.1
    · cases h
  | .star a l, c, n, X, P, es, G, h => by
    unfold okD at h
    split at h
    · rw [Bool.and_eq_true] at h
      exact d_star G.hK (sE a (k := .top) G h.1) (sD l G h.2)
    · cases h
theorem sO : ∀ (l : DO) {c : Cc} {n : Nat} {X : Cx} {P : Pr} {e : Option Expr}, Good c n X P → okO l c e = true → PO X e (tOp' P l)
  | .none, c, n, X, P, e, G, h => by
    unfold okO at h
    rw [Option.isNone_iff_eq_none] at h
    subst h
    exact o_none
  | .some a, c, n, X, P, e, G, h => by
    unfold okO at h
    split at h
    · exact o_some (sE a (k := .val) G h)
    · cases h
theorem sI : ∀ (l : DI) {c : Cc} {n : Nat} {X : Cx} {P : Pr} {st : Bool} {tg e : Expr}, Good c n X P → okI l c st tg e = true → PI X tg e (tIt P st l)
  | .seq a, c, n, X, P, st, tg, e, G, h => by
    unfold okI at h
    exact i_seq G.hK (sE a (k := .src st) G h)
  | .rng a, c, n, X, P, st, tg, e, G, h => by
    unfold okI at h
    split at h
    · simp only [Bool.and_eq_true] at h
      obtain ⟨⟨⟨a1, a2⟩, a3⟩, a4⟩ := h
      have e1 := strB_eq a1
      subst e1
      exact i_rng (gl_of G a2) (G.bl _ (by decide)) (star_of a3) (sE a (k := .val) G a4)
    · cases h
  | .rng2 a b, c, n, X, P, st, tg, e, G, h => by
    unfold okI at h
    split at h
    · simp only [Bool.and_eq_true] at h
      obtain ⟨⟨⟨⟨⟨a1, a2⟩, a3⟩, a4⟩, a5⟩, a6⟩ := h
      have e1 := strB_eq a1
      subst e1
      exact i_rng2 (gl_of G a2) (G.bl _ (by decide)) ((star_of a3).trans (by rw [star_of a4]; rfl)) (star_of a4) (sE a (k := .val) G a5) (sE b (k := .val) G a6)
    · cases h
  | .zip a b, c, n, X, P, st, tg, e, G, h => by
    unfold okI at h
    split at h
    · simp only [Bool.and_eq_true] at h
      obtain ⟨⟨⟨⟨⟨⟨a0, a1⟩, a2⟩, a3⟩, a4⟩, a5⟩, a6⟩ := h
      have e1 := strB_eq a1
      subst e1
      cases tg <;> first
        | (cases a0; done)
        | exact i_zip G.hK (gl_of G a2) (G.bl _ (by decide)) (star_of a3) (star_of a4) (sE a (k := .src st) G a5) (sE b (k := .src st) G a6)
    · cases h
  | .enu a, c, n, X, P, st, tg, e, G, h => by
    unfold okI at h
    split at h
    · simp only [Bool.and_eq_true] at h
      obtain ⟨⟨⟨⟨a0, a1⟩, a2⟩, a3⟩, a4⟩ := h
      have e1 := strB_eq a1
      subst e1
      cases tg <;> first
        | (cases a0; done)
        | exact i_enu G.hK (gl_of G a2) (G.bl _ (by decide)) (star_of a3) (sE a (k := .src st) G a4)
    · cases h
  | .itm _, c, n, X, P, st, tg, e, G, h => by unfold okI at h; cases h
end
end Zd
set_option Elab.async false
set_option linter.all false
set_option maxRecDepth 100000
set_option maxHeartbeats 2000000
/-! The checker: statements. -/
namespace Zd
open PySem PySem.Spec PyProof.Rows L2
/-- none: no; some none: it never falls through; some (some M): the modes behind it -/
abbrev Ck := Option (Option (List Md))
def Cc.md (c : Cc) (M : List Md) : Cc := { c with M := M }
def msB : List Md → List Md → Bool
  | [], [] => true
  | a :: l, b :: r => mdB a b && msB l r
  | _, _ => false
theorem msB_eq : ∀ {a b : List Md}, msB a b = true → a = b
  | [], [], _ => rfl
  | [], _ :: _, h => by cases h
  | _ :: _, [], h => by cases h
  | a :: l, b :: r, h => by
    unfold msB at h
    rw [Bool.and_eq_true] at h
    rw [mdB_eq h.1, msB_eq h.2]
def joinC : Ck → Ck → Ck
  | some none, some r => some r
  | some r, some none => some r
  | some (some a), some (some b) => if msB a b = true then some (some a) else none
  | _, _ => none
/-- a slot's mode is set -/
def putC (c : Cc) (i : Nat) (md : Md) : Ck := if i < c.M.length then some (some (c.M.set i md)) else none
def yesC (c : Cc) (b : Bool) : Ck := if b = true then some (some c.M) else none
def backC (c : Cc) (r : Ck) : Ck := match r with
  | some none => some (some c.M)
  | some (some a) => if msB a c.M = true then some (some c.M) else none
  | none => none
def isOwn (c : Cc) (i : Nat) : Bool := (msOf c.M i).mine
/-- o.name(es) as a statement's value -/
def methB (name : String) (apos cpos : Pos) (m : Str) : Bool := strB m (nm name) && (apos.endLine == cpos.line)
def slotB (c : Cc) (i : Nat) : Expr → Bool
  | .Name x _ => atN c.N i x && visB c.sc x && plainName x
  | _ => false
/-- is the list comprehension stored on its own line, by the road of its own? -/
def swapB (c : Cc) (x : Str) (p : Pos) (v : Expr) : Bool := match v with
  | .ListComp _ _ s vp => lclB c.sc x && (p.line == vp.line) && !(s.names.any fun (n, k) => n == x && (k == .local || k == .cell))
  | .DictComp _ _ _ s vp => lclB c.sc x && (p.line == vp.line) && !(s.names.any fun (n, k) => n == x && (k == .local || k == .cell))
  | _ => false
def isListComp : Expr → Bool
  | .ListComp _ _ _ _ => true
  | _ => false
def isDictComp : Expr → Bool
  | .DictComp _ _ _ _ _ => true
  | _ => false
/-- a dict comprehension that is stored by its own road -/
def okRc (d : DE) (c : Cc) (v : Expr) : Bool := match d, v with
  | .rcm d t it, .DictComp x (.Constant (.bool true) _ _) [⟨tg, iter, [], 0⟩] sc _ => (match ownOf c.N t.slots with
      | some own => blkC c.N c.sc sc own && okTg (c.into sc) t tg && t.allVal c && notSetE iter && okI it c false tg iter && okE d (c.into sc) .val x
      | none => false)
  | _, _ => false
/-- a comprehension that is stored by its own road -/
def okL (d : DE) (c : Cc) (v : Expr) : Bool := match d, v with
  | .lc d t it, .ListComp x [⟨tg, iter, [], 0⟩] sc _ => (match ownOf c.N t.slots with
      | some own => blkC c.N c.sc sc own && okTg (c.into sc) t tg && t.allVal c && notSetE iter && okI it c false tg iter && okE d (c.into sc) .val x
      | none => false)
  | .lci d f t it, .ListComp x [⟨tg, iter, [y], 0⟩] sc _ => (match ownOf c.N t.slots with
      | some own => blkC c.N c.sc sc own && okTg (c.into sc) t tg && t.allVal c && notSetE iter && okI it c false tg iter && okE d (c.into sc) .val x && okE f (c.into sc) .tst y
      | none => false)
  | _, _ => false
/-- a value whose stores are in order -/
def ordB : Expr → Bool
  | .Tuple vs _ _ => vs.all (foldedForSure 8) || decide (3 < vs.length)
  | _ => true
/-- one of the names stored is no local one: the stores are not swapped -/
def nonLcl (sc : Scope) : List Expr → Bool
  | [] => false
  | .Name x _ :: r => !lclB sc x || nonLcl sc r
  | _ :: r => nonLcl sc r
def ordC (sc : Scope) : Expr → Expr → Bool
  | .Tuple es _ _, v => ordB v || nonLcl sc es
  | _, v => ordB v
/-- name = value -/
def celB (sc : Scope) (x : Str) : Bool := match kindIn sc x with
  | some .cell => true
  | _ => false
/-- a value that is stored by no road of its own -/
def plainV (c : Cc) (x : Str) (v : Expr) : Bool := notComp v || (isListComp v && celB c.sc x)
def okSet (i : Nat) (d : DE) (own : Bool) (c : Cc) (tg v : Expr) : Bool := match tg with
  | .Name x p => tgB c i tg && (if (isListComp v && !celB c.sc x) = true then lclB c.sc x && swapB c x p v && okL d c v else if (own && isDictComp v) = true then lclB c.sc x && swapB c x p v && okRc d c v else plainV c x v && okE d c (if own = true then .new else .val) v)
  | _ => false
def kn2 (o : Bool) : Kn := if o = true then .new else .val
def md2 (o : Bool) : Md := if o = true then .own else .val
mutual
def okS : DS → Cc → List Md → Stmt → Ck
  | .asg (.one i) d, c, _, st => match st with
    | .Assign [tg] v _ => if okSet i d false c tg v = true then putC c i .val else none
    | _ => none
  | .asg (.many is) d, c, _, st => match st with
    | .Assign [tg] v _ => yesC c (okTg c (.many is) tg && (Tg.many is).allVal c && notComp v && ordC c.sc tg v && okE d c .val v)
    | _ => none
  | .own i d, c, _, st => match st with
    | .Assign [tg] v _ => if okSet i d true c tg v = true then putC c i .own else none
    | _ => none
  | .par i j oi oj a b, c, _, st => match st with
    | .Assign [.Tuple [.Name x px, .Name y py] _ pt] (.Tuple [u, v] k2 pt2) _ => if (!(i == j) && atN c.N i x && atN c.N j y && lclB c.sc x && lclB c.sc y && !(strB x y) && (px.line == py.line) && !(constantsAlone 8 u && constantsAlone 8 v) && !(foldedForSure 8 u && foldedForSure 8 v) && notStar u && notStar v
        && okE a c (kn2 oi) u && okE b c (kn2 oj) v && decide (i < c.M.length) && decide (j < c.M.length)) = true then some (some ((c.M.set i (md2 oi)).set j (md2 oj))) else none
    | _ => none
  | .ex d, c, _, st => match st with
    | .Expr v _ => yesC c (notComp v && okE d c .top v)
    | _ => none
  | .app i d, c, _, st => match st with
    | .Expr (.Call (.Attribute o m apos) [v] [] cpos) _ => yesC c (isOwn c i && slotB c i o && methB "append" apos cpos m && notStar v && okE d c .val v)
    | _ => none
  | .apop i j d, c, _, st => match st with
    | .Expr (.Call (.Attribute o m apos) [.Call (.Attribute o2 m2 apos2) [v] [] cpos2] [] cpos) _ => yesC c (!(i == j) && isOwn c i && isOwn c j && slotB c i o && slotB c j o2 && methB "append" apos cpos m && methB "pop" apos2 cpos2 m2 && notStar v && okE d c .val v)
    | _ => none
  | .ext i d, c, _, st => match st with
    | .Expr (.Call (.Attribute o m apos) [v] [] cpos) _ => yesC c (isOwn c i && slotB c i o && methB "extend" apos cpos m && notStar v && okE d c .val v)
    | _ => none
  | .rup i d, c, _, st => match st with
    | .Expr (.Call (.Attribute o m apos) [v] [] cpos) _ => yesC c (isOwn c i && slotB c i o && methB "update" apos cpos m && notStar v && okE d c .new v)
    | _ => none
  | .seti i k d, c, _, st => match st with
    | .Assign [.Subscript o y _] v _ => yesC c (isOwn c i && slotB c i o && notComp v && notTup v && notSlice y && okE d c .val v && okE k c .val y)
    | _ => none
  | .rapp o d, c, _, st => match st with
    | .Expr (.Call (.Attribute q m apos) [v] [] cpos) _ => yesC c (notCall q && methB "append" apos cpos m && notStar v && okE o c .top q && okE d c .val v)
    | _ => none
  | .rpop o, c, _, st => match st with
    | .Expr (.Call (.Attribute q m apos) [] [] cpos) _ => yesC c (notCall q && methB "pop" apos cpos m && okE o c .top q)
    | _ => none
  | .rpopv i o, c, _, st => match st with
    | .Assign [tg] (.Call (.Attribute q m apos) [] [] cpos) _ => if (tgB c i tg && notCall q && methB "pop" apos cpos m && okE o c .top q) = true then putC c i .val else none
    | _ => none
  | .rset o k d, c, _, st => match st with
    | .Assign [.Subscript q y _] v _ => yesC c (notComp v && notTup v && notSlice y && okE d c .val v && okE o c .top q && okE k c .val y)
    | _ => none
  | .satt i n d, c, _, st => match st with
    | .Assign [.Attribute o f _] v _ => yesC c (isOwn c i && slotB c i o && strB (c.fnm n) f && notComp v && okE d c .val v)
    | _ => none
  | .iff d s u, c, Mb, st => match st with
    | .If x a b _ => if okE d c .tst x = true then joinC (okB s c Mb a) (okB u c Mb b) else none
    | _ => none
  | .wh d s, c, _, st => match st with
    | .While x a [] _ => if okE d c .tst x = true then backC c (okB s c c.M a) else none
    | _ => none
  | .fr t it s, c, _, st => match st with
    | .For tg iter a [] _ => if (okTg c t tg && t.allVal c && notSetE iter && okI it c true tg iter) = true then backC c (okB s c c.M a) else none
    | _ => none
  | .ret d, c, _, st => match st with
    | .Return (some v) _ => if okE d c .val v = true then some none else none
    | _ => none
  | .retn, _, _, st => match st with
    | .Return none _ => some none
    | _ => none
  | .brk, c, Mb, st => match st with
    | .Break _ => if msB c.M Mb = true then some none else none
    | _ => none
  | .cnt, c, Mb, st => match st with
    | .Continue _ => if msB c.M Mb = true then some none else none
    | _ => none
  | .pas, c, _, st => match st with
    | .Pass _ => some (some c.M)
    | .Expr (.Constant (.str _) _ _) _ => some (some c.M)
    | _ => none
  | .never, _, _, _ => some none
  | .frz _, _, _, _ => none
  | .fgt _, _, _, _ => none
def okB : DB → Cc → List Md → List Stmt → Ck
  | .nil, c, _, sts => if sts.isEmpty = true then some (some c.M) else none
  | .cons s b, c, Mb, sts => match s with
    | .frz i => if (isOwn c i && decide (i < c.M.length)) = true then okB b (c.md (c.M.set i .val)) Mb sts else none
    | .fgt i => if decide (i < c.M.length) = true then okB b (c.md (c.M.set i .val)) Mb sts else none
    | s => (match sts with
      | st :: sts => (match okS s c Mb st with
        | some (some M1) => okB b (c.md M1) Mb sts
        | some none => (match b, sts with
          | .nil, [] => some none
          | _, _ => none)
        | none => none)
      | [] => none)
end
end Zd
set_option Elab.async false
set_option linter.all false
set_option maxRecDepth 100000
set_option maxHeartbeats 2000000
/-! The checker is right: statements. -/
namespace Zd
open PySem PySem.Spec PyProof.Rows L2
/-- a def's body -/
structure GoodS (c : Cc) (n : Nat) (X : Cx) (P : Pr) : Prop where
  g : Good c n X P
  kind : X.env.scope.kind = .function
  fnb : c.fnb = none
  po : PassesOwn (model X.prog X.w) X.A X.env X.xe
section
variable {c : Cc} {n : Nat} {X : Cx} {P : Pr} {Mb : List Md} {pos p apos cpos : Pos}
theorem GoodS.md (G : GoodS c n X P) (M : List Md) : GoodS (c.md M) n X (P.md (msOf M)) where
  g := ⟨G.g.hK, G.g.rm, G.g.calm, G.g.nd, G.g.N, G.g.sc, G.g.fn, rfl, G.g.bl, G.g.tk, fun f fi h => let q := G.g.fk f fi h; ⟨q.fok, q.kp, q.mg, q.ct, q.mt⟩, fun k ci h => let q := G.g.ik k ci h; ⟨q.fok, q.ca, q.own, q.kp, q.mg⟩, G.g.fnm, G.g.inj, G.g.fld, G.g.io, G.g.gv⟩
  kind := G.kind
  fnb := G.fnb
  po := G.po
theorem msOf_set {l : List Md} {i : Nat} {md : Md} (h : i < l.length) : msOf (l.set i md) = (msOf l).put i md := by
  funext j
  show (l.set i md).getD j .val = if j = i then md else l.getD j .val
  rw [List.getD_eq_getElem?_getD, List.getD_eq_getElem?_getD]
  by_cases e : j = i
  · subst e
    rw [List.getElem?_set_self h, if_pos rfl]
    rfl
  · rw [List.getElem?_set_ne (Ne.symm e), if_neg e]
/-- what the checker's answer says of the modes behind -/
def Ends2 (r : Option (List Md)) (M' : Ms) : Prop := ∀ M, r = some M → M' = msOf M
theorem putC_of {i : Nat} {md : Md} {r : Option (List Md)} {M' : Ms} (G : Good c n X P) (h : putC c i md = some r) (e : Ends2 r M') : M' = P.M.put i md := by
  unfold putC at h
  split at h
  · rename_i hi
    cases h
    rw [e _ rfl, msOf_set hi, G.M]
  · cases h
theorem yesC_of {b : Bool} {r : Option (List Md)} {M' : Ms} (G : Good c n X P) (h : yesC c b = some r) (e : Ends2 r M') : M' = P.M ∧ b = true := by
  unfold yesC at h
  split at h
  · rename_i hb
    cases h
    exact ⟨by rw [e _ rfl, G.M], hb⟩
  · cases h
theorem ord_of {t e : Expr} {env : Env} (h : ordB e = true) : swappedStores [t] e env = pure none := by
  cases e <;> first
    | exact swapped_of rfl
    | skip
  rename_i vs k q
  unfold ordB at h
  rw [Bool.or_eq_true, decide_eq_true_eq] at h
  have key : ∀ (ts : List Expr), (!(ts.length == 2 || ts.length == 3) || vs.length != ts.length || env.blockKind != .function) = true ∨ vs.all (foldedForSure 8) = true := fun ts => by
    rcases h with h | h
    · exact .inr h
    · left
      by_cases a : ts.length = 2
      · rw [a]
        have : (vs.length != 2) = true := by simp; omega
        simp [this]
      · by_cases b : ts.length = 3
        · rw [b]
          have : (vs.length != 3) = true := by simp; omega
          simp [this]
        · simp [a, b]
  cases t with
  | Tuple ts _ _ =>
    unfold swappedStores
    rcases key ts with h | h
    · simp only [h, if_true]
    · simp only [h, if_true]
      split
      · rfl
      · split
        · rfl
        · split <;> rfl
  | List ts _ =>
    unfold swappedStores
    rcases key ts with h | h
    · simp only [h, if_true]
    · simp only [h, if_true]
      split
      · rfl
      · split
        · rfl
        · split <;> rfl
  | _ => rfl
theorem non_lcl {f : Expr → Option Str} {sc : Scope} (hf : ∀ x p, lclB sc x = false → f (.Name x p) = none) : ∀ {es : List Expr}, nonLcl sc es = true → (es.filterMap f).length < es.length
  | [], h => by cases h
  | e :: es, h => by
    have sub := List.length_filterMap_le f es
    rw [List.filterMap_cons]
    cases e with
    | Name x p =>
      unfold nonLcl at h
      rw [Bool.or_eq_true] at h
      rcases h with h | h
      · rw [hf x p (by simpa using h)]
        simp only [List.length_cons]
        omega
      · have ih := non_lcl hf h
        cases f (.Name x p) <;> simp only [List.length_cons] <;> omega
    | _ =>
      have h : nonLcl sc es = true := h
      have ih := non_lcl hf h
      split <;> simp only [List.length_cons] <;> omega
theorem ordC_of {t e : Expr} {env : Env} {sc : Scope} (hs : env.scope = sc) (h : ordC sc t e = true) : swappedStores [t] e env = pure none := by
  unfold ordC at h
  split at h
  · rename_i es k q
    rw [Bool.or_eq_true] at h
    rcases h with h | h
    · exact ord_of h
    · cases e <;> first
        | exact swapped_of rfl
        | skip
      rename_i vs k2 q2
      unfold swappedStores
      simp only
      split
      · rfl
      · split
        · rfl
        · rw [if_pos]
          · rw [Bool.or_eq_true]
            left
            have lt := non_lcl (sc := sc) (es := es) (f := fun
              | .Name id pos => if env.kindOf id == some .local && pos.line == (es.head?.map (·.pos.line)).getD 0 then some id else none
              | _ => none) (fun x p hx => by
                have hk : (env.kindOf x == some .local) = false := by
                  show (env.scope.names.lookup x == some .local) = false
                  rw [hs]
                  unfold lclB kindIn at hx
                  cases hl : sc.names.lookup x with
                  | none => rfl
                  | some kd => rw [hl] at hx; cases kd <;> first | rfl | (cases hx)
                simp only [hk, Bool.false_and, Bool.false_eq_true, if_false]) h
            simp only [bne_iff_ne, ne_eq]
            intro z
            exact Nat.lt_irrefl _ (z ▸ lt)
  · exact ord_of h
/-! ### names, methods -/
theorem sole_of {t e : Expr} {k : Nat} {env : Env} (h : notComp e = true) : swapsWithSole [t] e k env = pure false := by
  show swapsWith e (some t) k env = pure false
  exact swaps_of h
theorem sub_of {o y : Expr} {p : Pos} {env : Env} (h : notSlice y = true) (v : Value) : assign (.Subscript o y p) env v = (do
      let ov ← holding [v] (eval o env)
      let iv ← holding [v, ov] (eval y env)
      standAt p
      holding [v, ov, iv] (setItem ov iv v)
      release [v, ov, iv] []) := by
  cases y <;> first
    | rfl
    | (cases h)
theorem slot_ok (G : Good c n X P) {i : Nat} {e : Expr} (h : slotB c i e = true) : PE X e (tVar i) ∧ notCall e = true := by
  cases e <;> first
    | (cases h; done)
    | skip
  rename_i x p
  unfold slotB at h
  simp only [Bool.and_eq_true] at h
  obtain ⟨p1, p2⟩ := plain_of' h.2
  exact ⟨pe_var (by rw [G.N]; exact atN_eq h.1.1) (by rw [G.sc]; exact vis_of h.1.2) p1 p2, rfl⟩
theorem own_of (G : Good c n X P) {i : Nat} (h : isOwn c i = true) : (P.M i).mine = true := by
  rw [G.M]
  exact h
theorem meth_of {name : String} {m : Str} (h : methB name apos cpos m = true) : m = nm name ∧ (apos.endLine == cpos.line) = true := by
  unfold methB at h
  rw [Bool.and_eq_true] at h
  exact ⟨strB_eq h.1, h.2⟩
theorem few_of {e : Expr} {env : Env} (h : notStar e = true) : ((backTo cpos (starEach [e] env)).all (fun x => !x.1) && (backToKw cpos (keywordEach [] env)).all (fun x => x.1.isSome)
      && decide ([e].length + ([] : List Keyword).length + (if ([] : List Keyword).isEmpty then 0 else 1) < 30)) = true := by
  rw [star_of h]
  rfl
theorem m_append {o v : Expr} {m : Str} {to tv : TE} (ho : PE X o to) (hv : PE X v tv) (hn : notCall o = true) (hm : methB "append" apos cpos m = true) (hs : notStar v = true) : PE X (.Call (.Attribute o m apos) [v] [] cpos) (tBM X.K "list" rAppend to (tCons tv tNil)) := by
  obtain ⟨rfl, hl⟩ := meth_of hm
  exact pe_bm F.plainAttrs_list F.slot_list_append F.type_list_append mt_append ho (pa_cons hv pa_nil (star_of hs)) (base_of hn) (few_of hs) hl (star_of hs) rfl
theorem m_extend {o v : Expr} {m : Str} {to tv : TE} (ho : PE X o to) (hv : PE X v tv) (hn : notCall o = true) (hm : methB "extend" apos cpos m = true) (hs : notStar v = true) : PE X (.Call (.Attribute o m apos) [v] [] cpos) (tBM X.K "list" rExtend to (tCons tv tNil)) := by
  obtain ⟨rfl, hl⟩ := meth_of hm
  exact pe_bm F.plainAttrs_list F.slot_list_extend F.type_list_extend mt_extend ho (pa_cons hv pa_nil (star_of hs)) (base_of hn) (few_of hs) hl (star_of hs) rfl
theorem m_popAt {o v : Expr} {m : Str} {to tv : TE} (ho : PE X o to) (hv : PE X v tv) (hn : notCall o = true) (hm : methB "pop" apos cpos m = true) (hs : notStar v = true) : PE X (.Call (.Attribute o m apos) [v] [] cpos) (tBM X.K "list" rPopAt to (tCons tv tNil)) := by
  obtain ⟨rfl, hl⟩ := meth_of hm
  exact pe_bm F.plainAttrs_list F.slot_list_pop F.type_list_pop mt_popAt ho (pa_cons hv pa_nil (star_of hs)) (base_of hn) (few_of hs) hl (star_of hs) rfl
theorem m_pop {o : Expr} {m : Str} {to : TE} (ho : PE X o to) (hn : notCall o = true) (hm : methB "pop" apos cpos m = true) : PE X (.Call (.Attribute o m apos) [] [] cpos) (tBM0 X.K "list" rPop to) := by
  obtain ⟨rfl, hl⟩ := meth_of hm
  exact pe_bm0 F.plainAttrs_list F.slot_list_pop F.type_list_pop mt_pop ho (base_of hn) hl
/-! ### one name -/
theorem swap_ok (G : GoodS c n X P) {x : Str} {y : Pos} {v : Expr} {line : Nat} (h : swapB c x y v = true) : swapsWith v (some (.Name x y)) line X.env = pure true := by
  unfold swapB at h
  split at h
  · rename_i elt gens s vp
    simp only [Bool.and_eq_true] at h
    obtain ⟨⟨h1, h2⟩, h3⟩ := h
    have hl := lcl_of h1
    rw [← G.g.sc] at hl
    have hb : (X.env.blockKind == .function) = true := by
      unfold Env.blockKind
      rw [G.kind]
      rfl
    have hk : (X.env.kindOf x == some .local) = true := by
      show (X.env.scope.names.lookup x == some .local) = true
      rw [hl]
      rfl
    unfold swapsWith
    simp only
    rw [hb, hk]
    show pure ((y.line == vp.line) && _) = _
    rw [h2]
    exact congrArg pure h3
  · rename_i kx vx gens s vp
    simp only [Bool.and_eq_true] at h
    obtain ⟨⟨h1, h2⟩, h3⟩ := h
    have hl := lcl_of h1
    rw [← G.g.sc] at hl
    have hb : (X.env.blockKind == .function) = true := by
      unfold Env.blockKind
      rw [G.kind]
      rfl
    have hk : (X.env.kindOf x == some .local) = true := by
      show (X.env.scope.names.lookup x == some .local) = true
      rw [hl]
      rfl
    unfold swapsWith
    simp only
    rw [hb, hk]
    show pure ((y.line == vp.line) && _) = _
    rw [h2]
    exact congrArg pure h3
  · cases h
theorem swaps_pl (G : GoodS c n X P) {x : Str} {y : Pos} {v : Expr} {line : Nat} (h : plainV c x v = true) : swapsWith v (some (.Name x y)) line X.env = pure false := by
  unfold plainV at h
  rw [Bool.or_eq_true] at h
  rcases h with h | h
  · exact swaps_of h
  · rw [Bool.and_eq_true] at h
    obtain ⟨h1, h2⟩ := h
    unfold celB kindIn at h2
    split at h2
    · rename_i e
      rw [← G.g.sc] at e
      have hk : (X.env.kindOf x == some .local) = false := by
        show (X.env.scope.names.lookup x == some .local) = false
        rw [e]
        rfl
      cases v <;> first
        | (cases h1; done)
        | skip
      unfold swapsWith
      simp only
      rw [hk]
      simp
    · cases h2
theorem lc_own (G : Good c n X P) {d : DE} {v : Expr} {R : TE → Prop} (h : okL d c v = true)
    (k : ∀ (elt tg iter : Expr) (ifs : List Expr) (sc : Scope) (p : Pos) (wi : TI) (g : TG) (tt : TT) (te : TE) (own : List (Str × Nat)), v = .ListComp elt [⟨tg, iter, ifs, 0⟩] sc p → PI X tg iter wi → BlkOk X.N X.env.scope sc own →
      (∀ (s : Shared) (H : Hp) (C : Addr) (cl : List (Str × Addr)) (fp : List Addr), PG (X.blk s H sc (compEnvC sc cl C X.env) fp) tg g) → (∀ (s : Shared) (H : Hp) (C : Addr) (cl : List (Str × Addr)) (fp : List Addr), PTs (X.blk s H sc (compEnvC sc cl C X.env) fp) ifs tt) →
      (∀ (s : Shared) (H : Hp) (C : Addr) (cl : List (Str × Addr)) (fp : List Addr), PE (X.blk s H sc (compEnvC sc cl C X.env) fp) elt te) → (∀ x, foldedSetIterable iter X.env x = pure x) → (∀ σ H Q, tF P d σ H Q → tLc wi g tt te (own.map (·.2)) σ H Q) → R (tLc wi g tt te (own.map (·.2)))) : ∃ t, R t := by
  unfold okL at h
  split at h
  · rename_i d t it x tg iter sc p
    split at h
    · rename_i own ho
      simp only [Bool.and_eq_true] at h
      obtain ⟨⟨⟨⟨⟨a1, a2⟩, a3⟩, a4⟩, a5⟩, a6⟩ := h
      have bo := blkOk_by a1
      rw [← G.N, ← G.sc] at bo
      have ov := ownOf_map ho
      exact ⟨_, k _ _ _ _ _ _ _ (tgG X.K t) _ _ own rfl (sI it G a5) bo (fun s H C cl fp => tg_ok (G.blk s H _ C cl fp) a2) (fun s H C cl fp => pts_nil) (fun s H C cl fp => sE d (k := .val) (G.blk s H _ C cl fp) a6) (fold_of a4)
        fun σ H Q q => lc_read G.hK (fun v => by rw [ov]) (allVal_of G a3) q⟩
    · cases h
  · rename_i d f t it x tg iter y sc p
    split at h
    · rename_i own ho
      simp only [Bool.and_eq_true] at h
      obtain ⟨⟨⟨⟨⟨⟨a1, a2⟩, a3⟩, a4⟩, a5⟩, a6⟩, a7⟩ := h
      have bo := blkOk_by a1
      rw [← G.N, ← G.sc] at bo
      have ov := ownOf_map ho
      exact ⟨_, k _ _ _ _ _ _ _ (tgG X.K t) _ _ own rfl (sI it G a5) bo (fun s H C cl fp => tg_ok (G.blk s H _ C cl fp) a2) (fun s H C cl fp => pts_one (sE f (k := .tst) (G.blk s H _ C cl fp) a7).1) (fun s H C cl fp => sE d (k := .val) (G.blk s H _ C cl fp) a6) (fold_of a4)
        fun σ H Q q => lci_read (fun _ _ _ q => q) G.hK (fun v => by rw [ov]) (allVal_of G a3) q⟩
    · cases h
  · cases h
theorem set_ok (G : GoodS c n X P) {i : Nat} {d : DE} {own : Bool} {tg v : Expr} {pos : Pos} (h : okSet i d own c tg v = true) : ∃ R : TE, PS X (.Assign [tg] v pos) (tAsg R (gName i)) ∧ (∀ σ H Q, (if own = true then tF P d σ H Q else tM P .val d σ H Q) → R σ H Q) := by
  unfold okSet at h
  split at h
  · rename_i x p
    rw [Bool.and_eq_true] at h
    obtain ⟨ht, h⟩ := h
    have ht' := ht
    unfold tgB at ht
    simp only [Bool.and_eq_true, Bool.or_eq_true] at ht
    have hN : X.N[i]? = some x := by rw [G.g.N]; exact atN_eq ht.1.1
    have hx : Loc X.env.scope x := by rw [G.g.sc]; exact loc_of ht.1.2
    have hf : X.fn x = true ∨ X.env.scope.names.lookup x = some .local := .inl (G.g.fn x (by rw [G.fnb]; rfl))
    split at h
    · simp only [Bool.and_eq_true] at h
      obtain ⟨⟨h1, h2⟩, h3⟩ := h
      have hl : X.env.scope.names.lookup x = some .local := by rw [G.g.sc]; exact lcl_of h1
      have z := lc_own (R := fun t => PS X (.Assign [.Name x p] v pos) (tAsg t (gName i)) ∧ ∀ σ H Q, tF P d σ H Q → t σ H Q) G.g h3 fun elt tg iter ifs sc q wi g tt te own e hi bo hg htt he hs hr => by
        subst e
        exact ⟨ps_setLc G.g.calm G.g.nd hN hl (swap_ok G h2) hi bo hg htt he hs, hr⟩
      obtain ⟨t, z1, z2⟩ := z
      refine ⟨t, z1, fun σ H Q q => z2 σ H Q ?_⟩
      cases own with
      | true => rw [if_pos rfl] at q; exact q
      | false => rw [if_neg (by decide)] at q; exact tF.of (.inl rfl) q
    split at h
    · rename_i hod
      rw [Bool.and_eq_true] at hod
      obtain ⟨ho, _⟩ := hod
      subst ho
      simp only [Bool.and_eq_true] at h
      obtain ⟨⟨h1, h2⟩, h3⟩ := h
      have hl : X.env.scope.names.lookup x = some .local := by rw [G.g.sc]; exact lcl_of h1
      unfold okRc at h3
      split at h3
      · rename_i d t it x2 j pj tg iter sc pv _ _
        split at h3
        · rename_i own ho
          simp only [Bool.and_eq_true] at h3
          obtain ⟨⟨⟨⟨⟨a1, a2⟩, a3⟩, a4⟩, a5⟩, a6⟩ := h3
          have bo := blkOk_by a1
          rw [← G.g.N, ← G.g.sc] at bo
          have ov := ownOf_map ho
          exact ⟨_, ps_setRc (by have := G.g.hu; omega) G.g.calm G.g.nd hN hl (swap_ok G h2) (sI it G.g a5) bo (fun s H C cl fp => tg_ok (G.g.blk s H _ C cl fp) a2) (fun s H C cl fp => pts_nil) (fun s H C cl fp => sE d (k := .val) (G.g.blk s H _ C cl fp) a6) (fun s H C cl fp => pe_bl) (fold_of a4),
            fun σ H Q q => by rw [if_pos rfl] at q; exact rcm_read G.g.hK (fun v => by rw [ov]) (allVal_of G.g a3) q⟩
        · cases h3
      · cases h3
    · rw [Bool.and_eq_true] at h
      obtain ⟨h1, h2⟩ := h
      cases own with
      | true =>
        rw [if_pos rfl] at h2
        exact ⟨_, ps_set G.g.nd hN hx (sE d (k := .new) G.g h2) (swaps_pl G h1) hf, fun σ H Q q => by rw [if_pos rfl] at q; exact q⟩
      | false =>
        rw [if_neg (by decide)] at h2
        exact ⟨_, ps_set G.g.nd hN hx (sE d (k := .val) G.g h2) (swaps_pl G h1) hf, fun σ H Q q => by rw [if_neg (by decide)] at q; exact q⟩
  · cases h
theorem rd2 {o : Bool} {e : Expr} {d : DE} (h : Rd X P (kn2 o) e d) : PE X e ((if o = true then PK2.own else PK2.val).rd P d) := by
  cases o with
  | true => exact h
  | false => exact h
theorem md2_eq (o : Bool) : (if o = true then PK2.own else PK2.val).md = md2 o := by cases o <;> rfl
theorem back_of {r1 : Ck} {r : Option (List Md)} {M' : Ms} (G : GoodS c n X P) (h : backC c r1 = some r) (e : Ends2 r M') : ∃ a, r1 = some a ∧ Ends2 a P.M ∧ P.M = M' := by
  unfold backC at h
  split at h
  · cases h
    exact ⟨_, rfl, nofun, by rw [e _ rfl, G.g.M]⟩
  · split at h
    · rename_i hm
      cases h
      have := msB_eq hm
      subst this
      exact ⟨_, rfl, fun M q => by cases q; exact G.g.M, by rw [e _ rfl, G.g.M]⟩
    · cases h
  · cases h
theorem b_last {M' Mb : Ms} {st : Stmt} {s : DS} (h : PS X st (tSt P M' Mb s)) : PSs X [st] (tBl P M' Mb (.cons s .nil)) := ⟨fun pins s0 σ H D I q => by
  obtain ⟨w, g, S, W, q⟩ := q
  refine (pss_one h).run pins s0 σ H D I ⟨w, g, S, W, ?_⟩
  unfold exb at q
  cases es : exs P.T P.cf s g S with
  | nx g1 S1 => rw [es] at q; unfold exb at q; exact q
  | rt d S1 => rw [es] at q; exact q
  | bk g1 S1 => rw [es] at q; exact q
  | ct g1 S1 => rw [es] at q; exact q
  | ex e g1 S1 => rw [es] at q; exact q
  | bad => rw [es] at q; exact q⟩
theorem par_ok {x y : Str} {px py pt pt2 : Pos} {kt k2 : Nat} {u v : Expr} {env : Env} (hk : env.scope.kind = .function) (hx : env.scope.names.lookup x = some .local) (hy : env.scope.names.lookup y = some .local) (hxy : strB x y = false) (hl : (px.line == py.line) = true)
    (h1 : (constantsAlone 8 u && constantsAlone 8 v) = false) (h2 : (foldedForSure 8 u && foldedForSure 8 v) = false) (s1 : notStar u = true) (s2 : notStar v = true) : swappedStores [.Tuple [.Name x px, .Name y py] kt pt] (.Tuple [u, v] k2 pt2) env = pure (some [x, y]) := by
  have hb' : env.blockKind = .function := by
    unfold Env.blockKind
    rw [hk]
    rfl
  have kx : env.kindOf x = some .local := hx
  have ky : env.kindOf y = some .local := hy
  have nxy : x ≠ y := by
    intro e
    subst e
    unfold strB at hxy
    simp at hxy
  have hl' : px.line = py.line := beq_iff_eq.mp hl
  have a1 : ([u, v].all (constantsAlone 8)) = false := by simpa using h1
  have a2 : ([u, v].all (foldedForSure 8)) = false := by simpa using h2
  unfold swappedStores
  simp only [hb', a1, a2]
  simp only [List.any_cons, List.any_nil, Bool.or_false]
  rw [if_neg (by simp)]
  split
  · cases s1
  · split
    · cases s2
    · have len : (List.eraseDupsBy (fun (x1 x2 : Str) => x1 == x2) [x, y]).length = 2 := by
        have n2 : (y == x) = false := by simpa using nxy.symm
        simp [List.eraseDupsBy, List.eraseDupsBy.loop, n2]
      simp [kx, ky, hl', Expr.pos, List.eraseDups, len]
mutual
theorem sS : ∀ (s : DS) {c : Cc} {n : Nat} {X : Cx} {P : Pr} {Mb : List Md} {st : Stmt} {r : Option (List Md)} {M' : Ms}, GoodS c n X P → okS s c Mb st = some r → Ends2 r M' → PS X st (tSt P M' (msOf Mb) s)
  | .asg (.one i) d, c, n, X, P, Mb, st, r, M', G, h, e => by
    unfold okS at h
    split at h
    · split at h
      · rename_i hs
        obtain ⟨R, z1, z2⟩ := set_ok G hs
        rw [putC_of G.g h e]
        exact PS.imp z1 fun D σ H q => set1_read (fun σ H Q w => z2 σ H Q w) q
      · cases h
    · cases h
  | .asg (.many is) d, c, n, X, P, Mb, st, r, M', G, h, e => by
    unfold okS at h
    split at h
    · obtain ⟨rfl, hb⟩ := yesC_of G.g h e
      simp only [Bool.and_eq_true] at hb
      obtain ⟨⟨⟨⟨a1, a2⟩, a3⟩, a4⟩, a5⟩ := hb
      rename_i tg v p
      have ht : ∃ es k q, tg = .Tuple es k q := by
        cases tg <;> first
          | (cases a1; done)
          | exact ⟨_, _, _, rfl⟩
      obtain ⟨es, k, q, rfl⟩ := ht
      exact PS.imp (ps_asg (sE d (k := .val) G.g a5) (tg_ok G.g a1) (sole_of a3) (ordC_of G.g.sc a4) rfl) fun D σ H q => asg_read G.g.hK (allVal_of G.g a2) q
    · cases h
  | .own i d, c, n, X, P, Mb, st, r, M', G, h, e => by
    unfold okS at h
    split at h
    · split at h
      · rename_i hs
        obtain ⟨R, z1, z2⟩ := set_ok G hs
        rw [putC_of G.g h e]
        exact PS.imp z1 fun D σ H q => own1_read (fun σ H Q w => z2 σ H Q w) q
      · cases h
    · cases h
  | .par i j oi oj a b, c, n, X, P, Mb, st, r, M', G, h, e => by
    unfold okS at h
    split at h
    · split at h
      · rename_i hs
        simp only [Bool.and_eq_true, Bool.not_eq_true', decide_eq_true_eq] at hs
        obtain ⟨⟨⟨⟨⟨⟨⟨⟨⟨⟨⟨⟨⟨⟨a1, a2⟩, a3⟩, a4⟩, a5⟩, a6⟩, a7⟩, a8⟩, a9⟩, b1⟩, b2⟩, b3⟩, b4⟩, b5⟩, b6⟩ := hs
        cases h
        have e := e _ rfl
        have hij : i ≠ j := by simpa using a1
        have lx := lcl_of a4
        have ly := lcl_of a5
        rw [← G.g.sc] at lx ly
        rw [msOf_set (by rw [List.length_set]; exact b6), msOf_set b5, ← G.g.M, ← md2_eq, ← md2_eq] at e
        rw [e]
        exact PS.imp (ps_par G.g.calm G.g.nd (by rw [G.g.N]; exact atN_eq a2) (by rw [G.g.N]; exact atN_eq a3) hij lx ly (pa_cons (rd2 (sE a G.g b3)) (pa_cons (rd2 (sE b G.g b4)) pa_nil (star_of b2)) (star_of b1)) (par_ok G.kind lx ly a6 a7 a8 a9 b1 b2) rfl)
          fun D σ H q => par_read _ _ hij q
      · cases h
    · cases h
  | .ex d, c, n, X, P, Mb, st, r, M', G, h, e => by
    unfold okS at h
    split at h
    · obtain ⟨rfl, hb⟩ := yesC_of G.g h e
      rw [Bool.and_eq_true] at hb
      exact s_ex (sE d (k := .top) G.g hb.2) (swaps_of hb.1)
    · cases h
  | .app i d, c, n, X, P, Mb, st, r, M', G, h, e => by
    unfold okS at h
    split at h
    · obtain ⟨rfl, hb⟩ := yesC_of G.g h e
      simp only [Bool.and_eq_true] at hb
      obtain ⟨⟨⟨⟨a1, a2⟩, a3⟩, a4⟩, a5⟩ := hb
      obtain ⟨q1, q2⟩ := slot_ok G.g a2
      exact PS.imp (ps_expr (m_append q1 (sE d (k := .val) G.g a5) q2 a3 a4) rfl) fun D σ H q => app_read (own_of G.g a1) q
    · cases h
  | .apop i j d, c, n, X, P, Mb, st, r, M', G, h, e => by
    unfold okS at h
    split at h
    · obtain ⟨rfl, hb⟩ := yesC_of G.g h e
      simp only [Bool.and_eq_true, Bool.not_eq_true'] at hb
      obtain ⟨⟨⟨⟨⟨⟨⟨⟨a0, a1⟩, a2⟩, a3⟩, a4⟩, a5⟩, a6⟩, a7⟩, a8⟩ := hb
      obtain ⟨q1, q2⟩ := slot_ok G.g a3
      obtain ⟨q3, q4⟩ := slot_ok G.g a4
      exact PS.imp (ps_expr (m_append q1 (m_popAt q3 (sE d (k := .val) G.g a8) q4 a6 a7) q2 a5 rfl) rfl) fun D σ H q => apop_read (own_of G.g a1) (own_of G.g a2) (by simpa using a0) q
    · cases h
  | .ext i d, c, n, X, P, Mb, st, r, M', G, h, e => by
    unfold okS at h
    split at h
    · obtain ⟨rfl, hb⟩ := yesC_of G.g h e
      simp only [Bool.and_eq_true] at hb
      obtain ⟨⟨⟨⟨a1, a2⟩, a3⟩, a4⟩, a5⟩ := hb
      obtain ⟨q1, q2⟩ := slot_ok G.g a2
      exact PS.imp (ps_expr (m_extend q1 (sE d (k := .val) G.g a5) q2 a3 a4) rfl) fun D σ H q => ext_read (own_of G.g a1) q
    · cases h
  | .rup i d, c, n, X, P, Mb, st, r, M', G, h, e => by
    unfold okS at h
    split at h
    · obtain ⟨rfl, hb⟩ := yesC_of G.g h e
      simp only [Bool.and_eq_true] at hb
      obtain ⟨⟨⟨⟨a1, a2⟩, a3⟩, a4⟩, a5⟩ := hb
      obtain ⟨q1, q2⟩ := slot_ok G.g a2
      obtain ⟨z1, z2⟩ := meth_of a3
      have hu : X.A.units + 1 < cLine := by have := G.g.hu; omega
      exact PS.imp (ps_expr (pe_rup z1 hu q1 (sE d (k := .new) G.g a5) (base_of q2) (few_of a4) z2 (star_of a4)) rfl) fun D σ H q => rup_read G.g.hK (own_of G.g a1) q
    · cases h
  | .seti i k d, c, n, X, P, Mb, st, r, M', G, h, e => by
    unfold okS at h
    split at h
    · obtain ⟨rfl, hb⟩ := yesC_of G.g h e
      simp only [Bool.and_eq_true] at hb
      obtain ⟨⟨⟨⟨⟨⟨a1, a2⟩, a3⟩, a4⟩, a5⟩, a6⟩, a7⟩ := hb
      obtain ⟨q1, q2⟩ := slot_ok G.g a2
      exact PS.imp (ps_asg (sE d (k := .val) G.g a6) (pg_sub q1 (sE k (k := .val) G.g a7) (set_any G.g.hu) (sub_of a5)) (sole_of a3) (swapped_of a4) rfl) fun D σ H q => seti_read (own_of G.g a1) G.g.hK q
    · cases h
  | .rapp o d, c, n, X, P, Mb, st, r, M', G, h, e => by
    unfold okS at h
    split at h
    · obtain ⟨rfl, hb⟩ := yesC_of G.g h e
      simp only [Bool.and_eq_true] at hb
      obtain ⟨⟨⟨⟨a1, a2⟩, a3⟩, a4⟩, a5⟩ := hb
      exact PS.imp (ps_expr (m_append (sE o (k := .top) G.g a4) (sE d (k := .val) G.g a5) a1 a2 a3) rfl) fun D σ H q => rapp_read q
    · cases h
  | .rpop o, c, n, X, P, Mb, st, r, M', G, h, e => by
    unfold okS at h
    split at h
    · obtain ⟨rfl, hb⟩ := yesC_of G.g h e
      simp only [Bool.and_eq_true] at hb
      obtain ⟨⟨a1, a2⟩, a3⟩ := hb
      exact PS.imp (ps_expr (m_pop (sE o (k := .top) G.g a3) a1 a2) rfl) fun D σ H q => rpop_read q
    · cases h
  | .rpopv i o, c, n, X, P, Mb, st, r, M', G, h, e => by
    unfold okS at h
    split at h
    · split at h
      · rename_i hb
        simp only [Bool.and_eq_true] at hb
        obtain ⟨⟨⟨a0, a1⟩, a2⟩, a3⟩ := hb
        rw [putC_of G.g h e]
        obtain ⟨x, p, rfl⟩ := name_of a0
        exact PS.imp (ps_asg (m_pop (sE o (k := .top) G.g a3) a1 a2) (tg_one G.g a0) rfl swapped_name rfl) fun D σ H q => rpopv_read q
      · cases h
    · cases h
  | .rset o k d, c, n, X, P, Mb, st, r, M', G, h, e => by
    unfold okS at h
    split at h
    · obtain ⟨rfl, hb⟩ := yesC_of G.g h e
      simp only [Bool.and_eq_true] at hb
      obtain ⟨⟨⟨⟨⟨a1, a2⟩, a3⟩, a4⟩, a5⟩, a6⟩ := hb
      exact PS.imp (ps_asg (sE d (k := .val) G.g a4) (pg_sub (sE o (k := .top) G.g a5) (sE k (k := .val) G.g a6) set_list (sub_of a3)) (sole_of a1) (swapped_of a2) rfl) fun D σ H q => rset_read q
    · cases h
  | .satt i n' d, c, n, X, P, Mb, st, r, M', G, h, e => by
    unfold okS at h
    split at h
    · obtain ⟨rfl, hb⟩ := yesC_of G.g h e
      simp only [Bool.and_eq_true] at hb
      obtain ⟨⟨⟨⟨a1, a2⟩, a3⟩, a4⟩, a5⟩ := hb
      have e1 := strB_eq a3
      rw [← G.g.fnm] at e1
      obtain ⟨z1, z2⟩ := slot_ok G.g a2
      exact PS.imp (ps_fld z1 (sE d (k := .val) G.g a5) (swaps_of a4)) fun D σ H q => satt_read (own_of G.g a1) G.g.inj e1 (fun k q => e1 ▸ G.g.fld k n' q) q
    · cases h
  | .iff d s u, c, n, X, P, Mb, st, r, M', G, h, e => by
    unfold okS at h
    split at h
    · split at h
      · rename_i hd
        have key : ∀ {r1 r2 : Ck}, joinC r1 r2 = some r → ∃ a b, r1 = some a ∧ r2 = some b ∧ Ends2 a M' ∧ Ends2 b M' := fun {r1 r2} q => by
          unfold joinC at q
          split at q
          · cases q
            exact ⟨_, _, rfl, rfl, nofun, e⟩
          · cases q
            exact ⟨_, _, rfl, rfl, e, nofun⟩
          · split at q
            · rename_i hm
              cases q
              have := msB_eq hm
              subst this
              exact ⟨_, _, rfl, rfl, e, e⟩
            · cases q
          · cases q
        obtain ⟨a, b, ha, hb, ea, eb⟩ := key h
        exact s_iff (sE d (k := .tst) G.g hd).1 (sB s G ha ea) (sB u G hb eb)
      · cases h
    · cases h
  | .wh d s, c, n, X, P, Mb, st, r, M', G, h, e => by
    unfold okS at h
    split at h
    · split at h
      · rename_i hd
        obtain ⟨a, ha, ea, em⟩ := back_of G h e
        subst em
        have z := sB s G ha ea
        rw [← G.g.M] at z
        exact s_wh G.po (sE d (k := .tst) G.g hd).1 z
      · cases h
    · cases h
  | .fr t it s, c, n, X, P, Mb, st, r, M', G, h, e => by
    unfold okS at h
    split at h
    · split at h
      · rename_i hd
        simp only [Bool.and_eq_true] at hd
        obtain ⟨⟨⟨a1, a2⟩, a3⟩, a4⟩ := hd
        obtain ⟨a, ha, ea, em⟩ := back_of G h e
        subst em
        have z := sB s G ha ea
        rw [← G.g.M] at z
        exact s_fr G.g.hK G.po G.g.calm (sI it G.g a4) (tg_ok G.g a1) (allVal_of G.g a2) z (fold_of a3)
      · cases h
    · cases h
  | .ret d, c, n, X, P, Mb, st, r, M', G, h, e => by
    unfold okS at h
    split at h
    · split at h
      · rename_i hd
        exact s_ret (sE d (k := .val) G.g hd)
      · cases h
    · cases h
  | .retn, c, n, X, P, Mb, st, r, M', G, h, e => by
    unfold okS at h
    split at h
    · exact s_retn
    · cases h
  | .brk, c, n, X, P, Mb, st, r, M', G, h, e => by
    unfold okS at h
    split at h
    · split at h
      · rename_i hm
        have := msB_eq hm
        rw [← this, ← G.g.M]
        exact s_brk
      · cases h
    · cases h
  | .cnt, c, n, X, P, Mb, st, r, M', G, h, e => by
    unfold okS at h
    split at h
    · split at h
      · rename_i hm
        have := msB_eq hm
        rw [← this, ← G.g.M]
        exact s_cnt
      · cases h
    · cases h
  | .pas, c, n, X, P, Mb, st, r, M', G, h, e => by
    unfold okS at h
    split at h
    · cases h
      rw [e _ rfl, ← G.g.M]
      exact s_pas
    · cases h
      rw [e _ rfl, ← G.g.M]
      exact s_doc
    · cases h
  | .never, c, n, X, P, Mb, st, r, M', G, h, e => s_never
  | .frz _, c, n, X, P, Mb, st, r, M', G, h, e => by unfold okS at h; cases h
  | .fgt _, c, n, X, P, Mb, st, r, M', G, h, e => by unfold okS at h; cases h
theorem sB : ∀ (b : DB) {c : Cc} {n : Nat} {X : Cx} {P : Pr} {Mb : List Md} {sts : List Stmt} {r : Option (List Md)} {M' : Ms}, GoodS c n X P → okB b c Mb sts = some r → Ends2 r M' → PSs X sts (tBl P M' (msOf Mb) b)
  | .nil, c, n, X, P, Mb, sts, r, M', G, h, e => by
    unfold okB at h
    split at h
    · rename_i hs
      rw [List.isEmpty_iff] at hs
      subst hs
      cases h
      rw [e _ rfl, ← G.g.M]
      exact b_nil
    · cases h
  | .cons s b, c, n, X, P, Mb, sts, r, M', G, h, e => by
    unfold okB at h
    split at h
    · rename_i i
      split at h
      · rename_i hi
        rw [Bool.and_eq_true, decide_eq_true_eq] at hi
        have z := sB b (G.md (c.M.set i .val)) h e
        rw [msOf_set hi.2, ← G.g.M] at z
        exact b_frz (own_of G.g hi.1) z
      · cases h
    · rename_i i
      split at h
      · rename_i hi
        rw [decide_eq_true_eq] at hi
        have z := sB b (G.md (c.M.set i .val)) h e
        rw [msOf_set hi, ← G.g.M] at z
        exact b_fgt z
      · cases h
    · split at h
      · rename_i st sts
        split at h
        · rename_i M1 hs
          exact b_cons (sS s G hs (M' := msOf M1) (fun M q => by cases q; rfl)) (sB b (G.md M1) h e)
        · rename_i hs
          split at h
          · cases h
            have z := sS s G hs (M' := M') nofun
            exact b_last z
          · cases h
        · cases h
      · cases h
end
end
end Zd
set_option Elab.async false
set_option linter.all false
set_option maxRecDepth 100000
set_option maxHeartbeats 2000000
/-! How a def's plain parameters are bound. -/
namespace Zd
open PySem PySem.Spec PyProof.Rows L2
def fill (slots : List (Str × Value)) : List (Str × Value) → List (Str × Value)
  | [] => slots
  | x :: xs => fill (if (slots.lookup x.1).isNone = true then slots ++ [(x.1, x.2)] else slots) xs
theorem look_none {l : List (Str × Value)} {n : Str} (h : n ∉ l.map (·.1)) : l.lookup n = none := by
  induction l with
  | nil => rfl
  | cons p l ih =>
    simp only [List.map_cons, List.mem_cons, not_or] at h
    rw [List.lookup_cons]
    have : (n == p.1) = false := by simpa using h.1
    rw [this]
    exact ih h.2
theorem look_some {l : List (Str × Value)} {n : Str} (h : n ∈ l.map (·.1)) : (l.lookup n).isSome = true := by
  induction l with
  | nil => cases h
  | cons p l ih =>
    rw [List.lookup_cons]
    by_cases e : n = p.1
    · have : (n == p.1) = true := by simpa using e
      rw [this]
      rfl
    · have : (n == p.1) = false := by simpa using e
      rw [this]
      simp only [List.map_cons, List.mem_cons] at h
      rcases h with h | h
      · exact absurd h e
      · exact ih h
theorem fill_skip : ∀ (xs slots : List (Str × Value)), (∀ x, x ∈ xs → x.1 ∈ slots.map (·.1)) → fill slots xs = slots
  | [], slots, _ => rfl
  | x :: xs, slots, h => by
    have q := look_some (h x List.mem_cons_self)
    unfold fill
    have : (slots.lookup x.1).isNone = false := by
      cases e : slots.lookup x.1 with
      | none => rw [e] at q; cases q
      | some v => rfl
    rw [this, if_neg (by decide)]
    exact fill_skip xs slots fun y hy => h y (List.mem_cons_of_mem _ hy)
theorem fill_add : ∀ (xs slots : List (Str × Value)), (xs.map (·.1)).Nodup → (∀ x, x ∈ xs → x.1 ∉ slots.map (·.1)) → fill slots xs = slots ++ xs
  | [], slots, _, _ => by simp [fill]
  | x :: xs, slots, nd, h => by
    unfold fill
    rw [look_none (h x List.mem_cons_self), if_pos (show (none : Option Value).isNone = true from rfl)]
    simp only [List.map_cons, List.nodup_cons] at nd
    rw [fill_add xs _ nd.2 fun y hy => ?_]
    · simp
    · simp only [List.map_append, List.map_cons, List.map_nil, List.mem_append, List.mem_singleton, not_or]
      refine ⟨h y (List.mem_cons_of_mem _ hy), fun e => nd.1 ?_⟩
      rw [← e]
      exact List.mem_map_of_mem hy
theorem fill_app (slots : List (Str × Value)) : ∀ (xs ys : List (Str × Value)), fill slots (xs ++ ys) = fill (fill slots xs) ys
  | [], ys => rfl
  | x :: xs, ys => by
    show fill _ (xs ++ ys) = fill (fill _ xs) ys
    exact fill_app _ xs ys
theorem zip_fst {ps : List Str} {us : List Value} (h : us.length ≤ ps.length) : (ps.zip us).map (·.1) = ps.take us.length := by
  induction ps generalizing us with
  | nil => cases us <;> simp_all
  | cons p ps ih =>
    cases us with
    | nil => simp
    | cons u us => simp [ih (us := us) (by simpa using h)]
theorem zip_split {ps : List Str} : ∀ {us ds : List Value}, us.length ≤ ps.length → ps.zip (us ++ ds) = ps.zip us ++ (ps.drop us.length).zip ds := by
  induction ps with
  | nil => intro us ds h; cases us <;> simp_all
  | cons p ps ih =>
    intro us ds h
    cases us with
    | nil => simp
    | cons u us => simp [ih (us := us) (ds := ds) (by simpa using h)]
theorem zip_drop_take {ps : List Str} {its : List Value} {f m : Nat} (h1 : f ≤ m) (h2 : m ≤ ps.length) (h3 : f + its.length = ps.length) : (ps.drop f).zip its = ((ps.drop f).take (m - f)).zip (its.take (m - f)) ++ (ps.drop m).zip (its.drop (m - f)) := by
  have e1 : (ps.drop f) = (ps.drop f).take (m - f) ++ ps.drop m := by
    conv => lhs; rw [← List.take_append_drop (m - f) (ps.drop f)]
    rw [List.drop_drop]
    congr 2
    omega
  have e2 : its = its.take (m - f) ++ its.drop (m - f) := (List.take_append_drop _ _).symm
  conv => lhs; rw [e1, e2]
  exact List.zip_append (by rw [List.length_take, List.length_take, List.length_drop]; omega)
/-- the slots behind the loop over the defaults -/
theorem filled {ps : List Str} {us its : List Value} (nd : ps.Nodup) (h1 : its.length ≤ ps.length) (h2 : ps.length - its.length ≤ us.length) (h3 : us.length ≤ ps.length) :
    fill (ps.zip us) ((ps.drop (ps.length - its.length)).zip its) = ps.zip (us ++ its.drop (us.length - (ps.length - its.length))) := by
  have tk : (ps.zip us).map (·.1) = ps.take us.length := zip_fst h3
  have e1 : fill (ps.zip us) (((ps.drop (ps.length - its.length)).take (us.length - (ps.length - its.length))).zip (its.take (us.length - (ps.length - its.length)))) = ps.zip us := by
    refine fill_skip _ _ fun x hx => ?_
    rw [tk]
    have := (List.of_mem_zip (a := x.1) (b := x.2) hx).1
    rw [List.mem_take_iff_getElem] at this ⊢
    obtain ⟨i, hi, e⟩ := this
    rw [List.length_drop] at hi
    refine ⟨ps.length - its.length + i, by omega, ?_⟩
    rw [← e, List.getElem_drop]
  rw [zip_drop_take h2 h3 (by omega), fill_app, e1, fill_add _ _ ?_ fun x hx => ?_, ← zip_split h3]
  · refine List.Nodup.sublist ?_ nd
    have : ((ps.drop us.length).zip (its.drop (us.length - (ps.length - its.length)))).map (·.1) = (ps.drop us.length).take (its.drop (us.length - (ps.length - its.length))).length := zip_fst (by rw [List.length_drop, List.length_drop]; omega)
    rw [this]
    exact (List.take_sublist _ _).trans (List.drop_sublist _ _)
  · rw [tk]
    have q := (List.of_mem_zip (a := x.1) (b := x.2) hx).1
    intro z
    rw [← List.take_append_drop us.length ps, List.nodup_append] at nd
    exact nd.2.2 _ z _ q rfl
theorem binds_of {ps : List Str} {us : List Value} (nd : ps.Nodup) (h : us.length = ps.length) : (ps.filterMap fun n => ((ps.zip us).lookup n).map fun v => (n, v)) = ps.zip us := by
  have key : ∀ (l : List (Str × Value)), (l.map (·.1)).Nodup → (l.map (·.1)).filterMap (fun n => (l.lookup n).map fun v => (n, v)) = l := by
    intro l
    have gen : ∀ (l r : List (Str × Value)), ((r ++ l).map (·.1)).Nodup → (l.map (·.1)).filterMap (fun n => ((r ++ l).lookup n).map fun v => (n, v)) = l := by
      intro l
      induction l with
      | nil => intro r _; rfl
      | cons p l ih =>
        intro r nd
        have e : r ++ p :: l = (r ++ [p]) ++ l := by simp
        have nr : p.1 ∉ r.map (·.1) := by
          rw [List.map_append, List.nodup_append] at nd
          exact fun z => nd.2.2 _ z _ (by simp) rfl
        have lp : (r ++ p :: l).lookup p.1 = some p.2 := by
          clear e ih nd
          induction r with
          | nil => rw [List.nil_append, List.lookup_cons, beq_self_eq_true]
          | cons q r ih2 =>
            simp only [List.map_cons, List.mem_cons, not_or] at nr
            rw [List.cons_append, List.lookup_cons]
            have : (p.1 == q.1) = false := by simpa using nr.1
            rw [this]
            exact ih2 nr.2
        rw [List.map_cons, List.filterMap_cons, lp]
        simp only [Option.map_some]
        rw [e] at nd ⊢
        rw [ih (r ++ [p]) nd]
    exact fun nd => gen l [] nd
  have z := key (ps.zip us) (by rw [zip_fst (by omega), h, List.take_length]; exact nd)
  rw [zip_fst (by omega), h, List.take_length] at z
  exact z
theorem loop_fill (slots : List (Str × Value)) : ∀ (xs : List (Str × Value)), (forIn xs slots fun x r => (if (r.lookup x.1).isNone = true then pure (ForInStep.yield (r ++ [(x.1, x.2)])) else pure (ForInStep.yield r) : Sem _)) = pure (fill slots xs)
  | [] => rfl
  | x :: xs => by
    rw [List.forIn_cons]
    unfold fill
    by_cases h : (slots.lookup x.1).isNone = true
    · rw [if_pos h, if_pos h, pure_bind]
      exact loop_fill _ xs
    · rw [if_neg h, if_neg h, pure_bind]
      exact loop_fill _ xs
theorem bind_eq {fd : FuncData} {us : List Value} {ps : List Str} (h1 : fd.params.posonlyargs = []) (h2 : fd.params.kwonlyargs = []) (h3 : fd.params.vararg = none) (h4 : fd.params.kwarg = none) (h5 : fd.params.args.map (·.arg) = ps) (nd : ps.Nodup) (hl : us.length ≤ ps.length) :
    ∃ k, bindArgs fd ⟨us, []⟩ = seqItems? fd.defaults >>= k ∧ ∀ its : List Value, its.length ≤ ps.length → ps.length - its.length ≤ us.length → ∀ d, (d : Option (Array Value)).getD #[] = its.toArray → k d = pure (ps.zip (us ++ its.drop (us.length - (ps.length - its.length)))) := by
  unfold bindArgs
  simp only [h1, h2, h3, h4, h5, List.map_nil, List.nil_append, List.append_nil, List.forIn_nil, pure_bind]
  refine ⟨_, rfl, fun its l1 l2 d hd => ?_⟩
  have e0 : List.drop (its.length - ps.length) its = its := by rw [Nat.sub_eq_zero_of_le l1, List.drop_zero]
  have e1 : (decide (us.length > ps.length) && (none : Option Arg).isNone) = false := by simp; omega
  have e2 : (List.filter (fun n => (List.lookup n (ps.zip us)).isNone) (List.take (ps.length - its.length) ps)) = [] := by
    rw [List.filter_eq_nil_iff]
    intro n hn
    have z : n ∈ (ps.zip us).map (·.1) := by
      rw [zip_fst hl]
      rw [List.mem_take_iff_getElem] at hn ⊢
      obtain ⟨i, hi, e⟩ := hn
      exact ⟨i, by omega, e⟩
    have q := look_some z
    cases e : List.lookup n (ps.zip us) with
    | none => rw [e] at q; cases q
    | some v => exact fun w => nomatch w
  simp only [hd, e0, e1, e2, Bool.false_eq_true, if_false, List.isEmpty_nil, Bool.not_true]
  rw [loop_fill]
  rw [pure_bind, filled nd l1 l2 hl]
  rw [binds_of nd (by rw [List.length_append, List.length_drop]; omega)]
theorem items_none : seqItems? .none = pure none := rfl
/-- plain parameters, all written, or the last ones by the defaults at T -/
theorem bindsD {K : PySem.W.Frag} {fd : FuncData} {ps : List Str} (h1 : fd.params.posonlyargs = []) (h2 : fd.params.kwonlyargs = []) (h3 : fd.params.vararg = none) (h4 : fd.params.kwarg = none) (h5 : fd.params.args.map (·.arg) = ps) (nd : ps.Nodup)
    {T : Addr} {o : Obj} {its : List Value} {m : Nat} (hT : fd.defaults = .ref T) (lT : K.lookup T = some o) (oT : o.data = .seq its.toArray m) (hl : its.length ≤ ps.length) (j : Nat) (hj : j ≤ its.length) : Binds K fd ps (its.drop j) := by
  intro s us hK he
  rw [List.length_append, List.length_drop] at he
  obtain ⟨k, e1, e2⟩ := bind_eq (us := us) h1 h2 h3 h4 h5 nd (by omega)
  have z := e2 its hl (by omega) (some its.toArray) rfl
  rw [show us.length - (ps.length - its.length) = j from by omega] at z
  exact L2.BindsTo.of_looks fun M => by
    rw [e1, hT]
    exact looks_items hK lT oT (.of_pure z)
theorem bindsN {K : PySem.W.Frag} {fd : FuncData} {ps : List Str} (h1 : fd.params.posonlyargs = []) (h2 : fd.params.kwonlyargs = []) (h3 : fd.params.vararg = none) (h4 : fd.params.kwarg = none) (h5 : fd.params.args.map (·.arg) = ps) (nd : ps.Nodup) (hT : fd.defaults = .none) : Binds K fd ps [] := by
  intro s us hK he
  rw [List.append_nil] at he
  obtain ⟨k, e1, e2⟩ := bind_eq (us := us) h1 h2 h3 h4 h5 nd (by omega)
  have z := e2 [] (Nat.zero_le _) (by simp; omega) none rfl
  rw [List.drop_nil] at z
  rw [List.append_nil] at z ⊢
  refine BindsTo.of_eq ?_
  rw [e1, hT, items_none, pure_bind]
  exact z
end Zd
set_option Elab.async false
set_option linter.all false
set_option maxRecDepth 100000
set_option maxHeartbeats 2000000
/-! The link: the text's defs as they stand in the written part, and their promises. -/
namespace Zd
open PySem PySem.Spec PyProof.Rows L2
/-- a def of the text: its name, its node, its slots' names, its parameters' modes; own: the method of a class -/
structure Fspec where
  name : Str
  fn : Fn
  N : List Str
  ms : List Md
  own : Option (Nat × Str) := none
def Fspec.M (s : Fspec) : List Md := s.ms ++ List.replicate (s.N.length - s.ms.length) .val
/-- a class of the text: its name, its __init__ among the defs, its fields -/
structure Cspec where
  name : Str
  init : Nat
  flds : List Nat
/-- the text: defs, classes, the names of fields -/
structure Txt where
  specs : List Fspec
  cls : List Cspec := []
  names : List Str := []
def cName (t : Txt) (k : Nat) : Str := match t.cls[k]? with
  | some c => c.name
  | none => Str.empty
def cAddr (K : PySem.W.Frag) (t : Txt) (k : Nat) : Addr := He.ga K (cName t k)
def fnmOf (names : List Str) (n : Nat) : Str := match names[n]? with
  | some s => s
  | none => ⟨Array.replicate (n + 200) 35⟩
def tabOf (t : Txt) : Tab where
  fld := fun k n => match t.cls[k]? with
    | some c => c.flds.contains n
    | none => false
  sub := fun c n => if decide (c < t.cls.length) then (if n < 5 then some false else if decide (100 ≤ n) && decide (n - 100 < t.cls.length) then some (decide (c + 100 = n)) else none) else none
/-- a classmethod: its first parameter is the class -/
def isCm (s : Fspec) : Bool := !s.fn.ini && (match s.ms with | .cls _ :: _ => true | _ => false)
def addrOf (K : PySem.W.Frag) (t : Txt) (s : Fspec) : Addr := match s.own with
  | none => He.ga K s.name
  | some km => if isCm s = true then He5.wf K (cAddr K t km.1) "classmethod" km.2 else He.ma K (cAddr K t km.1) km.2
def finfo (K : PySem.W.Frag) (t : Txt) (i : Nat) : Option FInfo := match t.specs[i]? with
  | some s => if s.fn.ini = true then none else some { name := s.name, g := addrOf K t s, ms := s.ms, need := s.fn.np - s.fn.dflt.length, own := s.own, cm := isCm s }
  | none => none
def cinfo (K : PySem.W.Frag) (t : Txt) (k : Nat) : Option CInfo := match t.cls[k]? with
  | some c => (match t.specs[c.init]? with
    | some s => if s.fn.ini = true then some { name := c.name, addr := He.ga K c.name, init := c.init, ms := s.ms.drop 1, need := s.fn.np - s.fn.dflt.length - 1 } else none
    | none => none)
  | none => none
def ftab (specs : List Fspec) (i : Nat) : Option Fn := match specs[i]? with
  | some s => some s.fn
  | none => none
def strsB : List Str → List Str → Bool
  | [], [] => true
  | x :: xs, y :: ys => strB x y && strsB xs ys
  | _, _ => false
theorem strsB_eq : ∀ {a b : List Str}, strsB a b = true → a = b
  | [], [], _ => rfl
  | [], _ :: _, h => by cases h
  | _ :: _, [], h => by cases h
  | x :: xs, y :: ys, h => by
    unfold strsB at h
    rw [Bool.and_eq_true] at h
    rw [strB_eq h.1, strsB_eq h.2]
/-- a default's value -/
def dvB : D → Value → Bool
  | .non, .none => true
  | .bl a, .bool b => a == b
  | .int a, .int b _ => a == b
  | .str a, .str b _ => (a == b.cps.toList) && decide (a.length ≤ line)
  | _, _ => false
def dvsB : List D → List Value → Bool
  | [], [] => true
  | d :: ds, v :: vs => dvB d v && dvsB ds vs
  | _, _ => false
theorem dvB_of {L : Lk} {d : D} {v : Value} (h : dvB d v = true) : ∃ x, RelV x v ∧ ∀ w, Rep L w d x := by
  unfold dvB at h
  split at h
  · exact ⟨.non, rfl, fun w => by simp only [Rep]⟩
  · have e := beq_iff_eq.mp h
    subst e
    exact ⟨.bl _, rfl, fun w => by simp only [Rep]⟩
  · have e := beq_iff_eq.mp h
    subst e
    exact ⟨.int _, ⟨_, rfl⟩, fun w => by simp only [Rep]⟩
  · rw [Bool.and_eq_true, decide_eq_true_eq] at h
    have e := beq_iff_eq.mp h.1
    rename_i a b t
    have ez : (⟨a.toArray⟩ : Str) = b := by rw [e]
    subst ez
    exact ⟨.str _, ⟨_, rfl⟩, fun w => by simp only [Rep]; exact ⟨trivial, h.2⟩⟩
  · cases h
theorem dvsB_of {L : Lk} : ∀ {ds : List D} {vs : List Value}, dvsB ds vs = true → ds.length = vs.length ∧ ∃ xs, Vals xs vs ∧ ∀ w, Reps L w ds xs
  | [], [], _ => ⟨rfl, [], .nil, fun w => by simp only [Reps]⟩
  | [], _ :: _, h => by cases h
  | _ :: _, [], h => by cases h
  | d :: ds, v :: vs, h => by
    unfold dvsB at h
    rw [Bool.and_eq_true] at h
    obtain ⟨x, r1, q1⟩ := dvB_of (L := L) h.1
    obtain ⟨l, xs, r2, q2⟩ := dvsB_of (L := L) h.2
    refine ⟨by rw [List.length_cons, List.length_cons, l], x :: xs, .cons r1 r2, fun w => ?_⟩
    simp only [Reps]
    exact ⟨x, xs, rfl, q1 w, q2 w⟩
/-- a constant: flat, or a tuple of flat ones -/
def dvT (K : PySem.W.Frag) (d : D) (u : Value) : Bool := dvB d u || (match d, u with
    | .tup l, .ref T => (match K.lookup T with
      | some ⟨.type c, _, .seq its _, _⟩ => decide (c = "tuple") && decide (its.size ≤ sizeLine) && dvsB l its.toList
      | _ => false)
    | _, _ => false)
theorem dvT_of {K : PySem.W.Frag} {L : Lk} (hL : L.K = K) {d : D} {u : Value} (h : dvT K d u = true) : ∃ v, RelV v u ∧ ∀ w, Rep L w d v := by
  unfold dvT at h
  rw [Bool.or_eq_true] at h
  rcases h with h | h
  · exact dvB_of (L := L) h
  · split at h
    · rename_i l T
      split at h
      · rename_i c od its k sl hl
        simp only [Bool.and_eq_true, decide_eq_true_eq] at h
        obtain ⟨⟨h1, h2⟩, h3⟩ := h
        obtain ⟨ln, xs, rv, rr⟩ := dvsB_of (L := L) h3
        refine ⟨.ref T, rfl, fun w => ?_⟩
        simp only [Rep]
        refine ⟨T, xs, rfl, .inr ⟨_, its, k, by rw [hL]; exact hl, by rw [h1], rfl, h2, rv⟩, rr w, ?_⟩
        rw [ln, line_eq]
        simpa using h2
      · cases h
    · cases h
def dvsT (K : PySem.W.Frag) : List D → List Value → Bool
  | [], [] => true
  | d :: ds, v :: vs => dvT K d v && dvsT K ds vs
  | _, _ => false
theorem dvsT_of {K : PySem.W.Frag} {L : Lk} (hL : L.K = K) : ∀ {ds : List D} {vs : List Value}, dvsT K ds vs = true → ds.length = vs.length ∧ ∃ xs, Vals xs vs ∧ ∀ w, Reps L w ds xs
  | [], [], _ => ⟨rfl, [], .nil, fun w => by simp only [Reps]⟩
  | [], _ :: _, h => by cases h
  | _ :: _, [], h => by cases h
  | d :: ds, v :: vs, h => by
    unfold dvsT at h
    rw [Bool.and_eq_true] at h
    obtain ⟨x, r1, q1⟩ := dvT_of hL h.1
    obtain ⟨l, xs, r2, q2⟩ := dvsT_of hL h.2
    refine ⟨by rw [List.length_cons, List.length_cons, l], x :: xs, .cons r1 r2, fun w => ?_⟩
    simp only [Reps]
    exact ⟨x, xs, rfl, q1 w, q2 w⟩
def dfltB (K : PySem.W.Frag) (ds : List D) (v : Value) : Bool := match ds, v with
  | [], .none => true
  | _ :: _, .ref T => (match K.lookup T with
    | some ⟨_, _, .seq its _, _⟩ => dvsT K ds its.toList
    | _ => false)
  | _, _ => false
def nodupB : List Str → Bool
  | [] => true
  | x :: xs => (xs.all fun y => !strB x y) && nodupB xs
theorem nodupB_of : ∀ {l : List Str}, nodupB l = true → l.Nodup
  | [], _ => List.nodup_nil
  | x :: xs, h => by
    unfold nodupB at h
    rw [Bool.and_eq_true] at h
    refine List.nodup_cons.mpr ⟨fun m => ?_, nodupB_of h.2⟩
    have z := List.all_eq_true.mp h.1 x m
    unfold strB at z
    simp at z
def scopeB (s : Fspec) (sc : Scope) : Bool :=
  (match sc.kind with | .function => true | _ => false) && !sc.isCoroutine && !sc.isGenerator && nodupB s.N && decide (s.fn.np ≤ s.N.length) && ((s.N.take s.fn.np).all fun x => locB sc x) && sc.names.all fun y => match y.2 with | .free => false | _ => true
def paramsB (s : Fspec) (p : Arguments) : Bool := p.posonlyargs.isEmpty && p.kwonlyargs.isEmpty && p.vararg.isNone && p.kwarg.isNone && strsB (p.args.map (·.arg)) (s.N.take s.fn.np)
def modesB (s : Fspec) : Bool := decide (s.ms.length = s.fn.np) && decide (s.fn.nl = s.N.length) && decide (s.fn.dflt.length ≤ s.fn.np) && ((s.ms.drop (s.fn.np - s.fn.dflt.length)).all fun m => mdB m .val || mdB m .top) && (if s.fn.ini = true then (match s.ms with | .slf :: ms => ms.all fun m => !m.mine | _ => false) && decide (s.fn.dflt.length < s.fn.np) else s.ms.all fun m => !m.mine)
/-- a constant of the module -/
def gvB (K : PySem.W.Frag) (x : Str) (d : D) : Bool := match PySem.W.nsIn K mainGlobals x with
  | some (some u) => dvT K d u
  | _ => false
def ccOf (K : PySem.W.Frag) (t : Txt) (s : Fspec) (sc : Scope) : Cc := { N := s.N, sc := sc, fnb := none, M := s.M, fns := finfo K t, cls := cinfo K t, fnm := fnmOf t.names, gv := gvB K }
def bodyB (K : PySem.W.Frag) (t : Txt) (s : Fspec) (sc : Scope) (b : List Stmt) : Bool := match okB s.fn.body (ccOf K t s sc) s.M b with
  | some none => !s.fn.ini
  | some (some M) => !s.fn.ini || mdB (M.getD 0 .val) .slf
  | none => false
def fnB2 (K : PySem.W.Frag) (t : Txt) (s : Fspec) (a : Addr) : Bool := match K.lookup a with
  | some ⟨_, _, .func fd, _⟩ => (fd.globals == mainGlobals) && fd.closure.isEmpty && (fd.builtins == builtinsNs) && (match fd.body with
      | .stmts b => PySem.W.codeIn K fd.code fd.qualname && scopeB s fd.scope && paramsB s fd.params && modesB s && dfltB K s.fn.dflt fd.defaults && bodyB K t s fd.scope b
      | _ => false)
  | _ => false
/-- != by what object says -/
def neB (K : PySem.W.Frag) (C : Addr) : Bool := decide (PySem.W.findIn K (.ref C) "__ne__" = some (some (.builtin "object.__ne__"))) && decide (PySem.W.mroIn K C (.type "object") = some true)
theorem neB_of {K : PySem.W.Frag} {C : Addr} (h : neB K C = true) : NeB K C := by
  unfold neB at h
  rw [Bool.and_eq_true, decide_eq_true_eq, decide_eq_true_eq] at h
  exact ⟨h.1, h.2⟩
/-- where the def stands, by its name -/
def placeB (K : PySem.W.Frag) (t : Txt) (s : Fspec) : Bool := match s.own with
  | none => (He.Fa.glo s.name).ok K && PySem.W.keepIn K (.ref (He.ga K s.name)) && !s.fn.ini
  | some km => if isCm s = true then PySem.W.readsIn K (cAddr K t km.1) (.type "type") && decide (PySem.W.specialIn K (.ref (cAddr K t km.1)) "__getattribute__" = some (some (.builtin "type.__getattribute__"))) && He5.wrapB K (cAddr K t km.1) "classmethod" "classmethod.__get__" km.2 && PySem.W.fnIn K (addrOf K t s) && PySem.W.keepIn K (.ref (addrOf K t s)) else (He.Fa.cls (cName t km.1)).ok K && (He.Fa.meth (cName t km.1) km.2).ok K && (t.names.all fun n => !strB n km.2) && decide (km.2.length < 200) && (!strB km.2 (nm "__eq__") || neB K (cAddr K t km.1))
def linkOne (K : PySem.W.Frag) (t : Txt) (s : Fspec) : Bool := placeB K t s && fnB2 K t s (addrOf K t s)
/-- a class: its fields are no attributes of it; it is made by its __init__ -/
def clsB (K : PySem.W.Frag) (t : Txt) (k : Nat) (c : Cspec) : Bool := (He.Fa.cls c.name).ok K && (He.Fa.glo c.name).ok K && (c.flds.all fun n => (He.Fa.noat c.name (fnmOf t.names n)).ok K) && (match t.specs[c.init]? with
  | some s => if s.fn.ini = true then (He.Fa.mkr c.name).ok K && (match s.own with | some km => (km.1 == k) && strB km.2 (nm "__init__") | none => false) else true
  | none => true)
def clsAll (K : PySem.W.Frag) (t : Txt) : Nat → List Cspec → Bool
  | _, [] => true
  | k, c :: cs => clsB K t k c && clsAll K t (k + 1) cs
def noneB' (K : PySem.W.Frag) (x : Str) : Bool := match PySem.W.nsIn K mainGlobals x with
  | some none => true
  | _ => false
def namesB (names : List Str) : Bool := nodupB names && names.all fun s => decide (s.length < 200)
def kitB2 (K : PySem.W.Frag) (a b : Value) (v : Bool) : Bool := match PySem.W.kitOne K a b with
  | some x => x == v
  | none => false
def insB (K : PySem.W.Frag) (C : Addr) : Bool :=
  (match PySem.W.findIn K (.ref C) "__class__" with | some (some (.builtin s)) => decide (s = "object.__class__") | _ => false) &&
  (match PySem.W.specialIn K (.builtin "object.__class__") "__get__" with | some (some (.builtin s)) => decide (s = "getset_descriptor.__get__") | _ => false) &&
  (match PySem.W.takesIn K (.builtin "object.__class__") with | some b => b | _ => false) &&
  (match PySem.W.mroIn K C (.type "object") with | some b => b | _ => false)
def blTypes : List String := ["NoneType", "bool", "int", "str", "tuple", "list", "dict"]
/-- isinstance of the class's instances, and of all else -/
def subB (K : PySem.W.Frag) (t : Txt) (k : Nat) : Bool := insB K (cAddr K t k) && (He.Fa.cls (cName t k)).ok K && ((List.range 5).all fun n => kitB2 K (.ref (cAddr K t k)) (.type ((tyNm n).getD "")) false) &&
  ((List.range t.cls.length).all fun j => kitB2 K (.ref (cAddr K t k)) (.ref (cAddr K t j)) (decide (k + 100 = j + 100))) && blTypes.all fun s => kitB2 K (.type s) (.ref (cAddr K t k)) false
def linkAll (K : PySem.W.Frag) (t : Txt) : Bool := blNames.all (noneB' K) && t.specs.all (linkOne K t) && clsAll K t 0 t.cls && namesB t.names && (List.range t.cls.length).all (subB K t)
theorem kitB2_of {K : PySem.W.Frag} {a b : Value} {v : Bool} (h : kitB2 K a b v = true) : PySem.W.kitOne K a b = some v := by
  unfold kitB2 at h
  split at h
  · rename_i e
    rw [e, beq_iff_eq.mp h]
  · cases h
theorem subs_of {K : PySem.W.Frag} {t : Txt} {L : Lk} (hc : L.ca = cAddr K t) (h : (List.range t.cls.length).all (subB K t) = true) : Subs K L (tabOf t) := fun c n b e => by
  have e : (if decide (c < t.cls.length) then (if n < 5 then some false else if decide (100 ≤ n) && decide (n - 100 < t.cls.length) then some (decide (c + 100 = n)) else none) else none) = some b := e
  split at e
  · rename_i h1
    have z := List.all_eq_true.mp h c (List.mem_range.mpr (of_decide_eq_true h1))
    unfold subB at z
    simp only [Bool.and_eq_true] at z
    obtain ⟨⟨⟨⟨z1, z0⟩, z2⟩, z3⟩, z4⟩ := z
    refine ⟨?_, ?_⟩
    · rw [hc]
      unfold insB at z1
      simp only [Bool.and_eq_true] at z1
      obtain ⟨⟨⟨a1, a2⟩, a3⟩, a4⟩ := z1
      refine ⟨He.cls_ok z0, ?_, ?_, ?_, ?_⟩
      · split at a1
        · rename_i q; rw [q, of_decide_eq_true a1]
        · cases a1
      · split at a2
        · rename_i q; rw [q, of_decide_eq_true a2]
        · cases a2
      · split at a3
        · rename_i q; rw [q, a3]
        · cases a3
      · split at a4
        · rename_i q; rw [q, a4]
        · cases a4
    · rw [hc]
      split at e
      · rename_i h2
        cases e
        have y := kitB2_of (List.all_eq_true.mp z2 n (List.mem_range.mpr h2))
        have en : clsU L n = .type ((tyNm n).getD "") := by
          match n, h2 with
          | 0, _ => rfl
          | 1, _ => rfl
          | 2, _ => rfl
          | 3, _ => rfl
          | 4, _ => rfl
        rw [en]
        exact y
      · rename_i h2
        split at e
        · rename_i h3
          cases e
          simp only [Bool.and_eq_true, decide_eq_true_eq] at h3
          have y := kitB2_of (List.all_eq_true.mp z3 (n - 100) (List.mem_range.mpr h3.2))
          have en : clsU L n = .ref (cAddr K t (n - 100)) := by
            unfold clsU
            have : tyNm n = none := by
              match n, h3.1 with
              | n + 100, _ => rfl
            rw [this, hc]
          rw [en, y]
          have : n - 100 + 100 = n := by omega
          rw [this]
        · cases e
  · cases e
theorem ownC_of {K : PySem.W.Frag} {t : Txt} {k : Nat} (hk : k < t.cls.length) (h : (List.range t.cls.length).all (subB K t) = true) : OwnC K (cAddr K t k) := fun s hs => by
  have z := List.all_eq_true.mp h k (List.mem_range.mpr hk)
  unfold subB at z
  simp only [Bool.and_eq_true] at z
  exact kitB2_of (List.all_eq_true.mp z.2 s hs)
theorem gvB_of {K : PySem.W.Frag} {L : Lk} {mg : Str → Option Value} (hL : L.K = K) (mgs : ∀ x v, PySem.W.nsIn K mainGlobals x = some (some v) → mg x = some v) {x : Str} {d : D} (h : gvB K x d = true) : ∃ v u, mg x = some u ∧ RelV v u ∧ ∀ w, Rep L w d v := by
  unfold gvB at h
  split at h
  · rename_i u hu
    obtain ⟨v, r, q⟩ := dvT_of hL h
    exact ⟨v, u, mgs _ _ hu, r, q⟩
  · cases h
theorem fnm_inj {names : List Str} (h : namesB names = true) : ∀ i j, fnmOf names i = fnmOf names j → i = j := fun i j e => by
  unfold namesB at h
  rw [Bool.and_eq_true] at h
  have nd := nodupB_of h.1
  have sm : ∀ (s : Str), s ∈ names → s.length < 200 := fun s hs => of_decide_eq_true (List.all_eq_true.mp h.2 s hs)
  have len : ∀ n : Nat, ((⟨Array.replicate (n + 200) 35⟩ : Str)).length = n + 200 := fun n => by
    show (Array.replicate (n + 200) 35).size = _
    simp
  unfold fnmOf at e
  cases ei : names[i]? with
  | none =>
    rw [ei] at e
    cases ej : names[j]? with
    | none =>
      rw [ej] at e
      have z := congrArg Str.length e
      simp only [len] at z
      omega
    | some s =>
      rw [ej] at e
      have z := congrArg Str.length e
      simp only [len] at z
      have := sm s (List.mem_of_getElem? ej)
      omega
  | some s =>
    rw [ei] at e
    cases ej : names[j]? with
    | none =>
      rw [ej] at e
      have z := congrArg Str.length e
      simp only [len] at z
      have := sm s (List.mem_of_getElem? ei)
      omega
    | some u =>
      rw [ej] at e
      have e : s = u := e
      subst e
      obtain ⟨hi, e1⟩ := List.getElem?_eq_some_iff.mp ei
      obtain ⟨hj, e2⟩ := List.getElem?_eq_some_iff.mp ej
      have pw := List.pairwise_iff_getElem.mp nd
      rcases Nat.lt_trichotomy i j with q | q | q
      · exact absurd (e1.trans e2.symm) (pw i j hi hj q)
      · exact q
      · exact absurd (e2.trans e1.symm) (pw j i hj hi q)
theorem fnm_ne {names : List Str} {m : Str} (h : (names.all fun n => !strB n m) = true) (hl : m.length < 200) (n : Nat) : fnmOf names n ≠ m := fun e => by
  unfold fnmOf at e
  cases en : names[n]? with
  | none =>
    rw [en] at e
    have z := congrArg Str.length e
    have : ((⟨Array.replicate (n + 200) 35⟩ : Str)).length = n + 200 := by
      show (Array.replicate (n + 200) 35).size = _
      simp
    simp only [this] at z
    omega
  | some s =>
    rw [en] at e
    have e : s = m := e
    subst e
    have z := List.all_eq_true.mp h s (List.mem_of_getElem? en)
    unfold strB at z
    simp at z
theorem clsAll_of {K : PySem.W.Frag} {t : Txt} : ∀ {cs : List Cspec} {k i : Nat} {c : Cspec}, clsAll K t k cs = true → cs[i]? = some c → clsB K t (k + i) c = true
  | [], k, i, c, _, e => by simp at e
  | d :: cs, k, i, c, h, e => by
    unfold clsAll at h
    rw [Bool.and_eq_true] at h
    cases i with
    | zero => simp at e; subst e; exact h.1
    | succ i =>
      have z := clsAll_of (i := i) h.2 (by simpa using e)
      rwa [show k + 1 + i = k + (i + 1) by omega] at z
/-- what one def's link says -/
structure Lnk (K : PySem.W.Frag) (t : Txt) (s : Fspec) : Prop where
  ex : ∃ (oc : Value) (od : Option Addr) (osl : Array (Option Value)) (nm qual : Str) (params : Arguments) (b : List Stmt) (sc : Scope) (dV kV doc pm cdv ct : Value) (an : Option Addr),
    K.lookup (addrOf K t s) = some ⟨oc, od, .func (PySem.W.fnOf nm qual params b sc dV kV doc pm an cdv ct), osl⟩ ∧ PySem.W.codeIn K cdv qual = true ∧ scopeB s sc = true ∧ paramsB s params = true ∧ dfltB K s.fn.dflt dV = true ∧ bodyB K t s sc b = true
  pl : placeB K t s = true
  md : modesB s = true
theorem lnk_of {K : PySem.W.Frag} {t : Txt} {s : Fspec} (h : linkOne K t s = true) : Lnk K t s := by
  unfold linkOne at h
  rw [Bool.and_eq_true] at h
  obtain ⟨h1, h2⟩ := h
  unfold fnB2 at h2
  split at h2
  · rename_i oc od fd osl hl
    simp only [Bool.and_eq_true] at h2
    obtain ⟨⟨⟨g1, g2⟩, g3⟩, h3⟩ := h2
    split at h3
    · rename_i b hb
      simp only [Bool.and_eq_true] at h3
      obtain ⟨⟨⟨⟨⟨q1, q2⟩, q3⟩, q4⟩, q5⟩, q6⟩ := h3
      obtain ⟨nm, qual, params, body, sc, gl, cl, dV, kV, doc, pm, an, cdv, ct, bn⟩ := fd
      simp only at g1 g2 g3 hb q1 q2 q3 q5 q6
      have e1 := beq_iff_eq.mp g1
      have e2 := List.isEmpty_iff.mp g2
      have e3 := beq_iff_eq.mp g3
      subst e1 e2 e3 hb
      exact ⟨⟨oc, od, osl, nm, qual, params, b, sc, dV, kV, doc, pm, cdv, ct, an, hl, q1, q2, q3, q5, q6⟩, h1, q4⟩
    · cases h3
  · cases h2
end Zd
set_option Elab.async false
set_option linter.all false
set_option maxRecDepth 100000
set_option maxHeartbeats 2000000
/-! Every def keeps its promise. -/
namespace Zd
open PySem PySem.Spec PyProof.Rows L2
structure Sets (K : PySem.W.Frag) (t : Txt) (L : Lk) (mg : Str → Option Value) : Prop where
  link : linkAll K t = true
  hL : L.K = K
  ca : L.ca = cAddr K t
  fnm : L.fnm = fnmOf t.names
  mgs : ∀ x v, PySem.W.nsIn K mainGlobals x = some (some v) → mg x = some v
  mgn : ∀ x, PySem.W.nsIn K mainGlobals x = some none → mg x = none
section
variable {K : PySem.W.Frag} {t : Txt} {L : Lk} {mg : Str → Option Value}
theorem Sets.parts (Z : Sets K t L mg) : (blNames.all (noneB' K)) = true ∧ (t.specs.all (linkOne K t)) = true ∧ clsAll K t 0 t.cls = true ∧ namesB t.names = true := by
  have z := Z.link
  unfold linkAll at z
  simp only [Bool.and_eq_true] at z
  exact ⟨z.1.1.1.1, z.1.1.1.2, z.1.1.2, z.1.2⟩
theorem Sets.subA (Z : Sets K t L mg) : (List.range t.cls.length).all (subB K t) = true := by
  have z := Z.link
  unfold linkAll at z
  simp only [Bool.and_eq_true] at z
  exact z.2
theorem Sets.one (Z : Sets K t L mg) {i : Nat} {s : Fspec} (h : t.specs[i]? = some s) : Lnk K t s := lnk_of (List.all_eq_true.mp Z.parts.2.1 s (List.mem_of_getElem? h))
theorem Sets.bl (Z : Sets K t L mg) : ∀ x, x ∈ blNames → mg x = none := fun x hx => by
  have q := List.all_eq_true.mp Z.parts.1 x hx
  unfold noneB' at q
  split at q
  · rename_i e; exact Z.mgn x e
  · cases q
theorem Sets.inj (Z : Sets K t L mg) : ∀ i j, L.fnm i = L.fnm j → i = j := by
  rw [Z.fnm]
  exact fnm_inj Z.parts.2.2.2
theorem Sets.cls (Z : Sets K t L mg) {k : Nat} {c : Cspec} (h : t.cls[k]? = some c) : clsB K t k c = true := by
  have z := clsAll_of Z.parts.2.2.1 h
  rwa [Nat.zero_add] at z
theorem Sets.glo (Z : Sets K t L mg) {x : Str} (h : (He.Fa.glo x).ok K = true) : mg x = some (.ref (He.ga K x)) := Z.mgs _ _ (He.eqO_ok h)
theorem Sets.fld (Z : Sets K t L mg) : ∀ k n, (tabOf t).fld k n = true → Cls K (L.ca k) ∧ NoAttr K (L.ca k) (L.fnm n) := fun k n h => by
  have h : (match t.cls[k]? with
    | some c => c.flds.contains n
    | none => false) = true := h
  split at h
  · rename_i c hc
    have z := Z.cls hc
    unfold clsB at z
    simp only [Bool.and_eq_true] at z
    obtain ⟨⟨⟨z1, z2⟩, z3⟩, z4⟩ := z
    have ec : L.ca k = He.ga K c.name := by
      rw [Z.ca]
      unfold cAddr cName
      rw [hc]
    rw [ec, Z.fnm]
    refine ⟨He.cls_ok z1, He.noat_ok (List.all_eq_true.mp z3 n ?_)⟩
    simpa using h
  · cases h
theorem Sets.kp (Z : Sets K t L mg) {s : Fspec} (h : placeB K t s = true) : PySem.W.keepIn K (.ref (addrOf K t s)) = true := by
  unfold placeB at h
  unfold addrOf
  split at h
  · simp only [Bool.and_eq_true] at h
    exact h.1.2
  · rename_i km hkm
    split at h
    · rename_i hc
      simp only [Bool.and_eq_true] at h
      have z := h.2
      unfold addrOf at z
      rw [hkm] at z
      exact z
    · rename_i hc
      rw [if_neg hc]
      simp only [Bool.and_eq_true] at h
      exact (He.meth_ok h.1.1.1.2).kp
theorem Sets.mg_of (Z : Sets K t L mg) {s : Fspec} (h : placeB K t s = true) (e : s.own = none) : mg s.name = some (.ref (addrOf K t s)) := by
  unfold placeB at h
  rw [e] at h
  simp only [Bool.and_eq_true] at h
  have z := Z.glo h.1.1
  unfold addrOf
  rw [e]
  exact z
theorem Sets.ct_of (Z : Sets K t L mg) {s : Fspec} (h : placeB K t s = true) {km : Nat × Str} (e : s.own = some km) (hc : isCm s = true) : ClX.CRead K (L.ca km.1) (.type "type") ∧ ∃ p, ClX.CMet K (L.ca km.1) (.type "type") km.2 p (addrOf K t s) := by
  unfold placeB at h
  rw [e] at h
  simp only [hc, if_true, Bool.and_eq_true, decide_eq_true_eq] at h
  obtain ⟨⟨⟨⟨h1, h2⟩, h3⟩, h4⟩, h5⟩ := h
  have ea : addrOf K t s = He5.wf K (cAddr K t km.1) "classmethod" km.2 := by
    unfold addrOf
    rw [e]
    simp only [hc, if_true]
  rw [ea] at h4 ⊢
  rw [Z.ca]
  exact ⟨⟨h1, h2⟩, _, He5.cmet_of h3 h4⟩
theorem Sets.mt_of (Z : Sets K t L mg) {s : Fspec} (h : placeB K t s = true) {km : Nat × Str} (e : s.own = some km) (hc : isCm s = false) : Cls K (L.ca km.1) ∧ Meth K (L.ca km.1) km.2 (addrOf K t s) ∧ (∀ n, L.fnm n ≠ km.2) ∧ (strB km.2 (nm "__eq__") = true → NeB K (L.ca km.1)) := by
  unfold placeB at h
  rw [e] at h
  simp only [hc, Bool.false_eq_true, if_false, Bool.and_eq_true, decide_eq_true_eq] at h
  obtain ⟨⟨⟨⟨h1, h2⟩, h3⟩, h4⟩, h5⟩ := h
  have ea : addrOf K t s = He.ma K (cAddr K t km.1) km.2 := by
    unfold addrOf
    rw [e]
    simp only [hc, Bool.false_eq_true, if_false]
  rw [ea, Z.ca, Z.fnm]
  exact ⟨He.cls_ok h1, He.meth_ok h2, fnm_ne h3 h4, fun z => neB_of (by rw [z] at h5; simpa using h5)⟩
structure MB (s : Fspec) : Prop where
  ms : s.ms.length = s.fn.np
  nl : s.fn.nl = s.N.length
  dl : s.fn.dflt.length ≤ s.fn.np
  val : ∀ m, m ∈ s.ms.drop (s.fn.np - s.fn.dflt.length) → m = .val ∨ m = .top
  own : s.fn.ini = false → ∀ m, m ∈ s.ms → m.mine = false
  slf : s.fn.ini = true → ∃ ms, s.ms = .slf :: ms ∧ (∀ m, m ∈ ms → m.mine = false) ∧ s.fn.dflt.length < s.fn.np
theorem mb_of {s : Fspec} (h : modesB s = true) : MB s := by
  unfold modesB at h
  simp only [Bool.and_eq_true, decide_eq_true_eq] at h
  obtain ⟨⟨⟨⟨h1, h2⟩, h3⟩, h4⟩, h5⟩ := h
  refine ⟨h1, h2, h3, fun m hm => (Bool.or_eq_true _ _ ▸ List.all_eq_true.mp h4 m hm : mdB m .val = true ∨ mdB m .top = true).imp mdB_eq mdB_eq, fun e m hm => ?_, fun e => ?_⟩
  · rw [e] at h5
    simp only [Bool.false_eq_true, if_false] at h5
    have z := List.all_eq_true.mp h5 m hm
    simpa using z
  · rw [e] at h5
    simp only [if_true, Bool.and_eq_true, decide_eq_true_eq] at h5
    obtain ⟨h6, h7⟩ := h5
    split at h6
    · rename_i ms hms
      exact ⟨ms, hms, fun m hm => by have z := List.all_eq_true.mp h6 m hm; simpa using z, h7⟩
    · cases h6
theorem MB.none {s : Fspec} (M : MB s) (e : s.fn.ini = false) (i : Nat) : (msOf s.M i).mine = false := by
  show ((s.ms ++ List.replicate (s.N.length - s.ms.length) Md.val).getD i .val).mine = false
  rw [List.getD_eq_getElem?_getD]
  by_cases hi : i < s.ms.length
  · rw [List.getElem?_append_left hi, List.getElem?_eq_getElem hi]
    exact M.own e _ (List.getElem_mem hi)
  · rw [List.getElem?_append_right (by omega), List.getElem?_replicate]
    split <;> rfl
structure SB (s : Fspec) (sc : Scope) : Prop where
  fs : FnScope s.N (s.N.take s.fn.np) sc
  le : s.fn.np ≤ s.N.length
theorem sb_of {s : Fspec} {sc : Scope} (h : scopeB s sc = true) : SB s sc := by
  unfold scopeB at h
  simp only [Bool.and_eq_true, Bool.not_eq_true', decide_eq_true_eq] at h
  obtain ⟨⟨⟨⟨⟨⟨h1, h2⟩, h3⟩, h4⟩, h5⟩, h6⟩, h7⟩ := h
  refine ⟨⟨?_, h2, h3, nodupB_of h4, ?_, fun x hx => loc_of (List.all_eq_true.mp h6 x hx), fun y hy e => ?_⟩, h5⟩
  · split at h1
    · assumption
    · cases h1
  · rw [List.length_take, Nat.min_eq_left h5]
  · have z := List.all_eq_true.mp h7 y hy
    simp only [e] at z
    cases z
theorem par_of {s : Fspec} {p : Arguments} (h : paramsB s p = true) : p.posonlyargs = [] ∧ p.kwonlyargs = [] ∧ p.vararg = none ∧ p.kwarg = none ∧ p.args.map (·.arg) = s.N.take s.fn.np := by
  unfold paramsB at h
  simp only [Bool.and_eq_true, List.isEmpty_iff, Option.isNone_iff_eq_none] at h
  obtain ⟨⟨⟨⟨h1, h2⟩, h3⟩, h4⟩, h5⟩ := h
  exact ⟨h1, h2, h3, h4, strsB_eq h5⟩
/-- the defaults, for a call of m written arguments -/
theorem dflt_of (hL : L.K = K) {s : Fspec} {nm qual : Str} {params : Arguments} {b : List Stmt} {sc : Scope} {dV kV doc pm cdv ct : Value} {an : Option Addr} (M : MB s) (S : SB s sc) (hp : paramsB s params = true) (hd : dfltB K s.fn.dflt dV = true) {m : Nat} (h1 : s.fn.np - s.fn.dflt.length ≤ m) (h2 : m ≤ s.fn.np) :
    ∃ ds dvs, Vals dvs ds ∧ Binds K (PySem.W.fnOf nm qual params b sc dV kV doc pm an cdv ct) (s.N.take s.fn.np) ds ∧ ∀ w, Reps L w (s.fn.dflt.drop (m - (s.fn.np - s.fn.dflt.length))) dvs := by
  obtain ⟨p1, p2, p3, p4, p5⟩ := par_of hp
  have nd : (s.N.take s.fn.np).Nodup := S.fs.nd.sublist (List.take_sublist _ _)
  have lp : (s.N.take s.fn.np).length = s.fn.np := by rw [List.length_take, Nat.min_eq_left S.le]
  unfold dfltB at hd
  split at hd
  · rename_i e
    refine ⟨[], [], .nil, bindsN p1 p2 p3 p4 p5 nd rfl, fun w => ?_⟩
    rw [e, List.drop_nil]
    simp only [Reps]
  · rename_i d ds T e
    split at hd
    · rename_i oc od its k sl hl
      obtain ⟨ln, xs, rv, rr⟩ := dvsT_of hL hd
      refine ⟨its.toList.drop (m - (s.fn.np - s.fn.dflt.length)), xs.drop (m - (s.fn.np - s.fn.dflt.length)), rv.drop _, bindsD (its := its.toList) (m := k) p1 p2 p3 p4 p5 nd rfl hl (by simp) ?_ _ ?_, fun w => ?_⟩
      · rw [lp, ← ln]
        exact M.dl
      · rw [← ln]
        have := M.dl
        omega
      · exact (rr w).drop _
    · cases hd
  · cases hd
/-- a call with defaults is the call in full -/
theorem cf_full {n i m : Nat} {s : Fspec} {xs : List D} {S : Store} (M : MB s) (hs : t.specs[i]? = some s) (h1 : s.fn.np - s.fn.dflt.length ≤ m) (h2 : m ≤ s.fn.np) (hx : xs.length = m) :
    callF (tabOf t) (ftab t.specs) n i xs S = callF (tabOf t) (ftab t.specs) n i (xs ++ s.fn.dflt.drop (m - (s.fn.np - s.fn.dflt.length))) S := by
  cases n with
  | zero => rfl
  | succ n =>
    unfold callF
    have e : ftab t.specs i = some s.fn := by unfold ftab; rw [hs]
    rw [e]
    simp only
    unfold runFn
    have dl := M.dl
    have lf : (xs ++ s.fn.dflt.drop (m - (s.fn.np - s.fn.dflt.length))).length = s.fn.np := by
      rw [List.length_append, List.length_drop, hx]
      omega
    rw [if_neg (by omega), if_neg (by rw [lf]; omega)]
    have e1 : s.fn.dflt.drop (s.fn.dflt.length - (s.fn.np - xs.length)) = s.fn.dflt.drop (m - (s.fn.np - s.fn.dflt.length)) := by
      congr 1
      omega
    have e2 : s.fn.dflt.drop (s.fn.dflt.length - (s.fn.np - (xs ++ s.fn.dflt.drop (m - (s.fn.np - s.fn.dflt.length))).length)) = [] := by
      rw [lf, Nat.sub_self, Nat.sub_zero]
      exact List.drop_length
    rw [e1, e2, List.append_nil]
/-- the world at the entry of a body -/
theorem world0 {s : Fspec} {w : Wd} {H : Hp} {S : Store} {ds : List D} {vs : List V} (M : MB s) (hi' : s.fn.ini = false) (le : s.fn.np ≤ s.N.length) (c : Core L w S H) (ra : ArgR L w H s.ms ds vs) (hl : ds.length = s.ms.length) :
    World L (msOf s.M) w H w (ds.map some ++ List.replicate (s.fn.nl - s.fn.np) none) S (L2.start s.N vs) H := by
  have lv : vs.length = s.fn.np := by rw [ra.length, hl, M.ms]
  have ld : ds.length = s.fn.np := by rw [hl, M.ms]
  have argAt : ∀ {ms : List Md} {ds : List D} {vs : List V} {i : Nat} {d : D}, ArgR L w H ms ds vs → ds[i]? = some d → ∃ md v, ms[i]? = some md ∧ vs[i]? = some v ∧ ArgR1 L w H md d v := by
    intro ms
    induction ms with
    | nil =>
      intro ds vs i d h e
      cases ds with
      | nil => simp at e
      | cons _ _ => simp [ArgR] at h
    | cons md ms ih =>
      intro ds vs i d h e
      cases ds with
      | nil => simp at e
      | cons x ds =>
        simp only [ArgR] at h
        obtain ⟨v, r, rfl, h1, h2⟩ := h
        cases i with
        | zero => simp at e; subst e; exact ⟨md, v, rfl, rfl, h1⟩
        | succ i =>
          obtain ⟨m', v', q1, q2, q3⟩ := ih h2 (by simpa using e)
          exact ⟨m', v', by simpa using q1, by simpa using q2, q3⟩
  have at_ : ∀ i d, (ds.map some ++ List.replicate (s.fn.nl - s.fn.np) none)[i]? = some (some d) → i < s.fn.np ∧ ds[i]? = some d := fun i d h => by
    by_cases hi : i < s.fn.np
    · rw [List.getElem?_append_left (by simpa [ld] using hi), List.getElem?_map] at h
      cases e : ds[i]? with
      | none => rw [e] at h; cases h
      | some x => rw [e] at h; cases h; exact ⟨hi, rfl⟩
    · rw [List.getElem?_append_right (by simpa [ld] using hi), List.getElem?_replicate] at h
      split at h <;> cases h
  have mAt : ∀ {i : Nat} {md : Md}, i < s.fn.np → s.ms[i]? = some md → msOf s.M i = md := fun {i md} hi e => by
    show (s.ms ++ List.replicate (s.N.length - s.ms.length) Md.val).getD i .val = md
    rw [List.getD_eq_getElem?_getD, List.getElem?_append_left (by rw [M.ms]; exact hi), e]
    rfl
  refine ⟨c, Le.refl _ _, ?_, fun i d h => ?_, fun i hi => ?_, fun i j a ne mi mj si sj gi gj => ?_⟩
  · unfold L2.start
    simp only [List.length_append, List.length_map, List.length_replicate]
    rw [ld, lv, M.nl]
  · obtain ⟨hi, hd⟩ := at_ i d h
    obtain ⟨md, v, q1, q2, q3⟩ := argAt ra hd
    refine ⟨v, ?_, ?_⟩
    · unfold L2.start
      rw [List.getElem?_append_left (by simpa [lv] using hi), List.getElem?_map, q2]
      rfl
    · rw [mAt hi q1]
      cases md with
      | val => exact q3
      | own => exact q3.elim
      | slf => exact q3.elim
      | top =>
        rcases q3 with q3 | ⟨a, e, o⟩
        · exact .inl q3
        · exact .inr ⟨a, e, o, o.2.1.there⟩
      | cls k => exact q3
      | scr =>
        obtain ⟨a, ns, e1, e2, z⟩ := q3
        refine ⟨a, ns, e1, e2, z, fun hn => ?_⟩
        rcases z.2 with ⟨⟨o, ho, _⟩, _⟩ | z
        · rw [ho] at hn; cases hn
        · exact z
  · have z := M.none hi' i
    rw [hi] at z
    cases z
  · rw [M.none hi' i] at mi
    cases mi
/-- the world at the entry of an __init__ -/
theorem worldI {s : Fspec} {w : Wd} {H0 : Hp} {S : Store} {ds : List D} {vs : List V} {x dx : Addr} {k : Nat} {ms : List Md} (M : MB s) (hms : s.ms = .slf :: ms) (hmn : ∀ m, m ∈ ms → m.mine = false) (le : s.fn.np ≤ s.N.length) (c : Core L w S H0) (hx : H0 x = none) (hdx : H0 dx = none) (ne : dx ≠ x) (ra : ArgR L w H0 ms ds vs) (hl : ds.length = ms.length) :
    World L (msOf s.M) { w with sf := some x } H0 { w with sf := some x } ((D.obj k [] [] :: ds).map some ++ List.replicate (s.fn.nl - s.fn.np) none) S (L2.start s.N (.ref x :: vs)) (upd (upd H0 dx (.own x)) x (.ins (L.ca k) dx [])) := by
  have lv : vs.length + 1 = s.fn.np := by rw [ra.length, hl, ← M.ms, hms]; rfl
  have ld : ds.length + 1 = s.fn.np := by rw [hl, ← M.ms, hms]; rfl
  have cs : Core L { w with sf := some x } S H0 := ⟨c.sub, c.len, fun k d h => let ⟨q1, q2⟩ := c.st k d h; ⟨q1, q2.of (fun _ _ z => z) (Nat.le_refl _) (fun _ _ => rfl) rfl⟩, c.inj⟩
  have c1 : Core L { w with sf := some x } S (upd H0 dx (.own x)) := cs.fresh hdx
  have hx1 : upd H0 dx (.own x) x = none := by rw [upd_ne (Ne.symm ne)]; exact hx
  have c2 := c1.fresh (o := .ins (L.ca k) dx []) hx1
  have l2 : Le { w with sf := some x } H0 { w with sf := some x } (upd (upd H0 dx (.own x)) x (.ins (L.ca k) dx [])) := (Le.fresh hdx).trans (Le.fresh hx1)
  have argAt : ∀ {ms : List Md} {ds : List D} {vs : List V} {i : Nat} {d : D}, ArgR L w H0 ms ds vs → ds[i]? = some d → ∃ md v, ms[i]? = some md ∧ vs[i]? = some v ∧ ArgR1 L w H0 md d v := by
    intro ms
    induction ms with
    | nil =>
      intro ds vs i d h e
      cases ds with
      | nil => simp at e
      | cons _ _ => simp [ArgR] at h
    | cons md ms ih =>
      intro ds vs i d h e
      cases ds with
      | nil => simp at e
      | cons x ds =>
        simp only [ArgR] at h
        obtain ⟨v, r, rfl, h1, h2⟩ := h
        cases i with
        | zero => simp at e; subst e; exact ⟨md, v, rfl, rfl, h1⟩
        | succ i =>
          obtain ⟨m', v', q1, q2, q3⟩ := ih h2 (by simpa using e)
          exact ⟨m', v', by simpa using q1, by simpa using q2, q3⟩
  have at_ : ∀ i d, ((D.obj k [] [] :: ds).map some ++ List.replicate (s.fn.nl - s.fn.np) none)[i]? = some (some d) → i < s.fn.np ∧ (D.obj k [] [] :: ds)[i]? = some d := fun i d h => by
    by_cases hi : i < s.fn.np
    · rw [List.getElem?_append_left (by rw [List.length_map, List.length_cons]; omega), List.getElem?_map] at h
      cases e : (D.obj k [] [] :: ds)[i]? with
      | none => rw [e] at h; cases h
      | some x => rw [e] at h; cases h; exact ⟨hi, rfl⟩
    · rw [List.getElem?_append_right (by rw [List.length_map, List.length_cons]; omega), List.getElem?_replicate] at h
      split at h <;> cases h
  have mAt : ∀ {i : Nat} {md : Md}, i < s.fn.np → s.ms[i]? = some md → msOf s.M i = md := fun {i md} hi e => by
    show (s.ms ++ List.replicate (s.N.length - s.ms.length) Md.val).getD i .val = md
    rw [List.getD_eq_getElem?_getD, List.getElem?_append_left (by rw [M.ms]; exact hi), e]
    rfl
  have notMine : ∀ i, i ≠ 0 → (msOf s.M i).mine = false := fun i hi => by
    show ((s.ms ++ List.replicate (s.N.length - s.ms.length) Md.val).getD i .val).mine = false
    rw [List.getD_eq_getElem?_getD]
    by_cases q : i < s.ms.length
    · rw [List.getElem?_append_left q, List.getElem?_eq_getElem q]
      obtain ⟨j, rfl⟩ : ∃ j, i = j + 1 := ⟨i - 1, by omega⟩
      have : s.ms[j + 1] ∈ ms := by
        have e : s.ms[j + 1]? = ms[j]? := by rw [hms]; rfl
        rw [List.getElem?_eq_getElem q] at e
        exact List.mem_of_getElem? e.symm
      exact hmn _ this
    · rw [List.getElem?_append_right (by omega), List.getElem?_replicate]
      split <;> rfl
  have start0 : (L2.start s.N (.ref x :: vs))[0]? = some (some (.ref x)) := by
    unfold L2.start
    rw [List.getElem?_append_left (by simp)]
    rfl
  refine ⟨c2, l2, ?_, fun i d h => ?_, fun i hi => ?_, fun i j a ne mi mj si sj gi gj => ?_⟩
  · unfold L2.start
    simp only [List.length_append, List.length_map, List.length_replicate, List.length_cons]
    rw [ld, lv, M.nl]
  · obtain ⟨hi, hd⟩ := at_ i d h
    cases i with
    | zero =>
      simp at hd
      subst hd
      refine ⟨.ref x, start0, ?_⟩
      rw [mAt hi (by rw [hms]; rfl)]
      refine ⟨x, rfl, ⟨?_, ?_, fun j hj => c1.rhoNe hj hx1⟩, hx⟩
      · cases z : w.Hs x with
        | none => rfl
        | some u =>
          have := c.sub x u z
          rw [hx] at this
          cases this
      · simp only [Con]
        exact ⟨dx, [], upd_same, rfl, by simp only [List.map_nil, Reps]⟩
    | succ i =>
      have hd : ds[i]? = some d := by simpa using hd
      obtain ⟨md, v, q1, q2, q3⟩ := argAt ra hd
      refine ⟨v, ?_, ?_⟩
      · unfold L2.start
        rw [List.getElem?_append_left (by simp; omega), List.getElem?_map, List.getElem?_cons_succ, q2]
        rfl
      · rw [mAt hi (md := md) (by rw [hms, List.getElem?_cons_succ]; exact q1)]
        have q4 : ArgR1 L { w with sf := some x } (upd (upd H0 dx (.own x)) x (.ins (L.ca k) dx [])) md d v := by
          have l3 : Le w H0 { w with sf := some x } (upd (upd H0 dx (.own x)) x (.ins (L.ca k) dx [])) := ⟨l2.hs, l2.n, l2.rho, l2.keep, l2.there, l2.out, l2.new⟩
          exact q3.le l3
        cases md with
        | val => exact q4
        | own => exact q4.elim
        | slf => exact q4.elim
        | top =>
          rcases q3 with q3 | ⟨a, e, o⟩
          · rcases q4 with q4 | ⟨a, e, o⟩
            · exact .inl q4
            · subst e
              exact .inl (Rep.mono (w := w) (w' := { w with sf := some x }) (fun _ _ z => z) (Nat.le_refl _) (fun _ _ => rfl) _ _ q3)
          · rcases q4 with q4 | ⟨a', e', o'⟩
            · exact .inl q4
            · rw [e] at e'
              cases e'
              exact .inr ⟨a, e, o', o.2.1.there⟩
        | cls k => exact q4
        | scr =>
          obtain ⟨a, ns, e1, e2, z⟩ := q4
          obtain ⟨a', ns', e1', e2', z'⟩ := q3
          rw [e1] at e1'
          cases e1'
          refine ⟨a, ns, e1, e2, z, fun hn => ?_⟩
          have en : ns = ns' := by
            rw [e2] at e2'
            injection e2' with e3
            exact (List.map_inj_right (fun _ _ h => by injection h)).mp e3
          subst en
          rcases z'.2 with ⟨⟨o, ho, _⟩, _⟩ | z'
          · rw [ho] at hn; cases hn
          · exact z'
  · have h0 : i = 0 := by
      by_cases q : i = 0
      · exact q
      · have z := notMine i q
        rw [hi] at z
        cases z
    exact ⟨h0, x, rfl, fun d _ => start0⟩
  · have hi : i = 0 := by
      by_cases q : i = 0
      · exact q
      · rw [notMine i q] at mi; cases mi
    have hj : j = 0 := by
      by_cases q : j = 0
      · exact q
      · rw [notMine j q] at mj; cases mj
    exact ne (hi.trans hj.symm)
def ownK (s : Fspec) : Nat := match s.own with
  | some km => km.1
  | none => 0
/-- what a def promises -/
def spF (L : Lk) (cf : CF) (i : Nat) (s : Fspec) : Sp := if s.fn.ini = true then spIni L cf i (ownK s) (s.ms.drop 1) else spOf L cf i s.ms
theorem fok_all {P : Program} {w : PySem.World} {base : Heap} (Z : Sets K t L mg) : ∀ (n i : Nat) (s : Fspec), t.specs[i]? = some s → ∃ fd, FOk P w K mg base (L2.CX P w) (2 * n) (addrOf K t s) fd (s.N.take s.fn.np) (spF L (callF (tabOf t) (ftab t.specs) n) i s) ∧
    ∀ m, s.fn.np - s.fn.dflt.length ≤ m → m ≤ s.fn.np → ∃ ds dvs, Vals dvs ds ∧ Binds K fd (s.N.take s.fn.np) ds ∧ ∀ w, Reps L w (s.fn.dflt.drop (m - (s.fn.np - s.fn.dflt.length))) dvs
  | n, i, s, hs => by
    have K1 := Z.one hs
    have M := mb_of K1.md
    obtain ⟨oc, od, osl, nm, qual, params, b, sc, dV, kV, doc, pm, cdv, ct, an, lk, hcd, hsc, hp, hd, hb⟩ := K1.ex
    have S := sb_of hsc
    have lp : (s.N.take s.fn.np).length = s.fn.np := by rw [List.length_take, Nat.min_eq_left S.le]
    have len : ∀ {vs H Q E}, spF L (callF (tabOf t) (ftab t.specs) n) i s vs H Q E → vs.length = (s.N.take s.fn.np).length := fun {vs H Q E} h => by
      unfold spF at h
      by_cases hi : s.fn.ini = true
      · rw [if_pos hi] at h
        obtain ⟨x, dx, vs', H0, w, S', ds, rfl, _, _, _, _, _, ra, hl, _⟩ := h
        obtain ⟨ms, hms, _⟩ := M.slf hi
        rw [List.length_cons, ra.length, hl, lp, ← M.ms, hms]
        rfl
      · rw [if_neg hi] at h
        obtain ⟨w, S', ds, _, ra, hl, _⟩ := h
        rw [ra.length, hl, M.ms, lp]
    refine ⟨PySem.W.fnOf nm qual params b sc dV kV doc pm an cdv ct, ?_, fun m h1 h2 => dflt_of Z.hL M S hp hd h1 h2⟩
    cases n with
    | zero => exact ⟨len, fun A outer s' H args us vs Q E hr he hbn hv h => by
        unfold spF at h
        by_cases hi : s.fn.ini = true
        · rw [if_pos hi] at h
          obtain ⟨x, dx, vs', H0, w, S', ds, _, _, _, _, _, _, _, _, pc⟩ := h
          exact pc.elim
        · rw [if_neg hi] at h
          obtain ⟨w, S', ds, _, _, _, pc⟩ := h
          exact pc.elim⟩
    | succ n =>
      show FOk P w K mg base (L2.CX P w) (2 * n + 1 + 1) _ _ _ _
      refine fok_of lk hcd S.fs len fun A outer s' H vs Q E hr h => ?_
      have ef : ftab t.specs i = some s.fn := by unfold ftab; rw [hs]
      have fk : ∀ f fi, finfo K t f = some fi → ∃ s2, t.specs[f]? = some s2 ∧ s2.fn.ini = false ∧ fi = { name := s2.name, g := addrOf K t s2, ms := s2.ms, need := s2.fn.np - s2.fn.dflt.length, own := s2.own, cm := isCm s2 } := fun f fi hf => by
        unfold finfo at hf
        split at hf
        · rename_i s2 hs2
          split at hf
          · cases hf
          · rename_i hi
            cases hf
            exact ⟨s2, hs2, by simpa using hi, rfl⟩
        · cases hf
      have ik : ∀ k ci, cinfo K t k = some ci → ∃ c s2, t.cls[k]? = some c ∧ t.specs[c.init]? = some s2 ∧ s2.fn.ini = true ∧ ci = { name := c.name, addr := He.ga K c.name, init := c.init, ms := s2.ms.drop 1, need := s2.fn.np - s2.fn.dflt.length - 1 } := fun k ci hc => by
        unfold cinfo at hc
        split at hc
        · rename_i c hc1
          split at hc
          · rename_i s2 hs2
            split at hc
            · rename_i hi
              cases hc
              exact ⟨c, s2, hc1, hs2, hi, rfl⟩
            · cases hc
          · cases hc
        · cases hc
      -- the body, from a world
      have run : ∀ (w0 : Wd) (H0 : Hp) (g : Ev) (S0 : Store) (σ : L2.St) (w1 : Wd), World L (msOf s.M) w0 H0 w1 g S0 σ H → σ = L2.start s.N vs →
          (∀ r : Option (List Md), okB s.fn.body (ccOf K t s sc) s.M b = some r → PostS { L := L, M := msOf s.M, w0 := w0, H0 := H0, W := fun cls d _ H' => E cls d H', T := tabOf t, cf := callF (tabOf t) (ftab t.specs) n } ((r.map msOf).getD (msOf s.M)) (msOf s.M) w1 { nx := fun _ H' => Q .non H', rt := Q } (exb (tabOf t) (callF (tabOf t) (ftab t.specs) n) s.fn.body g S0)) →
          ∃ tt, PSs (cxOf (L2.CX P w) P w K mg base s.N qual sc (addrOf K t s) cdv A outer s' H E) b tt ∧ tt { nx := fun _ H' => Q .non H', rt := Q } (L2.start s.N vs) H := fun w0 H0 g S0 σ w1 W0 eσ post => by
        unfold bodyB at hb
        have hok : ∃ r, okB s.fn.body (ccOf K t s sc) s.M b = some r := by
          cases q : okB s.fn.body (ccOf K t s sc) s.M b with
          | none => rw [q] at hb; cases hb
          | some r => exact ⟨r, rfl⟩
        obtain ⟨r, hok⟩ := hok
        refine ⟨tBl { L := L, M := msOf s.M, w0 := w0, H0 := H0, W := fun cls d _ H' => E cls d H', T := tabOf t, cf := callF (tabOf t) (ftab t.specs) n } ((r.map msOf).getD (msOf s.M)) (msOf s.M) s.fn.body, ?_, w1, g, S0, eσ ▸ W0, post r hok⟩
        refine sB s.fn.body (c := ccOf K t s sc) (n := 2 * n) (r := r) ⟨⟨Z.hL.symm, hr, rfl, S.fs.nd, rfl, rfl, fun _ _ => rfl, rfl, Z.bl, takes_of rfl rfl rfl rfl, fun f fi hf => ?_, fun k ci hc => ?_, Z.fnm, Z.inj, Z.fld, subs_of Z.ca Z.subA, fun x d hx => gvB_of Z.hL Z.mgs hx⟩, S.fs.kind, rfl, passes_of rfl⟩ hok (fun M0 e => by rw [e]; rfl)
        · obtain ⟨s2, hs2, hi2, rfl⟩ := fk f fi hf
          obtain ⟨fd, F, hb2⟩ := fok_all (P := P) (w := w) (base := base) Z n f s2 hs2
          have K2 := Z.one hs2
          have M2 := mb_of K2.md
          have F : FOk P w K mg base (L2.CX P w) (2 * n) (addrOf K t s2) fd (s2.N.take s2.fn.np) (spOf L (callF (tabOf t) (ftab t.specs) n) f s2.ms) := by
            unfold spF at F
            rw [hi2] at F
            exact F
          refine ⟨⟨fd, _, F, fun m h1 h2 => ?_⟩, Z.kp K2.pl, fun e => Z.mg_of K2.pl e, fun km e hc => Z.ct_of K2.pl e hc, fun km e hc => Z.mt_of K2.pl e hc⟩
          have h2 : m ≤ s2.fn.np := by rw [← M2.ms]; exact h2
          obtain ⟨ds, dvs, q1, q2, q3⟩ := hb2 m h1 h2
          have h1 : s2.fn.np - s2.fn.dflt.length ≤ m := h1
          refine ⟨ds, dvs, _, q1, q2, q3, ?_, fun md hm => ?_, fun xs S hx => cf_full M2 hs2 h1 h2 hx⟩
          · have := M2.dl
            show _ = (s2.ms.drop m).length
            rw [List.length_drop, List.length_drop, M2.ms]
            omega
          · refine M2.val md ?_
            have e : s2.ms.drop m = (s2.ms.drop (s2.fn.np - s2.fn.dflt.length)).drop (m - (s2.fn.np - s2.fn.dflt.length)) := by
              rw [List.drop_drop]
              congr 1
              omega
            have hm : md ∈ s2.ms.drop m := hm
            rw [e] at hm
            exact List.mem_of_mem_drop hm
        · obtain ⟨c, s2, hc1, hs2, hi2, rfl⟩ := ik k ci hc
          obtain ⟨fd, F, hb2⟩ := fok_all (P := P) (w := w) (base := base) Z n c.init s2 hs2
          have K2 := Z.one hs2
          have M2 := mb_of K2.md
          obtain ⟨ms2, hms2, _, hdl2⟩ := M2.slf hi2
          have zc := Z.cls hc1
          unfold clsB at zc
          simp only [Bool.and_eq_true] at zc
          obtain ⟨⟨⟨z1, z2⟩, z3⟩, z4⟩ := zc
          rw [hs2] at z4
          simp only [hi2, if_true, Bool.and_eq_true] at z4
          obtain ⟨z5, z6⟩ := z4
          split at z6
          · rename_i km hkm
            rw [Bool.and_eq_true] at z6
            have ek := beq_iff_eq.mp z6.1
            have em := strB_eq z6.2
            have ec : cAddr K t km.1 = He.ga K c.name := by
              unfold cAddr cName
              rw [ek, hc1]
            have ea : addrOf K t s2 = He.ma K (He.ga K c.name) "__init__" := by
              have hcm : isCm s2 = false := by unfold isCm; rw [hi2]; rfl
              unfold addrOf
              rw [hkm, ← ec]
              simp only [em, hcm, Bool.false_eq_true, if_false]
              rfl
            have eca : L.ca k = He.ga K c.name := by
              rw [Z.ca]
              unfold cAddr cName
              rw [hc1]
            have eow : OwnC K (He.ga K c.name) := by
              rw [← eca, Z.ca]
              exact ownC_of (List.getElem?_eq_some_iff.mp hc1).1 Z.subA
            have mk := He.mkr_ok z5
            have F : FOk P w K mg base (L2.CX P w) (2 * n) (addrOf K t s2) fd (s2.N.take s2.fn.np) (spIni L (callF (tabOf t) (ftab t.specs) n) c.init k (s2.ms.drop 1)) := by
              unfold spF at F
              rw [hi2] at F
              simp only [if_true] at F
              unfold ownK at F
              rw [hkm] at F
              simp only [ek] at F
              exact F
            refine ⟨⟨_, fd, _, mk, ea ▸ F, fun m h1 h2 => ?_⟩, eca, eow, mk.kp, Z.glo z2⟩
            have lms : (s2.ms.drop 1).length + 1 = s2.fn.np := by rw [← M2.ms, hms2]; rfl
            have h1 : s2.fn.np - s2.fn.dflt.length - 1 ≤ m := h1
            have h2 : m ≤ (s2.ms.drop 1).length := h2
            obtain ⟨ds, dvs, q1, q2, q3⟩ := hb2 (m + 1) (by omega) (by omega)
            refine ⟨ds, dvs, _, q1, q2, q3, ?_, fun md hm => ?_, fun xs S hx => ?_⟩
            · have := M2.dl
              show _ = ((s2.ms.drop 1).drop m).length
              rw [List.length_drop, List.length_drop]
              omega
            · refine M2.val md ?_
              have e : (s2.ms.drop 1).drop m = (s2.ms.drop (s2.fn.np - s2.fn.dflt.length)).drop (m + 1 - (s2.fn.np - s2.fn.dflt.length)) := by
                rw [List.drop_drop, List.drop_drop]
                congr 1
                omega
              have hm : md ∈ (s2.ms.drop 1).drop m := hm
              rw [e] at hm
              exact List.mem_of_mem_drop hm
            · exact cf_full (xs := .obj k [] [] :: xs) M2 hs2 (by omega) (by omega) (by rw [List.length_cons, hx])
          · cases z6
      unfold spF at h
      by_cases hi : s.fn.ini = true
      · rw [if_pos hi] at h
        obtain ⟨x, dx, vs', H0, w1, S0, ds, rfl, hx, hdx, ne, rfl, c, ra, hl, pc⟩ := h
        obtain ⟨ms, hms, hmn, hdl⟩ := M.slf hi
        rw [hms] at ra hl
        have ra : ArgR L w1 H0 ms ds vs' := ra
        have hl : ds.length = ms.length := hl
        have W0 := worldI (k := ownK s) M hms hmn S.le c hx hdx ne ra hl
        refine run _ H0 _ S0 _ _ W0 rfl fun r hok => ?_
        have ld : (D.obj (ownK s) [] [] :: ds).length = s.fn.np := by rw [List.length_cons, hl, ← M.ms, hms]; rfl
        unfold callF at pc
        rw [ef] at pc
        simp only at pc
        unfold runFn at pc
        rw [if_neg (by omega)] at pc
        rw [ld, Nat.sub_self, Nat.sub_zero, List.drop_length, List.append_nil, hi] at pc
        simp only [if_true] at pc
        unfold bodyB at hb
        rw [hok] at hb
        cases eb : exb (tabOf t) (callF (tabOf t) (ftab t.specs) n) s.fn.body ((D.obj (ownK s) [] [] :: ds).map some ++ List.replicate (s.fn.nl - s.fn.np) none) S0 with
        | nx g S' =>
          rw [eb] at pc
          intro σ' w' H' W' _
          cases r with
          | none => simp [hi] at hb
          | some M1 =>
            have h0 : M1.getD 0 .val = .slf := mdB_eq (by simpa [hi] using hb)
            have W' : World L (msOf M1) { w1 with sf := some x } H0 w' g S' σ' H' := W'
            cases eg : g[0]? with
            | none => simp only [eg] at pc; exact pc.elim
            | some o => cases o with
              | none => simp only [eg] at pc; exact pc.elim
              | some d =>
                simp only [eg] at pc
                obtain ⟨_, a, ea, q⟩ := W'.pin 0 h0
                have ea : some x = some a := ea
                cases ea
                have hσ := q d eg
                obtain ⟨w2, W2, ge⟩ := W'.freeze (i := 0) (by rw [show msOf M1 0 = .slf from h0]; rfl)
                obtain ⟨v, e1, rv⟩ := W2.slot 0 d eg
                rw [hσ] at e1
                cases e1
                have l := W2.le0
                exact pc w2 H' W2.core ⟨l.hs, l.n, l.rho, l.keep, l.there, l.out, l.new⟩ rv
        | rt d S' => rw [eb] at pc; exact pc.elim
        | bk g S' => rw [eb] at pc; exact pc.elim
        | ct g S' => rw [eb] at pc; exact pc.elim
        | ex e g S' => rw [eb] at pc; exact fun σ' w' H' cls dx c' l' r' => pc w' H' cls dx c' ⟨l'.hs, l'.n, l'.rho, l'.keep, l'.there, l'.out, l'.new⟩ r'
        | bad => rw [eb] at pc; exact pc.elim
      · have hi : s.fn.ini = false := by simpa using hi
        rw [hi] at h
        simp only [Bool.false_eq_true, if_false] at h
        obtain ⟨w0, S0, ds, c, ra, hl, pc⟩ := h
        have W0 := world0 M hi S.le c ra hl
        refine run _ H _ S0 _ _ W0 rfl fun r hok => ?_
        have ld : ds.length = s.fn.np := by rw [hl, M.ms]
        unfold callF at pc
        rw [ef] at pc
        simp only at pc
        unfold runFn at pc
        rw [if_neg (by omega)] at pc
        rw [ld, Nat.sub_self, Nat.sub_zero, List.drop_length, List.append_nil, hi] at pc
        simp only [Bool.false_eq_true, if_false] at pc
        cases eb : exb (tabOf t) (callF (tabOf t) (ftab t.specs) n) s.fn.body (ds.map some ++ List.replicate (s.fn.nl - s.fn.np) none) S0 with
        | nx g S' => rw [eb] at pc; exact fun σ' w' H' W' _ => pc .non w' H' W'.core W'.le0 (by simp only [Rep])
        | rt d S' => rw [eb] at pc; exact pc
        | bk g S' => rw [eb] at pc; exact pc.elim
        | ct g S' => rw [eb] at pc; exact pc.elim
        | ex e g S' => rw [eb] at pc; exact fun σ' w' H' cls dx c' l' r' => pc w' H' cls dx c' l' r'
        | bad => rw [eb] at pc; exact pc.elim
end
end Zd
set_option Elab.async false
set_option linter.all false
set_option maxRecDepth 100000
set_option maxHeartbeats 2000000
/-! The end: the law's def is called on the script. -/
namespace Zd
open PySem PySem.Spec PyProof.Rows L2
def wd0 : Wd := { Hs := fun _ => none, rho := fun _ => 0, n := 0 }
theorem core0 {L : Lk} {H : Hp} : Core L wd0 [] H where
  sub := fun a o h => nomatch h
  len := rfl
  st := fun k d h => by simp at h
  inj := fun k m h => absurd h (Nat.not_lt_zero k)
/-- the law's promise, from its value -/
theorem sp_law {K : PySem.W.Frag} {L : Lk} {cf : CF} {f : Nat} {H : Hp} {a : Addr} {ns : List Int} {E : XK} {S : Store} (hL : L.K = K) (hl : ns.length ≤ line) (hS : SqL K H a (ns.map V.int)) (h : cf f [.lst (ns.map D.int)] [] = .ok (.bl true) S) : spOf L cf f [.scr] [.ref a] H (fun v _ => v = .bl true) E := by
  refine ⟨wd0, [], [.lst (ns.map D.int)], core0, ?_, rfl, ?_⟩
  · simp only [ArgR]
    refine ⟨_, [], rfl, ⟨a, ns, rfl, rfl, hl, ?_⟩, rfl⟩
    rcases hS with (hS | ⟨o, hS⟩) | hS
    · exact .inl ⟨⟨_, hS, .inl rfl⟩, fun k hk => absurd hk (Nat.not_lt_zero k)⟩
    · exact .inl ⟨⟨_, hS, .inr ⟨o, rfl⟩⟩, fun k hk => absurd hk (Nat.not_lt_zero k)⟩
    · exact .inr (.inr (hL ▸ hS))
  · rw [h]
    exact fun v w' H' _ _ r => by simpa only [Rep] using r
section
variable {P : Program} {w : PySem.World} {K : PySem.W.Frag} {mg mb : Str → Option Value} {k : Nat} {fa a : Addr} {ps : List Str} {sp : Sp} {s₁ : Shared} {vs : List Value} {ns : List Int}
/-- from an abstract heap in which at most the script is known -/
theorem law_at (KX : K.In s₁.heap) (hns : s₁.heap.Ns mainGlobals mg) (hb : s₁.heap.Ns builtinsNs mb) (hbb : ∀ x : Str, x ≠ "__name__" → mb x = bootBuiltins x) (hlim : s₁.heap.NoLimit) (hg : s₁.gens = #[])
    (ha : s₁.heap.get? a = some { cls := .type "list", data := .seq vs.toArray }) (hr : Rm k callerA) (F : ∀ base : Heap, ∃ fd, FOk P w K mg base (L2.CX P w) k fa fd ps sp ∧ BindsTo s₁ fd ⟨[.ref a], []⟩ (ps.zip [.ref a]))
    {H : Hp} (hO : Only H) (hsp : sp [.ref a] H (fun v _ => v = .bl true) fun _ _ _ => False) (hok : HOk P w H s₁.heap) (hA : ∀ b, H b ≠ none → b = a) (hKa : H a ≠ none → K.lookup a = none) :
    codeAny (model P w) callerA (.call (.ref fa) ⟨[.ref a], []⟩) (fun r s' => r = .ok (.ret (.bool true)) ∧ OldK s₁.heap s'.heap ∧ s'.os = s₁.os ∧ AllBare s'.gens) s₁ := by
  have notA : ∀ {b : Addr} {o : Obj}, s₁.heap.get? b = some o → (∀ n, o.data ≠ .seq vs.toArray n) → H b = none := fun {b o} e d => by
    cases q : H b with
    | none => rfl
    | some u =>
      have e' := hA b (by rw [q]; simp)
      subst e'
      rw [ha] at e
      cases e
      exact absurd rfl (d _)
  have ns_ : ∀ {b : Addr} {m : Str → Option Value}, s₁.heap.Ns b m → (hidT s₁.heap H).Ns b m := fun ⟨o, es, ep, e, d, r⟩ => ⟨o, es, ep, hidT_get e (notA e fun n z => by rw [d] at z; cases z), d, r⟩
  have kin : K.In (hidT s₁.heap H) := fun b o e => by
    refine hidT_get (KX b o e) ?_
    cases q : H b with
    | none => rfl
    | some u =>
      have e' := hA b (by rw [q]; simp)
      subst e'
      rw [hKa (by rw [q]; simp)] at e
      cases e
  obtain ⟨mc, l1, l2⟩ := hlim
  have M : Mod K mg (hidT s₁.heap H) := ⟨kin, ns_ hns, ⟨mb, ns_ hb, hbb⟩, ⟨mc, ns_ l1, l2⟩⟩
  have e0 : Env0 P w K mg (hidT s₁.heap H) callerA [] s₁ H := ⟨rfl, M, fun b o e => of_hidT e, Nat.le_of_eq (hidT_size _ _), trivial, fun b hb => absurd (show b ∈ ([] : List Addr) from hb) (by simp), hok, .of_eq hg⟩
  obtain ⟨fd, F, hbind⟩ := F (hidT s₁.heap H)
  have run := F.run callerA [] s₁ H ⟨[.ref a], []⟩ [.ref a] [.ref a] _ _ hr e0 hbind (.cons rfl .nil) hsp
  refine codeAny_mono run fun r s' h => ?_
  have old : ∀ {H'}, Un (frs []) [] H H' s₁.heap s'.heap → HOk P w H' s'.heap → OldK s₁.heap s'.heap := fun {H'} un hok' => OldK.of_keep fun b o e => by
    rcases hO b with z | ⟨ob, xs, z⟩
    · exact un.keep b o e z (fun q => absurd (show b ∈ ([] : List Addr) from q) (by simp)) (by simp)
    · obtain ⟨e1, _⟩ := hok b _ z
      obtain ⟨e2, _⟩ := hok' b _ (un.frzs b ob _ z)
      rw [e] at e1
      cases e1
      exact e2
  cases r with
  | error e =>
    obtain ⟨_, _, _, _, _, _, _, _, _, _, _, _, no⟩ := h
    exact no.elim
  | ok fl => cases fl with
    | ret u =>
      obtain ⟨v, H', os, bare, un, hok', r', q⟩ := h
      have q : v = .bl true := q
      subst q
      obtain rfl : u = Value.bool true := r'
      exact ⟨rfl, old un hok', os, bare⟩
    | next => exact False.elim h
    | brk => exact False.elim h
    | cont => exact False.elim h
theorem law_run (KX : K.In s₁.heap) (hns : s₁.heap.Ns mainGlobals mg) (hb : s₁.heap.Ns builtinsNs mb) (hbb : ∀ x : Str, x ≠ "__name__" → mb x = bootBuiltins x) (hlim : s₁.heap.NoLimit) (hg : s₁.gens = #[])
    (ha : s₁.heap.get? a = some { cls := .type "list", data := .seq vs.toArray }) (hi : IntsAre vs ns) (hl : ns.length ≤ sizeLine) (hr : Rm k callerA) (F : ∀ base : Heap, ∃ fd, FOk P w K mg base (L2.CX P w) k fa fd ps sp ∧ BindsTo s₁ fd ⟨[.ref a], []⟩ (ps.zip [.ref a]))
    (hsp : ∀ H : Hp, SqL K H a (ns.map V.int) → sp [.ref a] H (fun v _ => v = .bl true) fun _ _ _ => False) :
    codeAny (model P w) callerA (.call (.ref fa) ⟨[.ref a], []⟩) (fun r s' => r = .ok (.ret (.bool true)) ∧ OldK s₁.heap s'.heap ∧ s'.os = s₁.os ∧ AllBare s'.gens) s₁ := by
  have rv := vals_ints hi
  cases hk : K.lookup a with
  | some o =>
    have e := KX a o hk
    rw [ha] at e
    cases e
    have q : SqL K (fun _ => none) a (ns.map V.int) := .inr ⟨_, vs.toArray, _, hk, rfl, rfl, rfl, by rw [List.size_toArray, hi.length]; exact hl, by simpa using rv⟩
    exact law_at KX hns hb hbb hlim hg ha hr F (fun _ => .inl rfl) (hsp _ q) (fun b u z => nomatch z) (fun b z => absurd rfl z) fun z => absurd rfl z
  | none =>
    let ob : Obj := { cls := .type "list", data := .seq vs.toArray }
    let H : Hp := upd (fun _ => none) a (.frz ob (.lst (ns.map V.int)))
    have at_ : ∀ b, b ≠ a → H b = none := fun b hb => upd_ne hb
    have here : H a = some (.frz ob (.lst (ns.map V.int))) := upd_same
    refine law_at (H := H) KX hns hb hbb hlim hg ha hr F (fun b => ?_) (hsp H (.inl (.inr ⟨ob, here⟩))) (fun b u z => ?_) (fun b z => ?_) fun _ => hk
    · by_cases e : b = a
      · subst e; exact .inr ⟨_, _, here⟩
      · exact .inl (at_ b e)
    · by_cases e : b = a
      · subst e
        rw [here] at z
        cases z
        exact ⟨ha, by rw [List.length_map]; exact hl, vs, _, rv, ha⟩
      · rw [at_ b e] at z
        cases z
    · by_cases e : b = a
      · exact e
      · exact absurd (at_ b e) z
end
end Zd
set_option Elab.async false
set_option linter.all false
set_option maxRecDepth 100000
set_option maxHeartbeats 2000000
/-! The head by one run: the link is checked off the tree that the top leaves. -/
namespace Zd
open PySem PySem.Spec PyProof.Rows L2
/-- the link, over all that is laid -/
def linkG (t : Txt) (g : Addr → Option Obj) (n : Nat) : Bool := linkAll (He.frG g (List.range n)) t
def hookZ (t : Txt) : PySem.W.Hook where
  α := Bool
  obs := fun s => linkG t s.heap.get? s.heap.objs.size
  val := fun _ => true
  says := fun _ h => ∃ K : PySem.W.Frag, K.In h ∧ linkAll K t = true
  of := fun _ _ e => ⟨_, He.frG_in, e⟩
  keeps := fun _ _ _ ⟨K, a, b⟩ k => ⟨K, PySem.W.Frag.In.keeps a k, b⟩
def obZ (t : Txt) (s : PySem.W.SharedT) : Bool := linkG t (HandSHeadRun.getT s) s.n
theorem obZ_eq (t : Txt) (s : PySem.W.SharedT) : obZ t s = (hookZ t).obs s.abs := by
  have e : HandSHeadRun.getT s = s.abs.heap.get? := funext (HandSHeadRun.getT_eq s)
  have e2 : s.abs.heap.objs.size = s.n := PySem.W.absHeap_size s.tree s.n s.life
  show linkG t _ _ = linkG t _ _
  rw [e, e2]
/-- THE END over such a head -/
theorem closesZ {l : PySem.W.OpenLaw} {n fuel : Nat} {q : Program} {loose : List Str} {XP : (Str → Option Value) → Heap → Prop} {d : DefRec} (t : Txt) (li : Nat) (s : Fspec)
    (hn : l.most = some n) (hn2 : n ≤ sizeLine) (hdf : d.params.defaults = []) (hr : Rm (2 * fuel) callerA) (hs : t.specs[li]? = some s) (hname : s.name = d.name) (hms : s.ms = [.scr]) (hdl : s.fn.dflt = []) (hown : s.own = none) (hini : s.fn.ini = false)
    (value : ∀ ns : List Int, ns.length ≤ n → ∃ S, callF (tabOf t) (ftab t.specs) fuel li [.lst (ns.map D.int)] [] = .ok (.bl true) S) :
    PySem.W.WalkO q loose XP (hookZ t).says l.row.toRowW d [] (fun f vs => PySem.call f vs) := by
  refine Att.attach_call hn hdf fun w s₀ s₁ mg mb fa o pm cd doc a vs ns G Y ho hd hcd hmg hobj hints hlen hg => ?_
  obtain ⟨K, KX, hlink⟩ := Y
  let L : Lk := { K := K, ca := cAddr K t, fnm := fnmOf t.names }
  have Z : Sets K t L mg := ⟨hlink, rfl, rfl, rfl, fun x v e => PySem.W.mg_of KX G.T.g e, fun x e => PySem.W.mg_none_of KX G.T.g e⟩
  have K1 := Z.one hs
  have M := mb_of K1.md
  have ea : fa = addrOf K t s := by
    have z := Z.mg_of K1.pl hown
    rw [hname, hmg] at z
    cases z
    rfl
  have np : s.fn.np = 1 := by rw [← M.ms, hms]; rfl
  subst ea
  refine law_run (ps := s.N.take s.fn.np) (k := 2 * fuel) (sp := spOf L (callF (tabOf t) (ftab t.specs) fuel) li s.ms) KX G.T.g G.T.b G.T.builtins G.T.nolimit hg hobj hints (Nat.le_trans hlen hn2) hr (fun base => ?_) fun H hS => ?_
  · obtain ⟨fd, F, hb⟩ := fok_all (P := l.prog) (w := w) (base := base) Z fuel li s hs
    unfold spF at F
    rw [hini] at F
    refine ⟨fd, F, ?_⟩
    obtain ⟨ds, dvs, rv, hbd, rr⟩ := hb s.fn.np (Nat.sub_le _ _) (Nat.le_refl _)
    have e0 := rr wd0
    rw [hdl, List.drop_nil] at e0
    simp only [Reps] at e0
    subst e0
    cases rv
    obtain ⟨_, _, _, _, _, _, _, sc, _, _, _, _, _, _, _, _, _, hsc, _⟩ := K1.ex
    have z := hbd s₁ [.ref a] KX (by rw [List.length_append, List.length_take, Nat.min_eq_left (sb_of hsc).le, np]; rfl)
    rwa [List.append_nil] at z
  · obtain ⟨S, hv⟩ := value ns hlen
    rw [hms]
    exact sp_law rfl (by rw [line_eq]; exact Nat.le_trans hlen hn2) hS hv
end Zd
set_option Elab.async false
set_option linter.all false
set_option maxRecDepth 100000
set_option maxHeartbeats 1000000
/-! Plain facts of data: texts, equality, places. -/
namespace Zd
open PySem
mutual
/-- a bound of the text of a value -/
def D.rz : D → Option Nat
  | .non => some 4
  | .bl _ => some 5
  | .int i => if i.natAbs < 10 ^ 40 then some 41 else none
  | .tup l => (D.rzs l).map (· + 3)
  | .lst l => (D.rzs l).map (· + 2)
  | _ => none
def D.rzs : List D → Option Nat
  | [] => some 0
  | d :: l => match D.rz d, D.rzs l with
    | some a, some b => some (a + 2 + b)
    | _, _ => none
end
mutual
def D.dp : D → Nat
  | .tup l => D.dps l + 1
  | .lst l => D.dps l + 1
  | _ => 0
def D.dps : List D → Nat
  | [] => 0
  | d :: l => max (D.dp d) (D.dps l)
end
theorem textFrom_le : ∀ (ts : List Str) (k : Nat) (acc : Str), (textFrom k acc ts).length ≤ acc.length + piled ts
  | [], k, acc => by show acc.length ≤ acc.length + 0; omega
  | t :: ts, k, acc => by
    show (textFrom (k + 1) (acc ++ (if k > 0 then ", " else "" : String) ++ t) ts).length ≤ _
    refine Nat.le_trans (textFrom_le ts _ _) ?_
    rw [Str.length_append, Str.length_append, piled_cons]
    have : (((if k > 0 then ", " else "" : String) : Str)).length ≤ 2 := by split <;> decide
    omega
theorem listText_le (ts : List Str) : (listText ts).length ≤ piled ts + 2 := by
  unfold listText
  rw [Str.length_append]
  have h := textFrom_le ts 0 "["
  have e1 : ((("[" : String) : Str)).length = 1 := rfl
  have e2 : ((("]" : String) : Str)).length = 1 := rfl
  rw [e1] at h
  rw [e2]
  omega
theorem tupleText_le (ts : List Str) : (tupleText ts).length ≤ piled ts + 3 := by
  unfold tupleText
  rw [Str.length_append, Str.length_append]
  have e1 : ((("(" : String) : Str)).length = 1 := rfl
  have e3 : (((if ts.length == 1 then ",)" else ")" : String) : Str)).length ≤ 2 := by split <;> decide
  rw [e1]
  by_cases h : ts = []
  · subst h
    have : (Str.join ", " ([] : List Str)).length = 0 := rfl
    rw [this]
    omega
  · have := join_length_add ts h
    omega
mutual
theorem rz_ok : ∀ (d : D) (n : Nat), d.rz = some n → ∃ p, d.py = some p ∧ p.showable = true ∧ p.shown.length ≤ n ∧ p.canLay0 = true ∧ p.depth = d.dp
  | .non, n, h => by simp only [D.rz] at h; cases h; exact ⟨.none, rfl, rfl, by decide, rfl, rfl⟩
  | .bl b, n, h => by
    simp only [D.rz] at h
    cases h
    refine ⟨.bool b, rfl, rfl, ?_, rfl, rfl⟩
    cases b <;> decide
  | .int i, n, h => by
    simp only [D.rz] at h
    split at h
    · rename_i hi
      cases h
      refine ⟨.int i, rfl, ?_, ?_, rfl, rfl⟩
      · simp only [PyData.showable, decide_eq_true_eq]
        by_cases z : i.natAbs = 0
        · rw [z]; decide
        · exact (Nat.log2_lt z).mpr (Nat.lt_trans hi (by decide))
      · show (Str.ofString (toString i)).length ≤ 41
        rw [PySem.ofString_length]
        exact int_text_length_le10 (k := 40) (by decide) hi
    · cases h
  | .tup l, n, h => by
    simp only [D.rz] at h
    obtain ⟨m, hm, rfl⟩ := Option.map_eq_some_iff.mp h
    obtain ⟨ps, e1, e2, e3, e4, e5⟩ := rzs_ok l m hm
    refine ⟨.tuple ps, by simp only [D.py, e1], by simp only [PyData.showable]; exact e2, ?_, by simp only [PyData.canLay0]; exact e4, by simp only [PyData.depth, D.dp, e5]⟩
    simp only [PyData.shown]
    exact Nat.le_trans (tupleText_le _) (by omega)
  | .lst l, n, h => by
    simp only [D.rz] at h
    obtain ⟨m, hm, rfl⟩ := Option.map_eq_some_iff.mp h
    obtain ⟨ps, e1, e2, e3, e4, e5⟩ := rzs_ok l m hm
    refine ⟨.list ps, by simp only [D.py, e1], by simp only [PyData.showable]; exact e2, ?_, by simp only [PyData.canLay0]; exact e4, by simp only [PyData.depth, D.dp, e5]⟩
    simp only [PyData.shown]
    exact Nat.le_trans (listText_le _) (by omega)
  | .str _, n, h => by simp only [D.rz] at h; cases h
  | .dic _ _, n, h => by simp only [D.rz] at h; cases h
  | .obj _ _ _, n, h => by simp only [D.rz] at h; cases h
  | .ref _, n, h => by simp only [D.rz] at h; cases h
theorem rzs_ok : ∀ (l : List D) (n : Nat), D.rzs l = some n → ∃ ps, D.pys l = some ps ∧ PyData.showableAll ps = true ∧ piled (PyData.shownAll ps) ≤ n ∧ PyData.canLayAll0 ps = true ∧ PyData.depthAll ps = D.dps l
  | [], n, h => by simp only [D.rzs] at h; cases h; exact ⟨[], rfl, rfl, Nat.le_refl _, rfl, rfl⟩
  | d :: l, n, h => by
    simp only [D.rzs] at h
    split at h
    · rename_i a b ha hb
      cases h
      obtain ⟨p, e1, e2, e3, e4, e5⟩ := rz_ok d a ha
      obtain ⟨ps, q1, q2, q3, q4, q5⟩ := rzs_ok l b hb
      refine ⟨p :: ps, by simp only [D.pys, e1, q1], by simp only [PyData.showableAll, e2, q2, Bool.and_self], ?_, by simp only [PyData.canLayAll0, e4, q4, Bool.and_self], by simp only [PyData.depthAll, D.dps, e5, q5]⟩
      simp only [PyData.shownAll]
      rw [piled_cons]
      omega
    · cases h
end
/-- the text of a value that is small -/
theorem repr_small {d : D} {n : Nat} (h : d.rz = some n) (hn : n ≤ line) (hd : d.dp ≤ 60) : ∃ t, biD .repr [d] = some (.str t) := by
  obtain ⟨p, e1, e2, e3, e4, e5⟩ := rz_ok d n h
  refine ⟨p.shown.cps.toList, ?_⟩
  have e0 : d.pyR = some p := by
    cases d <;> first
      | exact e1
      | (simp [D.py] at e1)
  show (match d.pyR with
    | some p => if p.showable && decide (p.shown.length ≤ line) && decide (p.depth ≤ 60) then some (D.str p.shown.cps.toList) else none
    | none => none) = _
  rw [e0]
  simp only
  rw [if_pos]
  simp only [e2, Bool.true_and, Bool.and_eq_true, decide_eq_true_eq]
  exact ⟨Nat.le_trans e3 hn, by rw [e5]; exact hd⟩
theorem eqP_self {d : D} {p : PyData} (h : d.py = some p) (hs : SeqAt.shaped p = true) : D.eqP d d = some true := by
  unfold D.eqP
  rw [h]
  simp only [hs, Bool.and_self, if_true]
  rw [SeqAt.eqv_refl p (SeqAt.canLay_of_shaped hs)]
theorem eq_small {d : D} {n : Nat} (h : d.rz = some n) (hd : d.dp ≤ 60) : D.eq d d = some true := by
  obtain ⟨p, e1, e2, e3, e4, e5⟩ := rz_ok d n h
  have sh : SeqAt.shaped p = true := by
    unfold SeqAt.shaped
    rw [e4, e5, Bool.true_and, decide_eq_true_eq]
    omega
  cases d with
  | str s => simp only [D.rz] at h; cases h
  | int i => show some (i == i) = some true; simp
  | bl b => show some (b == b) = some true; simp
  | _ => exact eqP_self e1 sh
theorem eq_str (s : List Nat) : D.eq (.str s) (.str s) = some true := by
  show some (s == s) = some true
  simp
end Zd
set_option Elab.async false
set_option linter.all false
set_option maxRecDepth 100000
set_option maxHeartbeats 1000000
/-! The evaluator run by simp: its equations with parts that are locked until their turn. -/
namespace Zd
open PySem
/-- a part that simp leaves alone until its turn -/
inductive Lock {α : Type} (a : α) : Type where
  | mk
def Res.bnd {α β : Type} (r : Res α) (f : α → Store → Res β) (_l : Lock f := .mk) : Res β := r.bind f
def Res.gog (r : Res D) (g : Ev) (f : D → Store → SR) (_l : Lock f := .mk) : SR := r.go g f
/-- what follows a statement -/
def SR.seq (r : SR) (k : Ev → Store → SR) (_l : Lock k := .mk) : SR := match r with
  | .nx g S => k g S
  | r => r
def cifS (o : Option Bool) (a b : SR) (_l : Lock (a, b) := .mk) : SR := match o with
  | some true => a
  | some false => b
  | none => .bad
def cifR {α : Type} (o : Option Bool) (a b : Res α) : Res α := match o with
  | some true => a
  | some false => b
  | none => .bad
def optR {α β : Type} (o : Option α) (f : α → Res β) (_l : Lock f := .mk) : Res β := match o with
  | some a => f a
  | none => .bad
def optS {α : Type} (o : Option α) (f : α → SR) (_l : Lock f := .mk) : SR := match o with
  | some a => f a
  | none => .bad
def Res.gol (r : Res (List D)) (g : Ev) (f : List D → Store → SR) (_l : Lock f := .mk) : SR := match r with
  | .ok a S => f a S
  | .exc e S => .ex e g S
  | .bad => .bad
def slotR (o : Option (Option D)) (S : Store) : Res D := match o with
  | some (some d) => .ok d S
  | _ => .bad
def negD : D → Option D
  | .int i => some (.int (-i))
  | _ => none
def intO : D → Option (Option Int)
  | .int i => some (some i)
  | _ => none
def rngO : D → Option (List D)
  | .int i => if small62 i && decide (i ≤ 16777216) then some (rngD 0 i.toNat) else none
  | _ => none
def rng2O : D → D → Option (List D)
  | .int i, .int j => if small62 i && small62 j && decide (j - i ≤ 16777216) then some (rngD i (j - i).toNat) else none
  | _, _ => none
def zipO (x y : D) : Option (List D) := match x.seq, y.seq with
  | some xs, some ys => some (zipD xs ys)
  | _, _ => none
def itmO : D → Option (List D)
  | .dic ks vs => some (zipD ks vs)
  | _ => none
/-- an instance's class -/
def clsO : D → Option Nat
  | .obj c _ _ => some c
  | _ => none
@[simp] theorem clsO_obj (c : Nat) (ns : List Nat) (vs : List D) : clsO (.obj c ns vs) = some c := (rfl)
def mthR {α : Type} (o : Option Nat) (k : Nat) (r : Res α) (_l : Lock r := .mk) : Res α := match o with
  | some c => if c = k then r else .bad
  | none => .bad
@[simp] theorem mthR_some {α : Type} (k : Nat) (r : Res α) (l : Lock r) : mthR (some k) k r l = r := by unfold mthR; simp
@[simp] theorem its_str (s : List Nat) : (D.str s).its = some (s.map fun c => .str [c]) := (rfl)
@[simp] theorem its_tup (l : List D) : (D.tup l).its = some l := (rfl)
@[simp] theorem its_lst (l : List D) : (D.lst l).its = some l := (rfl)
theorem its_of {d : D} {l : List D} (h : d.seq = some l) : d.its = some l := by cases d <;> first | exact h | cases h
@[simp] theorem bnd_ok {α β : Type} (a : α) (S : Store) (f : α → Store → Res β) (l : Lock f) : (Res.ok a S).bnd f l = f a S := (rfl)
@[simp] theorem bnd_exc {α β : Type} (e : D) (S : Store) (f : α → Store → Res β) (l : Lock f) : (Res.exc e S : Res α).bnd f l = .exc e S := (rfl)
@[simp] theorem bnd_bad {α β : Type} (f : α → Store → Res β) (l : Lock f) : (Res.bad : Res α).bnd f l = .bad := (rfl)
@[simp] theorem gog_ok (a : D) (S : Store) (g : Ev) (f : D → Store → SR) (l : Lock f) : (Res.ok a S).gog g f l = f a S := (rfl)
@[simp] theorem gog_exc (a : D) (S : Store) (g : Ev) (f : D → Store → SR) (l : Lock f) : (Res.exc a S).gog g f l = .ex a g S := (rfl)
@[simp] theorem seq_nx (g : Ev) (S : Store) (k : Ev → Store → SR) (l : Lock k) : (SR.nx g S).seq k l = k g S := (rfl)
@[simp] theorem seq_rt (d : D) (S : Store) (k : Ev → Store → SR) (l : Lock k) : (SR.rt d S).seq k l = .rt d S := (rfl)
@[simp] theorem seq_bk (g : Ev) (S : Store) (k : Ev → Store → SR) (l : Lock k) : (SR.bk g S).seq k l = .bk g S := (rfl)
@[simp] theorem seq_ct (g : Ev) (S : Store) (k : Ev → Store → SR) (l : Lock k) : (SR.ct g S).seq k l = .ct g S := (rfl)
@[simp] theorem seq_ex (e : D) (g : Ev) (S : Store) (k : Ev → Store → SR) (l : Lock k) : (SR.ex e g S).seq k l = .ex e g S := (rfl)
@[simp] theorem seq_bad (k : Ev → Store → SR) (l : Lock k) : SR.bad.seq k l = .bad := (rfl)
@[simp] theorem gol_ok (a : List D) (S : Store) (g : Ev) (f : List D → Store → SR) (l : Lock f) : (Res.ok a S).gol g f l = f a S := (rfl)
@[simp] theorem gol_exc (e : D) (S : Store) (g : Ev) (f : List D → Store → SR) (l : Lock f) : (Res.exc e S).gol g f l = .ex e g S := (rfl)
@[simp] theorem cifS_t (a b : SR) (l : Lock (a, b)) : cifS (some true) a b l = a := (rfl)
@[simp] theorem cifS_f (a b : SR) (l : Lock (a, b)) : cifS (some false) a b l = b := (rfl)
@[simp] theorem cifR_t {α : Type} (a b : Res α) : cifR (some true) a b = a := (rfl)
@[simp] theorem cifR_f {α : Type} (a b : Res α) : cifR (some false) a b = b := (rfl)
@[simp] theorem optR_some {α β : Type} (a : α) (f : α → Res β) (l : Lock f) : optR (some a) f l = f a := (rfl)
@[simp] theorem optS_some {α : Type} (a : α) (f : α → SR) (l : Lock f) : optS (some a) f l = f a := (rfl)
@[simp] theorem slotR_ok (d : D) (S : Store) : slotR (some (some d)) S = .ok d S := (rfl)
@[simp] theorem negD_int (i : Int) : negD (.int i) = some (.int (-i)) := (rfl)
@[simp] theorem intO_int (i : Int) : intO (.int i) = some (some i) := (rfl)
theorem cifR_and (c p : Bool) (S : Store) : cifR (some c) (Res.ok (D.bl p) S) (Res.ok (D.bl c) S) = Res.ok (D.bl (c && p)) S := by cases c <;> rfl
theorem cifR_or (c p : Bool) (S : Store) : cifR (some c) (Res.ok (D.bl c) S) (Res.ok (D.bl p) S) = Res.ok (D.bl (c || p)) S := by cases c <;> rfl
/-! ### turns of comprehensions, over any list -/
def lcM {α : Type} (k : α → Store → Res D) : List α → Store → Res (List D)
  | [], S => .ok [] S
  | x :: xs, S => match k x S with
    | .ok y S1 => (match lcM k xs S1 with
      | .ok ys S2 => .ok (y :: ys) S2
      | _ => .bad)
    | _ => .bad
def lcF {α : Type} (c k : α → Store → Res D) : List α → Store → Res (List D)
  | [], S => .ok [] S
  | x :: xs, S => match c x S with
    | .ok b S0 => (match (rd S0 b).truth with
      | some true => (match k x S0 with
        | .ok y S1 => (match lcF c k xs S1 with
          | .ok ys S2 => .ok (y :: ys) S2
          | _ => .bad)
        | _ => .bad)
      | some false => lcF c k xs S0
      | none => .bad)
    | _ => .bad
/-- rows put into an ordered set, over any list -/
def rcM {α : Type} (k : α → Store → Res D) : List α → List (List (Option Int)) → Store → Res (List (List (Option Int)))
  | [], acc, S => .ok acc S
  | x :: xs, acc, S => match k x S with
    | .ok y S1 => (match rwO y with
      | some r => if acc.length < line then rcM k xs (putR r acc) S1 else .bad
      | none => .bad)
    | _ => .bad
theorem rcM_go (f : Ev → Store → Res D) (t : Tg) (g : Ev) : ∀ (xs : List D) (acc : List (List (Option Int))) (S : Store), rcGo f t g xs acc S = rcM (fun x S => optR (bindT t x g) fun g' => f g' S) xs acc S
  | [], acc, S => rfl
  | x :: xs, acc, S => by
    unfold rcGo rcM
    cases e : bindT t x g with
    | none => rfl
    | some g' =>
      simp only [optR_some]
      cases f g' S with
      | ok y S1 =>
        simp only
        cases rwO y with
        | none => rfl
        | some r => simp only [rcM_go f t g xs _ S1]
      | exc _ _ => rfl
      | bad => rfl
theorem rcM_exc {α : Type} {k : α → Store → Res D} {x : D} {S1 : Store} : ∀ {xs : List α} {acc : List (List (Option Int))} {S : Store}, rcM k xs acc S = .exc x S1 → False
  | [], acc, S, e => by cases e
  | y :: xs, acc, S, e => by
    unfold rcM at e
    split at e
    · split at e
      · split at e
        · exact rcM_exc e
        · cases e
      · cases e
    · cases e
/-- all rows of xs, told by r, put in -/
def putsR (ks acc : List (List (Option Int))) : List (List (Option Int)) := ks.foldl (fun a k => putR k a) acc
theorem putR_len (r : List (Option Int)) (ks : List (List (Option Int))) : (putR r ks).length ≤ ks.length + 1 := by
  unfold putR
  by_cases q : r ∈ ks
  · rw [if_pos q]; omega
  · rw [if_neg q, List.length_append]; exact Nat.le_refl _
theorem rcM_in {α : Type} {k : α → Store → Res D} {r : α → List (Option Int)} {S : Store} : ∀ {xs : List α} {acc : List (List (Option Int))}, (∀ x ∈ xs, k x S = .ok (rwD (r x)) S) → acc.length + xs.length ≤ line → rcM k xs acc S = .ok (putsR (xs.map r) acc) S
  | [], acc, _, _ => rfl
  | x :: xs, acc, h, hl => by
    rw [List.length_cons] at hl
    unfold rcM
    rw [h x List.mem_cons_self]
    simp only [rwO_rwD]
    rw [if_pos (by omega), rcM_in (fun y hy => h y (List.mem_cons_of_mem _ hy)) (by have := putR_len (r x) acc; omega)]
    rfl
theorem keysGo_lcM {f : D → Store → Res D} : ∀ {xs : List D} {S : Store}, keysGo f xs S = lcM f xs S
  | [], S => rfl
  | x :: xs, S => by
    unfold keysGo lcM
    cases f x S with
    | ok y S1 =>
      simp only [keysGo_lcM]
      all_goals (cases lcM f xs S1 <;> rfl)
    | exc _ _ => rfl
    | bad => rfl
theorem lcM_exc {α : Type} {k : α → Store → Res D} {x : D} {S1 : Store} : ∀ {xs : List α} {S : Store}, lcM k xs S = .exc x S1 → False
  | [], S, e => by cases e
  | y :: xs, S, e => by
    unfold lcM at e
    split at e
    · split at e <;> cases e
    · cases e
theorem lcM_go (f : Ev → Store → Res D) (t : Tg) (g : Ev) : ∀ (xs : List D) (S : Store), lcGo f t g xs S = lcM (fun x S => optR (bindT t x g) fun g' => f g' S) xs S
  | [], S => rfl
  | x :: xs, S => by
    unfold lcGo lcM
    cases e : bindT t x g with
    | none => rfl
    | some g' =>
      show (match f g' S with
        | .ok y S1 => (match lcGo f t g xs S1 with
          | .ok ys S2 => Res.ok (y :: ys) S2
          | _ => .bad)
        | _ => .bad) = _
      simp only [optR_some]
      cases f g' S with
      | ok y S1 => simp only [lcM_go f t g xs S1]
      | exc _ _ => rfl
      | bad => rfl
theorem lcF_go (f c : Ev → Store → Res D) (t : Tg) (g : Ev) : ∀ (xs : List D) (S : Store), lciGo f c t g xs S = lcF (fun x S => optR (bindT t x g) fun g' => c g' S) (fun x S => optR (bindT t x g) fun g' => f g' S) xs S
  | [], S => rfl
  | x :: xs, S => by
    unfold lciGo lcF
    cases e : bindT t x g with
    | none => rfl
    | some g' =>
      simp only [optR_some]
      cases c g' S with
      | ok b S0 =>
        simp only
        cases (rd S0 b).truth with
        | none => rfl
        | some q => cases q with
          | false => exact lcF_go f c t g xs S0
          | true =>
            simp only
            cases f g' S0 with
            | ok y S1 =>
              simp only [lcF_go f c t g xs S1]
              all_goals (cases lcF (fun x S => optR (bindT t x g) fun g' => c g' S) (fun x S => optR (bindT t x g) fun g' => f g' S) xs S1 <;> rfl)
            | exc _ _ => rfl
            | bad => rfl
      | exc _ _ => rfl
      | bad => rfl
@[simp] theorem lcM_nil {α : Type} (k : α → Store → Res D) (S : Store) : lcM k [] S = .ok [] S := (rfl)
@[simp] theorem lcF_nil {α : Type} (c k : α → Store → Res D) (S : Store) : lcF c k [] S = .ok [] S := (rfl)
@[simp] theorem lcM_map {α β : Type} (k : β → Store → Res D) (e : α → β) : ∀ (xs : List α) (S : Store), lcM k (xs.map e) S = lcM (fun a S => k (e a) S) xs S
  | [], S => rfl
  | x :: xs, S => by
    rw [List.map_cons]
    unfold lcM
    cases k (e x) S with
    | ok y S1 => simp only [lcM_map k e xs S1]
    | exc _ _ => rfl
    | bad => rfl
@[simp] theorem lcF_map {α β : Type} (c k : β → Store → Res D) (e : α → β) : ∀ (xs : List α) (S : Store), lcF c k (xs.map e) S = lcF (fun a S => c (e a) S) (fun a S => k (e a) S) xs S
  | [], S => rfl
  | x :: xs, S => by
    rw [List.map_cons]
    unfold lcF
    cases c (e x) S with
    | ok b S0 =>
      simp only
      cases (rd S0 b).truth with
      | none => rfl
      | some q => cases q with
        | false => exact lcF_map c k e xs S0
        | true =>
          simp only
          cases k (e x) S0 with
          | ok y S1 => simp only [lcF_map c k e xs S1]
          | exc _ _ => rfl
          | bad => rfl
    | exc _ _ => rfl
    | bad => rfl
theorem lcM_in {α : Type} {k : α → Store → Res D} {h : α → D} {S : Store} : ∀ {xs : List α}, (∀ a, a ∈ xs → k a S = .ok (h a) S) → lcM k xs S = .ok (xs.map h) S
  | [], _ => rfl
  | x :: xs, H => by
    unfold lcM
    rw [H x List.mem_cons_self]
    simp only [lcM_in (xs := xs) fun a m => H a (List.mem_cons_of_mem _ m), List.map_cons]
@[simp] theorem lcM_ok {α : Type} (h : α → D) (xs : List α) (S : Store) : lcM (fun a S => .ok (h a) S) xs S = .ok (xs.map h) S := lcM_in fun _ _ => rfl
theorem lcF_in {α : Type} {c k : α → Store → Res D} {p : α → Bool} {h : α → D} {S : Store} : ∀ {xs : List α}, (∀ a, a ∈ xs → c a S = .ok (.bl (p a)) S ∧ (p a = true → k a S = .ok (h a) S)) → lcF c k xs S = .ok ((xs.filter p).map h) S
  | [], _ => rfl
  | x :: xs, H => by
    obtain ⟨h1, h2⟩ := H x List.mem_cons_self
    have ih := lcF_in (xs := xs) fun a m => H a (List.mem_cons_of_mem _ m)
    unfold lcF
    rw [h1]
    show (match some (p x) with
      | some true => (match k x S with
        | .ok y S1 => (match lcF c k xs S1 with
          | .ok ys S2 => Res.ok (y :: ys) S2
          | _ => .bad)
        | _ => .bad)
      | some false => lcF c k xs S
      | none => .bad) = _
    cases hp : p x with
    | true => simp only [h2 hp, ih]; rw [List.filter_cons_of_pos hp, List.map_cons]
    | false => simp only [ih]; rw [List.filter_cons_of_neg (by rw [hp]; decide)]
@[simp] theorem lcF_ok {α : Type} (p : α → Bool) (h : α → D) (xs : List α) (S : Store) : lcF (fun a S => .ok (.bl (p a)) S) (fun a S => .ok (h a) S) xs S = .ok ((xs.filter p).map h) S := lcF_in fun _ _ => ⟨rfl, fun _ => rfl⟩
theorem lcF_one {α : Type} (p : α → Bool) {c k : α → Store → Res D} {h : α → D} {xs : List α} {S : Store} (h1 : ∀ a, a ∈ xs → c a S = .ok (.bl (p a)) S) (h2 : ∀ a, a ∈ xs → p a = true → k a S = .ok (h a) S) : lcF c k xs S = .ok ((xs.filter p).map h) S := lcF_in fun a m => ⟨h1 a m, h2 a m⟩
/-! ### the equations -/
section
variable (T : Tab) (cf : CF) (g : Ev) (S : Store)
@[simp] theorem y_cst (d : D) : ev T cf (.cst d) g S = .ok d S := (rfl)
@[simp] theorem y_var (i : Nat) : ev T cf (.var i) g S = slotR g[i]? S := by
  show (match g[i]? with | some (some d) => Res.ok d S | _ => .bad) = _
  cases g[i]? with
  | none => rfl
  | some o => cases o <;> rfl
@[simp] theorem y_glob (d : D) : ev T cf (.glob d) g S = .ok d S := (rfl)
@[simp] theorem y_neg (a : DE) : ev T cf (.neg a) g S = (ev T cf a g S).bnd fun x S => lift (negD x) S := by
  show (ev T cf a g S).bind _ = (ev T cf a g S).bind _
  congr 1
  funext x S
  cases x <;> rfl
@[simp] theorem y_nt (a : DE) : ev T cf (.nt a) g S = (ev T cf a g S).bnd fun x S => lift ((rd S x).truth.map fun b => .bl (!b)) S := (rfl)
@[simp] theorem y_bin (o : BO) (a b : DE) : ev T cf (.bin o a b) g S = (ev T cf a g S).bnd fun x S => (ev T cf b g S).bnd fun y S => lift (binD o (rd S x) (rd S y)) S := (rfl)
@[simp] theorem y_cmp (o : CO) (a b : DE) : ev T cf (.cmp o a b) g S = (ev T cf a g S).bnd fun x S => (ev T cf b g S).bnd fun y S => lift ((cmpD o (rd S x) (rd S y)).map D.bl) S := (rfl)
@[simp] theorem y_chn (o p : CO) (a b c : DE) : ev T cf (.chn o p a b c) g S = (ev T cf a g S).bnd fun x S => (ev T cf b g S).bnd fun y S => cifR (cmpD o (rd S x) (rd S y)) ((ev T cf c g S).bnd fun z S => lift ((cmpD p (rd S y) (rd S z)).map D.bl) S) (.ok (.bl false) S) := by
  show (ev T cf a g S).bind _ = (ev T cf a g S).bind _
  congr 1
@[simp] theorem y_and (a b : DE) : ev T cf (.and a b) g S = (ev T cf a g S).bnd fun x S => cifR (rd S x).truth (ev T cf b g S) (.ok x S) := by
  show (ev T cf a g S).bind _ = (ev T cf a g S).bind _
  congr 1
@[simp] theorem y_or (a b : DE) : ev T cf (.or a b) g S = (ev T cf a g S).bnd fun x S => cifR (rd S x).truth (.ok x S) (ev T cf b g S) := by
  show (ev T cf a g S).bind _ = (ev T cf a g S).bind _
  congr 1
@[simp] theorem y_ite (c a b : DE) : ev T cf (.ite c a b) g S = (ev T cf c g S).bnd fun x S => cifR (rd S x).truth (ev T cf a g S) (ev T cf b g S) := by
  show (ev T cf c g S).bind _ = (ev T cf c g S).bind _
  congr 1
@[simp] theorem y_tup (l : DA) : ev T cf (.tup l) g S = (eva T cf l g S).bnd fun xs S => .ok (.tup xs) S := (rfl)
@[simp] theorem y_lst (l : DA) : ev T cf (.lst l) g S = (eva T cf l g S).bnd fun xs S => .ok (.lst xs) S := (rfl)
@[simp] theorem y_tups (l : DL) : ev T cf (.tups l) g S = (evd T cf l g S).bnd fun xs S => if xs.length ≤ line then .ok (.tup xs) S else .bad := (rfl)
@[simp] theorem y_lsts (l : DL) : ev T cf (.lsts l) g S = (evd T cf l g S).bnd fun xs S => if xs.length ≤ line then .ok (.lst xs) S else .bad := (rfl)
@[simp] theorem y_dnil : evd T cf .nil g S = .ok [] S := (rfl)
@[simp] theorem y_done (a : DE) (l : DL) : evd T cf (.one a l) g S = (ev T cf a g S).bnd fun x S => (evd T cf l g S).bnd fun xs S => .ok (x :: xs) S := (rfl)
@[simp] theorem y_dstar (a : DE) (l : DL) : evd T cf (.star a l) g S = (ev T cf a g S).bnd fun x S => (lift (rd S x).seq S).bnd fun ys S => (evd T cf l g S).bnd fun xs S => .ok (ys ++ xs) S := (rfl)
@[simp] theorem y_mth (k f : Nat) (a : DE) (l : DA) : ev T cf (.mth k f a l) g S = (ev T cf a g S).bnd fun x S => mthR (clsO (rd S x)) k ((eva T cf l g S).bnd fun xs S => cf f (x :: xs) S) := by
  show (ev T cf a g S).bind _ = (ev T cf a g S).bind _
  congr 1
  funext x S
  cases rd S x <;> rfl
@[simp] theorem y_new (k f : Nat) (l : DA) : ev T cf (.new k f l) g S = (eva T cf l g S).bnd fun xs S => cf f (.obj k [] [] :: xs) S := (rfl)
def lnR (v : D) (S : Store) : Res D := match v with
  | .int n => if 0 ≤ n ∧ n < 9223372036854775808 then .ok (.int n) S else .bad
  | _ => .bad
@[simp] theorem y_lno (k f : Nat) (a : DE) : ev T cf (.lno k f a) g S = (ev T cf a g S).bnd fun x S => mthR (clsO (rd S x)) k ((cf f [x] S).bnd lnR) := by
  show (ev T cf a g S).bind _ = (ev T cf a g S).bind _
  congr 1
  funext x S
  cases rd S x <;> rfl
def stR (v : D) (S : Store) : Res D := match v with
  | .str s => .ok (.str s) S
  | _ => .bad
@[simp] theorem stR_str (s : List Nat) (S : Store) : stR (.str s) S = .ok (.str s) S := (rfl)
@[simp] theorem y_sto (k f : Nat) (a : DE) : ev T cf (.sto k f a) g S = (ev T cf a g S).bnd fun x S => mthR (clsO (rd S x)) k ((cf f [x] S).bnd stR) := by
  show (ev T cf a g S).bind _ = (ev T cf a g S).bind _
  congr 1
  funext x S
  cases rd S x <;> rfl
def eqR (ng : Bool) (v : D) (S : Store) : Res D := match v with
  | .bl r => .ok (.bl (r != ng)) S
  | _ => .bad
@[simp] theorem eqR_bl (ng r : Bool) (S : Store) : eqR ng (.bl r) S = .ok (.bl (r != ng)) S := (rfl)
def okR {α : Type} (b : Bool) (r : Res α) (_l : Lock r := .mk) : Res α := if b = true then r else .bad
@[simp] theorem okR_true {α : Type} (r : Res α) (l : Lock r) : okR true r l = r := (rfl)
@[simp] theorem eqOk_str (k : Nat) (s : List Nat) : eqOk k (.str s) = true := (rfl)
@[simp] theorem eqOk_tup (k : Nat) (s : List D) : eqOk k (.tup s) = true := (rfl)
@[simp] theorem y_oeq (k f : Nat) (ng : Bool) (a b : DE) : ev T cf (.oeq k f ng a b) g S = (ev T cf a g S).bnd fun x S => (ev T cf b g S).bnd fun y S => mthR (clsO (rd S x)) k (okR (eqOk k (rd S y)) ((cf f [x, y] S).bnd (eqR ng))) := by
  show (ev T cf a g S).bind _ = (ev T cf a g S).bind _
  congr 1
  funext x S
  show (ev T cf b g S).bind _ = (ev T cf b g S).bind _
  congr 1
  funext y S
  cases ex : rd S x with
  | obj c _ _ =>
    show (if c = k ∧ eqOk k (rd S y) = true then _ else _) = (if c = k then (if eqOk k (rd S y) = true then _ else _) else _)
    by_cases h1 : c = k <;> by_cases h2 : eqOk k (rd S y) = true <;> simp [h1, h2] <;> rfl
  | _ => rfl
def fmR (o : Option (List Nat)) (acc : List Nat) (k : List Nat → Res D) : Res D := match o with
  | some t => if acc.length + t.length ≤ line then k (acc ++ t) else .bad
  | none => .bad
theorem fmR_some {t acc : List Nat} {k : List Nat → Res D} (h : acc.length + t.length ≤ line) : fmR (some t) acc k = k (acc ++ t) := if_pos h
@[simp] theorem fmt_str (s : List Nat) : fmtT (.str s) = some s := (rfl)
@[simp] theorem y_fst (l : DA) : ev T cf (.fst l) g S = evf T cf l [] g S := (rfl)
@[simp] theorem f_nil (acc : List Nat) : evf T cf .nil acc g S = .ok (.str acc) S := (rfl)
@[simp] theorem f_cons (a : DE) (l : DA) (acc : List Nat) : evf T cf (.cons a l) acc g S = (ev T cf a g S).bnd fun x S => fmR (fmtT x) acc fun acc => evf T cf l acc g S := (rfl)
@[simp] theorem y_dks (i j : Nat) : ev T cf (.dks i j) g S = match g[j]? with
    | some (some (.dic ks _)) => if (ks.all D.isStr && decide (i < g.length)) = true then .ok (.lst ks) S else .bad
    | _ => .bad := (rfl)
/-! ### ordered sets of rows, sorted by a key -/
@[simp] theorem y_rnw : ev T cf .rnw g S = .ok (.rdc []) S := (rfl)
def rlsR (o : Option (Option D)) (S : Store) : Res D := match o with
  | some (some (.rdc ks)) => .ok (.lst (ks.map rwD)) S
  | _ => .bad
@[simp] theorem rlsR_rdc (ks : List (List (Option Int))) (S : Store) : rlsR (some (some (.rdc ks))) S = .ok (.lst (ks.map rwD)) S := (rfl)
@[simp] theorem y_rls (i : Nat) : ev T cf (.rls i) g S = rlsR g[i]? S := (rfl)
@[simp] theorem y_rcm (e : DE) (t : Tg) (it : DI) : ev T cf (.rcm e t it) g S = (evi T cf it g S).bnd fun xs S => (rcM (fun x S => optR (bindT t x g) fun g' => ev T cf e g' S) xs [] S).bnd fun ks S => .ok (.rdc ks) S := by
  show (evi T cf it g S).bind _ = (evi T cf it g S).bind _
  congr 1
  funext xs S
  rw [rcM_go]
  cases e : rcM (fun x S => optR (bindT t x g) fun g' => ev T cf e g' S) xs [] S with
  | ok ys S => rfl
  | bad => rfl
  | exc x S1 => exact (rcM_exc e).elim
def srkR (cf : CF) (f : Nat) (x : D) (S : Store) : Res D := match x with
  | .lst xs => (lcM (fun y S => cf f [y] S) xs S).bnd fun ks S => lift ((srtKD xs ks).map D.lst) S
  | _ => .bad
@[simp] theorem srkR_lst (f : Nat) (xs : List D) (S : Store) : srkR cf f (.lst xs) S = (lcM (fun y S => cf f [y] S) xs S).bnd fun ks S => lift ((srtKD xs ks).map D.lst) S := (rfl)
@[simp] theorem y_srk (f : Nat) (a : DE) : ev T cf (.srk f a) g S = (ev T cf a g S).bnd fun x S => srkR cf f (rd S x) S := by
  show (ev T cf a g S).bind _ = (ev T cf a g S).bind _
  congr 1
  funext x S
  cases ex : rd S x with
  | lst xs =>
    show (match keysGo (fun y S => cf f [y] S) xs S with
      | .ok ks S1 => lift ((srtKD xs ks).map D.lst) S1
      | _ => .bad) = (lcM (fun y S => cf f [y] S) xs S).bnd _
    rw [keysGo_lcM]
    cases e : lcM (fun y S => cf f [y] S) xs S with
    | ok ys S => rfl
    | bad => rfl
    | exc x S1 => exact (lcM_exc e).elim
  | _ => rfl
@[simp] theorem y_cmt (k f : Nat) (l : DA) : ev T cf (.cmt k f l) g S = (eva T cf l g S).bnd fun xs S => cf f (.non :: xs) S := (rfl)
@[simp] theorem y_nwc (i k f : Nat) (l : DA) : ev T cf (.nwc i k f l) g S = match g[i]? with
    | some (some _) => (eva T cf l g S).bnd fun xs S => cf f (.obj k [] [] :: xs) S
    | _ => .bad := (rfl)
@[simp] theorem y_pl (a : DE) : ev T cf (.pl a) g S = (ev T cf a g S).bnd fun x S => .ok (.ref S.length) (S ++ [x]) := (rfl)
@[simp] theorem y_att (a : DE) (k : Nat) : ev T cf (.att a k) g S = (ev T cf a g S).bnd fun x S => lift (attD T (rd S x) k) S := (rfl)
@[simp] theorem y_ix (a i : DE) : ev T cf (.ix a i) g S = (ev T cf a g S).bnd fun x S => (ev T cf i g S).bnd fun k S => lift (ixD (rd S x) k) S := (rfl)
@[simp] theorem y_slc (a : DE) (lo hi : DO) : ev T cf (.slc a lo hi) g S = (ev T cf a g S).bnd fun x S => (evo T cf lo g S).bnd fun l S => (evo T cf hi g S).bnd fun h S => lift (sliceD (rd S x) l h) S := (rfl)
@[simp] theorem y_rev (a : DE) : ev T cf (.rev a) g S = (ev T cf a g S).bnd fun x S => lift (revD (rd S x)) S := (rfl)
@[simp] theorem y_call (f : Nat) (l : DA) : ev T cf (.call f l) g S = (eva T cf l g S).bnd fun xs S => cf f xs S := (rfl)
@[simp] theorem y_bi (b : BI) (l : DA) : ev T cf (.bi b l) g S = (eva T cf l g S).bnd fun xs S => lift (biD b (xs.map (rd S))) S := (rfl)
@[simp] theorem y_tx (m : TX) (o a : DE) : ev T cf (.tx m o a) g S = (ev T cf o g S).bnd fun x S => match rd S x with
    | .str s => (ev T cf a g S).bnd fun y S => lift (txD m s (rd S y)) S
    | _ => .bad := (rfl)
@[simp] theorem y_dz (a b : DE) : ev T cf (.dz a b) g S = (ev T cf a g S).bnd fun x S => (ev T cf b g S).bnd fun y S => lift (dzD (rd S x) (rd S y)) S := (rfl)
@[simp] theorem y_dsp (l : DA) : ev T cf (.dsp l) g S = (eva T cf l g S).bnd fun xs S => lift ((dspD xs).map fun ps => D.dic (mergeD ps [] []).1 (mergeD ps [] []).2) S := (rfl)
@[simp] theorem y_isi (a : DE) (cs : List Nat) : ev T cf (.isi a cs) g S = (ev T cf a g S).bnd fun x S => lift ((isAny T (rd S x) cs).map D.bl) S := (rfl)
@[simp] theorem y_lc (e : DE) (t : Tg) (it : DI) : ev T cf (.lc e t it) g S = (evi T cf it g S).bnd fun xs S => (lcM (fun x S => optR (bindT t x g) fun g' => ev T cf e g' S) xs S).bnd fun ys S => .ok (.lst ys) S := by
  show (evi T cf it g S).bind _ = (evi T cf it g S).bind _
  congr 1
  funext xs S
  rw [lcM_go]
  cases e : lcM (fun x S => optR (bindT t x g) fun g' => ev T cf e g' S) xs S with
  | ok ys S => rfl
  | bad => rfl
  | exc x S1 =>
    exfalso
    cases xs with
    | nil => cases e
    | cons x xs =>
      unfold lcM at e
      split at e
      · split at e <;> cases e
      · cases e
theorem lcF_exc {α : Type} {c k : α → Store → Res D} {x : D} {S1 : Store} : ∀ {xs : List α} {S : Store}, lcF c k xs S = .exc x S1 → False
  | [], S, e => by cases e
  | y :: xs, S, e => by
    unfold lcF at e
    split at e
    · split at e
      · split at e
        · split at e <;> cases e
        · cases e
      · exact lcF_exc e
      · cases e
    · cases e
@[simp] theorem y_lci (e c : DE) (t : Tg) (it : DI) : ev T cf (.lci e c t it) g S = (evi T cf it g S).bnd fun xs S => (lcF (fun x S => optR (bindT t x g) fun g' => ev T cf c g' S) (fun x S => optR (bindT t x g) fun g' => ev T cf e g' S) xs S).bnd fun ys S => .ok (.lst ys) S := by
  show (evi T cf it g S).bind _ = (evi T cf it g S).bind _
  congr 1
  funext xs S
  rw [lcF_go]
  cases e : lcF (fun x S => optR (bindT t x g) fun g' => ev T cf c g' S) (fun x S => optR (bindT t x g) fun g' => ev T cf e g' S) xs S with
  | ok ys S => rfl
  | bad => rfl
  | exc x S1 => exact (lcF_exc e).elim
@[simp] theorem y_anil : eva T cf .nil g S = .ok [] S := (rfl)
@[simp] theorem y_acons (a : DE) (l : DA) : eva T cf (.cons a l) g S = (ev T cf a g S).bnd fun x S => (eva T cf l g S).bnd fun xs S => .ok (x :: xs) S := (rfl)
@[simp] theorem y_onone : evo T cf .none g S = .ok none S := (rfl)
@[simp] theorem y_osome (a : DE) : evo T cf (.some a) g S = (ev T cf a g S).bnd fun x S => lift (intO x) S := by
  show (ev T cf a g S).bind _ = (ev T cf a g S).bind _
  congr 1
  funext x S
  cases x <;> rfl
@[simp] theorem y_iseq (a : DE) : evi T cf (.seq a) g S = (ev T cf a g S).bnd fun x S => lift x.its S := (rfl)
@[simp] theorem y_irng (a : DE) : evi T cf (.rng a) g S = (ev T cf a g S).bnd fun x S => lift (rngO x) S := by
  show (ev T cf a g S).bind _ = (ev T cf a g S).bind _
  congr 1
  funext x S
  cases x with
  | int i =>
    show (if small62 i && decide (i ≤ 16777216) then Res.ok (rngD 0 i.toNat) S else .bad) = lift (if small62 i && decide (i ≤ 16777216) then some (rngD 0 i.toNat) else none) S
    split <;> rfl
  | _ => rfl
@[simp] theorem y_irng2 (a b : DE) : evi T cf (.rng2 a b) g S = (ev T cf a g S).bnd fun x S => (ev T cf b g S).bnd fun y S => lift (rng2O x y) S := by
  show (ev T cf a g S).bind _ = (ev T cf a g S).bind _
  congr 1
  funext x S
  show (ev T cf b g S).bind _ = (ev T cf b g S).bind _
  congr 1
  funext y S
  cases x with
  | int i =>
    cases y with
    | int j =>
      show (if small62 i && small62 j && decide (j - i ≤ 16777216) then Res.ok (rngD i (j - i).toNat) S else .bad) = lift (if small62 i && small62 j && decide (j - i ≤ 16777216) then some (rngD i (j - i).toNat) else none) S
      split <;> rfl
    | _ => rfl
  | _ => rfl
@[simp] theorem y_izip (a b : DE) : evi T cf (.zip a b) g S = (ev T cf a g S).bnd fun x S => (ev T cf b g S).bnd fun y S => lift (zipO x y) S := by
  show (ev T cf a g S).bind _ = (ev T cf a g S).bind _
  congr 1
  funext x S
  show (ev T cf b g S).bind _ = (ev T cf b g S).bind _
  congr 1
  funext y S
  unfold zipO
  cases x.seq with
  | none => rfl
  | some xs => cases y.seq <;> rfl
@[simp] theorem y_ienu (a : DE) : evi T cf (.enu a) g S = (ev T cf a g S).bnd fun x S => lift (x.seq.map (enuD 0)) S := (rfl)
@[simp] theorem z_asg (t : Tg) (e : DE) : exs T cf (.asg t e) g S = (ev T cf e g S).gog g fun x S => optS (bindT t x g) fun g' => .nx g' S := by
  show (ev T cf e g S).go g _ = (ev T cf e g S).go g _
  congr 1
  funext x S
  cases bindT t x g <;> rfl
@[simp] theorem z_own (i : Nat) (e : DE) : exs T cf (.own i e) g S = (ev T cf e g S).gog g fun x S => .nx (g.set i (some x)) S := (rfl)
@[simp] theorem z_par (i j : Nat) (oi oj : Bool) (a b : DE) : exs T cf (.par i j oi oj a b) g S = (ev T cf a g S).gog g fun x S => (ev T cf b g S).gog g fun y S => .nx ((g.set i (some x)).set j (some y)) S := (rfl)
@[simp] theorem z_ex (e : DE) : exs T cf (.ex e) g S = (ev T cf e g S).gog g fun _ S => .nx g S := (rfl)
def appO (o : Option (Option D)) (v : D) : Option D := match o with
  | some (some (.lst l)) => if l.length < line then some (.lst (l ++ [v])) else none
  | _ => none
@[simp] theorem z_iff (c : DE) (s u : DB) : exs T cf (.iff c s u) g S = (ev T cf c g S).gog g fun x S => cifS (rd S x).truth (exb T cf s g S) (exb T cf u g S) := by
  show (ev T cf c g S).go g _ = (ev T cf c g S).go g _
  congr 1
@[simp] theorem z_fr (t : Tg) (it : DI) (s : DB) : exs T cf (.fr t it s) g S = (evi T cf it g S).gol g fun xs S => frGo (exb T cf s) t xs g S := by
  show (match evi T cf it g S with | .ok xs S => frGo (exb T cf s) t xs g S | .exc e S => .ex e g S | .bad => .bad) = _
  cases evi T cf it g S <;> rfl
@[simp] theorem z_ret (e : DE) : exs T cf (.ret e) g S = (ev T cf e g S).gog g fun x S => .rt x S := (rfl)
@[simp] theorem z_retn : exs T cf .retn g S = .rt .non S := (rfl)
@[simp] theorem z_brk : exs T cf .brk g S = .bk g S := (rfl)
@[simp] theorem z_cnt : exs T cf .cnt g S = .ct g S := (rfl)
@[simp] theorem z_pas : exs T cf .pas g S = .nx g S := (rfl)
@[simp] theorem z_frz (x : Nat) : exs T cf (.frz x) g S = .nx g S := (rfl)
@[simp] theorem z_fgt (x : Nat) : exs T cf (.fgt x) g S = .nx (g.set x none) S := (rfl)
@[simp] theorem z_nil : exb T cf .nil g S = .nx g S := (rfl)
@[simp] theorem z_cons (s : DS) (b : DB) : exb T cf (.cons s b) g S = (exs T cf s g S).seq fun g S => exb T cf b g S := by
  show (match exs T cf s g S with | .nx g1 S1 => exb T cf b g1 S1 | r => r) = _
  cases exs T cf s g S <;> rfl
end
/-- x.append(e), by the slot -/
theorem z_app {T : Tab} {cf : CF} {g : Ev} {S : Store} (x : Nat) (e : DE) : exs T cf (.app x e) g S = (match g[x]? with
    | some (some (.lst l)) => (ev T cf e g S).go g fun v S => if l.length < line then SR.nx (g.set x (some (.lst (l ++ [v])))) S else .bad
    | _ => .bad) := rfl
theorem call_out {T : Tab} {FT : Nat → Option Fn} {n f : Nat} {xs : List D} {S : Store} : callF T FT (n + 1) f xs S = match FT f with | none => .bad | some fn => runFn T (callF T FT n) fn xs S := rfl
/-- d.update(e), d[k] = True, by the slot -/
theorem z_rup {T : Tab} {cf : CF} {g : Ev} {S : Store} (x : Nat) (e : DE) : exs T cf (.rup x e) g S = (match g[x]? with
    | some (some (.rdc ks)) => (ev T cf e g S).go g fun v S => (match v with
      | .rdc ms => if (!ks.isEmpty || decide (ms.length ≤ 1)) && decide (ks.length + ms.length ≤ line) then SR.nx (g.set x (some (.rdc (ms.foldl (fun a k => putR k a) ks)))) S else .bad
      | _ => .bad)
    | _ => .bad) := rfl
end Zd
set_option Elab.async false
set_option linter.all false
set_option maxRecDepth 100000
set_option maxHeartbeats 1000000
/-! Loops of the evaluator. -/
namespace Zd
open PySem
theorem lc_map {f : Ev → Store → Res D} {t : Tg} {g : Ev} {S : Store} (h : D → D) : ∀ {xs : List D}, (∀ x, x ∈ xs → ∃ g', bindT t x g = some g' ∧ f g' S = .ok (h x) S) → lcGo f t g xs S = .ok (xs.map h) S
  | [], _ => rfl
  | x :: xs, H => by
    obtain ⟨g', h1, h2⟩ := H x List.mem_cons_self
    have ih := lc_map h (f := f) (t := t) (g := g) (S := S) (xs := xs) fun y hy => H y (List.mem_cons_of_mem _ hy)
    unfold lcGo
    rw [h1]
    simp only [h2, ih, List.map_cons]
theorem lci_map {f c : Ev → Store → Res D} {t : Tg} {g : Ev} {S : Store} (h : D → D) (p : D → Bool) : ∀ {xs : List D}, (∀ x, x ∈ xs → ∃ g' b, bindT t x g = some g' ∧ c g' S = .ok b S ∧ (rd S b).truth = some (p x) ∧ (p x = true → f g' S = .ok (h x) S)) → lciGo f c t g xs S = .ok ((xs.filter p).map h) S
  | [], _ => rfl
  | x :: xs, H => by
    obtain ⟨g', b, h1, h2, h3, h4⟩ := H x List.mem_cons_self
    have ih := lci_map h p (f := f) (c := c) (t := t) (g := g) (S := S) (xs := xs) fun y hy => H y (List.mem_cons_of_mem _ hy)
    unfold lciGo
    rw [h1]
    simp only [h2, h3]
    cases hp : p x with
    | true => simp only [h4 hp, ih]; rw [List.filter_cons_of_pos hp, List.map_cons]
    | false => simp only [ih]; rw [List.filter_cons_of_neg (by rw [hp]; decide)]
/-- a comprehension whose turns change the store -/
theorem lc_out {f : Ev → Store → Res D} {t : Tg} {g : Ev} (G : Store → Prop) (P : D → D → Prop) : ∀ {xs : List D} {S : Store}, G S → (∀ x, x ∈ xs → ∀ S, G S → ∃ g' y S', bindT t x g = some g' ∧ f g' S = .ok y S' ∧ G S' ∧ P x y) →
    ∃ ys S', lcGo f t g xs S = .ok ys S' ∧ G S' ∧ ys.length = xs.length ∧ ∀ y, y ∈ ys → ∃ x, x ∈ xs ∧ P x y
  | [], S, hG, _ => ⟨[], S, rfl, hG, rfl, fun y h => nomatch h⟩
  | x :: xs, S, hG, H => by
    obtain ⟨g', y, S', h1, h2, h3, h4⟩ := H x List.mem_cons_self S hG
    obtain ⟨ys, S2, q1, q2, q3, q4⟩ := lc_out G P (f := f) (t := t) (g := g) (xs := xs) h3 fun z hz => H z (List.mem_cons_of_mem _ hz)
    refine ⟨y :: ys, S2, ?_, q2, by rw [List.length_cons, List.length_cons, q3], fun z hz => ?_⟩
    · unfold lcGo
      rw [h1]
      simp only [h2, q1]
    · rcases List.mem_cons.mp hz with rfl | hz
      · exact ⟨x, List.mem_cons_self, h4⟩
      · obtain ⟨w, w1, w2⟩ := q4 z hz
        exact ⟨w, List.mem_cons_of_mem _ w1, w2⟩
/-- a loop, by what is true of what is left -/
theorem fr_ind {f : Ev → Store → SR} {t : Tg} (P : List D → Ev → Store → Prop) (R : SR → Prop) (nil : ∀ g S, P [] g S → R (.nx g S))
    (step : ∀ x xs g S, P (x :: xs) g S → ∃ g', bindT t x g = some g' ∧ ((∃ g1 S1, (f g' S = .nx g1 S1 ∨ f g' S = .ct g1 S1) ∧ P xs g1 S1) ∨ (∃ g1 S1, f g' S = .bk g1 S1 ∧ R (.nx g1 S1)) ∨ ∃ d S1, f g' S = .rt d S1 ∧ R (.rt d S1))) : ∀ {xs : List D} {g : Ev} {S : Store}, P xs g S → R (frGo f t xs g S)
  | [], g, S, h => nil g S h
  | x :: xs, g, S, h => by
    obtain ⟨g', h1, h2⟩ := step x xs g S h
    unfold frGo
    rw [h1]
    simp only
    rcases h2 with ⟨g1, S1, e | e, h3⟩ | ⟨g1, S1, e, h3⟩ | ⟨d, S1, e, h3⟩
    · rw [e]; exact fr_ind P R nil step h3
    · rw [e]; exact fr_ind P R nil step h3
    · rw [e]; exact h3
    · rw [e]; exact h3
/-! the evaluator, node by node -/
section
variable (T : Tab) (cf : CF) (g : Ev) (S : Store)
theorem e_cst (d : D) : ev T cf (.cst d) g S = (.ok d S) := rfl
theorem e_var (i : Nat) : ev T cf (.var i) g S = ((match g[i]? with | some (some d) => Res.ok d S | _ => .bad)) := rfl
theorem e_glob (d : D) : ev T cf (.glob d) g S = (.ok d S) := rfl
theorem e_neg (a : DE) : ev T cf (.neg a) g S = ((ev T cf a g S).bind fun x S => match x with | .int i => .ok (.int (-i)) S | _ => .bad) := rfl
theorem e_nt (a : DE) : ev T cf (.nt a) g S = ((ev T cf a g S).bind fun x S => lift ((rd S x).truth.map fun b => .bl (!b)) S) := rfl
theorem e_bin (o : BO) (a b : DE) : ev T cf (.bin o a b) g S = ((ev T cf a g S).bind fun x S => (ev T cf b g S).bind fun y S => lift (binD o (rd S x) (rd S y)) S) := rfl
theorem e_cmp (o : CO) (a b : DE) : ev T cf (.cmp o a b) g S = ((ev T cf a g S).bind fun x S => (ev T cf b g S).bind fun y S => lift ((cmpD o (rd S x) (rd S y)).map D.bl) S) := rfl
theorem e_chn (o p : CO) (a b c : DE) : ev T cf (.chn o p a b c) g S = ((ev T cf a g S).bind fun x S => (ev T cf b g S).bind fun y S => match cmpD o (rd S x) (rd S y) with | some true => (ev T cf c g S).bind fun z S => lift ((cmpD p (rd S y) (rd S z)).map D.bl) S | some false => .ok (.bl false) S | none => .bad) := rfl
theorem e_and (a b : DE) : ev T cf (.and a b) g S = ((ev T cf a g S).bind fun x S => match (rd S x).truth with | some true => ev T cf b g S | some false => .ok x S | none => .bad) := rfl
theorem e_or (a b : DE) : ev T cf (.or a b) g S = ((ev T cf a g S).bind fun x S => match (rd S x).truth with | some true => .ok x S | some false => ev T cf b g S | none => .bad) := rfl
theorem e_ite (c a b : DE) : ev T cf (.ite c a b) g S = ((ev T cf c g S).bind fun x S => match (rd S x).truth with | some true => ev T cf a g S | some false => ev T cf b g S | none => .bad) := rfl
theorem e_tup (l : DA) : ev T cf (.tup l) g S = ((eva T cf l g S).bind fun xs S => .ok (.tup xs) S) := rfl
theorem e_lst (l : DA) : ev T cf (.lst l) g S = ((eva T cf l g S).bind fun xs S => .ok (.lst xs) S) := rfl
theorem e_pl (a : DE) : ev T cf (.pl a) g S = ((ev T cf a g S).bind fun x S => .ok (.ref S.length) (S ++ [x])) := rfl
theorem e_att (a : DE) (k : Nat) : ev T cf (.att a k) g S = ((ev T cf a g S).bind fun x S => lift (attD T (rd S x) k) S) := rfl
theorem e_ix (a i : DE) : ev T cf (.ix a i) g S = ((ev T cf a g S).bind fun x S => (ev T cf i g S).bind fun k S => lift (ixD (rd S x) k) S) := rfl
theorem e_slc (a : DE) (lo hi : DO) : ev T cf (.slc a lo hi) g S = ((ev T cf a g S).bind fun x S => (evo T cf lo g S).bind fun l S => (evo T cf hi g S).bind fun h S => lift (sliceD (rd S x) l h) S) := rfl
theorem e_rev (a : DE) : ev T cf (.rev a) g S = ((ev T cf a g S).bind fun x S => lift (revD (rd S x)) S) := rfl
theorem e_call (f : Nat) (l : DA) : ev T cf (.call f l) g S = ((eva T cf l g S).bind fun xs S => cf f xs S) := rfl
theorem e_bi (b : BI) (l : DA) : ev T cf (.bi b l) g S = ((eva T cf l g S).bind fun xs S => lift (biD b (xs.map (rd S))) S) := rfl
theorem e_isi (a : DE) (cs : List Nat) : ev T cf (.isi a cs) g S = ((ev T cf a g S).bind fun x S => lift ((isAny T (rd S x) cs).map D.bl) S) := rfl
theorem e_lc (e : DE) (t : Tg) (it : DI) : ev T cf (.lc e t it) g S = ((evi T cf it g S).bind fun xs S => match lcGo (ev T cf e) t g xs S with | .ok ys S => .ok (.lst ys) S | _ => .bad) := rfl
theorem e_lci (e c : DE) (t : Tg) (it : DI) : ev T cf (.lci e c t it) g S = ((evi T cf it g S).bind fun xs S => match lciGo (ev T cf e) (ev T cf c) t g xs S with | .ok ys S => .ok (.lst ys) S | _ => .bad) := rfl
theorem x_asg (t : Tg) (e : DE) : exs T cf (.asg t e) g S = ((ev T cf e g S).go g fun x S => match bindT t x g with | some g' => .nx g' S | none => .bad) := rfl
theorem x_own (i : Nat) (e : DE) : exs T cf (.own i e) g S = ((ev T cf e g S).go g fun x S => .nx (g.set i (some x)) S) := rfl
theorem x_par (i j : Nat) (oi oj : Bool) (a b : DE) : exs T cf (.par i j oi oj a b) g S = ((ev T cf a g S).go g fun x S => (ev T cf b g S).go g fun y S => .nx ((g.set i (some x)).set j (some y)) S) := rfl
theorem x_ex (e : DE) : exs T cf (.ex e) g S = ((ev T cf e g S).go g fun _ S => .nx g S) := rfl
theorem x_app (x : Nat) (e : DE) : exs T cf (.app x e) g S = ((match g[x]? with | some (some (.lst l)) => (ev T cf e g S).go g fun v S => if l.length < line then SR.nx (g.set x (some (.lst (l ++ [v])))) S else .bad | _ => .bad)) := rfl
theorem x_iff (c : DE) (s u : DB) : exs T cf (.iff c s u) g S = ((ev T cf c g S).go g fun x S => match (rd S x).truth with | some true => exb T cf s g S | some false => exb T cf u g S | none => .bad) := rfl
theorem x_wh (c : DE) (s : DB) : exs T cf (.wh c s) g S = (whGo (ev T cf c) (exb T cf s) wfuel g S) := rfl
theorem x_fr (t : Tg) (it : DI) (s : DB) : exs T cf (.fr t it s) g S = ((match evi T cf it g S with | .ok xs S => frGo (exb T cf s) t xs g S | .exc e S => .ex e g S | .bad => .bad)) := rfl
theorem x_ret (e : DE) : exs T cf (.ret e) g S = ((ev T cf e g S).go g fun x S => .rt x S) := rfl
theorem x_retn  : exs T cf (.retn) g S = (.rt .non S) := rfl
theorem x_brk  : exs T cf (.brk) g S = (.bk g S) := rfl
theorem x_cnt  : exs T cf (.cnt) g S = (.ct g S) := rfl
theorem x_pas  : exs T cf (.pas) g S = (.nx g S) := rfl
theorem x_frz (x : Nat) : exs T cf (.frz x) g S = (.nx g S) := rfl
theorem x_rpop (o : DE) : exs T cf (.rpop o) g S = ((ev T cf o g S).go g fun r S => match r, rd S r with | .ref n, .lst l => if l = [] then .bad else .nx g (S.set n (.lst l.dropLast)) | _, _ => .bad) := rfl
theorem x_rpopv (x : Nat) (o : DE) : exs T cf (.rpopv x o) g S = ((ev T cf o g S).go g fun r S => match r, rd S r with | .ref n, .lst l => (match l.getLast? with | some v => .nx (g.set x (some v)) (S.set n (.lst l.dropLast)) | none => .bad) | _, _ => .bad) := rfl
theorem a_nil' : eva T cf .nil g S = .ok [] S := rfl
theorem a_cons' (a : DE) (l : DA) : eva T cf (.cons a l) g S = ((ev T cf a g S).bind fun x S => (eva T cf l g S).bind fun xs S => .ok (x :: xs) S) := rfl
theorem o_none' : evo T cf .none g S = .ok none S := rfl
theorem o_some' (a : DE) : evo T cf (.some a) g S = ((ev T cf a g S).bind fun x S => match x with | .int i => .ok (some i) S | _ => .bad) := rfl
theorem i_seq' (a : DE) : evi T cf (.seq a) g S = ((ev T cf a g S).bind fun x S => lift x.its S) := rfl
theorem i_rng' (a : DE) : evi T cf (.rng a) g S = ((ev T cf a g S).bind fun x S => match x with | .int i => if small62 i && decide (i ≤ 16777216) then .ok (rngD 0 i.toNat) S else .bad | _ => .bad) := rfl
theorem i_zip' (a b : DE) : evi T cf (.zip a b) g S = ((ev T cf a g S).bind fun x S => (ev T cf b g S).bind fun y S => match x.seq, y.seq with | some xs, some ys => .ok (zipD xs ys) S | _, _ => .bad) := rfl
theorem i_enu' (a : DE) : evi T cf (.enu a) g S = ((ev T cf a g S).bind fun x S => lift (x.seq.map (enuD 0)) S) := rfl
theorem b_nil' : exb T cf .nil g S = .nx g S := rfl
theorem b_cons' (s : DS) (b : DB) : exb T cf (.cons s b) g S = (match exs T cf s g S with | .nx g1 S1 => exb T cf b g1 S1 | r => r) := rfl
end
theorem b_step {T : Tab} {cf : CF} {s : DS} {b : DB} {g g1 : Ev} {S S1 : Store} (h : exs T cf s g S = .nx g1 S1) : exb T cf (.cons s b) g S = exb T cf b g1 S1 := by
  rw [b_cons', h]
theorem b_ret {T : Tab} {cf : CF} {s : DS} {b : DB} {g : Ev} {S S1 : Store} {d : D} (h : exs T cf s g S = .rt d S1) : exb T cf (.cons s b) g S = .rt d S1 := by
  rw [b_cons', h]
theorem s_asg1 {T : Tab} {cf : CF} {i : Nat} {e : DE} {g : Ev} {S S1 : Store} {d : D} (h : ev T cf e g S = .ok d S1) : exs T cf (.asg (.one i) e) g S = .nx (g.set i (some d)) S1 := by
  rw [x_asg, h]
  rfl
theorem s_own1 {T : Tab} {cf : CF} {i : Nat} {e : DE} {g : Ev} {S S1 : Store} {d : D} (h : ev T cf e g S = .ok d S1) : exs T cf (.own i e) g S = .nx (g.set i (some d)) S1 := by
  rw [x_own, h]
  rfl
theorem s_ret1 {T : Tab} {cf : CF} {e : DE} {g : Ev} {S S1 : Store} {d : D} (h : ev T cf e g S = .ok d S1) : exs T cf (.ret e) g S = .rt d S1 := by
  rw [x_ret, h]
  rfl
theorem s_fr1 {T : Tab} {cf : CF} {t : Tg} {it : DI} {s : DB} {g : Ev} {S S1 : Store} {xs : List D} (h : evi T cf it g S = .ok xs S1) : exs T cf (.fr t it s) g S = frGo (exb T cf s) t xs g S1 := by
  rw [x_fr, h]
theorem s_iff1 {T : Tab} {cf : CF} {c : DE} {s u : DB} {g : Ev} {S S1 : Store} {b : Bool} (h : ev T cf c g S = .ok (.bl b) S1) : exs T cf (.iff c s u) g S = if b = true then exb T cf s g S1 else exb T cf u g S1 := by
  rw [x_iff, h]
  cases b <;> rfl
def fin0 : SR → Res D
  | .nx _ S => .ok .non S
  | .rt d S => .ok d S
  | .ex e _ S => .exc e S
  | _ => .bad
@[simp] theorem fin0_rt (d : D) (S : Store) : fin0 (.rt d S) = .ok d S := (rfl)
@[simp] theorem fin0_nx (g : Ev) (S : Store) : fin0 (.nx g S) = .ok .non S := (rfl)
section
variable (S : Store) (l m : List D) (i j : Int) (s t : List Nat) (b c : Bool) (x y : D)
@[simp] theorem rd_non : rd S .non = .non := (rfl)
@[simp] theorem rd_bl : rd S (.bl b) = .bl b := (rfl)
@[simp] theorem rd_int : rd S (.int i) = .int i := (rfl)
@[simp] theorem rd_str : rd S (.str s) = .str s := (rfl)
@[simp] theorem rd_tup : rd S (.tup l) = .tup l := (rfl)
@[simp] theorem rd_lst : rd S (.lst l) = .lst l := (rfl)
@[simp] theorem seq_tup : D.seq (.tup l) = some l := (rfl)
@[simp] theorem seq_lst : D.seq (.lst l) = some l := (rfl)
@[simp] theorem bi_tupL : biD .tuple [.lst l] = some (.tup l) := (rfl)
@[simp] theorem bi_tupT : biD .tuple [.tup l] = some (.tup l) := (rfl)
@[simp] theorem bi_lstL : biD .list [.lst l] = some (.lst l) := (rfl)
@[simp] theorem bi_lstT : biD .list [.tup l] = some (.lst l) := (rfl)
@[simp] theorem bi_lenL : biD .len [.lst l] = some (.int l.length) := (rfl)
@[simp] theorem bi_lenT : biD .len [.tup l] = some (.int l.length) := (rfl)
@[simp] theorem bi_intI : biD .int [.int i] = some (.int i) := (rfl)
@[simp] theorem bi_absI : biD .abs [.int i] = some (.int (if i < 0 then -i else i)) := (rfl)
@[simp] theorem bin_add : binD .add (.int i) (.int j) = some (.int (i + j)) := (rfl)
@[simp] theorem bin_sub : binD .sub (.int i) (.int j) = some (.int (i - j)) := (rfl)
@[simp] theorem truth_bl : D.truth (.bl b) = some b := (rfl)
@[simp] theorem truth_non : D.truth .non = some false := (rfl)
@[simp] theorem cmp_eqI : cmpD .eq (.int i) (.int j) = some (i == j) := (rfl)
@[simp] theorem cmp_neI : cmpD .ne (.int i) (.int j) = some (!(i == j)) := (rfl)
@[simp] theorem cmp_ltI : cmpD .lt (.int i) (.int j) = some (decide (i < j)) := (rfl)
@[simp] theorem cmp_leI : cmpD .le (.int i) (.int j) = some (decide (i ≤ j)) := (rfl)
@[simp] theorem cmp_gtI : cmpD .gt (.int i) (.int j) = some (decide (j < i)) := (rfl)
@[simp] theorem cmp_geI : cmpD .ge (.int i) (.int j) = some (decide (j ≤ i)) := (rfl)
@[simp] theorem cmp_isN0 : cmpD .isN .non x = some true := (rfl)
@[simp] theorem cmp_isN1 : cmpD .isN (.int i) x = some false := (rfl)
@[simp] theorem cmp_notN0 : cmpD .notN .non x = some false := (rfl)
@[simp] theorem cmp_notN1 : cmpD .notN (.int i) x = some true := (rfl)
end
/-! ### the deals' store: the cells at 0, the deal at 1 -/
def St (cs : List Int) (z : Int) : Store := [.lst (cs.map D.int), .lst [.ref 0, .int z]]
structure Gd (S : Store) : Prop where
  ex : ∃ cs z, S = St cs z ∧ (∀ c, c ∈ cs → 0 ≤ c) ∧ cs.length ≤ 100 ∧ 0 ≤ z ∧ z < 18446744073709551616
/-- a value comes, and a deal's store -/
def Out (r : Res D) (P : D → Prop) : Prop := ∃ d S', r = .ok d S' ∧ Gd S' ∧ P d
theorem pys_ints : ∀ (cs : List Int), D.pys (cs.map D.int) = some (cs.map PyData.int)
  | [] => rfl
  | c :: cs => by simp only [List.map_cons, D.pys, D.py, pys_ints cs]
theorem lay_ints : ∀ (cs : List Int), PyData.canLayAll0 (cs.map PyData.int) = true
  | [] => rfl
  | c :: cs => by simp only [List.map_cons, PyData.canLayAll0, PyData.canLay0, lay_ints cs, Bool.and_self]
theorem dep_ints : ∀ (cs : List Int), PyData.depthAll (cs.map PyData.int) = 0
  | [] => rfl
  | c :: cs => by simp only [List.map_cons, PyData.depthAll, PyData.depth, dep_ints cs, Nat.max_self]
theorem eq_nil_ints (cs : List Int) : D.eq (.lst (cs.map D.int)) (.lst []) = some cs.isEmpty := by
  show D.eqP (.lst (cs.map D.int)) (.lst []) = _
  unfold D.eqP
  simp only [D.py, pys_ints, D.pys]
  have s1 : SeqAt.shaped (.list (cs.map PyData.int)) = true := by
    unfold SeqAt.shaped
    simp only [PyData.canLay0, PyData.depth, lay_ints, dep_ints, Bool.true_and, decide_eq_true_eq]
    omega
  have s2 : SeqAt.shaped (.list []) = true := by decide
  rw [s1, s2]
  cases cs <;> rfl
@[simp] theorem ne_nil_ints (cs : List Int) : cmpD .ne (.lst (cs.map D.int)) (.lst []) = some (!cs.isEmpty) := by
  show (D.eq _ _).map not = _
  rw [eq_nil_ints]
  rfl
@[simp] theorem St0 (cs : List Int) (z : Int) : rd (St cs z) (.ref 0) = .lst (cs.map D.int) := (rfl)
@[simp] theorem St1 (cs : List Int) (z : Int) : rd (St cs z) (.ref 1) = .lst [.ref 0, .int z] := (rfl)
@[simp] theorem ix_deal0 (z : Int) : ixD (.lst [.ref 0, .int z]) (.int 0) = some (.ref 0) := (rfl)
@[simp] theorem ix_deal1 (z : Int) : ixD (.lst [.ref 0, .int z]) (.int 1) = some (.int z) := (rfl)
theorem ix_last (cs : List Int) (x : Int) : ixD (.lst ((cs ++ [x]).map D.int)) (.int (-1)) = some (.int x) := by
  show (ixPlace ((cs ++ [x]).map D.int).length (-1)).bind (fun j => ((cs ++ [x]).map D.int)[j]?) = _
  have e : ixPlace ((cs ++ [x]).map D.int).length (-1) = some cs.length := by
    unfold ixPlace
    rw [if_neg (by decide), if_pos (by simp; omega)]
    congr 1
    simp
    omega
  rw [e]
  simp
@[simp] theorem St_set0 (cs ds : List Int) (z : Int) : (St cs z).set 0 (.lst (ds.map D.int)) = St ds z := (rfl)
@[simp] theorem St_set1 (cs : List Int) (z y : Int) : (St cs z).set 1 (.lst [.ref 0, .int y]) = St cs y := (rfl)
end Zd
set_option Elab.async false
set_option linter.all false
set_option maxRecDepth 100000
set_option maxHeartbeats 1000000
/-! The deals of the laws: a list of cells and a number, both changed in place. -/
namespace Zd
open PySem
section
variable {T : Tab} {cf : CF} {g : Ev} {i : Nat} {cs ds : List Int} {z x y : Int} {S : Store}
abbrev dcs (i : Nat) : DE := .ix (.var i) (.cst (.int 0))
theorem var_of {d : D} (hg : g[i]? = some (some d)) : ev T cf (.var i) g S = .ok d S := by
  rw [e_var, hg]
theorem d_cs (hg : g[i]? = some (some (.ref 1))) : ev T cf (dcs i) g (St cs z) = .ok (.ref 0) (St cs z) := by
  rw [e_ix, var_of hg]
  rfl
theorem d_z (hg : g[i]? = some (some (.ref 1))) : ev T cf (.ix (.var i) (.cst (.int 1))) g (St cs z) = .ok (.int z) (St cs z) := by
  rw [e_ix, var_of hg]
  rfl
theorem d_ne (hg : g[i]? = some (some (.ref 1))) : ev T cf (.cmp .ne (dcs i) (.lst .nil)) g (St cs z) = .ok (.bl (!cs.isEmpty)) (St cs z) := by
  rw [e_cmp, d_cs hg, Res.bind_ok, e_lst, a_nil', Res.bind_ok, Res.bind_ok, St0]
  show lift ((cmpD .ne (.lst (cs.map D.int)) (.lst [])).map D.bl) _ = _
  rw [ne_nil_ints]
  rfl
theorem d_last (hg : g[i]? = some (some (.ref 1))) : ev T cf (.cmp .eq (.ix (dcs i) (.neg (.cst (.int 1)))) (.cst (.int 0))) g (St (ds ++ [x]) z) = .ok (.bl (x == 0)) (St (ds ++ [x]) z) := by
  have h : ev T cf (.ix (dcs i) (.neg (.cst (.int 1)))) g (St (ds ++ [x]) z) = .ok (.int x) (St (ds ++ [x]) z) := by
    rw [e_ix, d_cs hg, Res.bind_ok, e_neg, e_cst, Res.bind_ok]
    show lift (ixD (rd (St (ds ++ [x]) z) (.ref 0)) (.int (-1))) _ = _
    rw [St0, ix_last]
    rfl
  rw [e_cmp, h]
  rfl
theorem last_ints : ((ds ++ [x]).map D.int).getLast? = some (.int x) := by simp
theorem drop_ints : ((ds ++ [x]).map D.int).dropLast = ds.map D.int := by simp
theorem d_pop (hg : g[i]? = some (some (.ref 1))) : exs T cf (.rpop (dcs i)) g (St (ds ++ [x]) z) = .nx g (St ds z) := by
  rw [x_rpop, d_cs hg, Res.go_ok]
  show (if ((ds ++ [x]).map D.int) = [] then SR.bad else SR.nx g ((St (ds ++ [x]) z).set 0 (.lst ((ds ++ [x]).map D.int).dropLast))) = _
  rw [if_neg (by simp), drop_ints]
  rfl
theorem d_popv {j : Nat} (hg : g[i]? = some (some (.ref 1))) : exs T cf (.rpopv j (dcs i)) g (St (ds ++ [x]) z) = .nx (g.set j (some (.int x))) (St ds z) := by
  rw [x_rpopv, d_cs hg, Res.go_ok]
  show (match ((ds ++ [x]).map D.int).getLast? with
    | some v => SR.nx (g.set j (some v)) ((St (ds ++ [x]) z).set 0 (.lst ((ds ++ [x]).map D.int).dropLast))
    | none => SR.bad) = _
  rw [last_ints, drop_ints]
  rfl
theorem d_app {e : DE} (hg : g[i]? = some (some (.ref 1))) (he : ev T cf e g (St cs z) = .ok (.int y) (St cs z)) (hl : cs.length < line) : exs T cf (.rapp (dcs i) e) g (St cs z) = .nx g (St (cs ++ [y]) z) := by
  show ((ev T cf (dcs i) g (St cs z)).go g fun r S => match r, rd S r with
    | .ref n, .lst _ => (ev T cf e g S).go g fun v S => (match rd S (.ref n) with
      | .lst l => if l.length < line then SR.nx g (S.set n (.lst (l ++ [v]))) else .bad
      | _ => .bad)
    | _, _ => .bad) = _
  rw [d_cs hg, Res.go_ok]
  show ((ev T cf e g (St cs z)).go g fun v S => (match rd S (.ref 0) with
      | .lst l => if l.length < line then SR.nx g (S.set 0 (.lst (l ++ [v]))) else .bad
      | _ => .bad)) = _
  rw [he, Res.go_ok]
  show (if (cs.map D.int).length < line then SR.nx g ((St cs z).set 0 (.lst (cs.map D.int ++ [.int y]))) else .bad) = _
  rw [if_pos (by rw [List.length_map]; exact hl)]
  unfold St
  rw [List.map_append]
  rfl
theorem d_set {e : DE} (hg : g[i]? = some (some (.ref 1))) (he : ev T cf e g (St cs z) = .ok (.int y) (St cs z)) : exs T cf (.rset (.var i) (.cst (.int 1)) e) g (St cs z) = .nx g (St cs y) := by
  show ((ev T cf e g (St cs z)).go g fun v S => (ev T cf (.var i) g S).go g fun r S => (ev T cf (.cst (.int 1)) g S).go g fun k S => match r, rd S r, k with
    | .ref n, .lst l, .int i => (match ixPlace l.length i with
      | some j => SR.nx g (S.set n (.lst (l.set j v)))
      | none => .bad)
    | _, _, _ => .bad) = _
  rw [he, Res.go_ok, var_of hg]
  rfl
/-- zeros at the end are dropped -/
theorem d_while (hg : g[i]? = some (some (.ref 1))) : ∀ (k : Nat) (cs : List Int), cs.length < k → (∀ c, c ∈ cs → 0 ≤ c) →
    ∃ ds : List Int, whGo (ev T cf (.and (.cmp .ne (dcs i) (.lst .nil)) (.cmp .eq (.ix (dcs i) (.neg (.cst (.int 1)))) (.cst (.int 0))))) (exb T cf (.cons (.rpop (dcs i)) .nil)) k g (St cs z) = .nx g (St ds z) ∧ (∀ c, c ∈ ds → 0 ≤ c) ∧ ds.length ≤ cs.length
  | 0, cs, h, _ => absurd h (Nat.not_lt_zero _)
  | k + 1, cs, hk, hc => by
    rcases List.eq_nil_or_concat cs with rfl | ⟨ds, x, e⟩
    · refine ⟨[], ?_, hc, Nat.le_refl _⟩
      unfold whGo
      rw [e_and, d_ne hg]
      rfl
    · rw [List.concat_eq_append] at e
      subst e
      have c1 : ev T cf (.and (.cmp .ne (dcs i) (.lst .nil)) (.cmp .eq (.ix (dcs i) (.neg (.cst (.int 1)))) (.cst (.int 0)))) g (St (ds ++ [x]) z) = .ok (.bl (x == 0)) (St (ds ++ [x]) z) := by
        rw [e_and, d_ne hg, Res.bind_ok]
        have : (!(ds ++ [x]).isEmpty) = true := by simp
        rw [this]
        show ev T cf _ g _ = _
        exact d_last hg
      unfold whGo
      rw [c1]
      by_cases hx : x = 0
      · subst hx
        obtain ⟨es, q1, q2, q3⟩ := d_while hg k ds (by simp at hk; omega) fun c m => hc c (by simp [m])
        refine ⟨es, ?_, q2, by simp; omega⟩
        show (match exb T cf (.cons (.rpop (dcs i)) .nil) g (St (ds ++ [0]) z) with
          | .nx g1 S2 => whGo _ _ k g1 S2
          | .ct g1 S2 => whGo _ _ k g1 S2
          | .bk g1 S2 => .nx g1 S2
          | r => r) = _
        rw [b_cons', d_pop hg]
        exact q1
      · refine ⟨ds ++ [x], ?_, hc, Nat.le_refl _⟩
        have : (x == 0) = false := by simpa using hx
        rw [this]
        rfl
end
/-- a draw: the mix of the number by n1, n2, n3 -/
def drawB (n1 n2 n3 : Int) : DB :=
  .cons (.wh (.and (.cmp .ne (dcs 0) (.lst .nil)) (.cmp .eq (.ix (dcs 0) (.neg (.cst (.int 1)))) (.cst (.int 0)))) (.cons (.rpop (dcs 0)) .nil))
  (.cons (.iff (.cmp .ne (dcs 0) (.lst .nil)) (.cons (.rpopv 2 (dcs 0)) (.cons (.rapp (dcs 0) (.bin .fdiv (.var 2) (.var 1))) (.cons (.ret (.bin .mod (.bi .int (.cons (.var 2) .nil)) (.var 1))) .nil))) .nil)
  (.cons (.rset (.var 0) (.cst (.int 1)) (.bin .mod (.bi .int (.cons (.bin .add (.bin .mul (.ix (.var 0) (.cst (.int 1))) (.cst (.int n1))) (.cst (.int n2))) .nil)) (.cst (.int 2147483647))))
  (.cons (.ret (.bin .mod (.bi .int (.cons (.bin .fdiv (.ix (.var 0) (.cst (.int 1))) (.cst (.int n3))) .nil)) (.var 1))) .nil)))
theorem fdiv_ok {i j : Int} (h1 : 0 < j) (h2 : j < 1073741824) : binD .fdiv (.int i) (.int j) = some (.int (i / j)) := by
  show (if 0 < j ∧ j < 1073741824 then some (D.int (i / j)) else none) = _
  rw [if_pos ⟨h1, h2⟩]
theorem mod_ok {i j : Int} (h1 : 0 < j) : binD .mod (.int i) (.int j) = some (.int (i % j)) := by
  show (if 0 < j then some (D.int (i % j)) else none) = _
  rw [if_pos h1]
theorem mul_ok {i j : Int} (h : mulOk i j = true) : binD .mul (.int i) (.int j) = some (.int (i * j)) := by
  show (if mulOk i j then some (D.int (i * j)) else none) = _
  rw [if_pos h]
theorem draw_body {T : Tab} {cf : CF} {n1 n2 n3 b : Int} {S : Store} (hS : Gd S) (hn : mulOk 0 n1 = true ∧ ∀ z : Int, mulOk z n1 = true) (h3 : 0 < n3 ∧ n3 < 1073741824) (h1 : 1 ≤ b) (h2 : b < 1073741824) :
    ∃ r S', fin0 (exb T cf (drawB n1 n2 n3) [some (.ref 1), some (.int b), none] S) = .ok (.int r) S' ∧ Gd S' ∧ 0 ≤ r ∧ r < b := by
  obtain ⟨cs, z, rfl, c1, c2, z1, z2⟩ := hS.ex
  obtain ⟨ds, w1, w2, w3⟩ := d_while (T := T) (cf := cf) (g := [some (.ref 1), some (.int b), none]) (i := 0) (z := z) rfl wfuel cs (by show cs.length < 1000000; omega) c1
  unfold drawB
  rw [b_cons', x_wh, w1]
  simp only
  rw [b_cons', x_iff, d_ne rfl, Res.go_ok]
  rcases List.eq_nil_or_concat ds with rfl | ⟨es, x, e⟩
  · have hz := d_z (g := [some (.ref 1), some (.int b), none]) (i := 0) (T := T) (cf := cf) (cs := []) (z := z) rfl
    have bz : ev T cf (.bin .mod (.bi .int (.cons (.bin .add (.bin .mul (.ix (.var 0) (.cst (.int 1))) (.cst (.int n1))) (.cst (.int n2))) .nil)) (.cst (.int 2147483647))) [some (.ref 1), some (.int b), none] (St [] z) = .ok (.int ((z * n1 + n2) % 2147483647)) (St [] z) := by
      simp [hz, mul_ok (hn.2 z), mod_ok]
    have y1 : 0 ≤ (z * n1 + n2) % 2147483647 := Int.emod_nonneg _ (by decide)
    have y2 : (z * n1 + n2) % 2147483647 < 2147483647 := Int.emod_lt_of_pos _ (by decide)
    generalize (z * n1 + n2) % 2147483647 = y at bz y1 y2
    have hy := d_z (g := [some (.ref 1), some (.int b), none]) (i := 0) (T := T) (cf := cf) (cs := []) (z := y) rfl
    refine ⟨(y / n3) % b, St [] y, ?_, ⟨[], y, rfl, nofun, Nat.zero_le _, y1, by omega⟩, Int.emod_nonneg _ (by omega), Int.emod_lt_of_pos _ (by omega)⟩
    show fin0 (match exb T cf .nil [some (.ref 1), some (.int b), none] (St [] z) with
      | .nx g1 S1 => exb T cf _ g1 S1
      | r => r) = _
    rw [b_nil']
    simp only
    rw [b_cons', d_set rfl bz]
    simp only
    rw [b_cons', x_ret]
    have l : ev T cf (.bin .mod (.bi .int (.cons (.bin .fdiv (.ix (.var 0) (.cst (.int 1))) (.cst (.int n3))) .nil)) (.var 1)) [some (.ref 1), some (.int b), none] (St [] y) = .ok (.int ((y / n3) % b)) (St [] y) := by
      simp [hy, fdiv_ok h3.1 h3.2, mod_ok (show 0 < b by omega)]
    rw [l]
    rfl
  · rw [List.concat_eq_append] at e
    subst e
    have x0 : 0 ≤ x := w2 x (by simp)
    have tr : (rd (St (es ++ [x]) z) (.bl (!(es ++ [x]).isEmpty))).truth = some true := by simp
    rw [tr]
    simp only
    rw [b_cons', d_popv rfl]
    simp only
    have ea : ev T cf (.bin .fdiv (.var 2) (.var 1)) ([some (.ref 1), some (.int b), none].set 2 (some (.int x))) (St es z) = .ok (.int (x / b)) (St es z) := by
      simp [fdiv_ok (show 0 < b by omega) h2]
    have el : es.length + 1 ≤ cs.length := by simpa using w3
    rw [b_cons', d_app rfl ea (by show es.length < 16777216; omega)]
    simp only
    have l : ev T cf (.bin .mod (.bi .int (.cons (.var 2) .nil)) (.var 1)) ([some (.ref 1), some (.int b), none].set 2 (some (.int x))) (St (es ++ [x / b]) z) = .ok (.int (x % b)) (St (es ++ [x / b]) z) := by
      simp [mod_ok (show 0 < b by omega)]
    rw [b_cons', x_ret, l]
    refine ⟨x % b, St (es ++ [x / b]) z, rfl, ⟨es ++ [x / b], z, rfl, fun c hc => ?_, by simp; omega, z1, z2⟩, Int.emod_nonneg _ (by omega), Int.emod_lt_of_pos _ (by omega)⟩
    rcases List.mem_append.mp hc with h | h
    · exact w2 c (by simp [h])
    · rw [List.mem_singleton.mp h]
      exact Int.ediv_nonneg x0 (by omega)
/-! ### a deal begins -/
theorem cut_map {α β : Type} (f : α → β) (l : List α) (lo hi : Option Int) : cutL (l.map f) lo hi = (cutL l lo hi).map f := by
  unfold cutL
  simp
def dealLc : DE := .lc (.bi .abs (.cons (.bi .int (.cons (.var 4) .nil)) .nil)) (.one 4) (.seq (.slc (.var 0) (.some (.var 1)) (.some (.cst (.int 58)))))
theorem abs_ints {T : Tab} {cf : CF} {g : Ev} {S : Store} {t : Nat} (ns : List Int) (ht : t < g.length) : lcGo (ev T cf (.bi .abs (.cons (.bi .int (.cons (.var t) .nil)) .nil))) (.one t) g (ns.map D.int) S = .ok ((ns.map fun i => if i < 0 then -i else i).map D.int) S := by
  rw [lc_map (fun d => match d with | .int i => .int (if i < 0 then -i else i) | d => d) fun x hx => ?_]
  · simp
  · obtain ⟨i, _, rfl⟩ := List.mem_map.mp hx
    refine ⟨_, rfl, ?_⟩
    have : (g.set t (some (D.int i)))[t]? = some (some (.int i)) := List.getElem?_set_self ht
    simp [var_of this]
theorem big_ints {T : Tab} {cf : CF} {g : Ev} {S : Store} {t : Nat} (ns : List Int) (ht : t < g.length) : lciGo (ev T cf (.var t)) (ev T cf (.cmp .ge (.var t) (.bin .pow (.cst (.int 10)) (.cst (.int 18))))) (.one t) g (ns.map D.int) S = .ok ((ns.filter fun i => decide (10 ^ 18 ≤ i)).map D.int) S := by
  have pw : binD .pow (.int 10) (.int 18) = some (.int (10 ^ 18)) := by
    show (if (0 : Int) ≤ 18 ∧ (18 : Int) ≤ 1000000 ∧ (10 : Int).natAbs < 18446744073709551616 then some (D.int ((10 : Int) ^ (18 : Int).toNat)) else none) = _
    rw [if_pos (by decide)]
    rfl
  rw [lci_map (fun d => d) (fun d => match d with | .int i => decide ((10 : Int) ^ 18 ≤ i) | _ => false) fun x hx => ?_]
  · rw [List.filter_map, List.map_map]
    rfl
  · obtain ⟨i, _, rfl⟩ := List.mem_map.mp hx
    have hv : (g.set t (some (D.int i)))[t]? = some (some (.int i)) := List.getElem?_set_self ht
    refine ⟨_, .bl (decide ((10 : Int) ^ 18 ≤ i)), rfl, ?_, rfl, fun _ => var_of hv⟩
    simp [var_of hv, pw]
/-- the number is stirred by the cells -/
theorem stir {T : Tab} {cf : CF} {m1 m2 m3 : Int} {t s : Nat} {g0 : Ev} {S : Store} (hm : ∀ z : Int, mulOk z m1 = true) (h2 : 0 < m2) (hst : s ≠ t) (ns : List Int) (hs : s < g0.length) (ht : t < g0.length) (z : Int) (hz : g0[s]? = some (some (.int z)) ∧ 0 ≤ z ∧ z < 18446744073709551616) :
    ∃ g1 z1, frGo (exb T cf (.cons (.asg (.one s) (.bin .mod (.bi .int (.cons (.bin .add (.bin .add (.bin .mul (.var s) (.cst (.int m1))) (.bin .mod (.bi .int (.cons (.var t) .nil)) (.cst (.int m2)))) (.cst (.int m3))) .nil)) (.cst (.int 2147483647)))) .nil)) (.one t) (ns.map D.int) g0 S = .nx g1 S ∧ g1.length = g0.length ∧ g1[s]? = some (some (.int z1)) ∧ 0 ≤ z1 ∧ z1 < 18446744073709551616 ∧ ∀ k, k ≠ s → k ≠ t → g1[k]? = g0[k]? := by
  induction ns generalizing g0 z with
  | nil => exact ⟨g0, z, rfl, rfl, hz.1, hz.2.1, hz.2.2, fun k _ _ => rfl⟩
  | cons c ns ih =>
    obtain ⟨hz, z1, z2⟩ := hz
    have v1 : (g0.set t (some (D.int c)))[s]? = some (some (.int z)) := by rw [List.getElem?_set_ne (Ne.symm hst)]; exact hz
    have v2 : (g0.set t (some (D.int c)))[t]? = some (some (.int c)) := List.getElem?_set_self ht
    have e1 : ev T cf (.bin .mod (.bi .int (.cons (.bin .add (.bin .add (.bin .mul (.var s) (.cst (.int m1))) (.bin .mod (.bi .int (.cons (.var t) .nil)) (.cst (.int m2)))) (.cst (.int m3))) .nil)) (.cst (.int 2147483647))) (g0.set t (some (.int c))) S = .ok (.int ((z * m1 + c % m2 + m3) % 2147483647)) S := by
      simp [var_of v1, var_of v2, mul_ok (hm z), mod_ok h2, mod_ok (show (0 : Int) < 2147483647 by decide)]
    have y1 : 0 ≤ (z * m1 + c % m2 + m3) % 2147483647 := Int.emod_nonneg _ (by decide)
    have y2 : (z * m1 + c % m2 + m3) % 2147483647 < 2147483647 := Int.emod_lt_of_pos _ (by decide)
    obtain ⟨g1, w, q1, q2, q3, q4, q5, q6⟩ := ih (g0 := (g0.set t (some (D.int c))).set s (some (.int ((z * m1 + c % m2 + m3) % 2147483647)))) (by simpa using hs) (by simpa using ht) _ ⟨List.getElem?_set_self (by simpa using hs), y1, by omega⟩
    refine ⟨g1, w, ?_, by simpa using q2, q3, q4, q5, fun k k1 k2 => by rw [q6 k k1 k2, List.getElem?_set_ne (Ne.symm k1), List.getElem?_set_ne (Ne.symm k2)]⟩
    rw [List.map_cons]
    show (match exb T cf _ (g0.set t (some (.int c))) S with
      | .nx g1 S1 => frGo _ _ _ g1 S1
      | .ct g1 S1 => frGo _ _ _ g1 S1
      | .bk g1 S1 => .nx g1 S1
      | r => r) = _
    rw [b_cons', x_asg, e1]
    exact q1
theorem abs_nn (ns : List Int) : ∀ c, c ∈ (ns.map fun i : Int => if i < 0 then -i else i) → 0 ≤ c := fun c h => by
  obtain ⟨i, _, rfl⟩ := List.mem_map.mp h
  by_cases q : i < 0
  · simp [q]; omega
  · simp [q]; omega
/-- the state behind a deal: z any number, the great cells reversed -/
theorem gd_of {ns : List Int} {z : Int} (hn : ∀ c, c ∈ ns → 0 ≤ c) (hl : ns.length ≤ 100) (h1 : 0 ≤ z) (h2 : z < 18446744073709551616) : Gd (St (ns.filter fun i => decide (10 ^ 18 ≤ i)).reverse z) := by
  refine ⟨_, z, rfl, fun c h => hn c ?_, ?_, h1, h2⟩
  · exact (List.mem_filter.mp (List.mem_reverse.mp h)).1
  · rw [List.length_reverse]
    exact Nat.le_trans (List.length_filter_le _ _) hl
/-- the value that a deal gives: both places, new -/
theorem place_ok {T : Tab} {cf : CF} {g : Ev} {c s t : Nat} {ns : List Int} {z : Int} (hc : g[c]? = some (some (.lst (ns.map D.int)))) (hs : g[s]? = some (some (.int z))) (ht : t < g.length) :
    ev T cf (.pl (.lst (.cons (.pl (.rev (.lci (.var t) (.cmp .ge (.var t) (.bin .pow (.cst (.int 10)) (.cst (.int 18)))) (.one t) (.seq (.var c))))) (.cons (.var s) .nil)))) g [] = .ok (.ref 1) (St (ns.filter fun i => decide (10 ^ 18 ≤ i)).reverse z) := by
  have h1 : ev T cf (.lci (.var t) (.cmp .ge (.var t) (.bin .pow (.cst (.int 10)) (.cst (.int 18)))) (.one t) (.seq (.var c))) g [] = .ok (.lst ((ns.filter fun i => decide (10 ^ 18 ≤ i)).map D.int)) [] := by
    rw [e_lci, i_seq', var_of hc, Res.bind_ok]
    show (match lciGo _ _ _ g (ns.map D.int) [] with | .ok ys S => Res.ok (D.lst ys) S | _ => .bad) = _
    rw [big_ints ns ht]
  have h2 : ev T cf (.pl (.rev (.lci (.var t) (.cmp .ge (.var t) (.bin .pow (.cst (.int 10)) (.cst (.int 18)))) (.one t) (.seq (.var c))))) g [] = .ok (.ref 0) [.lst ((ns.filter fun i => decide (10 ^ 18 ≤ i)).reverse.map D.int)] := by
    rw [e_pl, e_rev, h1, List.map_reverse]
    rfl
  rw [e_pl, e_lst, a_cons', h2, Res.bind_ok, a_cons', var_of hs]
  rfl
end Zd
set_option Elab.async false
set_option linter.all false
set_option maxRecDepth 100000
set_option maxHeartbeats 1000000
/-! Loops that keep a thing, picks, and the measure of rows. -/
namespace Zd
open PySem
/-- a loop each turn of which goes on -/
theorem fr_keep {f : Ev → Store → SR} {t : Tg} (P : Nat → Ev → Store → Prop) : ∀ (xs : List D) {g : Ev} {S : Store} (k : Nat), P k g S →
    (∀ x, x ∈ xs → ∀ j g S, j < k + xs.length → P j g S → ∃ g' g1 S1, bindT t x g = some g' ∧ f g' S = .nx g1 S1 ∧ P (j + 1) g1 S1) →
    ∃ g1 S1, frGo f t xs g S = .nx g1 S1 ∧ P (k + xs.length) g1 S1
  | [], g, S, k, h, _ => ⟨g, S, rfl, h⟩
  | x :: xs, g, S, k, h, H => by
    obtain ⟨g', g1, S1, h1, h2, h3⟩ := H x List.mem_cons_self k g S (by simp) h
    obtain ⟨g2, S2, q1, q2⟩ := fr_keep P xs (f := f) (t := t) (k + 1) h3 fun y hy j g S hj hP => H y (List.mem_cons_of_mem _ hy) j g S (by rw [List.length_cons]; omega) hP
    refine ⟨g2, S2, ?_, by rw [List.length_cons, Nat.add_comm xs.length, ← Nat.add_assoc]; exact q2⟩
    unfold frGo
    rw [h1]
    simp only [h2, q1]
theorem ix_in {l : List D} {r : Int} (h0 : 0 ≤ r) (h1 : r < l.length) : ∃ d, l[r.toNat]? = some d ∧ d ∈ l ∧ ixD (.lst l) (.int r) = some d ∧ ixD (.tup l) (.int r) = some d := by
  have hr : r.toNat < l.length := by omega
  have e : ixPlace l.length r = some r.toNat := by
    unfold ixPlace
    rw [if_pos h0, if_pos h1]
  refine ⟨l[r.toNat], List.getElem?_eq_getElem hr, List.getElem_mem hr, ?_, ?_⟩
  · show ((ixPlace l.length r).bind fun j => l[j]?) = _
    rw [e]
    exact List.getElem?_eq_getElem hr
  · show ((ixPlace l.length r).bind fun j => l[j]?) = _
    rw [e]
    exact List.getElem?_eq_getElem hr
/-- draws are as they should be -/
def DrawOK (cf : CF) (i : Nat) : Prop := ∀ (b : Int) (S : Store), Gd S → 1 ≤ b → b < 1073741824 → ∃ r S', cf i [.ref 1, .int b] S = .ok (.int r) S' ∧ Gd S' ∧ 0 ≤ r ∧ r < b
def pickB (i : Nat) : DB := (.cons (.ret (.ix (.var 1) (.call i (.cons (.var 0) (.cons (.bi .len (.cons (.var 1) .nil)) .nil))))) .nil)
theorem pick_body {T : Tab} {cf : CF} {i : Nat} (hd : DrawOK cf i) {l : List D} (h0 : l ≠ []) (h1 : l.length < 1073741824) {S : Store} (hS : Gd S) : ∃ d S', fin0 (exb T cf (pickB i) [some (.ref 1), some (.lst l)] S) = .ok d S' ∧ Gd S' ∧ d ∈ l := by
  have hp := List.length_pos_iff.mpr h0
  obtain ⟨r, S', q1, q2, q3, q4⟩ := hd (l.length : Int) S hS (by omega) (by omega)
  obtain ⟨d, w1, w2, w3, w4⟩ := ix_in (l := l) q3 q4
  refine ⟨d, S', ?_, q2, w2⟩
  simp [pickB, q1, w3]
/-- a call with all its arguments -/
theorem call_eq {T : Tab} {FT : Nat → Option Fn} {n f : Nat} {fn : Fn} {xs : List D} {S : Store} (h1 : FT f = some fn) (h2 : fn.np = xs.length) (h3 : fn.ini = false) : callF T FT (n + 1) f xs S = fin0 (exb T (callF T FT n) fn.body (xs.map some ++ List.replicate (fn.nl - fn.np) none) S) := by
  show (match FT f with | none => Res.bad | some fn => runFn T (callF T FT n) fn xs S) = _
  rw [h1]
  show runFn T (callF T FT n) fn xs S = _
  generalize callF T FT n = cf
  unfold runFn
  rw [if_neg (by omega)]
  simp only [h2, Nat.sub_self, Nat.sub_zero, List.drop_length, List.append_nil, h3]
  generalize exb T cf fn.body _ S = r
  cases r <;> rfl
/-- calls on slots, whatever is called -/
theorem call3 {T : Tab} {cf : CF} {f a b c : Nat} {x y z : D} {g : Ev} {S : Store} (h1 : g[a]? = some (some x)) (h2 : g[b]? = some (some y)) (h3 : g[c]? = some (some z)) : ev T cf (.call f (.cons (.var a) (.cons (.var b) (.cons (.var c) .nil)))) g S = cf f [x, y, z] S := by
  rw [e_call, a_cons', var_of h1, Res.bind_ok, a_cons', var_of h2, Res.bind_ok, a_cons', var_of h3, Res.bind_ok, a_nil', Res.bind_ok, Res.bind_ok, Res.bind_ok, Res.bind_ok]
theorem call2 {T : Tab} {cf : CF} {f a b : Nat} {x y : D} {g : Ev} {S : Store} (h1 : g[a]? = some (some x)) (h2 : g[b]? = some (some y)) : ev T cf (.call f (.cons (.var a) (.cons (.var b) .nil))) g S = cf f [x, y] S := by
  rw [e_call, a_cons', var_of h1, Res.bind_ok, a_cons', var_of h2, Res.bind_ok, a_nil', Res.bind_ok, Res.bind_ok, Res.bind_ok]
/-! the measure of rows -/
theorem rzs_map {α : Type} (f : α → D) (k : Nat) : ∀ (l : List α), (∀ a, a ∈ l → ∃ n, (f a).rz = some n ∧ n ≤ k) → ∃ n, D.rzs (l.map f) = some n ∧ n ≤ l.length * (k + 2)
  | [], _ => ⟨0, rfl, Nat.zero_le _⟩
  | a :: l, h => by
    obtain ⟨n, h1, h2⟩ := h a List.mem_cons_self
    obtain ⟨m, q1, q2⟩ := rzs_map f k l fun b hb => h b (List.mem_cons_of_mem _ hb)
    refine ⟨n + 2 + m, ?_, ?_⟩
    · rw [List.map_cons, D.rzs, h1, q1]
    · rw [List.length_cons, Nat.add_mul]
      omega
theorem dps_map {α : Type} (f : α → D) (k : Nat) : ∀ (l : List α), (∀ a, a ∈ l → (f a).dp ≤ k) → D.dps (l.map f) ≤ k
  | [], _ => Nat.zero_le _
  | a :: l, h => by
    rw [List.map_cons, D.dps]
    exact Nat.max_le.mpr ⟨h a List.mem_cons_self, dps_map f k l fun b hb => h b (List.mem_cons_of_mem _ hb)⟩
end Zd
set_option Elab.async false
set_option linter.all false
set_option maxRecDepth 100000
set_option maxHeartbeats 1000000
/-! Data in their forms; loops by folds. -/
namespace Zd
open PySem
theorem cf_full' {T : Tab} {specs : List Fspec} {n i : Nat} {s : Fspec} {xs : List D} {S : Store} (hs : specs[i]? = some s) (h1 : s.fn.np - s.fn.dflt.length ≤ xs.length) (h2 : xs.length ≤ s.fn.np) (h3 : s.fn.dflt.length ≤ s.fn.np) :
    callF T (ftab specs) (n + 1) i xs S = callF T (ftab specs) (n + 1) i (xs ++ s.fn.dflt.drop (xs.length - (s.fn.np - s.fn.dflt.length))) S := by
  unfold callF
  have e : ftab specs i = some s.fn := by unfold ftab; rw [hs]
  rw [e]
  simp only
  unfold runFn
  have lf : (xs ++ s.fn.dflt.drop (xs.length - (s.fn.np - s.fn.dflt.length))).length = s.fn.np := by
    rw [List.length_append, List.length_drop]
    omega
  rw [if_neg (by omega), if_neg (by rw [lf]; omega)]
  have e1 : s.fn.dflt.drop (s.fn.dflt.length - (s.fn.np - xs.length)) = s.fn.dflt.drop (xs.length - (s.fn.np - s.fn.dflt.length)) := by
    congr 1
    omega
  have e2 : s.fn.dflt.drop (s.fn.dflt.length - (s.fn.np - (xs ++ s.fn.dflt.drop (xs.length - (s.fn.np - s.fn.dflt.length))).length)) = [] := by
    rw [lf, Nat.sub_self, Nat.sub_zero]
    exact List.drop_length
  rw [e1, e2, List.append_nil]
/-- parts of a body -/
def DB.nth : DB → Nat → DS
  | .cons s _, 0 => s
  | .cons _ b, n + 1 => b.nth n
  | .nil, _ => .pas
def DS.bod : DS → DB
  | .fr _ _ b => b
  | .wh _ b => b
  | .iff _ b _ => b
  | _ => .nil
@[simp] theorem nth_0 (s : DS) (b : DB) : (DB.cons s b).nth 0 = s := (rfl)
@[simp] theorem nth_s (s : DS) (b : DB) (n : Nat) : (DB.cons s b).nth (n + 1) = b.nth n := (rfl)
@[simp] theorem bod_fr (t : Tg) (i : DI) (b : DB) : (DS.fr t i b).bod = b := (rfl)
@[simp] theorem bod_wh (c : DE) (b : DB) : (DS.wh c b).bod = b := (rfl)
@[simp] theorem bod_iff (c : DE) (b u : DB) : (DS.iff c b u).bod = b := (rfl)
/-- a moment, a row -/
def oD : Option Int → D
  | none => .non
  | some i => .int i
def rowT (r : List (Option Int)) : D := .tup (r.map oD)
/-- a sequence: a tuple or a list -/
def sqD (b : Bool) (l : List D) : D := if b = true then .tup l else .lst l
@[simp] theorem sqD_t (l : List D) : sqD true l = .tup l := (rfl)
@[simp] theorem sqD_f (l : List D) : sqD false l = .lst l := (rfl)
@[simp] theorem sqD_seq (b : Bool) (l : List D) : (sqD b l).seq = some l := by cases b <;> rfl
@[simp] theorem sqD_its (b : Bool) (l : List D) : (sqD b l).its = some l := by cases b <;> rfl
@[simp] theorem sqD_rd (b : Bool) (l : List D) (S : Store) : rd S (sqD b l) = sqD b l := by cases b <;> rfl
@[simp] theorem oD_none : oD none = .non := (rfl)
@[simp] theorem oD_some (i : Int) : oD (some i) = .int i := (rfl)
@[simp] theorem oD_rd (a : Option Int) (S : Store) : rd S (oD a) = oD a := by cases a <;> rfl
@[simp] theorem oD_isN (a : Option Int) (x : D) : cmpD .isN (oD a) x = some a.isNone := by cases a <;> rfl
@[simp] theorem oD_notN (a : Option Int) (x : D) : cmpD .notN (oD a) x = some a.isSome := by cases a <;> rfl
@[simp] theorem rowT_rd (r : List (Option Int)) (S : Store) : rd S (rowT r) = rowT r := (rfl)
@[simp] theorem rowT_seq (r : List (Option Int)) : (rowT r).seq = some (r.map oD) := (rfl)
@[simp] theorem rowT_its (r : List (Option Int)) : (rowT r).its = some (r.map oD) := (rfl)
@[simp] theorem len_sq (b : Bool) (l : List D) : biD .len [sqD b l] = some (.int l.length) := by cases b <;> rfl
@[simp] theorem len_row (r : List (Option Int)) : biD .len [rowT r] = some (.int r.length) := by
  show some (D.int ((r.map oD).length : Nat)) = _
  rw [List.length_map]
@[simp] theorem tup_sq (b : Bool) (l : List D) : biD .tuple [sqD b l] = some (.tup l) := by cases b <;> rfl
@[simp] theorem lst_sq (b : Bool) (l : List D) : biD .list [sqD b l] = some (.lst l) := by cases b <;> rfl
@[simp] theorem lst_row (r : List (Option Int)) : biD .list [rowT r] = some (.lst (r.map oD)) := (rfl)
@[simp] theorem tup_row (r : List (Option Int)) : biD .tuple [rowT r] = some (rowT r) := (rfl)
@[simp] theorem bindT_one (i : Nat) (x : D) (g : Ev) : bindT (.one i) x g = some (g.set i (some x)) := (rfl)
@[simp] theorem bindT_two (i j : Nat) (x y : D) (g : Ev) : bindT (.many [i, j]) (.tup [x, y]) g = some ((g.set i (some x)).set j (some y)) := (rfl)
@[simp] theorem bindT_three (i j k : Nat) (x y z : D) (g : Ev) : bindT (.many [i, j, k]) (.tup [x, y, z]) g = some (((g.set i (some x)).set j (some y)).set k (some z)) := (rfl)
@[simp] theorem bindT_twoL (i j : Nat) (x y : D) (g : Ev) : bindT (.many [i, j]) (.lst [x, y]) g = some ((g.set i (some x)).set j (some y)) := (rfl)
@[simp] theorem bindT_threeL (i j k : Nat) (x y z : D) (g : Ev) : bindT (.many [i, j, k]) (.lst [x, y, z]) g = some (((g.set i (some x)).set j (some y)).set k (some z)) := (rfl)
@[simp] theorem zipO_sq (b c : Bool) (l m : List D) : zipO (sqD b l) (sqD c m) = some (zipD l m) := by cases b <;> cases c <;> rfl
@[simp] theorem zipO_row (a b : List (Option Int)) : zipO (rowT a) (rowT b) = some (zipD (a.map oD) (b.map oD)) := (rfl)
@[simp] theorem zipO_lr (a : List D) (b : List (Option Int)) : zipO (.lst a) (rowT b) = some (zipD a (b.map oD)) := (rfl)
@[simp] theorem zipO_lt (a b : List D) : zipO (.lst a) (.tup b) = some (zipD a b) := (rfl)
@[simp] theorem zipO_ll (a b : List D) : zipO (.lst a) (.lst b) = some (zipD a b) := (rfl)
@[simp] theorem zipO_tt (a b : List D) : zipO (.tup a) (.tup b) = some (zipD a b) := (rfl)
@[simp] theorem zipO_tl (a b : List D) : zipO (.tup a) (.lst b) = some (zipD a b) := (rfl)
theorem zipO_of {x y : D} {l m : List D} (h1 : x.seq = some l) (h2 : y.seq = some m) : zipO x y = some (zipD l m) := by
  unfold zipO
  rw [h1, h2]
theorem zip_map {α β : Type} (e : α → D) (f : β → D) : ∀ (l : List α) (m : List β), zipD (l.map e) (m.map f) = (l.zip m).map fun p => .tup [e p.1, f p.2]
  | [], m => by cases m <;> rfl
  | a :: l, [] => rfl
  | a :: l, b :: m => by
    show D.tup [e a, f b] :: zipD (l.map e) (m.map f) = _
    rw [zip_map e f l m]
    rfl
theorem enu_map {α : Type} (e : α → D) : ∀ (l : List α) (k : Nat), enuD k (l.map e) = (l.zipIdx k).map fun p => .tup [.int p.2, e p.1]
  | [], k => rfl
  | a :: l, k => by
    show D.tup [.int k, e a] :: enuD (k + 1) (l.map e) = _
    rw [enu_map e l (k + 1)]
    rfl
theorem allBl_map {α : Type} (p : α → Bool) : ∀ l : List α, allBl (l.map fun a => D.bl (p a)) = some (l.map p)
  | [] => rfl
  | a :: l => by simp only [List.map_cons, allBl, allBl_map p l]; rfl
@[simp] theorem all_map {α : Type} (p : α → Bool) (l : List α) : biD .all [.lst (l.map fun a => D.bl (p a))] = some (.bl (l.all p)) := by
  show ((allBl (l.map fun a => D.bl (p a))).map fun bs => D.bl (bs.all id)) = _
  rw [allBl_map]
  simp [List.all_map]
@[simp] theorem any_map {α : Type} (p : α → Bool) (l : List α) : biD .any [.lst (l.map fun a => D.bl (p a))] = some (.bl (l.any p)) := by
  show ((allBl (l.map fun a => D.bl (p a))).map fun bs => D.bl (bs.any id)) = _
  rw [allBl_map]
  simp [List.any_map]
theorem allInt_map' {α : Type} (p : α → Int) : ∀ l : List α, allInt (l.map fun a => D.int (p a)) = some (l.map p)
  | [] => rfl
  | a :: l => by simp only [List.map_cons, allInt, allInt_map' p l]; rfl
theorem max_map {α : Type} (p : α → Int) {l : List α} (h : l ≠ []) : biD .max1 [.lst (l.map fun a => D.int (p a))] = some (.int (mostI (l.map p))) := by
  show ((allInt (l.map fun a => D.int (p a))).bind fun ns => if ns = [] then none else some (D.int (mostI ns))) = _
  rw [allInt_map']
  simp [h]
theorem min_map {α : Type} (p : α → Int) {l : List α} (h : l ≠ []) : biD .min1 [.lst (l.map fun a => D.int (p a))] = some (.int (leastI (l.map p))) := by
  show ((allInt (l.map fun a => D.int (p a))).bind fun ns => if ns = [] then none else some (D.int (leastI ns))) = _
  rw [allInt_map']
  simp [h]
theorem rngO_nat {k : Nat} (hk : k ≤ line) : rngO (.int k) = some (rngD 0 k) := by
  have h0 : (k : Int) < 4611686018427387904 := by unfold line at hk; omega
  have h1 : -4611686018427387904 ≤ (k : Int) := by omega
  have h2 : small62 (k : Int) = true := by
    unfold small62
    rw [decide_eq_true h0, decide_eq_true h1]
    rfl
  have h3 : (k : Int) ≤ 16777216 := by unfold line at hk; omega
  show (if small62 (k : Int) && decide ((k : Int) ≤ 16777216) then some (rngD 0 (k : Int).toNat) else none) = _
  rw [h2, decide_eq_true h3]
  rfl
theorem rng_map (lo : Int) (n : Nat) : rngD lo n = (List.range n).map fun (k : Nat) => D.int (lo + (k : Int)) := rfl
theorem ix_lst {l : List D} {j : Nat} (h : j < l.length) : ixD (.lst l) (.int j) = some l[j] := by
  show ((ixPlace l.length (j : Int)).bind fun j => l[j]?) = _
  unfold ixPlace
  rw [if_pos (by omega), if_pos (by omega)]
  simp [h]
theorem ix_tup {l : List D} {j : Nat} (h : j < l.length) : ixD (.tup l) (.int j) = some l[j] := ix_lst h
theorem ix_head (b : Bool) (x : D) (l : List D) : ixD (sqD b (x :: l)) (.int 0) = some x := by
  cases b
  · exact ix_lst (l := x :: l) (j := 0) (Nat.succ_pos _)
  · exact ix_tup (l := x :: l) (j := 0) (Nat.succ_pos _)
theorem ix_rowT {r : List (Option Int)} {j : Nat} (h : j < r.length) : ixD (rowT r) (.int j) = some (oD (r.getD j none)) := by
  show ixD (.tup (r.map oD)) _ = _
  rw [ix_tup (by simpa using h)]
  simp [h]
theorem rep_non {k : Nat} (hk : k < 1000) : binD .mul (.lst [.non]) (.int k) = some (.lst (List.replicate k .non)) := by
  show (if (k : Int) < 1000000 ∧ -1000000 < (k : Int) ∧ [D.non].length * (k : Int).toNat ≤ line then some (D.lst (List.replicate (k : Int).toNat [D.non]).flatten) else none) = _
  rw [if_pos ⟨by omega, by omega, by show 1 * (k : Int).toNat ≤ 16777216; omega⟩]
  have : ∀ k : Nat, (List.replicate k [D.non]).flatten = List.replicate k D.non := fun k => by
    induction k with
    | zero => rfl
    | succ k ih => rw [List.replicate_succ, List.flatten_cons, ih]; rfl
  simp [this]
theorem tup_non (k : Nat) : D.tup (List.replicate k .non) = rowT (List.replicate k none) := by simp [rowT]
theorem line_of {k : Nat} (h : k < 1000000) : k ≤ line := by show k ≤ 16777216; omega
theorem zip_self_map {α β : Type} (f : α → β) : ∀ l : List α, l.zip (l.map f) = l.map fun a => (a, f a)
  | [] => rfl
  | a :: l => by rw [List.map_cons, List.zip_cons_cons, zip_self_map f l, List.map_cons]
theorem zip_same {α : Type} (l : List α) : l.zip l = l.map fun a => (a, a) := by
  have h := zip_self_map id l
  rw [List.map_id] at h
  exact h
theorem ne_str (s : List Nat) : cmpD .ne (.str s) (.str s) = some false := by
  show (D.eq (.str s) (.str s)).map not = _
  rw [Zd.eq_str]
  rfl
theorem ne_small {d : D} {n : Nat} (h : d.rz = some n) (hd : d.dp ≤ 60) : cmpD .ne d d = some false := by
  have c : ∀ x y : D, cmpD .ne x y = (D.eq x y).map not := fun x y => by cases x <;> cases y <;> rfl
  rw [c, eq_small h hd]
  rfl
/-- what each is of a form is a list of the form -/
theorem forms {α : Type} {e : α → D} {Q : α → Prop} : ∀ {ys : List D}, (∀ y, y ∈ ys → ∃ a, y = e a ∧ Q a) → ∃ l : List α, ys = l.map e ∧ l.length = ys.length ∧ ∀ a, a ∈ l → Q a
  | [], _ => ⟨[], rfl, rfl, fun a h => nomatch h⟩
  | y :: ys, h => by
    obtain ⟨a, h1, h2⟩ := h y List.mem_cons_self
    obtain ⟨l, q1, q2, q3⟩ := forms fun z hz => h z (List.mem_cons_of_mem _ hz)
    refine ⟨a :: l, by rw [h1, q1]; rfl, by rw [List.length_cons, List.length_cons, q2], fun c hc => ?_⟩
    rcases List.mem_cons.mp hc with rfl | hc
    · exact h2
    · exact q3 c hc
theorem lcM_cons_in {α : Type} {k : α → Store → Res D} {x : α} {xs : List α} {y : D} {ys : List D} {S : Store} (h1 : k x S = .ok y S) (h2 : lcM k xs S = .ok ys S) : lcM k (x :: xs) S = .ok (y :: ys) S := by
  unfold lcM
  rw [h1]
  simp only [h2]
/-! ### loops -/
/-- a loop whose turns change what E shows -/
theorem fr_fold {α β : Type} {f : Ev → Store → SR} {t : Tg} {S : Store} (E : α → Ev) (e : β → D) (st : α → β → α) (I : α → Nat → Prop) : ∀ (xs : List β) (a : α), I a xs.length →
    (∀ a b n, b ∈ xs → I a (n + 1) → (optS (bindT t (e b) (E a)) fun g' => f g' S) = .nx (E (st a b)) S ∧ I (st a b) n) → frGo f t (xs.map e) (E a) S = .nx (E (xs.foldl st a)) S
  | [], a, _, _ => rfl
  | b :: xs, a, hI, H => by
    obtain ⟨h1, h2⟩ := H a b xs.length List.mem_cons_self hI
    have ih := fr_fold E e st I xs (st a b) h2 fun a c n m => H a c n (List.mem_cons_of_mem _ m)
    rw [List.map_cons, List.foldl_cons]
    unfold frGo
    cases eb : bindT t (e b) (E a) with
    | none => rw [eb] at h1; cases h1
    | some g' =>
      rw [eb] at h1
      have h1 : f g' S = .nx (E (st a b)) S := h1
      simp only [h1, ih]
/-- a loop that leaves all as it was -/
theorem fr_stay {β : Type} {f : Ev → Store → SR} {t : Tg} {S : Store} {g : Ev} (e : β → D) : ∀ (xs : List β), (∀ b, b ∈ xs → (optS (bindT t (e b) g) fun g' => f g' S) = .nx g S) → frGo f t (xs.map e) g S = .nx g S
  | [], _ => rfl
  | b :: xs, H => by
    have h1 := H b List.mem_cons_self
    have ih := fr_stay (f := f) (t := t) (S := S) (g := g) e xs fun c m => H c (List.mem_cons_of_mem _ m)
    rw [List.map_cons]
    unfold frGo
    cases eb : bindT t (e b) g with
    | none => rw [eb] at h1; cases h1
    | some g' =>
      rw [eb] at h1
      have h1 : f g' S = .nx g S := h1
      simp only [h1, ih]
/-- a turn -/
theorem fr_cons {f : Ev → Store → SR} {t : Tg} {S : Store} {g : Ev} {x : D} {xs : List D} : frGo f t (x :: xs) g S = optS (bindT t x g) fun g' => match f g' S with
    | .nx g1 S1 => frGo f t xs g1 S1
    | .ct g1 S1 => frGo f t xs g1 S1
    | .bk g1 S1 => .nx g1 S1
    | r => r := by
  show (match bindT t x g with
    | none => SR.bad
    | some g' => match f g' S with
      | .nx g1 S1 => frGo f t xs g1 S1
      | .ct g1 S1 => frGo f t xs g1 S1
      | .bk g1 S1 => .nx g1 S1
      | r => r) = _
  cases bindT t x g <;> rfl
theorem fr_nil {f : Ev → Store → SR} {t : Tg} {S : Store} {g : Ev} : frGo f t [] g S = .nx g S := rfl
/-- a turn that goes on -/
def SR.loop (r : SR) (k : Ev → Store → SR) (_l : Lock k := .mk) : SR := match r with
  | .nx g S => k g S
  | .ct g S => k g S
  | .bk g S => .nx g S
  | r => r
@[simp] theorem loop_nx (g : Ev) (S : Store) (k : Ev → Store → SR) (l : Lock k) : (SR.nx g S).loop k l = k g S := (rfl)
@[simp] theorem loop_ct (g : Ev) (S : Store) (k : Ev → Store → SR) (l : Lock k) : (SR.ct g S).loop k l = k g S := (rfl)
@[simp] theorem loop_bk (g : Ev) (S : Store) (k : Ev → Store → SR) (l : Lock k) : (SR.bk g S).loop k l = .nx g S := (rfl)
@[simp] theorem loop_rt (d : D) (S : Store) (k : Ev → Store → SR) (l : Lock k) : (SR.rt d S).loop k l = .rt d S := (rfl)
@[simp] theorem loop_ex (e : D) (g : Ev) (S : Store) (k : Ev → Store → SR) (l : Lock k) : (SR.ex e g S).loop k l = .ex e g S := (rfl)
theorem fr_turn {f : Ev → Store → SR} {t : Tg} {S : Store} {g : Ev} {x : D} {xs : List D} : frGo f t (x :: xs) g S = optS (bindT t x g) fun g' => (f g' S).loop fun g1 S1 => frGo f t xs g1 S1 := by
  rw [fr_cons]
  congr 1
/-- a turn of while -/
theorem wh_turn {c : Ev → Store → Res D} {f : Ev → Store → SR} {n : Nat} {g : Ev} {S : Store} : whGo c f (n + 1) g S = (c g S).go g fun d S1 => cifS (rd S1 d).truth ((f g S1).loop fun g1 S2 => whGo c f n g1 S2) (.nx g S1) := by
  show (match c g S with
    | .ok d S1 => (match (rd S1 d).truth with
      | some true => (match f g S1 with
        | .nx g1 S2 => whGo c f n g1 S2
        | .ct g1 S2 => whGo c f n g1 S2
        | .bk g1 S2 => .nx g1 S2
        | r => r)
      | some false => .nx g S1
      | none => .bad)
    | .exc e S1 => .ex e g S1
    | .bad => .bad) = _
  cases c g S with
  | ok d S1 =>
    show (match (rd S1 d).truth with
      | some true => (match f g S1 with
        | .nx g1 S2 => whGo c f n g1 S2
        | .ct g1 S2 => whGo c f n g1 S2
        | .bk g1 S2 => .nx g1 S2
        | r => r)
      | some false => .nx g S1
      | none => .bad) = cifS (rd S1 d).truth _ _
    cases (rd S1 d).truth with
    | none => rfl
    | some b => cases b with
      | false => rfl
      | true =>
        show (match f g S1 with
          | .nx g1 S2 => whGo c f n g1 S2
          | .ct g1 S2 => whGo c f n g1 S2
          | .bk g1 S2 => .nx g1 S2
          | r => r) = (f g S1).loop _
        cases f g S1 <;> rfl
  | exc e S1 => rfl
  | bad => rfl
/-! ### what comes out, with a deal's store -/
/-- a value comes, the store stays a deal's -/
def WpR {α : Type} (r : Res α) (Q : α → Prop) : Prop := ∃ d S', r = .ok d S' ∧ Gd S' ∧ Q d
/-- a block goes on, or returns -/
def WpS (r : SR) (N : Ev → Prop) (R : D → Prop) : Prop := (∃ g S', r = .nx g S' ∧ Gd S' ∧ N g) ∨ ∃ d S', r = .rt d S' ∧ Gd S' ∧ R d
/-- a loop with draws -/
theorem wp_fr {β : Type} {f : Ev → Store → SR} {t : Tg} {e : β → D} {R : D → Prop} (I : Nat → Ev → Prop) : ∀ (xs : List β) (k : Nat) {g : Ev} {S : Store}, Gd S → I k g →
    (∀ j b g S, b ∈ xs → j < k + xs.length → Gd S → I j g → (∃ g1 S1, (optS (bindT t (e b) g) fun g' => f g' S) = .nx g1 S1 ∧ Gd S1 ∧ I (j + 1) g1) ∨ (∃ g1 S1, (optS (bindT t (e b) g) fun g' => f g' S) = .ct g1 S1 ∧ Gd S1 ∧ I (j + 1) g1) ∨ ∃ d S1, (optS (bindT t (e b) g) fun g' => f g' S) = .rt d S1 ∧ Gd S1 ∧ R d) →
    WpS (frGo f t (xs.map e) g S) (I (k + xs.length)) R
  | [], k, g, S, hS, hI, _ => .inl ⟨g, S, rfl, hS, hI⟩
  | b :: xs, k, g, S, hS, hI, H => by
    rw [List.map_cons, fr_turn]
    have next : ∀ {g1 S1}, Gd S1 → I (k + 1) g1 → WpS (frGo f t (xs.map e) g1 S1) (I (k + (b :: xs).length)) R := fun {g1 S1} h1 h2 => by
      have z := wp_fr I xs (k + 1) (R := R) (e := e) (f := f) (t := t) h1 h2 fun j c g S m hj => H j c g S (List.mem_cons_of_mem _ m) (by rw [List.length_cons]; omega)
      rw [List.length_cons, Nat.add_comm xs.length, ← Nat.add_assoc]
      exact z
    cases eb : bindT t (e b) g with
    | none =>
      rcases H k b g S List.mem_cons_self (by simp) hS hI with ⟨g1, S1, h, _⟩ | ⟨g1, S1, h, _⟩ | ⟨d, S1, h, _⟩ <;> rw [eb] at h <;> cases h
    | some g' =>
      rcases H k b g S List.mem_cons_self (by simp) hS hI with ⟨g1, S1, h, h1, h2⟩ | ⟨g1, S1, h, h1, h2⟩ | ⟨d, S1, h, h1, h2⟩
      · rw [eb] at h
        have h : f g' S = .nx g1 S1 := h
        rw [optS_some, h, loop_nx]
        exact next h1 h2
      · rw [eb] at h
        have h : f g' S = .ct g1 S1 := h
        rw [optS_some, h, loop_ct]
        exact next h1 h2
      · rw [eb] at h
        have h : f g' S = .rt d S1 := h
        rw [optS_some, h, loop_rt]
        exact .inr ⟨d, S1, rfl, h1, h2⟩
/-- a turn's ends, over what E shows -/
def Turn {α : Type} (r : SR) (E : α → Ev) (J : α → Prop) (R : D → Prop) : Prop := (∃ a S', r = .nx (E a) S' ∧ Gd S' ∧ J a) ∨ (∃ a S', r = .ct (E a) S' ∧ Gd S' ∧ J a) ∨ ∃ d S', r = .rt d S' ∧ Gd S' ∧ R d
theorem Turn.go {α : Type} {r : SR} {E : α → Ev} {J : α → Prop} {R : D → Prop} (a : α) (S' : Store) (h : r = .nx (E a) S') (hS : Gd S') (hJ : J a) : Turn r E J R := .inl ⟨a, S', h, hS, hJ⟩
theorem Turn.ct {α : Type} {r : SR} {E : α → Ev} {J : α → Prop} {R : D → Prop} (a : α) (S' : Store) (h : r = .ct (E a) S') (hS : Gd S') (hJ : J a) : Turn r E J R := .inr (.inl ⟨a, S', h, hS, hJ⟩)
theorem Turn.rt {α : Type} {r : SR} {E : α → Ev} {J : α → Prop} {R : D → Prop} (d : D) (S' : Store) (h : r = .rt d S') (hS : Gd S') (hR : R d) : Turn r E J R := .inr (.inr ⟨d, S', h, hS, hR⟩)
/-- a loop with draws, over what E shows: it goes through, or returns -/
theorem wp_frE {α β : Type} {f : Ev → Store → SR} {t : Tg} (E : α → Ev) (e : β → D) (J : Nat → α → Prop) (R : D → Prop) (xs : List β) {a : α} {S : Store} (hS : Gd S) (h0 : J 0 a)
    (H : ∀ j b a S, xs[j]? = some b → Gd S → J j a → Turn (optS (bindT t (e b) (E a)) fun g' => f g' S) E (J (j + 1)) R) :
    (∃ a' S', frGo f t (xs.map e) (E a) S = .nx (E a') S' ∧ Gd S' ∧ J xs.length a') ∨ ∃ d S', frGo f t (xs.map e) (E a) S = .rt d S' ∧ Gd S' ∧ R d := by
  have key : ∀ (ys : List β) (k : Nat) (a : α) (S : Store), xs.drop k = ys → Gd S → J k a → (∃ a' S', frGo f t (ys.map e) (E a) S = .nx (E a') S' ∧ Gd S' ∧ J (k + ys.length) a') ∨ ∃ d S', frGo f t (ys.map e) (E a) S = .rt d S' ∧ Gd S' ∧ R d := by
    intro ys
    induction ys with
    | nil => exact fun k a S _ hS hJ => .inl ⟨a, S, rfl, hS, hJ⟩
    | cons b ys ih =>
      intro k a S hd hS hJ
      have hb : xs[k]? = some b := by
        have q : (xs.drop k)[0]? = some b := by rw [hd]; rfl
        rw [List.getElem?_drop] at q
        exact q
      have hd' : xs.drop (k + 1) = ys := by rw [← List.drop_drop, hd]; rfl
      have hk : k + 1 + ys.length = k + (b :: ys).length := by rw [List.length_cons]; omega
      rw [List.map_cons, fr_turn]
      cases eb : bindT t (e b) (E a) with
      | none => rcases H k b a S hb hS hJ with ⟨a', S1, h, _⟩ | ⟨a', S1, h, _⟩ | ⟨d, S1, h, _⟩ <;> rw [eb] at h <;> cases h
      | some g' =>
        rcases H k b a S hb hS hJ with ⟨a', S1, h, h1, h2⟩ | ⟨a', S1, h, h1, h2⟩ | ⟨d, S1, h, h1, h2⟩
        · rw [eb] at h
          have h : f g' S = .nx (E a') S1 := h
          rw [optS_some, h, loop_nx, ← hk]
          exact ih (k + 1) a' S1 hd' h1 h2
        · rw [eb] at h
          have h : f g' S = .ct (E a') S1 := h
          rw [optS_some, h, loop_ct, ← hk]
          exact ih (k + 1) a' S1 hd' h1 h2
        · rw [eb] at h
          have h : f g' S = .rt d S1 := h
          rw [optS_some, h, loop_rt]
          exact .inr ⟨d, S1, rfl, h1, h2⟩
  have z := key xs 0 a S (by simp) hS h0
  rw [Nat.zero_add] at z
  exact z
/-- the same where nothing returns -/
theorem wp_frN {α β : Type} {f : Ev → Store → SR} {t : Tg} (E : α → Ev) (e : β → D) (J : Nat → α → Prop) (xs : List β) {a : α} {S : Store} (hS : Gd S) (h0 : J 0 a)
    (H : ∀ j b a S, xs[j]? = some b → Gd S → J j a → Turn (optS (bindT t (e b) (E a)) fun g' => f g' S) E (J (j + 1)) fun _ => False) :
    ∃ a' S', frGo f t (xs.map e) (E a) S = .nx (E a') S' ∧ Gd S' ∧ J xs.length a' := by
  rcases wp_frE E e J (fun _ => False) xs hS h0 H with h | ⟨_, _, _, _, h⟩
  · exact h
  · exact h.elim
/-- a comprehension with draws -/
theorem wp_lc {β : Type} {k : β → Store → Res D} (P : β → D → Prop) : ∀ (xs : List β) {S : Store}, Gd S → (∀ b S, b ∈ xs → Gd S → WpR (k b S) (P b)) → ∃ ys S', lcM k xs S = .ok ys S' ∧ Gd S' ∧ ys.length = xs.length ∧ ∀ y, y ∈ ys → ∃ b, b ∈ xs ∧ P b y
  | [], S, hS, _ => ⟨[], S, rfl, hS, rfl, fun y h => nomatch h⟩
  | b :: xs, S, hS, H => by
    obtain ⟨y, S1, h1, h2, h3⟩ := H b S List.mem_cons_self hS
    obtain ⟨ys, S2, q1, q2, q3, q4⟩ := wp_lc P xs h2 fun c S m => H c S (List.mem_cons_of_mem _ m)
    refine ⟨y :: ys, S2, ?_, q2, by rw [List.length_cons, List.length_cons, q3], fun z hz => ?_⟩
    · unfold lcM
      rw [h1]
      simp only [q1]
    · rcases List.mem_cons.mp hz with rfl | hz
      · exact ⟨b, List.mem_cons_self, h3⟩
      · obtain ⟨c, w1, w2⟩ := q4 z hz
        exact ⟨c, List.mem_cons_of_mem _ w1, w2⟩
end Zd
set_option Elab.async false
set_option linter.all false
set_option maxRecDepth 100000
set_option maxHeartbeats 1000000
/-! Equality and texts of data in their forms. -/
namespace Zd
open PySem
theorem eq_py {x y : D} {p q : PyData} (h1 : x.py = some p) (h2 : y.py = some q) (s1 : SeqAt.shaped p = true) (s2 : SeqAt.shaped q = true) : D.eq x y = some (PyData.eqv p q) := by
  have gen : D.eqP x y = some (PyData.eqv p q) := by
    unfold D.eqP
    rw [h1, h2]
    simp only [s1, s2, Bool.and_self, if_true]
  cases x <;> cases y <;> first
    | exact gen
    | (simp only [D.py] at h1 h2
       cases h1
       cases h2
       rfl)
    | skip
  rename_i a b
  simp only [D.py] at h1 h2
  cases h1
  cases h2
  show some (a == b) = some ((⟨a.toArray⟩ : Str) == ⟨b.toArray⟩)
  congr 1
  by_cases h : a = b
  · subst h; simp
  · have : ¬ ((⟨a.toArray⟩ : Str) = ⟨b.toArray⟩) := fun e => h (by injection e with e; simpa using e)
    rw [beq_eq_false_iff_ne.mpr h]
    symm
    exact beq_eq_false_iff_ne.mpr this
/-- what is written by e is told apart by == -/
structure Enc {α : Type} [DecidableEq α] (e : α → D) (p : α → PyData) (d : Nat) : Prop where
  py : ∀ a, (e a).py = some (p a)
  lay : ∀ a, (p a).canLay0 = true
  dep : ∀ a, (p a).depth ≤ d
  eqv : ∀ a b, PyData.eqv (p a) (p b) = decide (a = b)
section
variable {α β : Type} [DecidableEq α] [DecidableEq β] {e : α → D} {f : β → D} {p : α → PyData} {q : β → PyData} {d d' : Nat}
theorem Enc.shaped (E : Enc e p d) (hd : d ≤ 64) (a : α) : SeqAt.shaped (p a) = true := by
  unfold SeqAt.shaped
  rw [E.lay, Bool.true_and, decide_eq_true_eq]
  exact Nat.le_trans (E.dep a) hd
theorem Enc.eq (E : Enc e p d) (hd : d ≤ 64) (a b : α) : D.eq (e a) (e b) = some (decide (a = b)) := by
  rw [eq_py (E.py a) (E.py b) (E.shaped hd a) (E.shaped hd b), E.eqv]
theorem cmp_eq (x y : D) : cmpD .eq x y = D.eq x y := by cases x <;> cases y <;> rfl
theorem cmp_ne (x y : D) : cmpD .ne x y = (D.eq x y).map not := by cases x <;> cases y <;> rfl
theorem Enc.ceq (E : Enc e p d) (hd : d ≤ 64) (a b : α) : cmpD .eq (e a) (e b) = some (decide (a = b)) := by rw [cmp_eq, E.eq hd]
theorem Enc.cne (E : Enc e p d) (hd : d ≤ 64) (a b : α) : cmpD .ne (e a) (e b) = some (!decide (a = b)) := by rw [cmp_ne, E.eq hd]; rfl
theorem Enc.all (E : Enc e p d) : (∀ l : List α, D.pys (l.map e) = some (l.map p)) ∧ (∀ l : List α, PyData.canLayAll0 (l.map p) = true) ∧ (∀ l : List α, PyData.depthAll (l.map p) ≤ d) ∧ ∀ l m : List α, PyData.eqvAll (l.map p) (m.map p) = decide (l = m) := by
  refine ⟨fun l => ?_, fun l => ?_, fun l => ?_, fun l => ?_⟩
  · induction l with
    | nil => rfl
    | cons a l ih => simp only [List.map_cons, D.pys, E.py, ih]
  · induction l with
    | nil => rfl
    | cons a l ih => simp only [List.map_cons, PyData.canLayAll0, E.lay, ih, Bool.and_self]
  · induction l with
    | nil => exact Nat.zero_le _
    | cons a l ih => simp only [List.map_cons, PyData.depthAll]; exact Nat.max_le.mpr ⟨E.dep a, ih⟩
  · induction l with
    | nil => intro m; cases m <;> rfl
    | cons a l ih =>
      intro m
      cases m with
      | nil => rfl
      | cons b m =>
        simp only [List.map_cons, PyData.eqvAll, E.eqv, ih]
        by_cases h1 : a = b <;> by_cases h2 : l = m <;> simp [h1, h2]
theorem Enc.tup (E : Enc e p d) : Enc (fun l : List α => D.tup (l.map e)) (fun l => .tuple (l.map p)) (d + 1) where
  py := fun l => by simp only [D.py, E.all.1]
  lay := fun l => by simp only [PyData.canLay0]; exact E.all.2.1 l
  dep := fun l => by simp only [PyData.depth]; exact Nat.succ_le_succ (E.all.2.2.1 l)
  eqv := fun l m => by simp only [PyData.eqv]; exact E.all.2.2.2 l m
theorem Enc.lst (E : Enc e p d) : Enc (fun l : List α => D.lst (l.map e)) (fun l => .list (l.map p)) (d + 1) where
  py := fun l => by simp only [D.py, E.all.1]
  lay := fun l => by simp only [PyData.canLay0]; exact E.all.2.1 l
  dep := fun l => by simp only [PyData.depth]; exact Nat.succ_le_succ (E.all.2.2.1 l)
  eqv := fun l m => by simp only [PyData.eqv]; exact E.all.2.2.2 l m
theorem Enc.pair (E : Enc e p d) (F : Enc f q d') : Enc (fun x : α × β => D.tup [e x.1, f x.2]) (fun x => .tuple [p x.1, q x.2]) (max d d' + 1) where
  py := fun x => by simp only [D.py, D.pys, E.py, F.py]
  lay := fun x => by simp only [PyData.canLay0, PyData.canLayAll0, E.lay, F.lay, Bool.and_self]
  dep := fun x => by
    simp only [PyData.depth, PyData.depthAll]
    have := E.dep x.1
    have := F.dep x.2
    omega
  eqv := fun x y => by
    simp only [PyData.eqv, PyData.eqvAll, E.eqv, F.eqv, Bool.and_true]
    obtain ⟨a, b⟩ := x
    obtain ⟨c, d⟩ := y
    by_cases h1 : a = c <;> by_cases h2 : b = d <;> simp [h1, h2]
end
theorem enc_int : Enc D.int PyData.int 0 where
  py := fun _ => by simp only [D.py]
  lay := fun _ => by simp only [PyData.canLay0]
  dep := fun _ => by simp only [PyData.depth]; exact Nat.le_refl _
  eqv := fun a b => by
    simp only [PyData.eqv]
    by_cases h : a = b <;> simp [h]
theorem enc_bl : Enc D.bl PyData.bool 0 where
  py := fun _ => by simp only [D.py]
  lay := fun _ => by simp only [PyData.canLay0]
  dep := fun _ => by simp only [PyData.depth]; exact Nat.le_refl _
  eqv := fun a b => by
    simp only [PyData.eqv]
    by_cases h : a = b <;> simp [h]
def pyM : Option Int → PyData
  | none => .none
  | some i => .int i
theorem enc_mo : Enc oD pyM 0 where
  py := fun a => by cases a <;> simp only [oD, D.py, pyM]
  lay := fun a => by cases a <;> simp only [pyM, PyData.canLay0]
  dep := fun a => by cases a <;> (simp only [pyM, PyData.depth]; exact Nat.le_refl _)
  eqv := fun a b => by
    cases a <;> cases b <;> simp only [pyM, PyData.eqv]
    · rfl
    · rfl
    · rfl
    · rename_i i j
      by_cases h : i = j <;> simp [h]
theorem enc_row : Enc rowT (fun l => .tuple (l.map pyM)) 1 := enc_mo.tup
theorem enc_rows : Enc (fun l : List (List (Option Int)) => D.lst (l.map rowT)) (fun l => .list (l.map fun l => .tuple (l.map pyM))) 2 := enc_row.lst
@[simp] theorem eq_rows (r s : List (Option Int)) : cmpD .eq (rowT r) (rowT s) = some (decide (r = s)) := enc_row.ceq (by decide) r s
@[simp] theorem ne_rows (r s : List (Option Int)) : cmpD .ne (rowT r) (rowT s) = some (!decide (r = s)) := enc_row.cne (by decide) r s
@[simp] theorem eq_mos (r s : Option Int) : cmpD .eq (oD r) (oD s) = some (decide (r = s)) := enc_mo.ceq (by decide) r s
@[simp] theorem ne_mos (r s : Option Int) : cmpD .ne (oD r) (oD s) = some (!decide (r = s)) := enc_mo.cne (by decide) r s
theorem eq_rowsL (l m : List (List (Option Int))) : cmpD .eq (.lst (l.map rowT)) (.lst (m.map rowT)) = some (decide (l = m)) := enc_rows.ceq (by decide) l m
theorem ne_rowsL (l m : List (List (Option Int))) : cmpD .ne (.lst (l.map rowT)) (.lst (m.map rowT)) = some (!decide (l = m)) := enc_rows.cne (by decide) l m
/-- a comprehension with draws, item by item -/
theorem wp_lcR {β γ : Type} {k : β → Store → Res D} (enc : γ → D) (P : β → γ → Prop) : ∀ (xs : List β) {S : Store}, Gd S → (∀ b S, b ∈ xs → Gd S → ∃ c S', k b S = .ok (enc c) S' ∧ Gd S' ∧ P b c) → ∃ (cs : List γ) (S' : Store), lcM k xs S = .ok (cs.map enc) S' ∧ Gd S' ∧ cs.length = xs.length ∧ ∀ (i : Nat) b c, xs[i]? = some b → cs[i]? = some c → P b c
  | [], S, hS, _ => ⟨[], S, rfl, hS, rfl, fun i b c h => by simp at h⟩
  | b :: xs, S, hS, H => by
    obtain ⟨c, S1, h1, h2, h3⟩ := H b S List.mem_cons_self hS
    obtain ⟨cs, S2, q1, q2, q3, q4⟩ := wp_lcR enc P xs h2 fun c S m => H c S (List.mem_cons_of_mem _ m)
    refine ⟨c :: cs, S2, ?_, q2, by rw [List.length_cons, List.length_cons, q3], fun i x y hx hy => ?_⟩
    · unfold lcM
      rw [h1]
      simp only [q1]
      rfl
    · cases i with
      | zero => simp at hx hy; subst hx; subst hy; exact h3
      | succ i => simp at hx hy; exact q4 i x y hx hy
end Zd
set_option Elab.async false
set_option linter.all false
set_option maxRecDepth 10000
set_option maxHeartbeats 1000000
/-! Rows of moments: which is sooner, the first of some, least moves, what is made. -/
namespace M
abbrev Mo := Option Int
abbrev Rw := List Mo
/-- a is sooner than b -/
def soon : Mo → Mo → Bool
  | none, _ => false
  | some _, none => true
  | some i, some j => decide (i < j)
/-- a is not behind b -/
def le (a b : Mo) : Prop := soon b a = false
theorem le_refl (a : Mo) : le a a := by cases a <;> simp [le, soon]
theorem le_none (a : Mo) : le a none := rfl
theorem le_some {i j : Int} : le (some i) (some j) ↔ i ≤ j := by simp [le, soon]
theorem none_le {b : Mo} (h : le none b) : b = none := by
  cases b with
  | none => rfl
  | some j => simp [le, soon] at h
theorem le_trans {a b c : Mo} (h1 : le a b) (h2 : le b c) : le a c := by
  cases c with
  | none => exact le_none a
  | some k => cases b with
    | none => cases none_le h2
    | some j => cases a with
      | none => cases none_le h1
      | some i => rw [le_some] at *; omega
theorem le_antisymm {a b : Mo} (h1 : le a b) (h2 : le b a) : a = b := by
  cases a with
  | none => exact (none_le h1).symm
  | some i => cases b with
    | none => cases none_le h2
    | some j =>
      rw [le_some] at *
      congr 1
      omega
theorem le_of_soon {a b : Mo} (h : soon a b = true) : le a b := by
  cases a with
  | none => cases h
  | some i => cases b with
    | none => exact le_none _
    | some j =>
      have : i < j := of_decide_eq_true h
      rw [le_some]
      omega
/-- the first of some -/
def pk (a b : Mo) : Mo := if soon b a = true then b else a
def sn (l : List Mo) : Mo := l.foldl pk none
theorem pk_le1 (a b : Mo) : le (pk a b) a := by
  unfold pk
  split
  · rename_i h; exact le_of_soon h
  · exact le_refl a
theorem pk_le2 (a b : Mo) : le (pk a b) b := by
  unfold pk
  split
  · exact le_refl b
  · rename_i h; simpa [le] using h
theorem pk_or (a b : Mo) : pk a b = a ∨ pk a b = b := by
  unfold pk
  split
  · exact .inr rfl
  · exact .inl rfl
theorem pk_glb {a b c : Mo} (h1 : le c a) (h2 : le c b) : le c (pk a b) := by
  rcases pk_or a b with e | e <;> rw [e] <;> assumption
theorem pk_none (a : Mo) : pk none a = a := by
  cases a <;> simp [pk, soon]
theorem pk_none2 (a : Mo) : pk a none = a := by
  cases a <;> simp [pk, soon]
theorem pk_comm (a b : Mo) : pk a b = pk b a := le_antisymm (pk_glb (pk_le2 a b) (pk_le1 a b)) (pk_glb (pk_le2 b a) (pk_le1 b a))
theorem pk_assoc (a b c : Mo) : pk (pk a b) c = pk a (pk b c) :=
  le_antisymm (pk_glb (le_trans (pk_le1 _ _) (pk_le1 _ _)) (pk_glb (le_trans (pk_le1 _ _) (pk_le2 _ _)) (pk_le2 _ _)))
    (pk_glb (pk_glb (pk_le1 _ _) (le_trans (pk_le2 _ _) (pk_le1 _ _))) (le_trans (pk_le2 _ _) (pk_le2 _ _)))
theorem pk_self (a : Mo) : pk a a = a := by rcases pk_or a a with e | e <;> exact e
theorem fold_pk : ∀ (l : List Mo) (a : Mo), l.foldl pk a = pk a (sn l)
  | [], a => (pk_none2 a).symm
  | b :: l, a => by
    show l.foldl pk (pk a b) = pk a (l.foldl pk (pk none b))
    rw [fold_pk l (pk a b), fold_pk l (pk none b), pk_none, pk_assoc]
theorem sn_nil : sn [] = none := rfl
theorem sn_cons (b : Mo) (l : List Mo) : sn (b :: l) = pk b (sn l) := by
  show l.foldl pk (pk none b) = _
  rw [fold_pk, pk_none]
theorem sn_app : ∀ (l m : List Mo), sn (l ++ m) = pk (sn l) (sn m)
  | [], m => (pk_none _).symm
  | b :: l, m => by rw [List.cons_append, sn_cons, sn_cons, sn_app l m, pk_assoc]
theorem sn_le : ∀ {l : List Mo} {a : Mo}, a ∈ l → le (sn l) a
  | b :: l, a, h => by
    rw [sn_cons]
    rcases List.mem_cons.mp h with rfl | h
    · exact pk_le1 _ _
    · exact le_trans (pk_le2 _ _) (sn_le h)
theorem sn_glb : ∀ {l : List Mo} {c : Mo}, (∀ a, a ∈ l → le c a) → le c (sn l)
  | [], c, _ => le_none c
  | b :: l, c, h => by
    rw [sn_cons]
    exact pk_glb (h b List.mem_cons_self) (sn_glb fun a m => h a (List.mem_cons_of_mem _ m))
theorem sn_mem : ∀ (l : List Mo), sn l = none ∨ sn l ∈ l
  | [] => .inl rfl
  | b :: l => by
    rw [sn_cons]
    rcases pk_or b (sn l) with e | e
    · rw [e]; exact .inr List.mem_cons_self
    · rw [e]
      rcases sn_mem l with h | h
      · exact .inl h
      · exact .inr (List.mem_cons_of_mem _ h)
/-- moved -/
def sh (m : Int) (a : Mo) : Mo := a.map (· + m)
@[simp] theorem sh_none (m : Int) : sh m none = none := rfl
@[simp] theorem sh_some (m i : Int) : sh m (some i) = some (i + m) := rfl
theorem sh_mono {m n : Int} {a b : Mo} (h : le a b) (hm : m ≤ n) : le (sh m a) (sh n b) := by
  cases b with
  | none => exact le_none _
  | some j => cases a with
    | none => cases none_le h
    | some i =>
      rw [le_some] at h
      simp only [sh_some, le_some]
      omega
theorem sh_sh (m n : Int) (a : Mo) : sh m (sh n a) = sh (n + m) a := by
  cases a with
  | none => rfl
  | some i => simp only [sh_some]; congr 1; omega
theorem sh_zero (a : Mo) : sh 0 a = a := by
  cases a with
  | none => rfl
  | some i => simp
theorem sh_le {m : Int} {a b : Mo} : le (sh m a) (sh m b) ↔ le a b := by
  cases a <;> cases b <;> simp [le, soon, sh]
theorem sh_pk (m : Int) (a b : Mo) : sh m (pk a b) = pk (sh m a) (sh m b) := by
  refine le_antisymm (pk_glb (sh_le.mpr (pk_le1 a b)) (sh_le.mpr (pk_le2 a b))) ?_
  rcases pk_or a b with e | e <;> rw [e]
  · exact pk_le1 _ _
  · exact pk_le2 _ _
/-! ### rows, by their places -/
def at_ (r : Rw) (i : Nat) : Mo := r.getD i none
theorem at_cons0 (a : Mo) (r : Rw) : at_ (a :: r) 0 = a := rfl
theorem at_cons (a : Mo) (r : Rw) (i : Nat) : at_ (a :: r) (i + 1) = at_ r i := by simp [at_]
theorem at_nil (i : Nat) : at_ [] i = none := by simp [at_]
theorem at_map {α : Type} (f : α → Mo) (l : List α) (i : Nat) : at_ (l.map f) i = (l[i]?).elim none f := by
  unfold at_
  rw [List.getD_eq_getElem?_getD, List.getElem?_map]
  cases l[i]? <;> rfl
theorem at_mapn (f : Mo → Mo) (hf : f none = none) (r : Rw) (i : Nat) : at_ (r.map f) i = f (at_ r i) := by
  rw [at_map]
  unfold at_
  rw [List.getD_eq_getElem?_getD]
  cases r[i]? with
  | none => exact hf.symm
  | some a => rfl
theorem at_rep (k i : Nat) : at_ (List.replicate k none) i = none := by
  unfold at_
  rw [List.getD_eq_getElem?_getD, List.getElem?_replicate]
  split <;> rfl
theorem at_out {r : Rw} {i : Nat} (h : r.length ≤ i) : at_ r i = none := by
  unfold at_
  rw [List.getD_eq_getElem?_getD, List.getElem?_eq_none h]
  rfl
theorem at_mem {r : Rw} {i : Nat} {v : Int} (h : at_ r i = some v) : some v ∈ r := by
  unfold at_ at h
  rw [List.getD_eq_getElem?_getD] at h
  cases e : r[i]? with
  | none => rw [e] at h; cases h
  | some a =>
    rw [e] at h
    have : a = some v := h
    rw [← this]
    exact List.mem_of_getElem? e
theorem mem_at {r : Rw} {a : Mo} (h : a ∈ r) : ∃ i, i < r.length ∧ at_ r i = a := by
  obtain ⟨i, hi, e⟩ := List.getElem_of_mem h
  refine ⟨i, hi, ?_⟩
  unfold at_
  rw [List.getD_eq_getElem?_getD, List.getElem?_eq_getElem hi]
  exact e
theorem ext_at {r s : Rw} (hl : r.length = s.length) (h : ∀ i, at_ r i = at_ s i) : r = s := by
  refine List.ext_getElem hl fun i h1 h2 => ?_
  have z := h i
  unfold at_ at z
  rw [List.getD_eq_getElem?_getD, List.getD_eq_getElem?_getD, List.getElem?_eq_getElem h1, List.getElem?_eq_getElem h2] at z
  exact z
/-- everywhere not behind -/
def Le (r s : Rw) : Prop := ∀ i, le (at_ r i) (at_ s i)
theorem Le.refl (r : Rw) : Le r r := fun i => le_refl _
theorem Le.trans {a b c : Rw} (h1 : Le a b) (h2 : Le b c) : Le a c := fun i => le_trans (h1 i) (h2 i)
theorem Le.antisymm {a b : Rw} (hl : a.length = b.length) (h1 : Le a b) (h2 : Le b a) : a = b := ext_at hl fun i => le_antisymm (h1 i) (h2 i)
/-- a row moved -/
def mvd (m : Int) (r : Rw) : Rw := r.map (sh m)
theorem at_mvd (m : Int) (r : Rw) (i : Nat) : at_ (mvd m r) i = sh m (at_ r i) := at_mapn (sh m) rfl r i
theorem mvd_len (m : Int) (r : Rw) : (mvd m r).length = r.length := by simp [mvd]
/-! ### the least moves -/
def bad : List (Mo × Mo) → Bool
  | [] => false
  | p :: l => (p.1.isSome && p.2.isNone) || bad l
def bnd : List (Mo × Mo) → List Int
  | (some a, some b) :: l => (b - a) :: bnd l
  | _ :: l => bnd l
  | [] => []
open Zd in
def mv (a b : Rw) : Option Int := if bad (a.zip b) = true then none else if bnd (a.zip b) = [] then none else some (mostI (bnd (a.zip b)))
theorem bad_any : ∀ (l : List (Mo × Mo)), bad l = l.any fun p => p.1.isSome && p.2.isNone
  | [] => rfl
  | p :: l => by rw [List.any_cons, bad, bad_any l]
theorem bad_no {l : List (Mo × Mo)} (h : bad l = false) (p : Mo × Mo) (hp : p ∈ l) (e : p.2 = none) : p.1 = none := by
  rw [bad_any, List.any_eq_false] at h
  have := h p hp
  rw [e] at this
  cases q : p.1 with
  | none => rfl
  | some i => rw [q] at this; simp at this
theorem bnd_mem : ∀ {l : List (Mo × Mo)} {d : Int}, d ∈ bnd l ↔ ∃ a b, (some a, some b) ∈ l ∧ d = b - a
  | [], d => by simp [bnd]
  | (some a, some b) :: l, d => by
    simp only [bnd, List.mem_cons, bnd_mem (l := l)]
    constructor
    · rintro (rfl | ⟨x, y, h, rfl⟩)
      · exact ⟨a, b, .inl rfl, rfl⟩
      · exact ⟨x, y, .inr h, rfl⟩
    · rintro ⟨x, y, h | h, rfl⟩
      · cases h
        exact .inl rfl
      · exact .inr ⟨x, y, h, rfl⟩
  | (none, b) :: l, d => by
    simp only [bnd, bnd_mem (l := l), List.mem_cons]
    constructor
    · rintro ⟨x, y, h, rfl⟩; exact ⟨x, y, .inr h, rfl⟩
    · rintro ⟨x, y, h | h, rfl⟩
      · cases h
      · exact ⟨x, y, h, rfl⟩
  | (some a, none) :: l, d => by
    simp only [bnd, bnd_mem (l := l), List.mem_cons]
    constructor
    · rintro ⟨x, y, h, rfl⟩; exact ⟨x, y, .inr h, rfl⟩
    · rintro ⟨x, y, h | h, rfl⟩
      · cases h
      · exact ⟨x, y, h, rfl⟩
theorem zip_at {a b : Rw} (hl : a.length = b.length) (i : Nat) (hi : i < a.length) : (at_ a i, at_ b i) ∈ a.zip b := by
  have h2 : i < b.length := hl ▸ hi
  have e : (a.zip b)[i]'(by simp; omega) = (a[i], b[i]) := List.getElem_zip
  have m := List.getElem_mem (l := a.zip b) (n := i) (by simp; omega)
  rw [e] at m
  unfold at_
  rw [List.getD_eq_getElem?_getD, List.getD_eq_getElem?_getD, List.getElem?_eq_getElem hi, List.getElem?_eq_getElem h2]
  exact m
theorem at_zip {a b : Rw} {p : Mo × Mo} (h : p ∈ a.zip b) : ∃ i, i < a.length ∧ at_ a i = p.1 ∧ at_ b i = p.2 := by
  obtain ⟨i, hi, e⟩ := List.getElem_of_mem h
  have hi' : i < a.length ∧ i < b.length := by rw [List.length_zip] at hi; omega
  refine ⟨i, hi'.1, ?_⟩
  rw [List.getElem_zip] at e
  unfold at_
  rw [List.getD_eq_getElem?_getD, List.getD_eq_getElem?_getD, List.getElem?_eq_getElem hi'.1, List.getElem?_eq_getElem hi'.2]
  exact ⟨congrArg Prod.fst e, congrArg Prod.snd e⟩
/-- what a least move is: moved by it the row is nowhere before; it touches; by more it is behind -/
theorem mv_some {a b : Rw} {m : Int} (hl : a.length = b.length) (h : mv a b = some m) : Le b (mvd m a) ∧ ∃ i x y, at_ a i = some x ∧ at_ b i = some y ∧ m = y - x := by
  unfold mv at h
  split at h
  · cases h
  · rename_i hb
    split at h
    · cases h
    · rename_i hn
      have hb : bad (a.zip b) = false := by simpa using hb
      have h : Zd.mostI (bnd (a.zip b)) = m := Option.some.inj h
      obtain ⟨m1, m2⟩ := Zd.mostI_mem hn
      rw [h] at m1 m2
      constructor
      · intro i
        rw [at_mvd]
        by_cases hi : i < a.length
        · have mem := zip_at hl i hi
          cases ea : at_ a i with
          | none => exact le_none _
          | some x => cases eb : at_ b i with
            | none =>
              have := bad_no hb _ mem eb
              rw [ea] at this
              cases this
            | some y =>
              rw [ea, eb] at mem
              have := m2 (y - x) (bnd_mem.mpr ⟨x, y, mem, rfl⟩)
              rw [sh_some, le_some]
              omega
        · rw [at_out (by omega : a.length ≤ i)]
          exact le_none _
      · obtain ⟨x, y, hp, e⟩ := bnd_mem.mp m1
        obtain ⟨i, _, h1, h2⟩ := at_zip hp
        exact ⟨i, x, y, h1, h2, e⟩
/-- a row that is nowhere before, moved by k, has a least move, at most k, if it has a moment -/
theorem mv_of {a b : Rw} {k : Int} (hl : a.length = b.length) (h : Le b (mvd k a)) (hs : ∃ i x, at_ a i = some x) : ∃ m, mv a b = some m ∧ m ≤ k := by
  have hb : bad (a.zip b) = false := by
    rw [bad_any, List.any_eq_false]
    rintro ⟨x, y⟩ hp
    obtain ⟨i, _, h1, h2⟩ := at_zip hp
    have z := h i
    rw [at_mvd, h1, h2] at z
    cases x with
    | none => simp
    | some x => cases y with
      | none => cases none_le z
      | some y => simp
  obtain ⟨i, x, hx⟩ := hs
  have hi : i < a.length := by
    by_cases q : i < a.length
    · exact q
    · rw [at_out (by omega : a.length ≤ i)] at hx; cases hx
  have mem := zip_at hl i hi
  have z := h i
  rw [at_mvd, hx, sh_some] at z
  cases ey : at_ b i with
  | none => rw [ey] at z; cases none_le z
  | some y =>
    rw [hx, ey] at mem
    have hn : bnd (a.zip b) ≠ [] := by
      intro e
      have := bnd_mem.mpr ⟨x, y, mem, rfl⟩
      rw [e] at this
      cases this
    refine ⟨Zd.mostI (bnd (a.zip b)), ?_, ?_⟩
    · unfold mv
      rw [hb, if_neg (by decide), if_neg hn]
    · obtain ⟨u, v, hp, e⟩ := bnd_mem.mp (Zd.mostI_mem hn).1
      obtain ⟨j, _, h1, h2⟩ := at_zip hp
      have w := h j
      rw [at_mvd, h1, h2, sh_some, le_some] at w
      omega
/-! ### what is made -/
/-- one more told row -/
def mf1 (row acc a : Rw) : Rw := match mv a row with
  | none => acc
  | some m => (acc.zip a).map fun p => pk p.1 (sh m p.2)
def mf (rows : List Rw) (row : Rw) : Rw := rows.foldl (mf1 row) (List.replicate row.length none)
theorem mf1_len {row acc a : Rw} (h : acc.length = a.length) : (mf1 row acc a).length = acc.length := by
  unfold mf1
  split
  · rfl
  · simp [h]
theorem at_zmap {acc a : Rw} (h : acc.length = a.length) (m : Int) (i : Nat) : at_ ((acc.zip a).map fun p => pk p.1 (sh m p.2)) i = pk (at_ acc i) (sh m (at_ a i)) := by
  by_cases hi : i < acc.length
  · have h2 : i < a.length := h ▸ hi
    rw [at_map, List.getElem?_eq_getElem (by simp; omega)]
    unfold at_
    rw [List.getD_eq_getElem?_getD, List.getD_eq_getElem?_getD, List.getElem?_eq_getElem hi, List.getElem?_eq_getElem h2]
    show pk ((acc.zip a)[i]'(by simp; omega)).1 (sh m ((acc.zip a)[i]'(by simp; omega)).2) = _
    rw [List.getElem_zip]
    rfl
  · rw [at_out (r := (acc.zip a).map fun p => pk p.1 (sh m p.2)) (by simp; omega), at_out (by omega : acc.length ≤ i), at_out (by omega : a.length ≤ i)]
    rfl
/-- what a told row gives for a row at a place -/
def gv (row a : Rw) (i : Nat) : Mo := match mv a row with
  | none => none
  | some m => sh m (at_ a i)
theorem at_mf1 {row acc a : Rw} (h : acc.length = a.length) (i : Nat) : at_ (mf1 row acc a) i = pk (at_ acc i) (gv row a i) := by
  unfold mf1 gv
  cases mv a row with
  | none => exact (pk_none2 _).symm
  | some m => exact at_zmap h m i
theorem mf_fold (row : Rw) : ∀ (rows : List Rw) (acc : Rw), (∀ a, a ∈ rows → a.length = acc.length) → (rows.foldl (mf1 row) acc).length = acc.length ∧ ∀ i, at_ (rows.foldl (mf1 row) acc) i = pk (at_ acc i) (sn (rows.map fun a => gv row a i))
  | [], acc, _ => ⟨rfl, fun i => (pk_none2 _).symm⟩
  | a :: rows, acc, h => by
    have ha := h a List.mem_cons_self
    have hl := mf1_len (row := row) ha.symm
    obtain ⟨q1, q2⟩ := mf_fold row rows (mf1 row acc a) fun b m => by rw [hl]; exact h b (List.mem_cons_of_mem _ m)
    refine ⟨by rw [List.foldl_cons, q1, hl], fun i => ?_⟩
    rw [List.foldl_cons, q2, at_mf1 ha.symm, List.map_cons, sn_cons, pk_assoc]
section
variable {rows : List Rw} {row y : Rw}
theorem mf_len (h : ∀ a, a ∈ rows → a.length = row.length) : (mf rows row).length = row.length := by
  have z := (mf_fold row rows (List.replicate row.length none) fun a m => by rw [h a m]; simp).1
  rw [List.length_replicate] at z
  exact z
theorem at_mf (h : ∀ a, a ∈ rows → a.length = row.length) (i : Nat) : at_ (mf rows row) i = sn (rows.map fun a => gv row a i) := by
  have z := (mf_fold row rows (List.replicate row.length none) fun a m => by rw [h a m]; simp).2 i
  rw [at_rep, pk_none] at z
  exact z
/-- y is made of told rows -/
def Mk (rows : List Rw) (y : Rw) : Prop := ∀ i v, at_ y i = some v → ∃ a, a ∈ rows ∧ ∃ m, Le y (mvd m a) ∧ sh m (at_ a i) = some v
theorem mf_ge (h : ∀ a, a ∈ rows → a.length = row.length) : Le row (mf rows row) := fun i => by
  rw [at_mf h]
  refine sn_glb fun x hx => ?_
  obtain ⟨a, ha, rfl⟩ := List.mem_map.mp hx
  unfold gv
  cases e : mv a row with
  | none => exact le_none _
  | some m =>
    have := (mv_some (h a ha) e).1 i
    rw [at_mvd] at this
    exact this
theorem mf_made (h : ∀ a, a ∈ rows → a.length = row.length) : Mk rows (mf rows row) := fun i v hv => by
  rw [at_mf h] at hv
  rcases sn_mem (rows.map fun a => gv row a i) with q | q
  · rw [q] at hv; cases hv
  · rw [hv] at q
    obtain ⟨a, ha, e⟩ := List.mem_map.mp q
    unfold gv at e
    cases em : mv a row with
    | none => rw [em] at e; cases e
    | some m =>
      rw [em] at e
      refine ⟨a, ha, m, fun j => ?_, e⟩
      rw [at_mf h, at_mvd]
      have : gv row a j = sh m (at_ a j) := by unfold gv; rw [em]
      rw [← this]
      exact sn_le (List.mem_map_of_mem ha)
theorem mf_least (h : ∀ a, a ∈ rows → a.length = row.length) (hy : Mk rows y) (hr : Le row y) : Le (mf rows row) y := fun i => by
  cases e : at_ y i with
  | none => exact le_none _
  | some v =>
    obtain ⟨a, ha, m, h1, h2⟩ := hy i v e
    have hs : ∃ i x, at_ a i = some x := by
      cases ea : at_ a i with
      | none => rw [ea] at h2; cases h2
      | some x => exact ⟨i, x, ea⟩
    obtain ⟨k, hk, hkm⟩ := mv_of (h a ha) (hr.trans h1) hs
    rw [at_mf h]
    refine le_trans (sn_le (List.mem_map_of_mem ha)) ?_
    show le (gv row a i) _
    unfold gv
    rw [hk, ← h2]
    exact sh_mono (le_refl _) hkm
/-- what is made is its own soonest -/
theorem mf_fix (h : ∀ a, a ∈ rows → a.length = row.length) (hm : Mk rows row) : mf rows row = row :=
  Le.antisymm (mf_len h) (mf_least h hm (Le.refl _)) (mf_ge h)
theorem made_iff (h : ∀ a, a ∈ rows → a.length = row.length) : mf rows row = row ↔ Mk rows row := ⟨fun e => by have := mf_made h; rw [e] at this; exact this, mf_fix h⟩
end
theorem Mk.more {rows rows' : List Rw} {y : Rw} (h : Mk rows y) (hs : ∀ a, a ∈ rows → a ∈ rows') : Mk rows' y := fun i v hv => by
  obtain ⟨a, ha, q⟩ := h i v hv
  exact ⟨a, hs a ha, q⟩
theorem Mk.none {rows : List Rw} {y : Rw} (h : ∀ i, at_ y i = none) : Mk rows y := fun i v hv => by rw [h] at hv; cases hv
theorem Mk.one {rows : List Rw} {a : Rw} (h : a ∈ rows) (m : Int) : Mk rows (mvd m a) := fun i v hv => ⟨a, h, m, Le.refl _, by rw [at_mvd] at hv; exact hv⟩
/-- the first of made ones is made -/
theorem Mk.min {rows : List Rw} {y : Rw} (l : List Rw) (h : ∀ x, x ∈ l → Mk rows x) (hy : ∀ i, at_ y i = sn (l.map fun x => at_ x i)) : Mk rows y := fun i v hv => by
  have e := hy i
  rw [hv] at e
  rcases sn_mem (l.map fun x => at_ x i) with q | q
  · rw [← e] at q; cases q
  · rw [← e] at q
    obtain ⟨x, hx, ex⟩ := List.mem_map.mp q
    obtain ⟨a, ha, m, h1, h2⟩ := h x hx i v ex
    refine ⟨a, ha, m, Le.trans (fun j => ?_) h1, h2⟩
    rw [hy j]
    exact sn_le (List.mem_map_of_mem hx)
theorem mf_mono {rows : List Rw} {r s : Rw} (hr : ∀ a, a ∈ rows → a.length = r.length) (hs : ∀ a, a ∈ rows → a.length = s.length) (h : Le r s) : Le (mf rows r) (mf rows s) := mf_least hr (mf_made hs) (h.trans (mf_ge hs))
end M
set_option Elab.async false
set_option linter.all false
/-! A rule that parts a row from told rows (plain mathematics). -/
namespace M
def dfs (rows : List Rw) (h p : Nat) : List Int := rows.filterMap fun t => match at_ t h, at_ t p with
  | some a, some b => some (a - b)
  | _, _ => none
def ld (rows : List Rw) (h p : Nat) : Mo := if dfs rows h p = [] then none else some (Zd.leastI (dfs rows h p))
def cn (rows : List Rw) (r made : Rw) (h p : Nat) : Mo := match at_ r p with
  | none => ld rows h p
  | some x => match at_ made p, at_ made h with
    | some y, some z => if y = x then some (z - y) else none
    | _, _ => none
/-- the causes, by places -/
def pcI (rows : List Rw) (r made : Rw) (h k : Nat) : List (Nat × Int) := (List.range k).filterMap fun i => (cn rows r made h i).map fun m => (i, m)
def fst (cs : List (Nat × Int)) (y : Rw) : Mo := sn (cs.map fun c => sh c.2 (at_ y c.1))
def Kp (h : Nat) (cs : List (Nat × Int)) (y : Rw) : Prop := le (fst cs y) (at_ y h)
theorem dfs_mem {rows : List Rw} {h p : Nat} {t : Rw} {a b : Int} (ht : t ∈ rows) (e1 : at_ t h = some a) (e2 : at_ t p = some b) : a - b ∈ dfs rows h p := List.mem_filterMap.mpr ⟨t, ht, by rw [e1, e2]⟩
theorem ld_le {rows : List Rw} {h p : Nat} {t : Rw} {a b : Int} (ht : t ∈ rows) (e1 : at_ t h = some a) (e2 : at_ t p = some b) : ∃ m, ld rows h p = some m ∧ m ≤ a - b := by
  have q := dfs_mem ht e1 e2
  have ne : dfs rows h p ≠ [] := fun e => by rw [e] at q; cases q
  unfold ld
  rw [if_neg ne]
  exact ⟨_, rfl, (Zd.leastI_mem ne).2 _ q⟩
theorem pc_mem {rows : List Rw} {r made : Rw} {h k i : Nat} {m : Int} (hi : i < k) (e : cn rows r made h i = some m) : (i, m) ∈ pcI rows r made h k := List.mem_filterMap.mpr ⟨i, List.mem_range.mpr hi, by rw [e]; rfl⟩
theorem mem_pc {rows : List Rw} {r made : Rw} {h k i : Nat} {m : Int} (e : (i, m) ∈ pcI rows r made h k) : i < k ∧ cn rows r made h i = some m := by
  obtain ⟨j, hj, q⟩ := List.mem_filterMap.mp e
  obtain ⟨m', e1, e2⟩ := Option.map_eq_some_iff.mp q
  cases e2
  exact ⟨List.mem_range.mp hj, e1⟩
theorem fst_le {cs : List (Nat × Int)} {y : Rw} {i : Nat} {m : Int} (h : (i, m) ∈ cs) : le (fst cs y) (sh m (at_ y i)) := sn_le (List.mem_map.mpr ⟨(i, m), h, rfl⟩)
variable {rows : List Rw} {r : Rw} {h k : Nat}
/-- each told row keeps it -/
theorem keep_told (hl : ∀ a, a ∈ rows → a.length = r.length) (hk : k = r.length) {t : Rw} (ht : t ∈ rows) : Kp h (pcI rows r (mf rows r) h k) t := by
  unfold Kp
  cases eh : at_ t h with
  | none => exact le_none _
  | some a =>
    have lt := hl t ht
    by_cases q : ∃ i x, at_ t i = some x ∧ at_ r i = none
    · obtain ⟨i, x, e1, e2⟩ := q
      have hi : i < k := by
        by_cases z : i < t.length
        · omega
        · rw [at_out (by omega)] at e1; cases e1
      obtain ⟨m, q1, q2⟩ := ld_le ht eh e1
      have ec : cn rows r (mf rows r) h i = some m := by unfold cn; rw [e2]; exact q1
      refine le_trans (fst_le (pc_mem hi ec)) ?_
      rw [e1, sh_some]
      exact le_some.mpr (by omega)
    · have hmv : ∃ m, mv t r = some m := by
        cases e : mv t r with
        | some m => exact ⟨m, rfl⟩
        | none =>
          exfalso
          have nb : bad (t.zip r) = false := by
            rw [bad_any, List.any_eq_false]
            rintro ⟨u, v⟩ hp
            obtain ⟨i, hi, e1, e2⟩ := at_zip hp
            cases u with
            | none => simp
            | some x =>
              cases v with
              | some y => simp
              | none => exact absurd ⟨i, x, e1, e2⟩ q
          have hh : h < t.length := by
            by_cases z : h < t.length
            · exact z
            · rw [at_out (by omega)] at eh; cases eh
          have nn : bnd (t.zip r) ≠ [] := by
            cases er : at_ r h with
            | none => exact absurd ⟨h, a, eh, er⟩ q
            | some b =>
              have m : b - a ∈ bnd (t.zip r) := bnd_mem.mpr ⟨a, b, by rw [← eh, ← er]; exact zip_at lt h hh, rfl⟩
              intro e
              rw [e] at m
              cases m
          unfold mv at e
          simp [nb, nn] at e
      obtain ⟨m, hm⟩ := hmv
      obtain ⟨q1, i, x, y, e1, e2, e3⟩ := mv_some lt hm
      have hi : i < k := by
        by_cases z : i < t.length
        · omega
        · rw [at_out (by omega)] at e1; cases e1
      have le1 : ∀ j, le (at_ (mf rows r) j) (sh m (at_ t j)) := fun j => by
        rw [at_mf hl]
        have : gv r t j = sh m (at_ t j) := by unfold gv; rw [hm]
        rw [← this]
        exact sn_le (List.mem_map.mpr ⟨t, ht, rfl⟩)
      have ei : at_ (mf rows r) i = some y := by
        refine le_antisymm ?_ ?_
        · have := le1 i
          rw [e1, sh_some] at this
          have z : x + m = y := by omega
          rwa [z] at this
        · have := mf_ge hl i
          rwa [e2] at this
      have lh := le1 h
      rw [eh, sh_some] at lh
      cases em : at_ (mf rows r) h with
      | none => rw [em] at lh; cases none_le lh
      | some z =>
        rw [em] at lh
        have lz := le_some.mp lh
        have ec : cn rows r (mf rows r) h i = some (z - y) := by
          unfold cn
          rw [e2, ei, em]
          simp
        refine le_trans (fst_le (pc_mem hi ec)) ?_
        rw [e1, sh_some]
        exact le_some.mpr (by omega)
/-- what is made of rows that keep a rule keeps it -/
theorem keep_made {cs : List (Nat × Int)} {y : Rw} (hk : ∀ t, t ∈ rows → Kp h cs t) (hy : Mk rows y) : Kp h cs y := by
  unfold Kp
  cases eh : at_ y h with
  | none => exact le_none _
  | some v =>
    obtain ⟨a, ha, m, q1, q2⟩ := hy h v eh
    have z := hk a ha
    unfold Kp at z
    cases ea : at_ a h with
    | none => rw [ea] at q2; cases q2
    | some u =>
      rw [ea] at q2 z
      rw [sh_some] at q2
      have q2 : u + m = v := Option.some.inj q2
      rcases sn_mem (cs.map fun c => sh c.2 (at_ a c.1)) with e | e
      · have e : fst cs a = none := e
        rw [e] at z
        cases none_le z
      · obtain ⟨c, hc, ec⟩ := List.mem_map.mp e
        have ec : sh c.2 (at_ a c.1) = fst cs a := ec
        rw [← ec] at z
        refine le_trans (fst_le (i := c.1) (m := c.2) hc) ?_
        have s1 := sh_mono (m := c.2) (n := c.2) (q1 c.1) (Int.le_refl _)
        rw [at_mvd, sh_sh] at s1
        refine le_trans s1 ?_
        cases eai : at_ a c.1 with
        | none => rw [eai] at z; cases none_le z
        | some w =>
          rw [eai, sh_some] at z
          have := le_some.mp z
          rw [sh_some]
          exact le_some.mpr (by omega)
/-- the row breaks it -/
theorem break_row (hs : soon (at_ r h) (at_ (mf rows r) h) = true) : soon (at_ r h) (fst (pcI rows r (mf rows r) h k) r) = true := by
  cases er : at_ r h with
  | none => rw [er] at hs; cases hs
  | some x =>
    rw [er] at hs
    rcases sn_mem ((pcI rows r (mf rows r) h k).map fun c => sh c.2 (at_ r c.1)) with e | e
    · have e : fst (pcI rows r (mf rows r) h k) r = none := e
      rw [e]
      rfl
    · obtain ⟨c, hc, ec⟩ := List.mem_map.mp e
      obtain ⟨i, m⟩ := c
      have ec : sh m (at_ r i) = fst (pcI rows r (mf rows r) h k) r := ec
      rw [← ec]
      obtain ⟨_, hcn⟩ := mem_pc hc
      cases eri : at_ r i with
      | none => rfl
      | some y =>
        unfold cn at hcn
        simp only [eri] at hcn
        cases eu : at_ (mf rows r) i with
        | none => rw [eu] at hcn; cases hcn
        | some u =>
          cases ev : at_ (mf rows r) h with
          | none => rw [eu, ev] at hcn; cases hcn
          | some v =>
            rw [eu, ev] at hcn
            simp only at hcn
            split at hcn
            · rename_i uy
              cases hcn
              rw [ev] at hs
              subst uy
              rw [sh_some]
              simp only [soon, decide_eq_true_eq] at hs ⊢
              omega
            · cases hcn
theorem not_kept {y : Rw} {cs : List (Nat × Int)} (hs : soon (at_ y h) (fst cs y) = true) : ¬ Kp h cs y := fun e => by
  unfold Kp le at e
  rw [hs] at e
  cases e
/-- heads: a row is made just where there is none -/
theorem heads_nil (hl : ∀ a, a ∈ rows → a.length = r.length) : ((List.range r.length).filter fun i => soon (at_ r i) (at_ (mf rows r) i)) = [] ↔ mf rows r = r := by
  constructor
  · intro e
    refine Le.antisymm (mf_len hl) (fun i => ?_) (mf_ge hl)
    by_cases hi : i < r.length
    · have q := List.filter_eq_nil_iff.mp e i (List.mem_range.mpr hi)
      unfold le
      simpa using q
    · rw [at_out (r := r) (by omega)]
      exact le_none _
  · intro e
    rw [e, List.filter_eq_nil_iff]
    intro i _
    cases at_ r i with
    | none => simp [soon]
    | some x => simp [soon]
end M
set_option Elab.async false
set_option linter.all false
/-! Rows moved, told rows in another form (plain mathematics). -/
namespace M
variable {rows rows' : List Rw} {r s y : Rw}
theorem Mk.move (h : Mk rows y) (m : Int) : Mk rows (mvd m y) := fun i v hv => by
  rw [at_mvd] at hv
  cases e : at_ y i with
  | none => rw [e] at hv; cases hv
  | some u =>
    rw [e, sh_some] at hv
    cases hv
    obtain ⟨a, ha, c, q1, q2⟩ := h i u e
    refine ⟨a, ha, c + m, fun j => ?_, ?_⟩
    · rw [at_mvd, at_mvd]
      have := sh_mono (m := m) (n := m) (q1 j) (Int.le_refl _)
      rw [at_mvd, sh_sh] at this
      exact this
    · rw [← sh_sh, q2]
      rfl
theorem Le.move (h : Le r s) (m : Int) : Le (mvd m r) (mvd m s) := fun i => by
  rw [at_mvd, at_mvd]
  exact sh_mono (h i) (Int.le_refl _)
theorem mvd_mvd (m n : Int) (r : Rw) : mvd m (mvd n r) = mvd (n + m) r := by
  unfold mvd
  rw [List.map_map]
  apply List.map_congr_left
  intro a _
  exact sh_sh m n a
theorem mvd_zero (r : Rw) : mvd 0 r = r := by
  unfold mvd
  rw [show sh 0 = id from funext sh_zero]
  simp
theorem mf_move (hl : ∀ a, a ∈ rows → a.length = r.length) (m : Int) : mf rows (mvd m r) = mvd m (mf rows r) := by
  have hl' : ∀ a, a ∈ rows → a.length = (mvd m r).length := fun a h => by rw [mvd_len]; exact hl a h
  have e1 : (mf rows (mvd m r)).length = r.length := by rw [mf_len hl', mvd_len]
  refine Le.antisymm (by rw [e1, mvd_len, mf_len hl]) (mf_least hl' ((mf_made hl).move m) ((mf_ge hl).move m)) ?_
  have q := mf_least hl ((mf_made hl').move (-m)) (by
    have := (mf_ge hl').move (-m)
    rw [mvd_mvd, show m + -m = 0 by omega, mvd_zero] at this
    exact this)
  have := q.move m
  rwa [mvd_mvd, show -m + m = 0 by omega, mvd_zero] at this
theorem mf_same (hl : ∀ a, a ∈ rows → a.length = r.length) (hl' : ∀ a, a ∈ rows' → a.length = r.length) (h : ∀ y, Mk rows y ↔ Mk rows' y) : mf rows r = mf rows' r :=
  Le.antisymm (by rw [mf_len hl, mf_len hl']) (mf_least hl ((h _).mpr (mf_made hl')) (mf_ge hl')) (mf_least hl' ((h _).mp (mf_made hl)) (mf_ge hl))
theorem Mk.trans (h : Mk rows y) (hr : ∀ a, a ∈ rows → Mk rows' a) : Mk rows' y := fun i v hv => by
  obtain ⟨a, ha, m, q1, q2⟩ := h i v hv
  cases e : at_ a i with
  | none => rw [e] at q2; cases q2
  | some u =>
    rw [e, sh_some] at q2
    have q2 : u + m = v := Option.some.inj q2
    obtain ⟨b, hb, c, p1, p2⟩ := hr a ha i u e
    refine ⟨b, hb, c + m, q1.trans ?_, ?_⟩
    · have := p1.move m
      rwa [mvd_mvd] at this
    · rw [← sh_sh, p2, sh_some, q2]
theorem Mk.self {a : Rw} (h : a ∈ rows) : Mk rows a := by
  have := Mk.one h 0
  rwa [mvd_zero] at this
theorem Mk.iff (h1 : ∀ a, a ∈ rows → Mk rows' a) (h2 : ∀ a, a ∈ rows' → Mk rows a) (y : Rw) : Mk rows y ↔ Mk rows' y := ⟨fun h => h.trans h1, fun h => h.trans h2⟩
/-- moves of moved rows -/
theorem mv_move {a b : Rw} (hl : a.length = b.length) (m : Int) : mv a (mvd m b) = sh m (mv a b) := by
  have hl' : a.length = (mvd m b).length := by rw [mvd_len]; exact hl
  have some_of : ∀ {x : Int}, mv a b = some x → ∃ i v, at_ a i = some v := fun {x} e => by
    obtain ⟨_, i, u, v, q1, _⟩ := mv_some hl e
    exact ⟨i, u, q1⟩
  cases e : mv a b with
  | some x =>
    obtain ⟨q1, i, u, v, q2, q3, q4⟩ := mv_some hl e
    obtain ⟨w, w1, w2⟩ := mv_of (k := x + m) hl' (by
      have := q1.move m
      rwa [mvd_mvd] at this) ⟨i, u, q2⟩
    rw [w1, sh_some]
    obtain ⟨p1, _⟩ := mv_some hl' w1
    have z := p1 i
    rw [at_mvd, at_mvd, q2, q3, sh_some, sh_some] at z
    have := le_some.mp z
    congr 1
    omega
  | none =>
    cases e2 : mv a (mvd m b) with
    | none => rfl
    | some w =>
      exfalso
      obtain ⟨p1, i, u, v, p2, _⟩ := mv_some hl' e2
      obtain ⟨x, x1, _⟩ := mv_of (k := w - m) hl (by
        have := p1.move (-m)
        rw [mvd_mvd, mvd_mvd, show m + -m = 0 by omega, mvd_zero] at this
        exact this) ⟨i, u, p2⟩
      rw [e] at x1
      cases x1
end M
set_option Elab.async false
set_option linter.all false
set_option maxHeartbeats 1000000
/-! Least lots of rows (plain mathematics). -/
namespace M
variable {R R' T P Q F : List Rw} {r s a b y : Rw} {k : Nat}
theorem sn_mvdM (m : Int) : ∀ r : Rw, sn (mvd m r) = sh m (sn r)
  | [] => rfl
  | a :: r => by
    show sn (sh m a :: mvd m r) = _
    rw [sn_cons, sn_cons, sh_pk, sn_mvdM m r]
/-- the first moment is 0 -/
def N0 (r : Rw) : Prop := sn r = some 0
/-- there is a moment -/
def live (r : Rw) : Bool := r.any (·.isSome)
theorem live_iff : live r = true ↔ ∃ i x, at_ r i = some x := by
  unfold live
  rw [List.any_eq_true]
  constructor
  · rintro ⟨m, hm, h⟩
    obtain ⟨i, _, e⟩ := mem_at hm
    obtain ⟨x, rfl⟩ := Option.isSome_iff_exists.mp h
    exact ⟨i, x, e⟩
  · rintro ⟨i, x, e⟩
    exact ⟨_, at_mem e, rfl⟩
theorem dead_at (h : live r = false) (i : Nat) : at_ r i = none := by
  cases e : at_ r i with
  | none => rfl
  | some x =>
    have := live_iff.mpr ⟨i, x, e⟩
    rw [h] at this
    cases this
theorem sn_live : (sn r).isSome = live r := by
  cases h : live r with
  | true =>
    obtain ⟨i, x, e⟩ := live_iff.mp h
    have := sn_le (at_mem e)
    cases q : sn r with
    | none => rw [q] at this; cases none_le this
    | some v => rfl
  | false =>
    rcases sn_mem r with q | q
    · rw [q]; rfl
    · obtain ⟨i, _, e⟩ := mem_at q
      rw [dead_at h] at e
      rw [← e]; rfl
theorem N0.live (h : N0 r) : live r = true := by rw [← sn_live, h]; rfl
theorem N0.eq {m : Int} (ha : N0 a) (hr : N0 r) (h : mvd m a = r) : a = r := by
  have e := sn_mvdM m a
  rw [h, hr, ha, sh_some] at e
  have : m = 0 := by have := Option.some.inj e; omega
  rw [← h, this, mvd_zero]
/-- what is no one made of the others is one of all that make it -/
theorem key (hn : ¬ Mk (R.filter (· ≠ r)) r) (hT : ∀ a, a ∈ T → Mk R a) (h : Mk T r) : ∃ a, a ∈ T ∧ ∃ m, ∀ i, at_ (mvd m a) i = at_ r i := by
  refine Classical.byContradiction fun hc => hn fun i v hv => ?_
  obtain ⟨a, ha, m, q1, q2⟩ := h i v hv
  cases eu : at_ a i with
  | none => rw [eu] at q2; cases q2
  | some u =>
    rw [eu, sh_some] at q2
    have q2 : u + m = v := Option.some.inj q2
    obtain ⟨b, hb, c, p1, p2⟩ := hT a ha i u eu
    by_cases e : b = r
    · exfalso
      subst e
      rw [hv, sh_some] at p2
      have p2 : v + c = u := Option.some.inj p2
      refine hc ⟨a, ha, m, fun j => le_antisymm ?_ (q1 j)⟩
      have z := p1.move m j
      rw [mvd_mvd, show c + m = 0 by omega, mvd_zero] at z
      exact z
    · refine ⟨b, List.mem_filter.mpr ⟨hb, by simpa using e⟩, c + m, ?_, ?_⟩
      · have := p1.move m
        rw [mvd_mvd] at this
        exact q1.trans this
      · rw [← sh_sh, p2, sh_some, q2]
theorem key0 (hn : ¬ Mk (R.filter (· ≠ r)) r) (hr : N0 r) (hT : ∀ a, a ∈ T → N0 a ∧ a.length = r.length ∧ Mk R a) (h : Mk T r) : r ∈ T := by
  obtain ⟨a, ha, m, e⟩ := key hn (fun a m => (hT a m).2.2) h
  have e2 : mvd m a = r := ext_at (by rw [mvd_len]; exact (hT a ha).2.1) e
  rw [← N0.eq (hT a ha).1 hr e2]
  exact ha
/-- not made of the other ones -/
def exB (R : List Rw) (r : Rw) : Bool := !decide (mf (R.filter (· ≠ r)) r = r)
theorem exB_iff (hR : ∀ a, a ∈ R → a.length = r.length) : exB R r = true ↔ ¬ Mk (R.filter (· ≠ r)) r := by
  unfold exB
  rw [Bool.not_eq_true', decide_eq_false_iff_not, made_iff fun a m => hR a (List.mem_filter.mp m).1]
def lstep (F : List Rw) (r : Rw) : List Rw := if mf (F.filter (· ≠ r)) r = r then F.filter (· ≠ r) else F
/-- lots of rows that begin at 0, of one length -/
def Ok0 (k : Nat) (R : List Rw) : Prop := ∀ a, a ∈ R → N0 a ∧ a.length = k
theorem filter_mid (nd : (P ++ r :: Q).Nodup) : (P ++ r :: Q).filter (· ≠ r) = P ++ Q := by
  rw [List.nodup_append] at nd
  obtain ⟨n1, n2, n3⟩ := nd
  rw [List.nodup_cons] at n2
  rw [List.filter_append, List.filter_cons, if_neg (by simp)]
  congr 1
  · rw [List.filter_eq_self]
    intro a ha
    have := n3 a ha r List.mem_cons_self
    simpa using this
  · rw [List.filter_eq_self]
    intro a ha
    have : a ≠ r := fun e => n2.1 (e ▸ ha)
    simpa using this
theorem least_go {A : List Rw} (hR : Ok0 k A) (nd : A.Nodup) : ∀ (Q' P' : List Rw), P' ++ Q' = A → (∀ a, a ∈ A → Mk (P'.filter (exB A) ++ Q') a) →
    Q'.foldl lstep (P'.filter (exB A) ++ Q') = A.filter (exB A) ∧ ∀ a, a ∈ A → Mk (A.filter (exB A)) a
  | [], P', e, h => by
    rw [List.append_nil] at e
    subst e
    rw [List.append_nil] at h ⊢
    exact ⟨rfl, h⟩
  | r :: Q', P', e, h => by
    have rA : r ∈ A := by rw [← e]; simp
    have nd' : (P' ++ r :: Q').Nodup := e ▸ nd
    have sub : ∀ a, a ∈ P'.filter (exB A) → a ∈ P' := fun a m => (List.mem_filter.mp m).1
    have ndF : (P'.filter (exB A) ++ r :: Q').Nodup := nd'.sublist ((List.filter_sublist).append (List.Sublist.refl _))
    have hF : ∀ a, a ∈ P'.filter (exB A) ++ r :: Q' → a ∈ A := fun a m => by
      rw [← e]
      rcases List.mem_append.mp m with m | m
      · exact List.mem_append_left _ (sub a m)
      · exact List.mem_append_right _ m
    have lr : r.length = k := (hR r rA).2
    have fl := filter_mid ndF
    have hO : ∀ a, a ∈ P'.filter (exB A) ++ Q' → a ∈ A ∧ a ≠ r := fun a m => by
      rw [← fl] at m
      obtain ⟨m1, m2⟩ := List.mem_filter.mp m
      exact ⟨hF a m1, by simpa using m2⟩
    have hl1 : ∀ a, a ∈ P'.filter (exB A) ++ Q' → a.length = r.length := fun a m => by rw [(hR a (hO a m).1).2, lr]
    have hlA : ∀ a, a ∈ A → a.length = r.length := fun a m => by rw [(hR a m).2, lr]
    rw [List.foldl_cons]
    unfold lstep
    rw [fl]
    by_cases hm : mf (P'.filter (exB A) ++ Q') r = r
    · rw [if_pos hm]
      have mk := (made_iff hl1).mp hm
      have hx : exB A r = false := by
        cases q : exB A r with
        | false => rfl
        | true => exact absurd (mk.more fun a m => List.mem_filter.mpr ⟨(hO a m).1, by simpa using (hO a m).2⟩) ((exB_iff hlA).mp q)
      have e3 : (P' ++ [r]).filter (exB A) = P'.filter (exB A) := by rw [List.filter_append, List.filter_cons, if_neg (by rw [hx]; decide)]; simp
      have z := least_go hR nd Q' (P' ++ [r]) (by rw [← e]; simp) (by
        rw [e3]
        intro a ha
        refine (h a ha).trans fun b hb => ?_
        by_cases q : b = r
        · rw [q]; exact mk
        · refine Mk.self ?_
          rw [← fl]
          exact List.mem_filter.mpr ⟨hb, by simpa using q⟩)
      rw [e3] at z
      exact z
    · rw [if_neg hm]
      have hx : exB A r = true := by
        rw [exB_iff hlA]
        intro mk
        have nk : ¬ Mk ((P'.filter (exB A) ++ r :: Q').filter (· ≠ r)) r := by
          rw [fl]
          exact fun q => hm ((made_iff hl1).mpr q)
        have := key0 nk (hR r rA).1 (T := A.filter (· ≠ r)) (fun a m => by
          obtain ⟨m1, _⟩ := List.mem_filter.mp m
          exact ⟨(hR a m1).1, hlA a m1, h a m1⟩) mk
        simpa using (List.mem_filter.mp this).2
      have e3 : (P' ++ [r]).filter (exB A) ++ Q' = P'.filter (exB A) ++ r :: Q' := by rw [List.filter_append, List.filter_cons, if_pos hx]; simp
      have z := least_go hR nd Q' (P' ++ [r]) (by rw [← e]; simp) (by
        rw [e3]
        exact h)
      rw [e3] at z
      exact z
/-- those that are not made of the others, by striking one after the other -/
theorem least_fold (hR : Ok0 k R) (nd : R.Nodup) : R.foldl lstep R = R.filter (exB R) ∧ ∀ a, a ∈ R → Mk (R.filter (exB R)) a := by
  have z := least_go hR nd R [] rfl fun a m => Mk.self m
  exact z
theorem least_span (hR : Ok0 k R) (nd : R.Nodup) (y : Rw) : Mk (R.filter (exB R)) y ↔ Mk R y :=
  Mk.iff (fun a m => Mk.self (List.mem_filter.mp m).1) (least_fold hR nd).2 y
/-- the same is made: the same are left -/
theorem ex_same (hR : Ok0 k R) (hR' : Ok0 k R') (h : ∀ y, Mk R y ↔ Mk R' y) (hr : r ∈ R) (he : exB R r = true) : r ∈ R' ∧ exB R' r = true := by
  have lr : r.length = k := (hR r hr).2
  have n1 := (exB_iff fun a m => by rw [(hR a m).2, lr]).mp he
  have all : ∀ a, a ∈ R' → N0 a ∧ a.length = r.length ∧ Mk R a := fun a m => ⟨(hR' a m).1, by rw [(hR' a m).2, lr], (h a).mpr (Mk.self m)⟩
  have m1 := key0 n1 (hR r hr).1 all ((h r).mp (Mk.self hr))
  refine ⟨m1, (exB_iff fun a m => by rw [(hR' a m).2, lr]).mpr fun mk => ?_⟩
  have := key0 n1 (hR r hr).1 (T := R'.filter (· ≠ r)) (fun a m => all a (List.mem_filter.mp m).1) mk
  simpa using (List.mem_filter.mp this).2
theorem least_perm (hR : Ok0 k R) (hR' : Ok0 k R') (nd : R.Nodup) (nd' : R'.Nodup) (h : ∀ y, Mk R y ↔ Mk R' y) : (R.filter (exB R)).Perm (R'.filter (exB R')) := by
  refine (List.perm_ext_iff_of_nodup (nd.filter _) (nd'.filter _)).mpr fun a => ?_
  rw [List.mem_filter, List.mem_filter]
  exact ⟨fun ⟨m, e⟩ => ex_same hR hR' h m e, fun ⟨m, e⟩ => ex_same hR' hR (fun y => (h y).symm) m e⟩
/-- what is left is not made of the others that are left -/
theorem ex_left (hR : Ok0 k R) (nd : R.Nodup) (hr : r ∈ R.filter (exB R)) : exB (R.filter (exB R)) r = true := by
  obtain ⟨m, e⟩ := List.mem_filter.mp hr
  exact (ex_same hR (fun a m => hR a (List.mem_filter.mp m).1) (fun y => (least_span hR nd y).symm) m e).2
/-! ### rows in order -/
/-- rows in the order of their keys: never behind all -/
def rlt : Rw → Rw → Bool
  | [], [] => false
  | [], _ :: _ => true
  | _ :: _, [] => false
  | a :: r, b :: s => if a = b then rlt r s else soon a b
theorem rlt_cons (a b : Mo) (r s : Rw) : rlt (a :: r) (b :: s) = if a = b then rlt r s else soon a b := rfl
theorem rlt_irr : ∀ r : Rw, rlt r r = false
  | [] => rfl
  | a :: r => by unfold rlt; rw [if_pos rfl, rlt_irr r]
theorem soon_irr (a : Mo) : soon a a = false := le_refl a
theorem soon_trans {a b c : Mo} (h1 : soon a b = true) (h2 : soon b c = true) : soon a c = true := by
  cases a with
  | none => cases h1
  | some i => cases b with
    | none => cases h2
    | some j => cases c with
      | none => rfl
      | some l =>
        simp only [soon, decide_eq_true_eq] at *
        omega
theorem soon_tri {a b : Mo} (h : a ≠ b) : soon a b = true ∨ soon b a = true := by
  cases a with
  | none => cases b with
    | none => exact absurd rfl h
    | some j => exact .inr rfl
  | some i => cases b with
    | none => exact .inl rfl
    | some j =>
      simp only [soon, decide_eq_true_eq]
      have : i ≠ j := fun e => h (by rw [e])
      omega
theorem rlt_trans : ∀ {a b c : Rw}, rlt a b = true → rlt b c = true → rlt a c = true
  | [], [], _, h, _ => by cases h
  | [], _ :: _, [], _, h => by cases h
  | [], _ :: _, _ :: _, _, _ => rfl
  | _ :: _, [], _, h, _ => by cases h
  | _ :: _, _ :: _, [], _, h => by cases h
  | x :: a, y :: b, z :: c, h1, h2 => by
    unfold rlt at h1 h2 ⊢
    by_cases e1 : x = y
    · subst e1
      rw [if_pos rfl] at h1
      by_cases e2 : x = z
      · subst e2
        rw [if_pos rfl] at h2 ⊢
        exact rlt_trans h1 h2
      · rw [if_neg e2] at h2 ⊢
        exact h2
    · rw [if_neg e1] at h1
      by_cases e2 : y = z
      · subst e2
        rw [if_neg e1]
        exact h1
      · rw [if_neg e2] at h2
        have h3 := soon_trans h1 h2
        by_cases e3 : x = z
        · subst e3
          rw [soon_irr] at h3
          cases h3
        · rw [if_neg e3]
          exact h3
theorem rlt_tri : ∀ {a b : Rw}, a ≠ b → rlt a b = true ∨ rlt b a = true
  | [], [], h => absurd rfl h
  | [], _ :: _, _ => .inl rfl
  | _ :: _, [], _ => .inr rfl
  | x :: a, y :: b, h => by
    unfold rlt
    by_cases e : x = y
    · subst e
      rw [if_pos rfl, if_pos rfl]
      exact rlt_tri fun q => h (by rw [q])
    · rw [if_neg e, if_neg (Ne.symm e)]
      exact soon_tri e
def rle (a b : Rw) : Bool := !rlt b a
theorem rle_total (a b : Rw) : (rle a b || rle b a) = true := by
  unfold rle
  cases h : rlt b a with
  | false => rfl
  | true =>
    cases h2 : rlt a b with
    | false => rfl
    | true =>
      have := rlt_trans h h2
      rw [rlt_irr] at this
      cases this
theorem rle_trans {a b c : Rw} (h1 : rle a b = true) (h2 : rle b c = true) : rle a c = true := by
  unfold rle at *
  rw [Bool.not_eq_true'] at *
  cases h : rlt c a with
  | false => rfl
  | true =>
    by_cases e : a = b
    · subst e; rw [h] at h2; cases h2
    · rcases rlt_tri e with q | q
      · rw [rlt_trans h q] at h2; cases h2
      · rw [q] at h1; cases h1
theorem rle_anti {a b : Rw} (h1 : rle a b = true) (h2 : rle b a = true) : a = b := by
  refine Classical.byContradiction fun e => ?_
  unfold rle at *
  rw [Bool.not_eq_true'] at *
  rcases rlt_tri e with q | q
  · rw [q] at h2; cases h2
  · rw [q] at h1; cases h1
def srtR (l : List Rw) : List Rw := l.mergeSort rle
theorem srtR_perm (l : List Rw) : (srtR l).Perm l := List.mergeSort_perm _ _
theorem srtR_pw (l : List Rw) : (srtR l).Pairwise fun a b => rle a b = true := List.pairwise_mergeSort (le := rle) (fun _ _ _ => rle_trans) rle_total l
theorem srtR_of {l m : List Rw} (h : m.Perm l) (p : m.Pairwise fun a b => rle a b = true) : srtR l = m :=
  List.Perm.eq_of_pairwise (le := fun a b => rle a b = true) (fun _ _ _ _ => rle_anti) (srtR_pw l) p ((srtR_perm l).trans h.symm)
theorem srtR_eq {l m : List Rw} (h : l.Perm m) : srtR l = srtR m := srtR_of ((srtR_perm m).trans h.symm) (srtR_pw m)
theorem mem_srtR {l : List Rw} {a : Rw} : a ∈ srtR l ↔ a ∈ l := (srtR_perm l).mem_iff
/-- the data of a row's key -/
def pRw (r : Rw) : PySem.PyData := .tuple (r.map fun m => .tuple [.bool m.isNone, .int (m.getD 0)])
open PySem PySem.W in
theorem lt_mo (a b : Mo) : (alike (.tuple [.bool a.isNone, .int (a.getD 0)]) (.tuple [.bool b.isNone, .int (b.getD 0)]) = true) ∧ (PyData.eqv (.tuple [.bool a.isNone, .int (a.getD 0)]) (.tuple [.bool b.isNone, .int (b.getD 0)]) = decide (a = b)) ∧
    (a ≠ b → dataLt (.tuple [.bool a.isNone, .int (a.getD 0)]) (.tuple [.bool b.isNone, .int (b.getD 0)]) = soon a b) := by
  refine ⟨by simp [alike, alikeAll], ?_, fun ne => ?_⟩
  · cases a with
    | none => cases b <;> simp [PyData.eqv, PyData.eqvAll]
    | some i => cases b with
      | none => simp [PyData.eqv, PyData.eqvAll]
      | some j =>
        simp only [PyData.eqv, PyData.eqvAll, Option.isNone_some, Option.getD_some, Option.some.injEq]
        by_cases e : i = j <;> simp [e]
  · rw [dataLt_pair (by simp [alike]) (by simp [alike]), dataLt_bool, dataLt_int]
    cases a with
    | none => cases b with
      | none => exact absurd rfl ne
      | some j => simp [PyData.eqv, soon, PyProof.Rows.b2i]
    | some i => cases b with
      | none => simp [PyData.eqv, soon, PyProof.Rows.b2i]
      | some j =>
        have : i ≠ j := fun e => ne (by rw [e])
        simp [PyData.eqv, soon, this]
open PySem PySem.W in
theorem lt_row : ∀ a b : Rw, rowLt (a.map fun m => PyData.tuple [.bool m.isNone, .int (m.getD 0)]) (b.map fun m => PyData.tuple [.bool m.isNone, .int (m.getD 0)]) = rlt a b
  | [], [] => rfl
  | [], x :: b => by
    rw [List.map_nil, List.map_cons]
    rfl
  | x :: a, [] => by
    rw [List.map_nil, List.map_cons]
    rfl
  | x :: a, y :: b => by
    rw [List.map_cons, List.map_cons]
    obtain ⟨h1, h2, h3⟩ := lt_mo x y
    have ih := lt_row a b
    unfold rowLt at ih ⊢
    rw [dataLt_cons h1, h2, ih, rlt_cons]
    by_cases e : x = y
    · rw [if_pos (decide_eq_true e), if_pos e]
    · rw [if_neg (by rw [decide_eq_false e]; decide), if_neg e, h3 e]
open PySem PySem.W in
theorem alike_row : ∀ a b : Rw, alikeAll (a.map fun m => PyData.tuple [.bool m.isNone, .int (m.getD 0)]) (b.map fun m => PyData.tuple [.bool m.isNone, .int (m.getD 0)]) = true
  | [], _ => by rw [List.map_nil, alikeAll]
  | _ :: _, [] => by rw [List.map_nil, List.map_cons, alikeAll]
  | x :: a, y :: b => by
    rw [List.map_cons, List.map_cons, alikeAll, (lt_mo x y).1, alike_row a b]
    rfl
theorem le_row (a b : Rw) (x y : Zd.D) : PySem.W.dataLe false (fun q : Zd.D × PySem.PyData => q.2) (x, pRw a) (y, pRw b) = rle a b := by
  have h : PySem.W.dataLe false (fun q : Zd.D × PySem.PyData => q.2) (x, pRw a) (y, pRw b) = !PySem.W.dataLt (pRw b) (pRw a) := rfl
  rw [h]
  unfold pRw rle
  rw [PySem.W.dataLt_tuple]
  have := lt_row b a
  unfold PySem.W.rowLt at this
  rw [this]
end M
set_option Elab.async false
set_option linter.all false
set_option maxHeartbeats 1000000
/-! One rule more: which rows make the plans (plain mathematics). -/
namespace M
variable {R F : List Rw} {r s a b g p y : Rw} {h k : Nat} {cs : List (Nat × Int)}
theorem sh_comm (m n : Int) (a : Mo) : sh m (sh n a) = sh n (sh m a) := by
  rw [sh_sh, sh_sh, Int.add_comm]
theorem sn_sh (m : Int) (l : List Mo) : sn (l.map (sh m)) = sh m (sn l) := sn_mvdM m l
theorem fst_mvd (m : Int) (y : Rw) : fst cs (mvd m y) = sh m (fst cs y) := by
  unfold fst
  rw [← sn_sh, List.map_map]
  congr 1
  exact List.map_congr_left fun c _ => by
    show sh c.2 (at_ (mvd m y) c.1) = sh m (sh c.2 (at_ y c.1))
    rw [at_mvd, sh_comm]
theorem fst_mono (hl : Le y p) : le (fst cs y) (fst cs p) := by
  refine sn_glb fun x hx => ?_
  obtain ⟨c, hc, rfl⟩ := List.mem_map.mp hx
  exact le_trans (fst_le (i := c.1) (m := c.2) hc) (sh_le.mpr (hl c.1))
theorem sn_pk {α : Type} (f g : α → Mo) : ∀ l : List α, sn (l.map fun x => pk (f x) (g x)) = pk (sn (l.map f)) (sn (l.map g))
  | [] => rfl
  | x :: l => by
    simp only [List.map_cons, sn_cons, sn_pk f g l]
    rw [pk_assoc, pk_assoc, ← pk_assoc (g x), pk_comm (g x), pk_assoc]
theorem fst_min (hp : ∀ i, at_ p i = pk (at_ a i) (at_ b i)) : fst cs p = pk (fst cs a) (fst cs b) := by
  unfold fst
  rw [← sn_pk]
  congr 1
  exact List.map_congr_left fun c _ => by rw [hp, sh_pk]
/-- the row that pays for b, which breaks the rule, with g, which keeps it -/
def IsPay (g b p : Rw) (L rho : Int) : Prop := ∀ i, at_ p i = pk (sh L (at_ g i)) (sh rho (at_ b i))
theorem pay_kept {L rho : Int} (hg : Kp h cs g) (e1 : at_ b h = some L) (e2 : fst cs g = some rho) (hp : IsPay g b p L rho) : Kp h cs p := by
  unfold Kp at *
  have e : fst cs p = pk (fst cs (mvd L g)) (fst cs (mvd rho b)) := fst_min fun i => by rw [hp, at_mvd, at_mvd]
  rw [e, fst_mvd, fst_mvd, e2, hp h, e1]
  refine le_trans (pk_le1 _ _) (pk_glb ?_ ?_)
  · rw [e2] at hg
    exact sh_le.mpr hg
  · rw [sh_some, sh_some, le_some]; omega
theorem pay_made {L rho : Int} (hg : Mk R g) (hb : Mk R b) (hp : IsPay g b p L rho) : Mk R p := by
  refine Mk.min [mvd L g, mvd rho b] (fun x hx => ?_) fun i => ?_
  · simp only [List.mem_cons, List.not_mem_nil, or_false] at hx
    rcases hx with rfl | rfl
    · exact hg.move L
    · exact hb.move rho
  · rw [hp]
    simp only [List.map_cons, List.map_nil, sn_cons, sn_nil, pk_none2, at_mvd]
/-- made at each place -/
theorem Mk.tch (h : ∀ i v, at_ y i = some v → ∃ p, Mk F p ∧ Le y p ∧ at_ p i = some v) : Mk F y := fun i v hv => by
  obtain ⟨p, h1, h2, h3⟩ := h i v hv
  obtain ⟨a, ha, m, q1, q2⟩ := h1 i v h3
  exact ⟨a, ha, m, h2.trans q1, q2⟩
theorem narrow_gen (hF1 : ∀ a, a ∈ R → Kp h cs a → Mk F a) (hF2 : ∀ g b L rho, g ∈ R → b ∈ R → Kp h cs g → soon (at_ b h) (fst cs b) = true → at_ b h = some L → fst cs g = some rho → ∃ p, Mk F p ∧ IsPay g b p L rho)
    (hy : Mk R y) (hk : Kp h cs y) : Mk F y := by
  refine Mk.tch fun i v hv => ?_
  obtain ⟨a, ha, m, q1, q2⟩ := hy i v hv
  cases hs : soon (at_ a h) (fst cs a) with
  | false => exact ⟨mvd m a, (hF1 a ha hs).move m, q1, by rw [at_mvd]; exact q2⟩
  | true =>
    cases eL : at_ a h with
    | none => rw [eL] at hs; cases hs
    | some L =>
      have z1 := q1 h
      rw [at_mvd, eL, sh_some] at z1
      cases ew : at_ y h with
      | none => rw [ew] at z1; cases none_le z1
      | some w =>
        rw [ew, le_some] at z1
        have hk' := hk
        unfold Kp at hk'
        rw [ew] at hk'
        cases er : fst cs y with
        | none => rw [er] at hk'; cases none_le hk'
        | some ry =>
          rw [er, le_some] at hk'
          rcases sn_mem (cs.map fun c => sh c.2 (at_ y c.1)) with q | q
          · have q : fst cs y = none := q
            rw [er] at q
            cases q
          · have q : fst cs y ∈ cs.map fun c => sh c.2 (at_ y c.1) := q
            rw [er] at q
            obtain ⟨c, hc, ec⟩ := List.mem_map.mp q
            cases eu : at_ y c.1 with
            | none => rw [eu] at ec; cases ec
            | some u =>
              rw [eu, sh_some] at ec
              have ec : u + c.2 = ry := Option.some.inj ec
              obtain ⟨b, hb, m', p1, p2⟩ := hy c.1 u eu
              have f1 := fst_mono (cs := cs) p1
              rw [er, fst_mvd] at f1
              have f2 := fst_le (y := mvd m' b) (i := c.1) (m := c.2) hc
              rw [fst_mvd, at_mvd, p2, sh_some, ec] at f2
              have f3 := le_antisymm f1 f2
              cases eb : fst cs b with
              | none => rw [eb] at f3; cases f3
              | some rb =>
                rw [eb, sh_some] at f3
                have f3 : ry = rb + m' := Option.some.inj f3
                have kb : Kp h cs b := by
                  unfold Kp
                  rw [eb]
                  have z2 := p1 h
                  rw [at_mvd, ew] at z2
                  cases ez : at_ b h with
                  | none => exact le_none _
                  | some z =>
                    rw [ez, sh_some, le_some] at z2
                    rw [le_some]
                    omega
                obtain ⟨p0, m0, hp⟩ := hF2 b a L rb hb ha kb hs eL eb
                have at_p : ∀ j, at_ (mvd (m - rb) p0) j = pk (sh (L + (m - rb)) (at_ b j)) (sh m (at_ a j)) := fun j => by
                  rw [at_mvd, hp j, sh_pk, sh_sh, sh_sh]
                  congr 2
                  omega
                refine ⟨mvd (m - rb) p0, m0.move _, fun j => ?_, ?_⟩
                · rw [at_p]
                  refine pk_glb ?_ ?_
                  · have z3 := p1 j
                    rw [at_mvd] at z3
                    exact le_trans z3 (sh_mono (le_refl _) (by omega))
                  · have z3 := q1 j
                    rwa [at_mvd] at z3
                · rw [at_p]
                  refine le_antisymm ?_ ?_
                  · rw [← q2]; exact pk_le2 _ _
                  · refine pk_glb ?_ ?_
                    · have z3 := p1 i
                      rw [at_mvd, hv] at z3
                      exact le_trans z3 (sh_mono (le_refl _) (by omega))
                    · rw [q2]; exact le_refl _
/-! ### the rows with one 0 -/
def unitR (k j : Nat) : Rw := (List.range k).map fun i => if i = j then some 0 else none
def unitsR (k : Nat) : List Rw := (List.range k).map (unitR k)
theorem at_unit {k j i : Nat} (hj : j < k) : at_ (unitR k j) i = if i = j then some 0 else none := by
  unfold unitR
  rw [at_map]
  by_cases hi : i < k
  · simp [hi]
  · have : i ≠ j := by omega
    simp [hi, this]
theorem units_all (hy : y.length = k) : Mk (unitsR k) y := fun i v hv => by
  have hi : i < k := by
    by_cases q : i < k
    · exact q
    · rw [at_out (by omega)] at hv; cases hv
  refine ⟨unitR k i, List.mem_map.mpr ⟨i, List.mem_range.mpr hi, rfl⟩, v, fun j => ?_, ?_⟩
  · rw [at_mvd, at_unit hi]
    by_cases e : j = i
    · subst e
      rw [if_pos rfl, hv, sh_some, le_some]; omega
    · rw [if_neg e]; exact le_none _
  · rw [at_unit hi, if_pos rfl, sh_some]
    congr 1
    omega
theorem unit_len (k j : Nat) : (unitR k j).length = k := by simp [unitR]
theorem unit_N0 {k j : Nat} (hj : j < k) : N0 (unitR k j) := by
  unfold N0
  have e : at_ (unitR k j) j = some 0 := by rw [at_unit hj, if_pos rfl]
  refine le_antisymm (sn_le (at_mem e)) (sn_glb fun a ha => ?_)
  obtain ⟨i, _, q⟩ := mem_at ha
  rw [at_unit hj] at q
  rw [← q]
  split
  · exact le_refl _
  · exact le_none _
theorem units_nd (k : Nat) : (unitsR k).Nodup := by
  unfold unitsR List.Nodup
  rw [List.pairwise_map]
  refine List.Pairwise.imp_of_mem (fun {i j} hi hj ne e => ?_) (List.nodup_range (n := k))
  have hi := List.mem_range.mp hi
  have z : at_ (unitR k i) i = at_ (unitR k j) i := by rw [e]
  rw [at_unit hi, at_unit (List.mem_range.mp hj), if_pos rfl, if_neg ne] at z
  cases z
theorem half_sq (a b : Nat) : 4 * (a * (b + 1)) ≤ (a + b + 1) * (a + b + 1) := by
  rcases Nat.le_total a (b + 1) with q | q
  · obtain ⟨d, e⟩ := Nat.exists_eq_add_of_le q
    have : a + b + 1 = a + (a + d) := by omega
    rw [this, e]
    simp only [Nat.mul_add, Nat.add_mul]
    have := Nat.mul_comm a d
    omega
  · obtain ⟨d, e⟩ := Nat.exists_eq_add_of_le q
    have : a + b + 1 = (b + 1 + d) + (b + 1) := by omega
    rw [this, e]
    generalize b + 1 = c
    simp only [Nat.mul_add, Nat.add_mul]
    have := Nat.mul_comm c d
    omega
end M
set_option Elab.async false
set_option linter.all false
set_option maxHeartbeats 1000000
/-! All numbers times one (plain mathematics). -/
namespace M
variable {f : Int}
def tm (f : Int) (a : Mo) : Mo := a.map (· * f)
def tms (f : Int) (r : Rw) : Rw := r.map (tm f)
@[simp] theorem tm_none (f : Int) : tm f none = none := rfl
@[simp] theorem tm_some (f i : Int) : tm f (some i) = some (i * f) := rfl
theorem tms_len (f : Int) (r : Rw) : (tms f r).length = r.length := by simp [tms]
theorem at_tms (f : Int) (r : Rw) (i : Nat) : at_ (tms f r) i = tm f (at_ r i) := at_mapn (tm f) rfl r i
theorem mul_lt (hf : 0 < f) (a b : Int) : a * f < b * f ↔ a < b := ⟨fun h => Int.lt_of_mul_lt_mul_right h (Int.le_of_lt hf), fun h => Int.mul_lt_mul_of_pos_right h hf⟩
theorem mul_inj (hf : 0 < f) {a b : Int} (h : a * f = b * f) : a = b := Int.eq_of_mul_eq_mul_right (by omega) h
theorem tm_inj (hf : 0 < f) {a b : Mo} (h : tm f a = tm f b) : a = b := by
  cases a with
  | none => cases b with
    | none => rfl
    | some j => cases h
  | some i => cases b with
    | none => cases h
    | some j =>
      have h : some (i * f) = some (j * f) := h
      rw [mul_inj hf (Option.some.inj h)]
theorem tms_inj (hf : 0 < f) : ∀ {a b : Rw}, tms f a = tms f b → a = b
  | [], [], _ => rfl
  | [], _ :: _, h => by cases h
  | _ :: _, [], h => by cases h
  | x :: a, y :: b, h => by
    have h : tm f x :: tms f a = tm f y :: tms f b := h
    rw [List.cons.injEq] at h
    rw [tm_inj hf h.1, tms_inj hf h.2]
theorem soon_tm (hf : 0 < f) (a b : Mo) : soon (tm f a) (tm f b) = soon a b := by
  cases a with
  | none => rfl
  | some i => cases b with
    | none => rfl
    | some j => simp only [soon, tm_some]; exact decide_eq_decide.mpr (mul_lt hf i j)
theorem tm_pk (hf : 0 < f) (a b : Mo) : tm f (pk a b) = pk (tm f a) (tm f b) := by
  unfold pk
  rw [soon_tm hf]
  split <;> rfl
theorem sn_tm (hf : 0 < f) : ∀ l : List Mo, sn (l.map (tm f)) = tm f (sn l)
  | [] => rfl
  | a :: l => by rw [List.map_cons, sn_cons, sn_cons, tm_pk hf, sn_tm hf l]
theorem sh_tm (m : Int) (a : Mo) : sh (m * f) (tm f a) = tm f (sh m a) := by
  cases a with
  | none => rfl
  | some i => simp only [tm_some, sh_some, Int.add_mul]
theorem mvd_tms (m : Int) (r : Rw) : mvd (m * f) (tms f r) = tms f (mvd m r) := by
  unfold mvd tms
  rw [List.map_map, List.map_map]
  exact List.map_congr_left fun a _ => sh_tm m a
def tm2 (f : Int) (p : Mo × Mo) : Mo × Mo := (tm f p.1, tm f p.2)
theorem zip_tms (f : Int) (a b : Rw) : (tms f a).zip (tms f b) = (a.zip b).map (tm2 f) := by
  unfold tms
  rw [List.zip_map]
  rfl
theorem bad_tm (f : Int) : ∀ l : List (Mo × Mo), bad (l.map (tm2 f)) = bad l := fun l => by
  rw [bad_any, bad_any, List.any_map]
  congr 1
  funext p
  obtain ⟨a, b⟩ := p
  cases a <;> cases b <;> rfl
theorem bnd_tm (f : Int) : ∀ l : List (Mo × Mo), bnd (l.map (tm2 f)) = (bnd l).map (· * f)
  | [] => rfl
  | (none, b) :: l => by
    show bnd ((none, tm f b) :: l.map (tm2 f)) = _
    cases b <;> simp [bnd, bnd_tm f l]
  | (some a, none) :: l => by
    show bnd ((some (a * f), none) :: l.map (tm2 f)) = _
    simp [bnd, bnd_tm f l]
  | (some a, some b) :: l => by
    show bnd ((some (a * f), some (b * f)) :: l.map (tm2 f)) = _
    simp [bnd, bnd_tm f l, Int.sub_mul]
theorem most_tm (hf : 0 < f) : ∀ l : List Int, Zd.mostI (l.map (· * f)) = Zd.mostI l * f
  | [] => by simp [Zd.mostI]
  | [x] => rfl
  | x :: y :: l => by
    have ih := most_tm hf (y :: l)
    simp only [List.map_cons] at ih ⊢
    show max (x * f) (Zd.mostI (y * f :: l.map (· * f))) = max x (Zd.mostI (y :: l)) * f
    rw [ih]
    generalize Zd.mostI (y :: l) = z
    rcases Int.le_total x z with h | h
    · rw [Int.max_eq_right h, Int.max_eq_right (Int.mul_le_mul_of_nonneg_right h (Int.le_of_lt hf))]
    · rw [Int.max_eq_left h, Int.max_eq_left (Int.mul_le_mul_of_nonneg_right h (Int.le_of_lt hf))]
theorem mv_tms (hf : 0 < f) (a b : Rw) : mv (tms f a) (tms f b) = tm f (mv a b) := by
  unfold mv
  rw [zip_tms, bad_tm, bnd_tm]
  by_cases h1 : bad (a.zip b) = true
  · rw [if_pos h1, if_pos h1]; rfl
  · rw [if_neg h1, if_neg h1]
    by_cases h2 : bnd (a.zip b) = []
    · rw [if_pos h2, if_pos (by rw [h2]; rfl)]; rfl
    · rw [if_neg h2, if_neg (by simpa using h2), most_tm hf]; rfl
theorem mf1_tms (hf : 0 < f) (r acc a : Rw) : mf1 (tms f r) (tms f acc) (tms f a) = tms f (mf1 r acc a) := by
  unfold mf1
  rw [mv_tms hf]
  cases mv a r with
  | none => rfl
  | some m =>
    show ((tms f acc).zip (tms f a)).map _ = tms f ((acc.zip a).map _)
    rw [zip_tms, List.map_map]
    unfold tms
    rw [List.map_map]
    refine List.map_congr_left fun p _ => ?_
    show pk (tm f p.1) (sh (m * f) (tm f p.2)) = tm f (pk p.1 (sh m p.2))
    rw [sh_tm, tm_pk hf]
theorem mf_tms (hf : 0 < f) (R : List Rw) (r : Rw) : mf (R.map (tms f)) (tms f r) = tms f (mf R r) := by
  unfold mf
  have h : ∀ (R : List Rw) (acc : Rw), (R.map (tms f)).foldl (mf1 (tms f r)) (tms f acc) = tms f (R.foldl (mf1 r) acc) := fun R => by
    induction R with
    | nil => exact fun _ => rfl
    | cons a R ih => intro acc; rw [List.map_cons, List.foldl_cons, List.foldl_cons, mf1_tms hf, ih]
  rw [← h]
  congr 1
  unfold tms
  rw [List.map_replicate, List.length_map]
  rfl
theorem flt_tms (hf : 0 < f) (F : List Rw) (r : Rw) : (F.map (tms f)).filter (· ≠ tms f r) = (F.filter (· ≠ r)).map (tms f) := by
  rw [List.filter_map]
  congr 1
  refine List.filter_congr fun a _ => ?_
  show decide (tms f a ≠ tms f r) = decide (a ≠ r)
  exact decide_eq_decide.mpr ⟨fun h e => h (by rw [e]), fun h e => h (tms_inj hf e)⟩
theorem lstep_tms (hf : 0 < f) (F : List Rw) (r : Rw) : lstep (F.map (tms f)) (tms f r) = (lstep F r).map (tms f) := by
  unfold lstep
  rw [flt_tms hf, mf_tms hf]
  by_cases h : mf (F.filter (· ≠ r)) r = r
  · rw [if_pos h, if_pos (by rw [h])]
  · rw [if_neg h, if_neg fun e => h (tms_inj hf e)]
theorem live_tms (f : Int) (r : Rw) : live (tms f r) = live r := by
  unfold live tms
  rw [List.any_map]
  congr 1
  funext a
  cases a <;> rfl
theorem rlt_tms (hf : 0 < f) : ∀ a b : Rw, rlt (tms f a) (tms f b) = rlt a b
  | [], [] => rfl
  | [], _ :: _ => rfl
  | _ :: _, [] => rfl
  | x :: a, y :: b => by
    show rlt (tm f x :: tms f a) (tm f y :: tms f b) = _
    rw [rlt_cons, rlt_cons, soon_tm hf, rlt_tms hf a b]
    by_cases e : x = y
    · rw [if_pos e, if_pos (by rw [e])]
    · rw [if_neg e, if_neg fun h => e (tm_inj hf h)]
theorem srt_tms (hf : 0 < f) (l : List Rw) : srtR (l.map (tms f)) = (srtR l).map (tms f) := by
  unfold srtR
  rw [List.map_mergeSort]
  intro a _ b _
  unfold rle
  rw [rlt_tms hf]
theorem putR_tms (hf : 0 < f) (k : Rw) (ks : List Rw) : Zd.putR (tms f k) (ks.map (tms f)) = (Zd.putR k ks).map (tms f) := by
  unfold Zd.putR
  by_cases h : k ∈ ks
  · rw [if_pos h, if_pos (List.mem_map.mpr ⟨k, h, rfl⟩)]
  · rw [if_neg h, if_neg, List.map_append]
    · rfl
    · intro m
      obtain ⟨a, ha, e⟩ := List.mem_map.mp m
      exact h (tms_inj hf e ▸ ha)
theorem unit_tms (f : Int) (k j : Nat) : tms f (unitR k j) = unitR k j := by
  unfold tms unitR
  rw [List.map_map]
  refine List.map_congr_left fun i _ => ?_
  show tm f (if i = j then some 0 else none) = _
  split
  · show some (0 * f) = some 0; rw [Int.zero_mul]
  · rfl
theorem N0.tms {r : Rw} (hf : 0 < f) (h : N0 r) : N0 (tms f r) := by
  unfold N0 at *
  show sn (r.map (tm f)) = _
  rw [sn_tm hf, h]
  show some (0 * f) = some 0
  rw [Int.zero_mul]
end M
set_option Elab.async false
set_option linter.all false
set_option maxRecDepth 100000
namespace K
open Zd PySem
abbrev i_law_deal : Nat := 0
abbrev i_law_draw : Nat := 1
abbrev i_law_pick : Nat := 2
abbrev i_law_line : Nat := 3
abbrev i_law_lines : Nat := 4
abbrev i_law_is_sooner : Nat := 5
abbrev i_law_soonest : Nat := 6
abbrev i_law_merged : Nat := 7
abbrev i_law_plus : Nat := 8
abbrev i_law_shifted : Nat := 9
abbrev i_law_made_of : Nat := 10
abbrev i_law_mixed : Nat := 11
abbrev i_law_low : Nat := 12
abbrev i_law_reach : Nat := 13
abbrev i_law_near : Nat := 14
abbrev i_law_key : Nat := 15
abbrev i_law_least : Nat := 16
abbrev i_is_sequence : Nat := 17
abbrev i_is_integer : Nat := 18
abbrev i_is_moment : Nat := 19
abbrev i_is_row : Nat := 20
abbrev i_need_rows : Nat := 21
abbrev i_need_some_rows : Nat := 22
abbrev i_least_move : Nat := 23
abbrev i_moves_to : Nat := 24
abbrev i_is_before : Nat := 25
abbrev i_first_of : Nat := 26
abbrev i_later : Nat := 27
abbrev i_made_first : Nat := 28
abbrev i_key_of : Nat := 29
abbrev i_least_of : Nat := 30
abbrev i_need_row : Nat := 31
abbrev i_moved : Nat := 32
abbrev i_normed : Nat := 33
abbrev i_least_rows : Nat := 34
abbrev i_need_both : Nat := 35
abbrev i_is_made : Nat := 36
abbrev i_law : Nat := 37
/-- _law_deal -/
def f_law_deal : Fspec := { name := nm "_law_deal", N := [nm "_law_script", nm "_law_base", nm "_law_stirred", nm "_law_cells", nm "_law_cell"], ms := [.scr, .val], fn := { np := 2, nl := 5, dflt := [], body :=
(.cons (.asg (.one 2) (.bin .add (.cst (.int 67867979)) (.bin .mul (.cst (.int 31)) (.var 1))))
 (.cons (.asg (.one 3) (.lc (.bi .abs (.cons (.bi .int (.cons (.var 4) .nil)) .nil)) (.one 4) (.seq (.slc (.var 0) (.some (.var 1)) (.some (.cst (.int 58)))))))
 (.cons (.fr (.one 4) (.seq (.var 3))
 (.cons (.asg (.one 2) (.bin .mod (.bi .int (.cons (.bin .add (.bin .add (.bin .mul (.var 2) (.cst (.int 45823))) (.bin .mod (.bi .int (.cons (.var 4) .nil)) (.cst (.int 2147483477)))) (.cst (.int 13))) .nil)) (.cst (.int 2147483647))))
 .nil))
 (.cons (.ret (.pl (.lst (.cons (.pl (.rev (.lci (.var 4) (.cmp .ge (.var 4) (.bin .pow (.cst (.int 10)) (.cst (.int 18)))) (.one 4) (.seq (.var 3))))) (.cons (.var 2) .nil)))))
 .nil)))) } }
/-- _law_draw -/
def f_law_draw : Fspec := { name := nm "_law_draw", N := [nm "_law_deal_here", nm "_law_bound", nm "_law_left"], ms := [.val, .val], fn := { np := 2, nl := 3, dflt := [], body :=
(.cons (.wh (.and (.cmp .ne (.ix (.var 0) (.cst (.int 0))) (.lst .nil)) (.cmp .eq (.ix (.ix (.var 0) (.cst (.int 0))) (.neg (.cst (.int 1)))) (.cst (.int 0))))
 (.cons (.rpop (.ix (.var 0) (.cst (.int 0))))
 .nil))
 (.cons (.iff (.cmp .ne (.ix (.var 0) (.cst (.int 0))) (.lst .nil))
 (.cons (.rpopv 2 (.ix (.var 0) (.cst (.int 0))))
 (.cons (.rapp (.ix (.var 0) (.cst (.int 0))) (.bin .fdiv (.var 2) (.var 1)))
 (.cons (.ret (.bin .mod (.bi .int (.cons (.var 2) .nil)) (.var 1)))
 .nil)))
 .nil)
 (.cons (.rset (.var 0) (.cst (.int 1)) (.bin .mod (.bi .int (.cons (.bin .add (.bin .mul (.ix (.var 0) (.cst (.int 1))) (.cst (.int 45823))) (.cst (.int 29))) .nil)) (.cst (.int 2147483647))))
 (.cons (.ret (.bin .mod (.bi .int (.cons (.bin .fdiv (.ix (.var 0) (.cst (.int 1))) (.cst (.int 32))) .nil)) (.var 1)))
 .nil)))) } }
/-- _law_pick -/
def f_law_pick : Fspec := { name := nm "_law_pick", N := [nm "_law_deal_here", nm "_law_some"], ms := [.val, .val], fn := { np := 2, nl := 2, dflt := [], body :=
(.cons (.ret (.ix (.var 1) (.call i_law_draw (.cons (.var 0) (.cons (.bi .len (.cons (.var 1) .nil)) .nil)))))
 .nil) } }
/-- _law_line -/
def f_law_line : Fspec := { name := nm "_law_line", N := [nm "_law_deal_here", nm "_law_size", nm "_law_wide", nm "_law_found", nm "_law_at"], ms := [.val, .val, .val], fn := { np := 3, nl := 5, dflt := [], body :=
(.cons (.own 3 (.lst .nil))
 (.cons (.fr (.one 4) (.rng (.var 1))
 (.cons (.app 3 (.ite (.cmp .eq (.call i_law_draw (.cons (.var 0) (.cons (.cst (.int 4)) .nil))) (.cst (.int 0))) (.cst .non) (.bin .sub (.call i_law_draw (.cons (.var 0) (.cons (.bin .add (.bin .mul (.cst (.int 2)) (.var 2)) (.cst (.int 1))) .nil))) (.var 2))))
 (.cons (.fgt 4)
 .nil)))
 (.cons (.ret (.bi .tuple (.cons (.var 3) .nil)))
 .nil))) } }
/-- _law_lines -/
def f_law_lines : Fspec := { name := nm "_law_lines", N := [nm "_law_deal_here", nm "_law_size", nm "_law_many", nm "_law_wide", nm "_law_turn"], ms := [.val, .val, .val], fn := { np := 3, nl := 5, dflt := [], body :=
(.cons (.asg (.one 3) (.call i_law_pick (.cons (.var 0) (.cons (.lst (.cons (.cst (.int 2)) (.cons (.cst (.int 4)) (.cons (.cst (.int 9)) .nil)))) .nil))))
 (.cons (.ret (.lc (.call i_law_line (.cons (.var 0) (.cons (.var 1) (.cons (.var 3) .nil)))) (.one 4) (.rng (.var 2))))
 .nil)) } }
/-- _law_is_sooner -/
def f_law_is_sooner : Fspec := { name := nm "_law_is_sooner", N := [nm "_law_a", nm "_law_b"], ms := [.val, .val], fn := { np := 2, nl := 2, dflt := [], body :=
(.cons (.ret (.and (.cmp .notN (.var 0) (.cst .non)) (.or (.cmp .isN (.var 1) (.cst .non)) (.cmp .lt (.var 0) (.var 1)))))
 .nil) } }
/-- _law_soonest -/
def f_law_soonest : Fspec := { name := nm "_law_soonest", N := [nm "_law_some", nm "_law_found", nm "_law_spot"], ms := [.val], fn := { np := 1, nl := 3, dflt := [], body :=
(.cons (.asg (.one 1) (.cst .non))
 (.cons (.fr (.one 2) (.seq (.var 0))
 (.cons (.asg (.one 1) (.ite (.call i_law_is_sooner (.cons (.var 2) (.cons (.var 1) .nil))) (.var 2) (.var 1)))
 (.cons (.fgt 2)
 .nil)))
 (.cons (.ret (.var 1))
 .nil))) } }
/-- _law_merged -/
def f_law_merged : Fspec := { name := nm "_law_merged", N := [nm "_law_lines_here", nm "_law_size", nm "_law_at", nm "_law_line_here"], ms := [.top, .val], fn := { np := 2, nl := 4, dflt := [], body :=
(.cons (.ret (.bi .tuple (.cons (.lc (.call i_law_soonest (.cons (.lc (.ix (.var 3) (.var 2)) (.one 3) (.seq (.var 0))) .nil)) (.one 2) (.rng (.var 1))) .nil)))
 .nil) } }
/-- _law_plus -/
def f_law_plus : Fspec := { name := nm "_law_plus", N := [nm "_law_spot", nm "_law_more"], ms := [.val, .val], fn := { np := 2, nl := 2, dflt := [], body :=
(.cons (.ret (.ite (.cmp .isN (.var 0) (.cst .non)) (.cst .non) (.bin .add (.var 0) (.var 1))))
 .nil) } }
/-- _law_shifted -/
def f_law_shifted : Fspec := { name := nm "_law_shifted", N := [nm "_law_line_here", nm "_law_more", nm "_law_spot"], ms := [.val, .val], fn := { np := 2, nl := 3, dflt := [], body :=
(.cons (.ret (.bi .tuple (.cons (.lc (.call i_law_plus (.cons (.var 2) (.cons (.var 1) .nil))) (.one 2) (.seq (.var 0))) .nil)))
 .nil) } }
/-- _law_made_of -/
def f_law_made_of : Fspec := { name := nm "_law_made_of", N := [nm "_law_deal_here", nm "_law_some", nm "_law_size", nm "_law_found", nm "_law_told"], ms := [.val, .val, .val], fn := { np := 3, nl := 5, dflt := [], body :=
(.cons (.own 3 (.lst (.cons (.bi .tuple (.cons (.bin .mul (.lst (.cons (.cst .non) .nil)) (.var 2)) .nil)) .nil)))
 (.cons (.fr (.one 4) (.seq (.var 1))
 (.cons (.iff (.cmp .gt (.call i_law_draw (.cons (.var 0) (.cons (.cst (.int 3)) .nil))) (.cst (.int 0)))
 (.cons (.app 3 (.call i_law_shifted (.cons (.var 4) (.cons (.bin .sub (.call i_law_draw (.cons (.var 0) (.cons (.cst (.int 9)) .nil))) (.cst (.int 4))) .nil))))
 .nil)
 .nil)
 (.cons (.fgt 4)
 .nil)))
 (.cons (.ret (.call i_law_merged (.cons (.var 3) (.cons (.var 2) .nil))))
 .nil))) } }
/-- _law_mixed -/
def f_law_mixed : Fspec := { name := nm "_law_mixed", N := [nm "_law_deal_here", nm "_law_some", nm "_law_left", nm "_law_found"], ms := [.val, .val], fn := { np := 2, nl := 4, dflt := [], body :=
(.cons (.par 2 3 true true (.bi .list (.cons (.var 1) .nil)) (.lst .nil))
 (.cons (.wh (.cmp .ne (.var 2) (.lst .nil))
 (.cons (.apop 3 2 (.call i_law_draw (.cons (.var 0) (.cons (.bi .len (.cons (.var 2) .nil)) .nil))))
 .nil))
 (.cons (.frz 3)
 (.cons (.ret (.var 3))
 .nil)))) } }
/-- _law_low -/
def f_law_low : Fspec := { name := nm "_law_low", N := [nm "_law_line_here", nm "_law_least_here"], ms := [.val], fn := { np := 1, nl := 2, dflt := [], body :=
(.cons (.asg (.one 1) (.call i_law_soonest (.cons (.var 0) .nil)))
 (.cons (.ret (.ite (.cmp .isN (.var 1) (.cst .non)) (.bi .tuple (.cons (.var 0) .nil)) (.call i_law_shifted (.cons (.var 0) (.cons (.bin .sub (.cst (.int 0)) (.var 1)) .nil)))))
 .nil)) } }
/-- _law_reach -/
def f_law_reach : Fspec := { name := nm "_law_reach", N := [nm "_law_told", nm "_law_line_here", nm "_law_some", nm "_law_a", nm "_law_b"], ms := [.val, .val], fn := { np := 2, nl := 5, dflt := [], body :=
(.cons (.iff (.cmp .ne (.lci (.cst (.int 1)) (.and (.cmp .notN (.var 3) (.cst .non)) (.cmp .isN (.var 4) (.cst .non))) (.many [3, 4]) (.zip (.var 0) (.var 1))) (.lst .nil))
 (.cons (.ret (.cst .non))
 .nil)
 .nil)
 (.cons (.asg (.one 2) (.lci (.bin .sub (.var 4) (.var 3)) (.cmp .notN (.var 3) (.cst .non)) (.many [3, 4]) (.zip (.var 0) (.var 1))))
 (.cons (.ret (.ite (.cmp .ne (.var 2) (.lst .nil)) (.bi .max1 (.cons (.var 2) .nil)) (.cst .non)))
 .nil))) } }
/-- _law_near -/
def f_law_near : Fspec := { name := nm "_law_near", N := [nm "_law_some", nm "_law_line_here", nm "_law_found", nm "_law_told", nm "_law_more"], ms := [.val, .val], fn := { np := 2, nl := 5, dflt := [], body :=
(.cons (.asg (.one 2) (.lst (.cons (.bi .tuple (.cons (.bin .mul (.lst (.cons (.cst .non) .nil)) (.bi .len (.cons (.var 1) .nil))) .nil)) .nil)))
 (.cons (.fr (.one 3) (.seq (.var 0))
 (.cons (.asg (.one 4) (.call i_law_reach (.cons (.var 3) (.cons (.var 1) .nil))))
 (.cons (.asg (.one 2) (.bin .add (.var 2) (.ite (.cmp .notN (.var 4) (.cst .non)) (.lst (.cons (.call i_law_shifted (.cons (.var 3) (.cons (.var 4) .nil))) .nil)) (.lst .nil))))
 (.cons (.fgt 3)
 (.cons (.fgt 4)
 .nil)))))
 (.cons (.ret (.call i_law_merged (.cons (.var 2) (.cons (.bi .len (.cons (.var 1) .nil)) .nil))))
 .nil))) } }
/-- _law_key -/
def f_law_key : Fspec := { name := nm "_law_key", N := [nm "_law_line_here", nm "_law_spot"], ms := [.val], fn := { np := 1, nl := 2, dflt := [], body :=
(.cons (.ret (.lc (.tup (.cons (.cmp .isN (.var 1) (.cst .non)) (.cons (.ite (.cmp .isN (.var 1) (.cst .non)) (.cst (.int 0)) (.var 1)) .nil))) (.one 1) (.seq (.var 0))))
 .nil) } }
/-- _law_least -/
def f_law_least : Fspec := { name := nm "_law_least", N := [nm "_law_some", nm "_law_left", nm "_law_line_here", nm "_law_low_here", nm "_law_rest", nm "_law_other_line"], ms := [.val], fn := { np := 1, nl := 6, dflt := [], body :=
(.cons (.own 1 (.lst .nil))
 (.cons (.fr (.one 2) (.seq (.var 0))
 (.cons (.asg (.one 3) (.call i_law_low (.cons (.var 2) .nil)))
 (.cons (.iff (.and (.cmp .nin (.var 3) (.var 1)) (.cmp .notN (.call i_law_soonest (.cons (.var 3) .nil)) (.cst .non)))
 (.cons (.app 1 (.var 3))
 .nil)
 .nil)
 (.cons (.fgt 2)
 (.cons (.fgt 3)
 .nil)))))
 (.cons (.frz 1)
 (.cons (.fr (.one 2) (.seq (.bi .list (.cons (.var 1) .nil)))
 (.cons (.asg (.one 4) (.lci (.var 5) (.cmp .ne (.var 5) (.var 2)) (.one 5) (.seq (.var 1))))
 (.cons (.iff (.cmp .eq (.call i_law_near (.cons (.var 4) (.cons (.var 2) .nil))) (.var 2))
 (.cons (.asg (.one 1) (.var 4))
 .nil)
 .nil)
 (.cons (.fgt 2)
 (.cons (.fgt 4)
 .nil)))))
 (.cons (.ret (.bi .tuple (.cons (.srk i_law_key (.var 1)) .nil)))
 .nil))))) } }
/-- is_sequence -/
def f_is_sequence : Fspec := { name := nm "is_sequence", N := [nm "value"], ms := [.val], fn := { np := 1, nl := 1, dflt := [], body :=
(.cons (.ret (.isi (.var 0) [3, 4]))
 .nil) } }
/-- is_integer -/
def f_is_integer : Fspec := { name := nm "is_integer", N := [nm "value"], ms := [.val], fn := { np := 1, nl := 1, dflt := [], body :=
(.cons (.ret (.and (.isi (.var 0) [0]) (.nt (.isi (.var 0) [1]))))
 .nil) } }
/-- is_moment -/
def f_is_moment : Fspec := { name := nm "is_moment", N := [nm "value"], ms := [.val], fn := { np := 1, nl := 1, dflt := [], body :=
(.cons (.ret (.or (.cmp .isN (.var 0) (.cst .non)) (.call i_is_integer (.cons (.var 0) .nil))))
 .nil) } }
/-- is_row -/
def f_is_row : Fspec := { name := nm "is_row", N := [nm "value", nm "size", nm "moment"], ms := [.val, .val], fn := { np := 2, nl := 3, dflt := [], body :=
(.cons (.iff (.or (.nt (.call i_is_sequence (.cons (.var 0) .nil))) (.or (.cmp .eq (.bi .len (.cons (.var 0) .nil)) (.cst (.int 0))) (.and (.cmp .notN (.var 1) (.cst .non)) (.cmp .ne (.bi .len (.cons (.var 0) .nil)) (.var 1)))))
 (.cons (.ret (.cst (.bl false)))
 .nil)
 .nil)
 (.cons (.ret (.bi .all (.cons (.lc (.call i_is_moment (.cons (.var 2) .nil)) (.one 2) (.seq (.var 0))) .nil)))
 .nil)) } }
/-- need_rows -/
def f_need_rows : Fspec := { name := nm "need_rows", N := [nm "rows", nm "size", nm "at", nm "row"], ms := [.val, .val], fn := { np := 2, nl := 4, dflt := [], body :=
(.cons (.iff (.nt (.call i_is_sequence (.cons (.var 0) .nil)))
 (.cons .never
 .nil)
 .nil)
 (.cons (.fr (.many [2, 3]) (.enu (.var 0))
 (.cons (.iff (.nt (.call i_is_row (.cons (.var 3) (.cons (.var 1) .nil))))
 (.cons .never
 .nil)
 .nil)
 (.cons (.fgt 2)
 (.cons (.fgt 3)
 .nil))))
 .nil)) } }
/-- need_some_rows -/
def f_need_some_rows : Fspec := { name := nm "need_some_rows", N := [nm "rows"], ms := [.val], fn := { np := 1, nl := 1, dflt := [], body :=
(.cons (.iff (.or (.nt (.call i_is_sequence (.cons (.var 0) .nil))) (.or (.cmp .eq (.bi .len (.cons (.var 0) .nil)) (.cst (.int 0))) (.nt (.call i_is_row (.cons (.ix (.var 0) (.cst (.int 0))) (.cons (.cst .non) .nil))))))
 (.cons .never
 .nil)
 .nil)
 (.cons (.ex (.call i_need_rows (.cons (.var 0) (.cons (.bi .len (.cons (.ix (.var 0) (.cst (.int 0))) .nil)) .nil))))
 .nil)) } }
/-- least_move -/
def f_least_move : Fspec := { name := nm "least_move", N := [nm "told", nm "row", nm "bounds", nm "here", nm "there"], ms := [.val, .val], fn := { np := 2, nl := 5, dflt := [], body :=
(.cons (.own 2 (.lst .nil))
 (.cons (.fr (.many [3, 4]) (.zip (.var 0) (.var 1))
 (.cons (.iff (.and (.cmp .notN (.var 3) (.cst .non)) (.cmp .isN (.var 4) (.cst .non)))
 (.cons (.ret (.cst .non))
 .nil)
 .nil)
 (.cons (.iff (.cmp .notN (.var 3) (.cst .non))
 (.cons (.app 2 (.bin .sub (.var 4) (.var 3)))
 .nil)
 .nil)
 (.cons (.fgt 3)
 (.cons (.fgt 4)
 .nil)))))
 (.cons (.ret (.ite (.cmp .gt (.bi .len (.cons (.var 2) .nil)) (.cst (.int 0))) (.bi .max1 (.cons (.var 2) .nil)) (.cst .non)))
 .nil))) } }
/-- moves_to -/
def f_moves_to : Fspec := { name := nm "moves_to", N := [nm "rows", nm "row", nm "told"], ms := [.val, .val], fn := { np := 2, nl := 3, dflt := [], body :=
(.cons (.ret (.bi .tuple (.cons (.lc (.call i_least_move (.cons (.var 2) (.cons (.var 1) .nil))) (.one 2) (.seq (.var 0))) .nil)))
 .nil) } }
/-- is_before -/
def f_is_before : Fspec := { name := nm "is_before", N := [nm "one", nm "other"], ms := [.val, .val], fn := { np := 2, nl := 2, dflt := [], body :=
(.cons (.iff (.cmp .isN (.var 0) (.cst .non))
 (.cons (.ret (.cst (.bl false)))
 .nil)
 .nil)
 (.cons (.ret (.or (.cmp .isN (.var 1) (.cst .non)) (.cmp .lt (.var 0) (.var 1))))
 .nil)) } }
/-- first_of -/
def f_first_of : Fspec := { name := nm "first_of", N := [nm "moments", nm "found", nm "moment"], ms := [.val], fn := { np := 1, nl := 3, dflt := [], body :=
(.cons (.asg (.one 1) (.cst .non))
 (.cons (.fr (.one 2) (.seq (.var 0))
 (.cons (.iff (.call i_is_before (.cons (.var 2) (.cons (.var 1) .nil)))
 (.cons (.asg (.one 1) (.var 2))
 .nil)
 .nil)
 (.cons (.fgt 2)
 .nil)))
 (.cons (.ret (.var 1))
 .nil))) } }
/-- later -/
def f_later : Fspec := { name := nm "later", N := [nm "moment", nm "number"], ms := [.val, .val], fn := { np := 2, nl := 2, dflt := [], body :=
(.cons (.ret (.ite (.cmp .isN (.var 0) (.cst .non)) (.cst .non) (.bin .add (.var 0) (.var 1))))
 .nil) } }
/-- made_first -/
def f_made_first : Fspec := { name := nm "made_first", N := [nm "rows", nm "row", nm "found", nm "told", nm "number", nm "moment", nm "here"], ms := [.val, .val], fn := { np := 2, nl := 7, dflt := [], body :=
(.cons (.asg (.one 2) (.bin .mul (.lst (.cons (.cst .non) .nil)) (.bi .len (.cons (.var 1) .nil))))
 (.cons (.fr (.many [3, 4]) (.zip (.var 0) (.call i_moves_to (.cons (.var 0) (.cons (.var 1) .nil))))
 (.cons (.iff (.cmp .notN (.var 4) (.cst .non))
 (.cons (.asg (.one 2) (.lc (.call i_first_of (.cons (.lst (.cons (.var 5) (.cons (.call i_later (.cons (.var 6) (.cons (.var 4) .nil))) .nil))) .nil)) (.many [5, 6]) (.zip (.var 2) (.var 3))))
 .nil)
 .nil)
 (.cons (.fgt 3)
 (.cons (.fgt 4)
 .nil))))
 (.cons (.ret (.bi .tuple (.cons (.var 2) .nil)))
 .nil))) } }
/-- key_of -/
def f_key_of : Fspec := { name := nm "key_of", N := [nm "row", nm "moment"], ms := [.val], fn := { np := 1, nl := 2, dflt := [], body :=
(.cons (.ret (.bi .tuple (.cons (.lc (.tup (.cons (.cmp .isN (.var 1) (.cst .non)) (.cons (.ite (.cmp .isN (.var 1) (.cst .non)) (.cst (.int 0)) (.var 1)) .nil))) (.one 1) (.seq (.var 0))) .nil)))
 .nil) } }
/-- least_of -/
def f_least_of : Fspec := { name := nm "least_of", N := [nm "rows", nm "found", nm "row", nm "others", nm "other", nm "here"], ms := [.val], fn := { np := 1, nl := 6, dflt := [], body :=
(.cons (.asg (.one 1) (.lci (.var 2) (.bi .any (.cons (.lc (.cmp .notN (.var 5) (.cst .non)) (.one 5) (.seq (.var 2))) .nil)) (.one 2) (.seq (.var 0))))
 (.cons (.fr (.one 2) (.seq (.bi .list (.cons (.var 1) .nil)))
 (.cons (.asg (.one 3) (.lci (.var 4) (.cmp .ne (.var 4) (.var 2)) (.one 4) (.seq (.var 1))))
 (.cons (.iff (.cmp .eq (.call i_made_first (.cons (.var 3) (.cons (.var 2) .nil))) (.var 2))
 (.cons (.asg (.one 1) (.var 3))
 .nil)
 .nil)
 (.cons (.fgt 2)
 (.cons (.fgt 3)
 .nil)))))
 (.cons (.ret (.bi .tuple (.cons (.srk i_key_of (.var 1)) .nil)))
 .nil))) } }
/-- need_row -/
def f_need_row : Fspec := { name := nm "need_row", N := [nm "row", nm "size", nm "at", nm "moment"], ms := [.val, .val], fn := { np := 2, nl := 4, dflt := [.non], body :=
(.cons (.iff (.or (.nt (.call i_is_sequence (.cons (.var 0) .nil))) (.or (.cmp .eq (.bi .len (.cons (.var 0) .nil)) (.cst (.int 0))) (.and (.cmp .notN (.var 1) (.cst .non)) (.cmp .ne (.bi .len (.cons (.var 0) .nil)) (.var 1)))))
 (.cons .never
 .nil)
 .nil)
 (.cons (.fr (.many [2, 3]) (.enu (.var 0))
 (.cons (.iff (.nt (.call i_is_moment (.cons (.var 3) .nil)))
 (.cons .never
 .nil)
 .nil)
 (.cons (.fgt 2)
 (.cons (.fgt 3)
 .nil))))
 .nil)) } }
/-- moved -/
def f_moved : Fspec := { name := nm "moved", N := [nm "row", nm "number", nm "moment"], ms := [.val, .val], fn := { np := 2, nl := 3, dflt := [], body :=
(.cons (.ex (.call i_need_row (.cons (.var 0) .nil)))
 (.cons (.ret (.bi .tuple (.cons (.lc (.call i_later (.cons (.var 2) (.cons (.var 1) .nil))) (.one 2) (.seq (.var 0))) .nil)))
 .nil)) } }
/-- normed -/
def f_normed : Fspec := { name := nm "normed", N := [nm "row", nm "found"], ms := [.val], fn := { np := 1, nl := 2, dflt := [], body :=
(.cons (.ex (.call i_need_row (.cons (.var 0) .nil)))
 (.cons (.asg (.one 1) (.call i_first_of (.cons (.var 0) .nil)))
 (.cons (.ret (.ite (.cmp .isN (.var 1) (.cst .non)) (.bi .tuple (.cons (.var 0) .nil)) (.call i_moved (.cons (.var 0) (.cons (.neg (.var 1)) .nil)))))
 .nil))) } }
/-- least_rows -/
def f_least_rows : Fspec := { name := nm "least_rows", N := [nm "rows", nm "unlike", nm "row"], ms := [.val], fn := { np := 1, nl := 3, dflt := [], body :=
(.cons (.ex (.call i_need_some_rows (.cons (.var 0) .nil)))
 (.cons (.own 1 (.rcm (.call i_normed (.cons (.var 2) .nil)) (.one 2) (.seq (.var 0))))
 (.cons (.ret (.call i_least_of (.cons (.rls 1) .nil)))
 .nil))) } }
/-- need_both -/
def f_need_both : Fspec := { name := nm "need_both", N := [nm "rows", nm "row"], ms := [.val, .val], fn := { np := 2, nl := 2, dflt := [], body :=
(.cons (.ex (.call i_need_row (.cons (.var 1) .nil)))
 (.cons (.ex (.call i_need_rows (.cons (.var 0) (.cons (.bi .len (.cons (.var 1) .nil)) .nil))))
 .nil)) } }
/-- is_made -/
def f_is_made : Fspec := { name := nm "is_made", N := [nm "rows", nm "row"], ms := [.val, .val], fn := { np := 2, nl := 2, dflt := [], body :=
(.cons (.ex (.call i_need_both (.cons (.var 0) (.cons (.var 1) .nil))))
 (.cons (.ret (.cmp .eq (.call i_made_first (.cons (.var 0) (.cons (.var 1) .nil))) (.bi .tuple (.cons (.var 1) .nil))))
 .nil)) } }
/-- law -/
def f_law : Fspec := { name := nm "law", N := [nm "_law_script", nm "_law_deal_here", nm "_law_turn", nm "_law_size", nm "_law_some", nm "_law_more_lines", nm "_law_every", nm "_law_due", nm "_law_kept", nm "_law_spin", nm "_law_line_here"], ms := [.scr], fn := { np := 1, nl := 11, dflt := [], body :=
(.cons (.asg (.one 1) (.call i_law_deal (.cons (.var 0) (.cons (.cst (.int 0)) .nil))))
 (.cons (.fr (.one 2) (.rng (.cst (.int 6)))
 (.cons (.asg (.one 3) (.bin .add (.cst (.int 1)) (.call i_law_draw (.cons (.var 1) (.cons (.cst (.int 6)) .nil)))))
 (.cons (.asg (.one 4) (.call i_law_lines (.cons (.var 1) (.cons (.var 3) (.cons (.bin .add (.cst (.int 1)) (.call i_law_draw (.cons (.var 1) (.cons (.cst (.int 5)) .nil)))) .nil)))))
 (.cons (.asg (.one 5) (.lc (.call i_law_made_of (.cons (.var 1) (.cons (.var 4) (.cons (.var 3) .nil)))) (.one 9) (.rng (.call i_law_draw (.cons (.var 1) (.cons (.cst (.int 3)) .nil))))))
 (.cons (.asg (.one 6) (.slc (.call i_law_mixed (.cons (.var 1) (.cons (.bin .add (.bin .add (.var 4) (.var 5)) (.lst (.cons (.call i_law_shifted (.cons (.ix (.var 4) (.cst (.int 0))) (.cons (.bin .sub (.cst (.int 0)) (.cst (.int 3))) .nil))) .nil))) .nil))) .none (.some (.cst (.int 8)))))
 (.cons (.asg (.many [7, 8]) (.tup (.cons (.call i_law_least (.cons (.var 6) .nil)) (.cons (.bi .list (.cons (.var 6) .nil)) .nil))))
 (.cons (.iff (.or (.cmp .ne (.bi .repr (.cons (.call i_least_rows (.cons (.var 6) .nil)) .nil)) (.bi .repr (.cons (.var 7) .nil))) (.cmp .ne (.call i_least_rows (.cons (.bi .tuple (.cons (.lc (.bi .list (.cons (.var 10) .nil)) (.one 10) (.seq (.var 6))) .nil)) .nil)) (.var 7)))
 (.cons (.ret (.cst (.bl false)))
 .nil)
 .nil)
 (.cons (.iff (.or (.cmp .ne (.var 6) (.var 8)) (.cmp .ne (.lci (.var 10) (.nt (.call i_is_made (.cons (.var 7) (.cons (.var 10) .nil)))) (.one 10) (.seq (.var 6))) (.lst .nil)))
 (.cons (.ret (.cst (.bl false)))
 .nil)
 .nil)
 (.cons (.iff (.and (.cmp .ne (.var 7) (.tup .nil)) (.cmp .ne (.call i_least_rows (.cons (.var 7) .nil)) (.var 7)))
 (.cons (.ret (.cst (.bl false)))
 .nil)
 .nil)
 (.cons (.fgt 2)
 (.cons (.fgt 3)
 (.cons (.fgt 4)
 (.cons (.fgt 5)
 (.cons (.fgt 6)
 (.cons (.fgt 7)
 (.cons (.fgt 8)
 .nil))))))))))))))))
 (.cons (.ret (.and (.cmp .eq (.call i_least_rows (.cons (.lst (.cons (.tup (.cons (.cst .non) (.cons (.cst .non) .nil))) .nil)) .nil)) (.tup .nil)) (.cmp .eq (.call i_least_rows (.cons (.lst (.cons (.tup (.cons (.cst (.int 3)) (.cons (.cst .non) .nil))) (.cons (.tup (.cons (.cst (.int 0)) (.cons (.cst .non) .nil))) .nil))) .nil)) (.tup (.cons (.tup (.cons (.cst (.int 0)) (.cons (.cst .non) .nil))) .nil)))))
 .nil))) } }
def specs : List Fspec := [f_law_deal, f_law_draw, f_law_pick, f_law_line, f_law_lines, f_law_is_sooner, f_law_soonest, f_law_merged, f_law_plus, f_law_shifted, f_law_made_of, f_law_mixed, f_law_low, f_law_reach, f_law_near, f_law_key, f_law_least, f_is_sequence, f_is_integer, f_is_moment, f_is_row, f_need_rows, f_need_some_rows, f_least_move, f_moves_to, f_is_before, f_first_of, f_later, f_made_first, f_key_of, f_least_of, f_need_row, f_moved, f_normed, f_least_rows, f_need_both, f_is_made, f_law]
def t : Txt := { specs := specs, cls := [], names := [] }
abbrev tab : Tab := tabOf t
abbrev li : Nat := 37
abbrev fl : Zd.Fspec := f_law
end K
set_option Elab.async false
set_option linter.all false
set_option maxRecDepth 10000
set_option maxHeartbeats 1000000
namespace K
open Zd PySem M
@[irreducible] def C (n : Nat) : CF := callF tab (ftab specs) n
theorem C_eq (n : Nat) : C n = callF tab (ftab specs) n := by unfold C; rfl
theorem C_run {n f : Nat} {s : Fspec} {xs : List D} {S : Store} (h1 : specs[f]? = some s) (h2 : s.fn.np = xs.length) (h3 : s.fn.ini = false) : C (n + 1) f xs S = fin0 (exb tab (C n) s.fn.body (xs.map some ++ List.replicate (s.fn.nl - s.fn.np) none) S) := by
  rw [C_eq, C_eq]
  exact call_eq (by unfold ftab; rw [h1]) h2 h3
/-- a call that leaves the last parameters to their defaults -/
theorem C_dfl {n f : Nat} {s : Fspec} {xs : List D} {S : Store} (h1 : specs[f]? = some s) (h2 : s.fn.np - s.fn.dflt.length ≤ xs.length) (h4 : s.fn.dflt.length ≤ s.fn.np) (h3 : xs.length ≤ s.fn.np) : C (n + 1) f xs S = C (n + 1) f (xs ++ s.fn.dflt.drop (xs.length - (s.fn.np - s.fn.dflt.length))) S := by
  rw [C_eq]
  exact cf_full' h1 h2 h3 h4
def row (b : Bool) (r : Rw) : D := sqD b (r.map oD)
theorem row_T (r : Rw) : row true r = rowT r := rfl
@[simp] theorem row_seq (b : Bool) (r : Rw) : (row b r).seq = some (r.map oD) := by simp [row]
@[simp] theorem row_its (b : Bool) (r : Rw) : (row b r).its = some (r.map oD) := by simp [row]
@[simp] theorem row_rd (b : Bool) (r : Rw) (S : Store) : rd S (row b r) = row b r := by simp [row]
@[simp] theorem row_len (b : Bool) (r : Rw) : biD .len [row b r] = some (.int r.length) := by simp [row]
@[simp] theorem row_tup (b : Bool) (r : Rw) : biD .tuple [row b r] = some (rowT r) := by simp [row, rowT]
@[simp] theorem zipO_rr (b c : Bool) (r s : Rw) : zipO (row b r) (row c s) = some (zipD (r.map oD) (s.map oD)) := by simp [row]
@[simp] theorem zipO_sr (b : Bool) (l : List D) (s : Rw) : zipO (sqD b l) (rowT s) = some (zipD l (s.map oD)) := by cases b <;> rfl
@[simp] theorem zipO_lrow (l : List D) (c : Bool) (s : Rw) : zipO (.lst l) (row c s) = some (zipD l (s.map oD)) := by cases c <;> rfl
theorem is_sequence_ok (n : Nat) (b : Bool) (l : List D) (S : Store) : C (n + 1) i_is_sequence [sqD b l] S = .ok (.bl true) S := by
  rw [C_run (s := f_is_sequence) rfl rfl rfl]
  cases b <;> rfl
theorem is_sequence_row (n : Nat) (b : Bool) (r : Rw) (S : Store) : C (n + 1) i_is_sequence [row b r] S = .ok (.bl true) S := is_sequence_ok n b _ S
theorem is_moment_ok (n : Nat) (a : Mo) (S : Store) : C (n + 2) i_is_moment [oD a] S = .ok (.bl true) S := by
  rw [C_run (s := f_is_moment) rfl rfl rfl]
  have h : ∀ i S, C (n + 1) i_is_integer [.int i] S = .ok (.bl true) S := fun i S => by
    rw [C_run (s := f_is_integer) rfl rfl rfl]
    rfl
  cases a <;> simp [f_is_moment, h]
theorem need_row_ok (n : Nat) (b : Bool) (r : Rw) (hr : r ≠ []) (S : Store) : C (n + 3) i_need_row [row b r, .non] S = .ok .non S := by
  rw [C_run (s := f_need_row) rfl rfl rfl]
  have h0 : ((r.length : Int) == 0) = false := by have := List.length_pos_iff.mpr hr; simp; omega
  simp [f_need_row, is_sequence_row, h0, cifR_or]
  rw [enu_map, fr_stay]
  · rfl
  · rintro ⟨a, k⟩ _
    simp [is_moment_ok]
theorem need_row_1 (n : Nat) (b : Bool) (r : Rw) (hr : r ≠ []) (S : Store) : C (n + 3) i_need_row [row b r] S = .ok .non S := (C_dfl (s := f_need_row) (xs := [row b r]) rfl (Nat.le_refl 1) (by decide) (Nat.le_succ 1)).trans (need_row_ok n b r hr S)
theorem is_row_ok (n : Nat) (b : Bool) (r : Rw) (hr : r ≠ []) (S : Store) : C (n + 3) i_is_row [row b r, .int r.length] S = .ok (.bl true) S := by
  rw [C_run (s := f_is_row) rfl rfl rfl]
  have h0 : ((r.length : Int) == 0) = false := by have := List.length_pos_iff.mpr hr; simp; omega
  simp [f_is_row, is_sequence_row, h0, cifR_or, cifR_and, is_moment_ok]
theorem is_row_non (n : Nat) (b : Bool) (r : Rw) (hr : r ≠ []) (S : Store) : C (n + 3) i_is_row [row b r, .non] S = .ok (.bl true) S := by
  rw [C_run (s := f_is_row) rfl rfl rfl]
  have h0 : ((r.length : Int) == 0) = false := by have := List.length_pos_iff.mpr hr; simp; omega
  simp [f_is_row, is_sequence_row, h0, cifR_or, cifR_and, is_moment_ok]
theorem need_rows_ok (n : Nat) (b c : Bool) (l : List Rw) (k : Nat) (hk : k ≠ 0) (hl : ∀ r, r ∈ l → r.length = k) (S : Store) : C (n + 4) i_need_rows [sqD b (l.map (row c)), .int k] S = .ok .non S := by
  rw [C_run (s := f_need_rows) rfl rfl rfl]
  simp [f_need_rows, is_sequence_ok]
  rw [enu_map, fr_stay]
  · rfl
  · rintro ⟨a, j⟩ m
    have ha := hl a (by have := List.mem_zipIdx m; obtain ⟨_, _, e⟩ := this; rw [e]; exact List.getElem_mem _)
    subst ha
    have hr : a ≠ [] := by rintro rfl; exact hk rfl
    simp [is_row_ok _ _ _ hr]
theorem need_both_ok (n : Nat) (b c e : Bool) (l : List Rw) (r : Rw) (hk : r ≠ []) (hl : ∀ a, a ∈ l → a.length = r.length) (S : Store) : C (n + 5) i_need_both [sqD b (l.map (row c)), row e r] S = .ok .non S := by
  rw [C_run (s := f_need_both) rfl rfl rfl]
  have h1 : ∀ S, C (n + 4) i_need_row [row e r] S = .ok .non S := fun S => need_row_1 (n + 1) e r hk S
  have h2 := need_rows_ok n b c l r.length (by simpa using hk) hl
  simp [f_need_both, h1, h2]
theorem lm_loop (cf : CF) (x y : Option D) (S : Store) : ∀ (l : List (Mo × Mo)) (acc : List Int), acc.length + l.length ≤ line →
    frGo (exb tab cf (f_least_move.fn.body.nth 1).bod) (.many [3, 4]) (l.map fun p => .tup [oD p.1, oD p.2]) [x, y, some (.lst (acc.map D.int)), none, none] S =
      if bad l = true then .rt .non S else .nx [x, y, some (.lst ((acc ++ bnd l).map D.int)), none, none] S
  | [], acc, _ => by simp [fr_nil, bad, bnd]
  | (a, b) :: l, acc, h => by
    have h' : acc.length + l.length + 1 ≤ line := by simpa [Nat.add_assoc] using h
    have hl : acc.length < line := by omega
    have ih := lm_loop cf x y S l
    rw [List.map_cons, fr_turn]
    cases a with
    | none =>
      have ih := ih acc (by omega)
      simp [f_least_move, cifR_and, bad, bnd] at ih ⊢
      exact ih
    | some i => cases b with
      | none => simp [f_least_move, cifR_and, bad]
      | some j =>
        have ih := ih (acc ++ [j - i]) (by simp; omega)
        simp [f_least_move, cifR_and, bad, bnd, z_app, hl] at ih ⊢
        exact ih
theorem least_move_ok (n : Nat) (b c : Bool) (as bs : Rw) (hl : as.length ≤ line) (S : Store) : C (n + 1) i_least_move [row b as, row c bs] S = .ok (oD (mv as bs)) S := by
  rw [C_run (s := f_least_move) rfl rfl rfl]
  have h := lm_loop (C n) (some (row b as)) (some (row c bs)) S (as.zip bs) [] (by simp; omega)
  simp [f_least_move, zip_map] at h ⊢
  rw [h]
  unfold mv
  by_cases h1 : bad (as.zip bs) = true
  · simp [h1]
  · by_cases h2 : bnd (as.zip bs) = []
    · simp [h1, h2]
    · have h3 := max_map id h2
      have h4 : 0 < (bnd (as.zip bs)).length := List.length_pos_iff.mpr h2
      simp at h3
      simp [h1, h2, h3, h4]
theorem moves_to_ok (n : Nat) (b c e : Bool) (l : List Rw) (r : Rw) (hl : ∀ a, a ∈ l → a.length ≤ line) (S : Store) : C (n + 2) i_moves_to [sqD b (l.map (row c)), row e r] S = .ok (rowT (l.map fun a => mv a r)) S := by
  rw [C_run (s := f_moves_to) rfl rfl rfl]
  have h : lcM (fun a S => C (n + 1) i_least_move [row c a, row e r] S) l S = .ok (l.map fun a => oD (mv a r)) S := lcM_in fun a m => least_move_ok n c e a r (hl a m) S
  simp [f_moves_to, rowT, h]
theorem is_before_ok (n : Nat) (a b : Mo) (S : Store) : C (n + 1) i_is_before [oD a, oD b] S = .ok (.bl (soon a b)) S := by
  rw [C_run (s := f_is_before) rfl rfl rfl]
  cases a <;> cases b <;> simp [f_is_before, soon]
theorem later_ok (n : Nat) (a : Mo) (m : Int) (S : Store) : C (n + 1) i_later [oD a, .int m] S = .ok (oD (sh m a)) S := by
  rw [C_run (s := f_later) rfl rfl rfl]
  cases a <;> simp [f_later]
theorem first_of_ok {α : Type} (n : Nat) (f : α → Mo) (l : List α) (S : Store) : C (n + 2) i_first_of [.lst (l.map fun a => oD (f a))] S = .ok (oD (sn (l.map f))) S := by
  rw [C_run (s := f_first_of) rfl rfl rfl]
  have h := fr_fold (f := exb tab (C (n + 1)) (f_first_of.fn.body.nth 1).bod) (t := .one 2) (S := S) (fun a => [some (.lst (l.map fun a => oD (f a))), some (oD a), none]) (fun a => oD (f a)) (fun a b => pk a (f b)) (fun _ _ => True) l none trivial
    fun a b m _ _ => ⟨by cases h : soon (f b) a <;> simp [f_first_of, is_before_ok, h, pk], trivial⟩
  have e : (l.map f).foldl pk none = l.foldl (fun a b => pk a (f b)) none := by rw [List.foldl_map]
  simp [f_first_of] at h ⊢
  rw [h]
  simp [sn, e]
theorem first_of_tup (n : Nat) (l : List Mo) (S : Store) : C (n + 2) i_first_of [.tup (l.map oD)] S = .ok (oD (sn l)) S := by
  rw [C_run (s := f_first_of) rfl rfl rfl]
  have h := fr_fold (f := exb tab (C (n + 1)) (f_first_of.fn.body.nth 1).bod) (t := .one 2) (S := S) (fun a => [some (.tup (l.map oD)), some (oD a), none]) oD (fun a b => pk a b) (fun _ _ => True) l none trivial
    fun a b m _ _ => ⟨by cases h : soon b a <;> simp [f_first_of, is_before_ok, h, pk], trivial⟩
  simp [f_first_of] at h ⊢
  rw [h]
  simp [sn]
theorem first_of_2 (n : Nat) (a b : Mo) (S : Store) : C (n + 2) i_first_of [.lst [oD a, oD b]] S = .ok (oD (pk a b)) S := by
  have h := first_of_ok n id [a, b] S
  have e : sn ([a, b].map id) = pk a b := by show sn [a, b] = _; rw [sn_cons, sn_cons, sn_nil, pk_none2]
  rw [e] at h
  exact h
theorem made_first_ok (n : Nat) (b c e : Bool) (l : List Rw) (r : Rw) (hr : r.length < 1000) (hl : ∀ a, a ∈ l → a.length = r.length) (S : Store) : C (n + 3) i_made_first [sqD b (l.map (row c)), row e r] S = .ok (rowT (mf l r)) S := by
  rw [C_run (s := f_made_first) rfl rfl rfl]
  have h1 := moves_to_ok n b c e l r (fun a m => by rw [hl a m]; exact line_of (by omega))
  have h := fr_fold (f := exb tab (C (n + 2)) (f_made_first.fn.body.nth 1).bod) (t := .many [3, 4]) (S := S) (fun acc : Rw => [some (sqD b (l.map (row c))), some (row e r), some (.lst (acc.map oD)), none, none, none, none]) (fun a : Rw => .tup [row c a, oD (mv a r)]) (mf1 r) (fun _ _ => True) l (List.replicate r.length none) trivial
    fun acc a m _ _ => ⟨by
      cases h : mv a r with
      | none => simp [f_made_first, mf1, h]
      | some m => simp [f_made_first, mf1, h, zip_map, later_ok, first_of_2], trivial⟩
  simp [f_made_first] at h
  simp [f_made_first, rep_non hr, h1, zip_map, zip_self_map, zip_same, Function.comp_def, h]
  rfl
theorem need_some_rows_ok (n : Nat) (b c : Bool) (r : Rw) (l : List Rw) (h0 : r ≠ []) (hl : ∀ a, a ∈ l → a.length = r.length) (S : Store) : C (n + 5) i_need_some_rows [sqD b ((r :: l).map (row c))] S = .ok .non S := by
  rw [C_run (s := f_need_some_rows) rfl rfl rfl]
  have h1 : ∀ S, C (n + 4) i_is_row [row c r, .non] S = .ok (.bl true) S := is_row_non (n + 1) c r h0
  have h2 := need_rows_ok n b c (r :: l) r.length (by simpa using h0) (fun a m => by rcases List.mem_cons.mp m with rfl | m; exact rfl; exact hl a m)
  have h3 : ixD (sqD b (row c r :: l.map (row c))) (.int 0) = some (row c r) := ix_head b _ _
  have h4 : ((l.length : Int) + 1 == 0) = false := by simp; omega
  simp [f_need_some_rows, is_sequence_ok, h1, h3, h4, cifR_or] at h2 ⊢
  simp [h2, h3]
theorem is_made_ok (n : Nat) (b c : Bool) (e : Bool) (l : List Rw) (r : Rw) (h0 : r ≠ []) (hr : r.length < 1000) (hl : ∀ a, a ∈ l → a.length = r.length) {v : Bool} (hv : cmpD .eq (rowT (mf l r)) (rowT r) = some v) (S : Store) : C (n + 6) i_is_made [sqD b (l.map (row c)), row e r] S = .ok (.bl v) S := by
  rw [C_run (s := f_is_made) rfl rfl rfl]
  have h1 := need_both_ok n b c e l r h0 hl
  have h2 : ∀ S, C (n + 5) i_made_first [sqD b (l.map (row c)), row e r] S = .ok (rowT (mf l r)) S := made_first_ok (n + 2) b c e l r hr hl
  simp [f_is_made, h1, h2, hv]
theorem moved_ok (n : Nat) (b : Bool) (r : Rw) (m : Int) (h0 : r ≠ []) (S : Store) : C (n + 4) i_moved [row b r, .int m] S = .ok (rowT (mvd m r)) S := by
  rw [C_run (s := f_moved) rfl rfl rfl]
  have h1 := need_row_1 n b r h0
  have h2 : ∀ a S, C (n + 3) i_later [oD a, .int m] S = .ok (oD (sh m a)) S := fun a S => later_ok (n + 2) a m S
  simp [f_moved, h1, h2, rowT, mvd]
/-- a row moved so that its first moment is 0 -/
def nrm (r : Rw) : Rw := match sn r with
  | none => r
  | some m => mvd (-m) r
theorem nrm_len (r : Rw) : (nrm r).length = r.length := by
  unfold nrm
  split
  · rfl
  · exact mvd_len _ _
theorem sn_mvd (m : Int) : ∀ r : Rw, sn (mvd m r) = sh m (sn r)
  | [] => rfl
  | a :: r => by
    show sn (sh m a :: mvd m r) = _
    rw [sn_cons, sn_cons, sh_pk, sn_mvd m r]
theorem nrm_nrm (r : Rw) : nrm (nrm r) = nrm r := by
  cases h : sn r with
  | none => simp [nrm, h]
  | some m =>
    have e1 : nrm r = mvd (-m) r := by simp [nrm, h]
    rw [e1]
    unfold nrm
    rw [sn_mvd, h]
    show mvd (-(m + -m)) (mvd (-m) r) = _
    have e0 : -(m + -m) = 0 := by omega
    rw [e0]
    unfold mvd
    rw [show sh 0 = id from funext sh_zero, List.map_id]
theorem normed_ok (n : Nat) (b : Bool) (r : Rw) (h0 : r ≠ []) (S : Store) : C (n + 5) i_normed [row b r] S = .ok (rowT (nrm r)) S := by
  rw [C_run (s := f_normed) rfl rfl rfl]
  have h1 : ∀ S, C (n + 4) i_need_row [row b r] S = .ok .non S := need_row_1 (n + 1) b r h0
  have h2 : ∀ S, C (n + 4) i_first_of [row b r] S = .ok (oD (sn r)) S := fun S => by
    cases b with
    | false =>
      have := first_of_ok (n + 2) id r S
      simp at this
      exact this
    | true =>
      have := first_of_tup (n + 2) r S
      exact this
  have h3 := fun m => moved_ok n b r m h0
  cases h : sn r with
  | none => simp [f_normed, h1, h2, h, nrm]
  | some m => simp [f_normed, h1, h2, h, h3, nrm]
theorem dr (n : Nat) (b : Int) (S : Store) (hS : Gd S) (h1 : 1 ≤ b) (h2 : b < 1073741824) : ∃ r S', C (n + 1) i_law_draw [.ref 1, .int b] S = .ok (.int r) S' ∧ Gd S' ∧ 0 ≤ r ∧ r < b := by
  rw [C_run (s := f_law_draw) rfl rfl rfl]
  exact draw_body (n1 := 45823) (n2 := 29) (n3 := 32) hS ⟨by decide, fun z => by unfold mulOk; simp⟩ ⟨by decide, by decide⟩ h1 h2
theorem pick_ok (n : Nat) {l : List D} (h0 : l ≠ []) (h1 : l.length < 1073741824) {S : Store} (hS : Gd S) : ∃ d S', C (n + 2) i_law_pick [.ref 1, .lst l] S = .ok d S' ∧ Gd S' ∧ d ∈ l := by
  rw [C_run (s := f_law_pick) rfl rfl rfl]
  exact pick_body (fun b S => dr n b S) h0 h1 hS
theorem deal_ok (n : Nat) (ns : List Int) (hl : ns.length ≤ 63) : ∃ S, C (n + 1) i_law_deal [.lst (ns.map D.int), .int 0] [] = .ok (.ref 1) S ∧ Gd S := by
  rw [C_run (s := f_law_deal) rfl rfl rfl]
  have sl : sliceD (.lst (ns.map D.int)) (some 0) (some 58) = some (.lst ((cutL ns (some 0) (some 58)).map D.int)) := by
    show some (D.lst (cutL (ns.map D.int) _ _)) = _
    rw [cut_map]
  let cs := (cutL ns (some 0) (some 58)).map fun i : Int => if i < 0 then -i else i
  have lc : cs.length ≤ 100 := by
    show (((cutL ns (some 0) (some 58)).map fun i : Int => if i < 0 then -i else i)).length ≤ 100
    rw [List.length_map]
    exact Nat.le_trans (cutL_length _ _ _) (by omega)
  have z0 : binD .mul (.int 31) (.int 0) = some (.int 0) := by rw [mul_ok (by decide)]; rfl
  obtain ⟨g1, z1, q1, q2, q3, q4, q5, q6⟩ := stir (T := tab) (cf := C n) (m1 := 45823) (m2 := 2147483477) (m3 := 13) (s := 2) (t := 4) (g0 := [some (.lst (ns.map D.int)), some (.int 0), some (.int 67867979), some (.lst (cs.map D.int)), none]) (S := []) (fun z => by unfold mulOk; simp) (by decide) (by decide) cs (by simp) (by simp) 67867979 ⟨rfl, by decide, by decide⟩
  have q7 : g1[3]? = some (some (.lst (cs.map D.int))) := q6 3 (by decide) (by decide)
  refine ⟨_, ?_, gd_of (ns := cs) (z := z1) (abs_nn _) lc q4 q5⟩
  show fin0 (exb tab (C n) f_law_deal.fn.body [some (.lst (ns.map D.int)), some (.int 0), none, none, none] []) = _
  have e1 : ev tab (C n) (.lc (.bi .abs (.cons (.bi .int (.cons (.var 4) .nil)) .nil)) (.one 4) (.seq (.slc (.var 0) (.some (.var 1)) (.some (.cst (.int 58)))))) [some (.lst (ns.map D.int)), some (.int 0), some (.int 67867979), none, none] [] = .ok (.lst (cs.map D.int)) [] := by
    rw [e_lc, i_seq', e_slc]
    simp [sl]
    rw [abs_ints _ (by simp)]
  have e0 : ev tab (C n) (.bin .add (.cst (.int 67867979)) (.bin .mul (.cst (.int 31)) (.var 1))) [some (.lst (ns.map D.int)), some (.int 0), none, none, none] [] = .ok (.int 67867979) [] := by simp [z0]
  refine Eq.trans (congrArg fin0 (b_step (s_asg1 e0))) ?_
  refine Eq.trans (congrArg fin0 (b_step (s_asg1 e1))) ?_
  refine Eq.trans (congrArg fin0 (b_step ((s_fr1 (xs := cs.map D.int) (S1 := []) rfl).trans q1))) ?_
  exact congrArg fin0 (b_ret (s_ret1 (place_ok q7 q3 (by rw [q2]; simp))))
theorem cut_take {α : Type} (l : List α) (k : Nat) : cutL l none (some (k : Int)) = l.take k := by
  unfold cutL cutAt
  simp only [List.drop_zero]
  have h : ¬ ((k : Int) < 0) := by omega
  rw [if_neg h, Int.toNat_natCast]
  show l.take (min k l.length - 0) = _
  rw [Nat.sub_zero, List.take_eq_take_iff]
  omega
theorem cut_drop {α : Type} (l : List α) (k : Nat) : cutL l (some (k : Int)) none = l.drop k := by
  unfold cutL cutAt
  have h : ¬ ((k : Int) < 0) := by omega
  simp only [if_neg h, Int.toNat_natCast]
  by_cases q : k ≤ l.length
  · rw [Nat.min_eq_left q, List.take_of_length_le (by rw [List.length_drop]; omega)]
  · rw [Nat.min_eq_right (by omega), List.drop_eq_nil_of_le (Nat.le_refl _), List.drop_eq_nil_of_le (by omega)]
    simp
theorem sooner_ok (n : Nat) (a b : Mo) (S : Store) : C (n + 1) i_law_is_sooner [oD a, oD b] S = .ok (.bl (soon a b)) S := by
  rw [C_run (s := f_law_is_sooner) rfl rfl rfl]
  cases a <;> cases b <;> simp [f_law_is_sooner, soon]
theorem soonest_ok {α : Type} (n : Nat) (f : α → Mo) (l : List α) (S : Store) : C (n + 2) i_law_soonest [.lst (l.map fun a => oD (f a))] S = .ok (oD (sn (l.map f))) S := by
  rw [C_run (s := f_law_soonest) rfl rfl rfl]
  have h := fr_fold (f := exb tab (C (n + 1)) (f_law_soonest.fn.body.nth 1).bod) (t := .one 2) (S := S) (fun a => [some (.lst (l.map fun a => oD (f a))), some (oD a), none]) (fun a => oD (f a)) (fun a b => pk a (f b)) (fun _ _ => True) l none trivial
    fun a b m _ _ => ⟨by cases h : soon (f b) a <;> simp [f_law_soonest, sooner_ok, h, pk], trivial⟩
  have e : (l.map f).foldl pk none = l.foldl (fun a b => pk a (f b)) none := by rw [List.foldl_map]
  simp [f_law_soonest] at h ⊢
  rw [h]
  simp [sn, e]
theorem plus_ok (n : Nat) (a : Mo) (m : Int) (S : Store) : C (n + 1) i_law_plus [oD a, .int m] S = .ok (oD (sh m a)) S := by
  rw [C_run (s := f_law_plus) rfl rfl rfl]
  cases a <;> simp [f_law_plus]
theorem shifted_ok (n : Nat) (r : Rw) (m : Int) (S : Store) : C (n + 2) i_law_shifted [rowT r, .int m] S = .ok (rowT (mvd m r)) S := by
  rw [C_run (s := f_law_shifted) rfl rfl rfl]
  simp [f_law_shifted, plus_ok]
  simp [rowT, mvd]
/-- each is none or between -B and B -/
def Bd (B : Int) (r : Rw) : Prop := ∀ i, some i ∈ r → -B ≤ i ∧ i ≤ B
theorem bd_nil (B : Int) : Bd B [] := fun i h => nomatch h
theorem bd_add {B : Int} {r : Rw} {a : Mo} (h : Bd B r) (ha : ∀ i, a = some i → -B ≤ i ∧ i ≤ B) : Bd B (r ++ [a]) := fun i hi => by
  rcases List.mem_append.mp hi with h1 | h1
  · exact h i h1
  · exact ha i (List.mem_singleton.mp h1).symm
/-- the first of rows, place by place -/
def mgd (l : List Rw) (k : Nat) : Rw := (List.range k).map fun j => sn (l.map fun r => at_ r j)
theorem mgd_len (l : List Rw) (k : Nat) : (mgd l k).length = k := by simp [mgd]
theorem at_mgd {l : List Rw} {k : Nat} (hl : ∀ a, a ∈ l → a.length = k) (i : Nat) : at_ (mgd l k) i = sn (l.map fun r => at_ r i) := by
  unfold mgd
  rw [at_map]
  by_cases hi : i < k
  · simp [hi]
  · simp [hi]
    symm
    rcases sn_mem (l.map fun r => at_ r i) with h | h
    · exact h
    · obtain ⟨r, hr, e⟩ := List.mem_map.mp h
      rw [← e]
      exact at_out (by rw [hl r hr]; omega)
theorem mgd_bd {l : List Rw} {k : Nat} {B : Int} (h : ∀ r, r ∈ l → Bd B r) : Bd B (mgd l k) := fun i hi => by
  obtain ⟨j, _, e⟩ := List.mem_map.mp hi
  rcases sn_mem (l.map fun r => at_ r j) with q | q
  · rw [q] at e
    cases e
  · rw [e] at q
    obtain ⟨r, hr, er⟩ := List.mem_map.mp q
    exact h r hr i (at_mem er)
theorem mvd_bd {r : Rw} {B m A : Int} (h : Bd B r) (hm : B + A ≤ B + A) (h1 : -A ≤ m) (h2 : m ≤ A) : Bd (B + A) (mvd m r) := fun i hi => by
  obtain ⟨o, ho, e⟩ := List.mem_map.mp hi
  cases o with
  | none => cases e
  | some u =>
    have := h u ho
    cases e
    show -(B + A) ≤ u + m ∧ u + m ≤ B + A
    omega
theorem merged_ok (n : Nat) (l : List Rw) (k : Nat) (hk : k ≤ line) (hl : ∀ r, r ∈ l → r.length = k) (S : Store) : C (n + 3) i_law_merged [.lst (l.map rowT), .int k] S = .ok (rowT (mgd l k)) S := by
  rw [C_run (s := f_law_merged) rfl rfl rfl]
  simp [f_law_merged, rngO_nat hk, rng_map]
  rw [lcM_in (h := fun j => oD (sn (l.map fun r => at_ r j)))]
  · simp [mgd, rowT]
  · intro j m
    rw [lcM_in (h := fun r => oD (at_ r j))]
    · have := soonest_ok n (fun r : Rw => at_ r j) l S
      simp at this ⊢
      exact this
    · intro r mr
      rw [ix_rowT (by rw [hl r mr]; exact List.mem_range.mp m)]
      rfl
theorem line_ok (n : Nat) (k : Nat) (w : Int) (hk : k ≤ line) (h1 : 1 ≤ w) (h2 : w ≤ 1000) {S : Store} (hS : Gd S) : WpR (C (n + 2) i_law_line [.ref 1, .int k, .int w] S) fun d => ∃ r, d = rowT r ∧ r.length = k ∧ Bd w r := by
  rw [C_run (s := f_law_line) rfl rfl rfl]
  obtain ⟨r, S', e, hS', hr, hb⟩ := wp_frN (f := exb tab (C (n + 1)) (f_law_line.fn.body.nth 1).bod) (t := .one 4) (fun r : Rw => [some (.ref 1), some (.int k), some (.int w), some (.lst (r.map oD)), none]) (fun (j : Nat) => D.int (j : Int))
    (fun j r => r.length = j ∧ Bd w r) (List.range k) (a := []) hS ⟨rfl, bd_nil w⟩ fun j b r S hj hS ⟨hr, hb⟩ => by
      have hj : r.length < line := by have := (List.getElem?_eq_some_iff.mp hj).1; rw [List.length_range] at this; omega
      obtain ⟨a, S1, c1, c2, c3, c4⟩ := dr n 4 S hS (by decide) (by decide)
      by_cases ha : a = 0
      · exact .go (r ++ [none]) S1 (by simp [f_law_line, z_app, c1, ha, hj]) c2 ⟨by simp [hr], bd_add hb fun i hi => by cases hi⟩
      · obtain ⟨b, S2, d1, d2, d3, d4⟩ := dr n (2 * w + 1) S1 c2 (by omega) (by omega)
        have m : binD .mul (.int 2) (.int w) = some (.int (2 * w)) := mul_ok (by unfold mulOk; simp)
        have ha : (a == 0) = false := by simpa using ha
        exact .go (r ++ [some (b - w)]) S2 (by simp [f_law_line, z_app, c1, ha, hj, m, d1]) d2 ⟨by simp [hr], bd_add hb fun i hi => by cases hi; omega⟩
  simp [f_law_line] at e hr
  simp [f_law_line, rngO_nat hk, rng_map, e]
  exact ⟨_, S', rfl, hS', r, rfl, hr, hb⟩
theorem lines_ok (n : Nat) (k m : Nat) (hk : k ≤ line) (hm : m ≤ line) {S : Store} (hS : Gd S) : WpR (C (n + 3) i_law_lines [.ref 1, .int k, .int m] S) fun d => ∃ l : List Rw, d = .lst (l.map rowT) ∧ l.length = m ∧ ∀ r, r ∈ l → r.length = k ∧ Bd 9 r := by
  rw [C_run (s := f_law_lines) rfl rfl rfl]
  obtain ⟨w, S1, p1, p2, p3⟩ := pick_ok n (l := [.int 2, .int 4, .int 9]) (by simp) (by decide) hS
  have hw : ∃ i : Int, w = .int i ∧ 1 ≤ i ∧ i ≤ 9 := by
    simp at p3
    rcases p3 with rfl | rfl | rfl <;> exact ⟨_, rfl, by decide, by decide⟩
  obtain ⟨i, rfl, i1, i2⟩ := hw
  obtain ⟨ys, S2, q1, q2, q3, q4⟩ := wp_lc (k := fun (j : Nat) S => C (n + 2) i_law_line [.ref 1, .int k, .int i] S) (fun _ d => ∃ r, d = rowT r ∧ r.length = k ∧ Bd 9 r) (List.range m) p2 fun b S _ hS => by
    obtain ⟨d, S', e, hS', r, h1, h2, h3⟩ := line_ok n k i hk i1 (by omega) hS
    exact ⟨d, S', e, hS', r, h1, h2, fun j hj => by have := h3 j hj; omega⟩
  obtain ⟨l, rfl, l2, l3⟩ := forms fun y hy => by
    obtain ⟨_, _, h⟩ := q4 y hy
    exact h
  simp [f_law_lines, p1, rngO_nat hm, rng_map, q1]
  exact ⟨_, S2, rfl, q2, l, rfl, by rw [l2, q3]; simp, l3⟩
theorem made_of_gen (n : Nat) (sb : Bool) (l : List Rw) (k : Nat) {B : Int} (hk : k < 1000) (hl : ∀ r, r ∈ l → r.length = k ∧ Bd B r) (hll : l.length < 16777216) {S : Store} (hS : Gd S) : WpR (C (n + 4) i_law_made_of [.ref 1, sqD sb (l.map rowT), .int k] S) fun d => ∃ r, d = rowT r ∧ r.length = k ∧ Bd (B + 4) r ∧ Mk l r := by
  rw [C_run (s := f_law_made_of) rfl rfl rfl]
  obtain ⟨r, S', e, hS', hr, hb⟩ := wp_frN (f := exb tab (C (n + 3)) (f_law_made_of.fn.body.nth 1).bod) (t := .one 4) (fun r : List Rw => [some (.ref 1), some (sqD sb (l.map rowT)), some (.int k), some (.lst (r.map rowT)), none]) rowT
    (fun j r => r.length ≤ j + 1 ∧ ∀ x, x ∈ r → x.length = k ∧ Bd (B + 4) x ∧ Mk l x) l (a := [List.replicate k none]) hS ⟨by simp, fun x hx => by rw [List.mem_singleton.mp hx]; exact ⟨by simp, (fun i hi => by cases (List.mem_replicate.mp hi).2), Mk.none fun i => at_rep k i⟩⟩ fun j b r S hj hS ⟨hr, hb⟩ => by
      have hj1 : r.length < line := by have := (List.getElem?_eq_some_iff.mp hj).1; show r.length < 16777216; omega
      have hbm := List.mem_of_getElem? hj
      obtain ⟨hb1, hb2⟩ := hl b hbm
      obtain ⟨a, S1, c1, c2, c3, c4⟩ := dr (n + 2) 3 S hS (by decide) (by decide)
      by_cases ha : 0 < a
      · obtain ⟨c, S2, d1, d2, d3, d4⟩ := dr (n + 2) 9 S1 c2 (by decide) (by decide)
        have sh := shifted_ok (n + 1) b (c - 4) S2
        refine .go (r ++ [mvd (c - 4) b]) S2 (by simp [f_law_made_of, z_app, c1, ha, hj1, d1, sh]) d2 ⟨by simp; omega, fun x hx => ?_⟩
        rcases List.mem_append.mp hx with hx | hx
        · exact hb x hx
        · rw [List.mem_singleton.mp hx]
          exact ⟨by rw [mvd_len]; exact hb1, mvd_bd (A := 4) hb2 (Int.le_refl _) (by omega) (by omega), Mk.one hbm _⟩
      · exact .go r S1 (by simp [f_law_made_of, c1, ha]) c2 ⟨by omega, hb⟩
  have mm := merged_ok n r k (line_of (by omega)) (fun x hx => (hb x hx).1)
  simp [f_law_made_of] at e hr
  simp [f_law_made_of, rep_non hk, tup_non, e, mm]
  exact ⟨_, S', rfl, hS', _, rfl, mgd_len _ _, mgd_bd fun x hx => (hb x hx).2.1, Mk.min r (fun x hx => (hb x hx).2.2) (at_mgd fun x hx => (hb x hx).1)⟩
theorem made_of_ok (n : Nat) (l : List Rw) (k : Nat) (hk : k < 1000) (hl : ∀ r, r ∈ l → r.length = k ∧ Bd 9 r) (hll : l.length < 1000) {S : Store} (hS : Gd S) : WpR (C (n + 4) i_law_made_of [.ref 1, .lst (l.map rowT), .int k] S) fun d => ∃ r, d = rowT r ∧ r.length = k ∧ Bd 13 r ∧ Mk l r := made_of_gen n false l k hk hl (by omega) hS
theorem bnd_loop (S : Store) : ∀ (l : List (Mo × Mo)), bad l = false → lcF (fun (p : Mo × Mo) S => .ok (.bl p.1.isSome) S) (fun p S => lift (binD .sub (oD p.2) (oD p.1)) S) l S = .ok ((bnd l).map D.int) S
  | [], _ => rfl
  | (a, b) :: l, h => by
    have h : ((a.isSome && b.isNone) || bad l) = false := h
    rw [Bool.or_eq_false_iff] at h
    have ih := bnd_loop S l h.2
    unfold lcF
    cases a with
    | none => simp [ih, bnd]
    | some i => cases b with
      | none => simp at h
      | some j => simp [ih, bnd]
theorem ones_ne {α : Type} (p : α → Bool) (l : List α) : cmpD .ne (.lst ((l.filter p).map fun _ => .int 1)) (.lst []) = some (l.any p) := by
  have h := ne_nil_ints ((l.filter p).map fun _ => 1)
  rw [List.map_map] at h
  refine Eq.trans h ?_
  congr 1
  induction l with
  | nil => rfl
  | cons a l ih => cases h : p a <;> simp_all
theorem ones_eq {α : Type} (p : α → Bool) (l : List α) : cmpD .eq (.lst ((l.filter p).map fun _ => .int 1)) (.lst []) = some (!l.any p) := by
  have h := eq_nil_ints ((l.filter p).map fun _ => 1)
  rw [List.map_map] at h
  refine Eq.trans h ?_
  congr 1
  induction l with
  | nil => rfl
  | cons a l ih => cases h : p a <;> simp_all
theorem reach_ok (n : Nat) (as bs : Rw) (S : Store) : C (n + 1) i_law_reach [rowT as, rowT bs] S = .ok (oD (mv as bs)) S := by
  rw [C_run (s := f_law_reach) rfl rfl rfl]
  simp [f_law_reach, zip_map, cifR_and, ones_ne, ← bad_any]
  unfold mv
  cases hb : bad (as.zip bs) with
  | true => simp
  | false =>
    simp [zip_map, bnd_loop S _ hb]
    by_cases h2 : bnd (as.zip bs) = []
    · simp [h2]
    · have h3 := max_map id h2
      simp at h3
      have h4 := ne_nil_ints (bnd (as.zip bs))
      have h5 : (bnd (as.zip bs)).isEmpty = false := by simpa using h2
      simp [h2, h3, h4, h5]
theorem row_rz {B : Int} (hB : B ≤ 10 ^ 30) {r : Rw} (h : Bd B r) : ∃ n, (rowT r).rz = some n ∧ n ≤ r.length * 43 + 3 := by
  obtain ⟨n, h1, h2⟩ := rzs_map oD 41 r fun a ha => by
    cases ea : a with
    | none => exact ⟨4, rfl, by decide⟩
    | some i =>
      have := h i (ea ▸ ha)
      refine ⟨41, ?_, by decide⟩
      show (if i.natAbs < 10 ^ 40 then some 41 else none) = _
      rw [if_pos (by omega)]
  refine ⟨n + 3, ?_, by omega⟩
  show (D.rzs (r.map oD)).map (· + 3) = _
  rw [h1]
  rfl
theorem row_dp (r : Rw) : (rowT r).dp ≤ 1 := by
  show D.dps (r.map oD) + 1 ≤ 1
  have := dps_map oD 0 r fun a _ => by rcases a with _ | i <;> exact Nat.le_refl _
  omega
theorem repr_row {B : Int} (hB : B ≤ 10 ^ 30) {r : Rw} (h : Bd B r) (hl : r.length ≤ 1000) : ∃ t, biD .repr [rowT r] = some (.str t) := by
  obtain ⟨n, h1, h2⟩ := row_rz hB h
  have := row_dp r
  exact repr_small h1 (by show n ≤ 16777216; omega) (by omega)
theorem repr_bl (b : Bool) : ∃ t, biD .repr [.bl b] = some (.str t) := repr_small (n := 5) rfl (by decide) (Nat.zero_le _)
/-- what is made of bounded rows is bounded -/
theorem mf_bd {l : List Rw} {r : Rw} {A B : Int} (hl : ∀ a, a ∈ l → a.length = r.length) (ha : ∀ a, a ∈ l → Bd A a) (hr : Bd B r) : Bd (2 * A + B) (mf l r) := fun v hv => by
  obtain ⟨i, _, e⟩ := mem_at hv
  rw [at_mf hl] at e
  rcases sn_mem (l.map fun a => gv r a i) with q | q
  · rw [q] at e; cases e
  · rw [e] at q
    obtain ⟨a, h1, h2⟩ := List.mem_map.mp q
    unfold gv at h2
    cases em : mv a r with
    | none => rw [em] at h2; cases h2
    | some m =>
      rw [em] at h2
      obtain ⟨_, j, x, y, e1, e2, e3⟩ := mv_some (hl a h1) em
      have b1 := ha a h1 x (at_mem e1)
      have b2 := hr y (at_mem e2)
      cases ea : at_ a i with
      | none => rw [ea] at h2; cases h2
      | some u =>
        have b3 := ha a h1 u (at_mem ea)
        rw [ea] at h2
        have : u + m = v := Option.some.inj h2
        omega
/-- the law's own soonest -/
def nr (r : Rw) (l : List Rw) : List Rw := l.filterMap fun a => (mv a r).map fun m => mvd m a
theorem nr_sn (r : Rw) (i : Nat) : ∀ l : List Rw, sn ((nr r l).map fun x => at_ x i) = sn (l.map fun a => gv r a i)
  | [] => rfl
  | a :: l => by
    have ih := nr_sn r i l
    rw [List.map_cons, sn_cons, ← ih]
    unfold nr gv
    cases em : mv a r with
    | none => simp [em, pk_none]
    | some m => simp [em, sn_cons, at_mvd]
theorem nr_mf {r : Rw} {l : List Rw} (hl : ∀ a, a ∈ l → a.length = r.length) : mgd (List.replicate r.length none :: nr r l) r.length = mf l r := by
  have h1 : ∀ a, a ∈ List.replicate r.length none :: nr r l → a.length = r.length := fun a m => by
    rcases List.mem_cons.mp m with rfl | m
    · simp
    · obtain ⟨b, hb, e⟩ := List.mem_filterMap.mp m
      cases em : mv b r with
      | none => rw [em] at e; cases e
      | some k =>
        rw [em] at e
        cases e
        rw [mvd_len]
        exact hl b hb
  refine ext_at (by rw [mgd_len, mf_len hl]) fun i => ?_
  rw [at_mgd h1, at_mf hl, List.map_cons, sn_cons, at_rep, pk_none, nr_sn]
theorem near_gen (n : Nat) (sb : Bool) (l : List Rw) (r : Rw) (hr : r.length < 1000) (hl : ∀ a, a ∈ l → a.length = r.length) (hll : l.length < 16777215) (S : Store) : C (n + 4) i_law_near [sqD sb (l.map rowT), rowT r] S = .ok (rowT (mf l r)) S := by
  rw [C_run (s := f_law_near) rfl rfl rfl]
  have h := fr_fold (f := exb tab (C (n + 3)) (f_law_near.fn.body.nth 1).bod) (t := .one 3) (S := S) (fun acc : List Rw => [some (sqD sb (l.map rowT)), some (rowT r), some (.lst (acc.map rowT)), none, none]) rowT (fun acc a => match mv a r with | none => acc | some m => acc ++ [mvd m a]) (fun acc k => acc.length + k ≤ 16777216) l [List.replicate r.length none] (by simp; omega)
    fun acc a m _ hI => by
      have rc : C (n + 3) i_law_reach [rowT a, rowT r] S = .ok (oD (mv a r)) S := reach_ok (n + 2) a r S
      have a1 : ∀ x : List D, x.length ≤ 1 → binD .add (.lst (acc.map rowT)) (.lst x) = some (.lst (acc.map rowT ++ x)) := fun x hx => by
        show (if (acc.map rowT).length + x.length ≤ line then some (D.lst (acc.map rowT ++ x)) else none) = _
        rw [if_pos]
        show (acc.map rowT).length + x.length ≤ 16777216
        rw [List.length_map]
        omega
      cases em : mv a r with
      | none =>
        rw [em] at rc
        have a2 := a1 [] (by simp)
        exact ⟨by simp [f_law_near, rc, a2], by show acc.length + m ≤ 16777216; omega⟩
      | some k =>
        rw [em] at rc
        have s1 : C (n + 3) i_law_shifted [rowT a, .int k] S = .ok (rowT (mvd k a)) S := shifted_ok (n + 1) a k S
        have a2 := a1 [rowT (mvd k a)] (by simp)
        exact ⟨by simp [f_law_near, rc, s1, a2], by show (acc ++ [mvd k a]).length + m ≤ 16777216; simp; omega⟩
  have e : ∀ (l acc : List Rw), l.foldl (fun acc a => match mv a r with | none => acc | some m => acc ++ [mvd m a]) acc = acc ++ nr r l := by
    intro l
    induction l with
    | nil => intro acc; simp [nr]
    | cons a l ih =>
      intro acc
      rw [List.foldl_cons]
      cases em : mv a r with
      | none => simp only; rw [ih]; simp [nr, em]
      | some m => simp only; rw [ih]; simp [nr, em]
  rw [e] at h
  have h1 : ∀ a, a ∈ List.replicate r.length none :: nr r l → a.length = r.length := fun a m => by
    rcases List.mem_cons.mp m with rfl | m
    · simp
    · obtain ⟨b, hb, e⟩ := List.mem_filterMap.mp m
      cases em : mv b r with
      | none => rw [em] at e; cases e
      | some k =>
        rw [em] at e
        cases e
        rw [mvd_len]
        exact hl b hb
  have mm := merged_ok n (List.replicate r.length none :: nr r l) r.length (line_of (by omega)) h1 S
  rw [nr_mf hl] at mm
  simp [f_law_near] at h mm
  simp [f_law_near, rep_non hr, tup_non, h, mm]
theorem near_ok (n : Nat) (l : List Rw) (r : Rw) (hr : r.length < 1000) (hl : ∀ a, a ∈ l → a.length = r.length) (hll : l.length < 1000) (S : Store) : C (n + 4) i_law_near [.lst (l.map rowT), rowT r] S = .ok (rowT (mf l r)) S := near_gen n false l r hr hl (by omega) S
theorem z_apop {T : Tab} {cf : CF} {g : Ev} {S : Store} (x y : Nat) (e : DE) : exs T cf (.apop x y e) g S = (match g[x]?, g[y]? with
    | some (some (.lst l)), some (some (.lst m)) => (ev T cf e g S).go g fun k S => (match k with
      | .int i => (match ixPlace m.length i with
        | some j => (match m[j]? with
          | some v => if l.length < line then SR.nx ((g.set y (some (.lst (m.eraseIdx j)))).set x (some (.lst (l ++ [v])))) S else .bad
          | none => .bad)
        | none => .bad)
      | _ => .bad)
    | _, _ => .bad) := rfl
theorem map_erase {α β : Type} (e : α → β) : ∀ (l : List α) (j : Nat), (l.eraseIdx j).map e = (l.map e).eraseIdx j
  | [], _ => rfl
  | a :: l, 0 => rfl
  | a :: l, j + 1 => by
    show e a :: (l.eraseIdx j).map e = e a :: (l.map e).eraseIdx j
    rw [map_erase e l j]
theorem erase_perm {α : Type} : ∀ (l : List α) (j : Nat) (h : j < l.length), ([l[j]] ++ l.eraseIdx j).Perm l
  | [], j, h => by simp at h
  | a :: l, 0, h => List.Perm.refl _
  | a :: l, j + 1, h => by
    show (l[j]'(by simpa using h) :: a :: l.eraseIdx j).Perm (a :: l)
    exact (List.Perm.swap _ _ _).trans ((erase_perm l j (by simpa using h)).cons a)
theorem mixed_loop {α : Type} {P : α → Prop} (n : Nat) (e : α → D) (hne : ∀ l : List α, (∀ x, x ∈ l → P x) → cmpD .ne (.lst (l.map e)) (.lst []) = some (!l.isEmpty)) (src : D) : ∀ (k : Nat) (left found : List α) {S : Store}, (∀ x, x ∈ left → P x) → Gd S → left.length < k → found.length + left.length ≤ 1000 →
    ∃ (m : List α) (S' : Store), whGo (ev tab (C (n + 1)) (.cmp .ne (.var 2) (.lst .nil))) (exb tab (C (n + 1)) (f_law_mixed.fn.body.nth 1).bod) k [some (.ref 1), some src, some (.lst (left.map e)), some (.lst (found.map e))] S = .nx [some (.ref 1), some src, some (.lst []), some (.lst (m.map e))] S' ∧ Gd S' ∧ m.Perm (found ++ left)
  | 0, left, found, S, _, _, h, _ => absurd h (Nat.not_lt_zero _)
  | k + 1, left, found, S, hP, hS, h, hl => by
    rw [wh_turn]
    cases left with
    | nil =>
      have h0 := hne [] (fun x m => nomatch m)
      simp at h0
      refine ⟨found, S, ?_, hS, by simp⟩
      simp [h0]
    | cons a left =>
      have h0 := hne (a :: left) hP
      simp at h0
      obtain ⟨r, S1, c1, c2, c3, c4⟩ := dr n ((a :: left).length : Nat) S hS (by simp; omega) (by simp at hl ⊢; omega)
      obtain ⟨j, rfl⟩ : ∃ j : Nat, r = (j : Int) := ⟨r.toNat, by omega⟩
      have hj : j < (a :: left).length := by omega
      have ip : ixPlace ((a :: left).map e).length (j : Int) = some j := by
        unfold ixPlace
        rw [if_pos (by omega), List.length_map, if_pos (by omega)]
        rfl
      have hg : ((a :: left).map e)[j]? = some (e (a :: left)[j]) := by rw [List.getElem?_map, List.getElem?_eq_getElem hj]; rfl
      have hlt : (found.map e).length < line := by rw [List.length_map]; show _ < 16777216; simp at hl; omega
      have le := List.length_eraseIdx_of_lt hj
      obtain ⟨m, S2, d1, d2, d3⟩ := mixed_loop n e hne src k ((a :: left).eraseIdx j) (found ++ [(a :: left)[j]]) (fun x m => hP x (List.mem_of_mem_eraseIdx m)) c2 (by rw [le]; simp at h ⊢; omega) (by rw [le]; simp at hl ⊢; omega)
      refine ⟨m, S2, ?_, d2, d3.trans ?_⟩
      · rw [← d1]
        have me := map_erase e (a :: left) j
        rw [List.map_cons] at me
        simp at c1 ip hg hlt
        simp [f_law_mixed, h0, z_apop, c1, ip, hg, hlt, me]
      · rw [List.append_assoc]
        refine List.Perm.append_left _ ?_
        exact erase_perm _ j hj
theorem mixed_ok {α : Type} {P : α → Prop} (n : Nat) (b : Bool) (e : α → D) (hne : ∀ l : List α, (∀ x, x ∈ l → P x) → cmpD .ne (.lst (l.map e)) (.lst []) = some (!l.isEmpty)) (l : List α) (hP : ∀ x, x ∈ l → P x) (hl : l.length ≤ 1000) {S : Store} (hS : Gd S) : ∃ (m : List α) (S' : Store), C (n + 2) i_law_mixed [.ref 1, sqD b (l.map e)] S = .ok (.lst (m.map e)) S' ∧ Gd S' ∧ m.Perm l := by
  rw [C_run (s := f_law_mixed) rfl rfl rfl]
  obtain ⟨m, S', d1, d2, d3⟩ := mixed_loop n e hne (sqD b (l.map e)) wfuel l [] hP hS (by unfold wfuel; omega) (by simpa using hl)
  refine ⟨m, S', ?_, d2, by simpa using d3⟩
  simp [f_law_mixed] at d1
  simp [f_law_mixed, x_wh, d1]
theorem ne_nil_rows (l : List Rw) (_h : ∀ x, x ∈ l → True) : cmpD .ne (.lst (l.map rowT)) (.lst []) = some (!l.isEmpty) := by
  have := ne_rowsL l []
  rw [List.map_nil] at this
  rw [this]
  cases l <;> simp
/-! ### least lots of rows -/
theorem rwD_rowT (r : Rw) : rwD r = rowT r := by
  unfold rwD rowT
  congr 1
def kyD (r : Rw) : D := .tup (r.map fun m => .tup [.bl m.isNone, .int (m.getD 0)])
theorem key_of_ok (n : Nat) (r : Rw) (S : Store) : C (n + 1) i_key_of [rowT r] S = .ok (kyD r) S := by
  rw [C_run (s := f_key_of) rfl rfl rfl]
  have h : lcM (fun (m : Mo) S => (Res.ok (D.bl m.isNone) S).bnd fun x S => (cifR (some m.isNone) (Res.ok (D.int 0) S) (Res.ok (oD m) S)).bnd fun y S => Res.ok (D.tup [x, y]) S) r S = .ok (r.map fun m => .tup [.bl m.isNone, .int (m.getD 0)]) S := lcM_in fun m _ => by cases m <;> rfl
  simp [f_key_of, rowT] at h ⊢
  rw [lcM_in (h := fun m : Mo => .tup [.bl m.isNone, .int (m.getD 0)]) fun m _ => by cases m <;> rfl]
  rfl
theorem pys_ky : ∀ l : List Rw, D.pys (l.map kyD) = some (l.map pRw)
  | [] => rfl
  | r :: l => by
    have h : ∀ r : Rw, D.pys (r.map fun m => D.tup [.bl m.isNone, .int (m.getD 0)]) = some (r.map fun m => PyData.tuple [.bool m.isNone, .int (m.getD 0)]) := fun r => by
      induction r with
      | nil => rfl
      | cons m r ih => simp only [List.map_cons, D.pys, D.py, ih]
    simp only [List.map_cons, D.pys, D.py, kyD, pys_ky l, h, pRw]
theorem depth_ky (r : Rw) : (pRw r).depth ≤ 100 := by
  unfold pRw
  simp only [PyData.depth]
  have : PyData.depthAll (r.map fun m => PyData.tuple [.bool m.isNone, .int (m.getD 0)]) ≤ 1 := by
    induction r with
    | nil => exact Nat.zero_le _
    | cons m r ih =>
      simp only [List.map_cons, PyData.depthAll]
      refine Nat.max_le.mpr ⟨?_, ih⟩
      simp [PyData.depth, PyData.depthAll]
  omega
theorem srt_rows (l : List Rw) (h0 : ∀ r, r ∈ l → r ≠ []) : srtKD (l.map rowT) (l.map kyD) = some ((srtR l).map rowT) := by
  unfold srtKD
  rw [pys_ky]
  simp only
  rw [if_pos]
  · congr 1
    rw [msF_eq _ _ _ (Nat.le_refl _), List.zip_map', ← List.map_mergeSort (f := fun a => (rowT a, pRw a)) (r := rle) (fun a _ b _ => (le_row a b _ _).symm), List.map_map]
    rfl
  · rw [Bool.and_eq_true, Bool.and_eq_true]
    refine ⟨⟨?_, ?_⟩, ?_⟩
    · rw [List.all_map, List.all_eq_true]
      intro a _
      show ((l.map pRw).all fun e => PySem.W.alike (pRw a) e) = true
      rw [List.all_map, List.all_eq_true]
      intro b _
      show PySem.W.alike (pRw a) (pRw b) = true
      unfold pRw
      simp only [PySem.W.alike]
      exact alike_row a b
    · unfold sortableB
      rw [Bool.or_eq_true]
      left
      rw [List.all_map, List.all_eq_true]
      intro a ha
      cases a with
      | nil => exact absurd rfl (h0 _ ha)
      | cons m r => rfl
    · rw [List.all_map, List.all_eq_true]
      intro a _
      exact decide_eq_true (depth_ky a)
/-- what least_of tells -/
def leastR (l : List Rw) : List Rw := srtR ((l.filter live).foldl lstep (l.filter live))
theorem live_test (r : Rw) (S : Store) : (lcM (fun (m : Mo) S => Res.ok (D.bl (!m.isNone)) S) r S).bnd (fun xs S => lift (biD .any [.lst xs]) S) = .ok (.bl (live r)) S := by
  have e : ∀ r : Rw, allBl (r.map fun m => D.bl (!m.isNone)) = some (r.map fun m => !m.isNone) := fun r => by
    induction r with
    | nil => rfl
    | cons m r ih => simp only [List.map_cons, allBl, ih, Option.map_some]
  rw [lcM_ok]
  simp only [bnd_ok, biD, e, Option.map_some, lift_some, List.any_map]
  congr 2
  unfold live
  congr 1
  funext m
  cases m <;> rfl
theorem lstep_sub {F : List Rw} {r a : Rw} (h : a ∈ lstep F r) : a ∈ F := by
  unfold lstep at h
  split at h
  · exact (List.mem_filter.mp h).1
  · exact h
theorem least_of_ok (n : Nat) (l : List Rw) {k : Nat} (h0 : k ≠ 0) (hk : k < 1000) (hl : ∀ r, r ∈ l → r.length = k) (S : Store) : C (n + 4) i_least_of [.lst (l.map rowT)] S = .ok (.tup ((leastR l).map rowT)) S := by
  rw [C_run (s := f_least_of) rfl rfl rfl]
  have t1 : ∀ r S, (lcM (fun (m : Mo) S => Res.ok (D.bl (!m.isNone)) S) r S).bnd (fun xs S => lift (biD .any [.lst xs]) S) = .ok (.bl (live r)) S := live_test
  have f1 : ∀ S, lcF (fun (r : Rw) S => (lcM (fun (m : Mo) S => Res.ok (D.bl (!m.isNone)) S) r S).bnd (fun xs S => lift (biD .any [.lst xs]) S)) (fun r S => .ok (rowT r) S) l S = .ok ((l.filter live).map rowT) S := fun S => lcF_in fun r _ => ⟨t1 r S, fun _ => rfl⟩
  have hL : ∀ r, r ∈ l.filter live → r.length = k := fun r m => hl r (List.mem_filter.mp m).1
  have h := fr_fold (f := exb tab (C (n + 3)) (f_least_of.fn.body.nth 1).bod) (t := .one 2) (S := S) (fun F : List Rw => [some (.lst (l.map rowT)), some (.lst (F.map rowT)), none, none, none, none]) rowT lstep (fun F _ => ∀ r, r ∈ F → r.length = k) (l.filter live) (l.filter live) hL
    fun F r m hr hF => by
      have lr := hL r hr
      have g1 : ∀ S, lcF (fun (a : Rw) S => Res.ok (D.bl (!decide (a = r))) S) (fun a S => .ok (rowT a) S) F S = .ok ((F.filter (· ≠ r)).map rowT) S := fun S => by
        rw [lcF_in (p := fun a => !decide (a = r)) (h := rowT) fun a _ => ⟨rfl, fun _ => rfl⟩]
        congr 2
        exact List.filter_congr fun a _ => by simp
      have g2 : ∀ S, C (n + 3) i_made_first [.lst ((F.filter (· ≠ r)).map rowT), rowT r] S = .ok (rowT (mf (F.filter (· ≠ r)) r)) S := fun S => made_first_ok n false true true _ r (by omega) (fun a m => by rw [hF a (List.mem_filter.mp m).1, lr]) S
      refine ⟨?_, fun a m => hF a (lstep_sub m)⟩
      by_cases q : mf (F.filter (· ≠ r)) r = r
      · have e : lstep F r = F.filter (· ≠ r) := if_pos q
        rw [e]
        simp at g1 g2 q
        simp [f_least_of, g1, g2, q]
      · have e : lstep F r = F := if_neg q
        rw [e]
        simp at g1 g2 q
        simp [f_least_of, g1, g2, q]
  have hF : ∀ r, r ∈ (l.filter live).foldl lstep (l.filter live) → r.length = k := by
    have : ∀ (Q F : List Rw), (∀ r, r ∈ F → r.length = k) → ∀ r, r ∈ Q.foldl lstep F → r.length = k := by
      intro Q
      induction Q with
      | nil => exact fun F h => h
      | cons a Q ih => exact fun F h => ih _ fun r m => h r (lstep_sub m)
    exact this _ _ hL
  have ks : ∀ S, lcM (fun (r : Rw) S => C (n + 3) i_key_of [rowT r] S) ((l.filter live).foldl lstep (l.filter live)) S = .ok (((l.filter live).foldl lstep (l.filter live)).map kyD) S := fun S => lcM_in fun r _ => key_of_ok (n + 2) r S
  have sr := srt_rows ((l.filter live).foldl lstep (l.filter live)) fun r m e => by have := hF r m; rw [e] at this; exact h0 this.symm
  simp [f_least_of] at h f1
  simp [f_least_of, f1, h, ks, sr, leastR]
theorem putsR_mem {a : Rw} : ∀ {ks acc : List Rw}, a ∈ putsR ks acc ↔ a ∈ acc ∨ a ∈ ks
  | [], acc => by simp [putsR]
  | k :: ks, acc => by
    show a ∈ putsR ks (putR k acc) ↔ _
    rw [putsR_mem]
    unfold putR
    by_cases h : k ∈ acc
    · rw [if_pos h, List.mem_cons]
      constructor
      · rintro (q | q)
        · exact .inl q
        · exact .inr (.inr q)
      · rintro (q | rfl | q)
        · exact .inl q
        · exact .inl h
        · exact .inr q
    · rw [if_neg h, List.mem_append, List.mem_singleton, List.mem_cons]
      constructor
      · rintro ((q | q) | q)
        · exact .inl q
        · exact .inr (.inl q)
        · exact .inr (.inr q)
      · rintro (q | q | q)
        · exact .inl (.inl q)
        · exact .inl (.inr q)
        · exact .inr q
theorem putsR_nd : ∀ {ks acc : List Rw}, acc.Nodup → (putsR ks acc).Nodup
  | [], acc, h => h
  | k :: ks, acc, h => by
    show (putsR ks (putR k acc)).Nodup
    refine putsR_nd ?_
    unfold putR
    by_cases q : k ∈ acc
    · rw [if_pos q]; exact h
    · rw [if_neg q, List.nodup_append]
      exact ⟨h, by simp, fun a ha b hb e => q (by rw [← List.mem_singleton.mp hb, ← e]; exact ha)⟩
theorem putsR_len : ∀ {ks acc : List Rw}, (putsR ks acc).length ≤ acc.length + ks.length
  | [], acc => Nat.le_refl _
  | k :: ks, acc => by
    show (putsR ks (putR k acc)).length ≤ _
    have h1 := putsR_len (ks := ks) (acc := putR k acc)
    have h2 := putR_len k acc
    rw [List.length_cons]
    omega
theorem least_rows_ok (n : Nat) (b c : Bool) (l : List Rw) {k : Nat} (h0 : k ≠ 0) (hk : k < 1000) (hn : l ≠ []) (hll : l.length ≤ line) (hl : ∀ r, r ∈ l → r.length = k) (S : Store) :
    C (n + 6) i_least_rows [sqD b (l.map (row c))] S = .ok (.tup ((leastR (putsR (l.map nrm) [])).map rowT)) S := by
  rw [C_run (s := f_least_rows) rfl rfl rfl]
  have n0 : ∀ r, r ∈ l → r ≠ [] := fun r m e => by have := hl r m; rw [e] at this; exact h0 this.symm
  have h1 : ∀ S, C (n + 5) i_need_some_rows [sqD b (l.map (row c))] S = .ok .non S := fun S => by
    cases l with
    | nil => exact absurd rfl hn
    | cons r l => exact need_some_rows_ok n b c r l (n0 r List.mem_cons_self) (fun a m => by rw [hl a (List.mem_cons_of_mem _ m), hl r List.mem_cons_self]) S
  have h2 : ∀ S, rcM (fun (d : D) S => C (n + 5) i_normed [d] S) (l.map (row c)) [] S = .ok (putsR (l.map nrm) []) S := fun S => by
    have : ∀ (l : List Rw) (acc : List Rw), (∀ r, r ∈ l → r ≠ []) → acc.length + l.length ≤ line → rcM (fun (d : D) S => C (n + 5) i_normed [d] S) (l.map (row c)) acc S = .ok (putsR (l.map nrm) acc) S := by
      intro l
      induction l with
      | nil => exact fun acc _ _ => rfl
      | cons r l ih =>
        intro acc h0 hl
        rw [List.length_cons] at hl
        rw [List.map_cons]
        unfold rcM
        simp only [normed_ok n c r (h0 r List.mem_cons_self), ← rwD_rowT, rwO_rwD]
        rw [if_pos (by omega), ih _ (fun a m => h0 a (List.mem_cons_of_mem _ m)) (by have := putR_len (nrm r) acc; omega)]
        rfl
    exact this l [] n0 (by simpa using hll)
  have h3 : ∀ S, C (n + 5) i_least_of [.lst ((putsR (l.map nrm) []).map rwD)] S = .ok (.tup ((leastR (putsR (l.map nrm) [])).map rowT)) S := fun S => by
    rw [show (putsR (l.map nrm) []).map rwD = (putsR (l.map nrm) []).map rowT from List.map_congr_left fun a _ => rwD_rowT a]
    refine least_of_ok (n + 1) _ h0 hk (fun r m => ?_) S
    rcases putsR_mem.mp m with q | q
    · cases q
    · obtain ⟨a, ha, rfl⟩ := List.mem_map.mp q
      rw [nrm_len]; exact hl a ha
  simp [f_least_rows, h1, h2, h3]
theorem Enc.inn {α : Type} [DecidableEq α] {e : α → D} {p : α → PyData} {d : Nat} (E : Enc e p d) (hd : d + 1 ≤ 64) (a : α) (l : List α) : inData (e a) (l.map e) = some (decide (a ∈ l)) := by
  unfold inData
  rw [E.py, E.all.1]
  have s1 := E.shaped (by omega) a
  have s2 : SeqAt.shaped (.list (l.map p)) = true := E.lst.shaped (by omega) l
  simp only [s1, s2, Bool.and_self, if_true]
  congr 1
  clear s1 s2
  induction l with
  | nil => rfl
  | cons b l ih =>
    rw [List.map_cons, List.any_cons, E.eqv, ih]
    by_cases h : b = a
    · subst h; simp
    · have h2 : ¬ a = b := fun e => h e.symm
      simp [h, h2]
theorem in_rowsB (b : Bool) (r : Rw) (l : List Rw) : cmpD .inn (rowT r) (sqD b (l.map rowT)) = some (decide (r ∈ l)) := by
  have h : cmpD .inn (rowT r) (sqD b (l.map rowT)) = inData (rowT r) (l.map rowT) := by cases b <;> simp [cmpD, inD, rowT]
  rw [h]
  refine (Enc.inn enc_row (by decide) r l).trans ?_
  congr 1
  exact decide_eq_decide.mpr Iff.rfl
theorem nin_rowsB (b : Bool) (r : Rw) (l : List Rw) : cmpD .nin (rowT r) (sqD b (l.map rowT)) = some (!decide (r ∈ l)) := by
  have h : cmpD .nin (rowT r) (sqD b (l.map rowT)) = (cmpD .inn (rowT r) (sqD b (l.map rowT))).map not := rfl
  rw [h, in_rowsB]
  rfl
theorem eq_rowsU (l m : List Rw) : cmpD .eq (.tup (l.map rowT)) (.tup (m.map rowT)) = some (decide (l = m)) := enc_row.tup.ceq (by decide) l m
theorem ne_rowsU (l m : List Rw) : cmpD .ne (.tup (l.map rowT)) (.tup (m.map rowT)) = some (!decide (l = m)) := enc_row.tup.cne (by decide) l m
theorem bin_tup (a b : List D) (h : a.length + b.length ≤ 16777216) : binD .add (.tup a) (.tup b) = some (.tup (a ++ b)) := if_pos h
/-! ### what least_of leaves -/
theorem nrm_mvd (r : Rw) : ∃ m, nrm r = mvd m r := by
  unfold nrm
  split
  · exact ⟨0, (mvd_zero r).symm⟩
  · exact ⟨_, rfl⟩
theorem nrm_back (r : Rw) : ∃ m, r = mvd m (nrm r) := by
  obtain ⟨m, e⟩ := nrm_mvd r
  exact ⟨-m, by rw [e, mvd_mvd, show m + -m = 0 by omega, mvd_zero]⟩
theorem nrm_N0 {r : Rw} (h : live r = true) : N0 (nrm r) := by
  unfold N0 nrm
  have := sn_live (r := r)
  rw [h] at this
  cases e : sn r with
  | none => rw [e] at this; cases this
  | some m =>
    show sn (mvd (-m) r) = some 0
    rw [sn_mvdM, e, sh_some]
    congr 1
    omega
theorem live_nrm (r : Rw) : live (nrm r) = live r := by
  obtain ⟨m, e⟩ := nrm_mvd r
  rw [e, ← sn_live, ← sn_live, sn_mvdM]
  cases sn r <;> rfl
theorem N0_of {r : Rw} (h : nrm r = r) (hl : live r = true) : N0 r := by have := nrm_N0 hl; rwa [h] at this
theorem nrm_of {r : Rw} (h : N0 r) : nrm r = r := by
  unfold nrm
  rw [h]
  exact mvd_zero r
/-- unlike rows that begin at 0, of one length -/
structure LOk (k : Nat) (l : List Rw) : Prop where
  nd : l.Nodup
  nm : ∀ a, a ∈ l → nrm a = a
  len : ∀ a, a ∈ l → a.length = k
theorem LOk.ok0 {k : Nat} {l : List Rw} (h : LOk k l) : Ok0 k (l.filter live) := fun a m => by
  obtain ⟨m1, m2⟩ := List.mem_filter.mp m
  exact ⟨N0_of (h.nm a m1) m2, h.len a m1⟩
theorem LOk.eq {k : Nat} {l : List Rw} (h : LOk k l) : leastR l = srtR ((l.filter live).filter (exB (l.filter live))) := by
  unfold leastR
  rw [(least_fold h.ok0 (h.nd.filter _)).1]
theorem live_span (l : List Rw) (y : Rw) : Mk (l.filter live) y ↔ Mk l y := Mk.iff (fun a m => Mk.self (List.mem_filter.mp m).1) (fun a m => by
  cases h : live a with
  | true => exact Mk.self (List.mem_filter.mpr ⟨m, h⟩)
  | false => exact Mk.none (dead_at h)) y
theorem LOk.mem {k : Nat} {l : List Rw} (h : LOk k l) {a : Rw} (m : a ∈ leastR l) : a ∈ l ∧ N0 a ∧ a.length = k := by
  rw [h.eq, mem_srtR] at m
  have m := (List.mem_filter.mp m).1
  exact ⟨(List.mem_filter.mp m).1, h.ok0 a m⟩
theorem LOk.span {k : Nat} {l : List Rw} (h : LOk k l) (y : Rw) : Mk (leastR l) y ↔ Mk l y := by
  rw [← live_span l y, ← least_span h.ok0 (h.nd.filter _) y, h.eq]
  exact Mk.iff (fun a m => Mk.self (mem_srtR.mp m)) (fun a m => Mk.self (mem_srtR.mpr m)) y
theorem LOk.ndL {k : Nat} {l : List Rw} (h : LOk k l) : (leastR l).Nodup := by
  rw [h.eq]
  exact (srtR_perm _).nodup_iff.mpr ((h.nd.filter _).filter _)
theorem LOk.ok0L {k : Nat} {l : List Rw} (h : LOk k l) : Ok0 k (leastR l) := fun a m => (h.mem m).2
theorem LOk.left {k : Nat} {l : List Rw} (h : LOk k l) {r : Rw} (m : r ∈ leastR l) : ¬ Mk ((leastR l).filter (· ≠ r)) r := by
  have m2 := m
  rw [h.eq, mem_srtR] at m2
  have e := ex_left h.ok0 (h.nd.filter _) m2
  have e2 := (ex_same (R := (l.filter live).filter (exB (l.filter live))) (R' := leastR l) (k := k) (fun a m => h.ok0 a (List.mem_filter.mp m).1) h.ok0L (fun y => by
    rw [h.span, least_span h.ok0 (h.nd.filter _), live_span]) m2 e).2
  exact (exB_iff fun a q => by rw [(h.ok0L a q).2, (h.ok0L r m).2]).mp e2
theorem LOk.same {k : Nat} {l l' : List Rw} (h : LOk k l) (h' : LOk k l') (hs : ∀ y, Mk l y ↔ Mk l' y) : leastR l = leastR l' := by
  rw [h.eq, h'.eq]
  exact srtR_eq (least_perm h.ok0 h'.ok0 (h.nd.filter _) (h'.nd.filter _) fun y => by rw [live_span, live_span]; exact hs y)
theorem LOk.nil {k : Nat} {l : List Rw} (h : LOk k l) : leastR l = [] ↔ ∀ a, a ∈ l → live a = false := by
  constructor
  · intro e a m
    cases q : live a with
    | false => rfl
    | true =>
      obtain ⟨i, x, hx⟩ := live_iff.mp q
      have := (h.span a).mpr (Mk.self m)
      obtain ⟨b, hb, _⟩ := this i x hx
      rw [e] at hb
      cases hb
  · intro ha
    have e : l.filter live = [] := List.filter_eq_nil_iff.mpr fun a m => by rw [ha a m]; decide
    rw [h.eq, e]
    simp [srtR]
theorem LOk.puts {k : Nat} {l : List Rw} (hl : ∀ r, r ∈ l → r.length = k) : LOk k (putsR (l.map nrm) []) where
  nd := putsR_nd List.nodup_nil
  nm := fun a m => by
    rcases putsR_mem.mp m with q | q
    · cases q
    · obtain ⟨r, _, rfl⟩ := List.mem_map.mp q
      exact nrm_nrm r
  len := fun a m => by
    rcases putsR_mem.mp m with q | q
    · cases q
    · obtain ⟨r, hr, rfl⟩ := List.mem_map.mp q
      rw [nrm_len]; exact hl r hr
theorem puts_span (l : List Rw) (y : Rw) : Mk (putsR (l.map nrm) []) y ↔ Mk l y := Mk.iff (fun a m => by
  rcases putsR_mem.mp m with q | q
  · cases q
  · obtain ⟨r, hr, rfl⟩ := List.mem_map.mp q
    obtain ⟨c, e⟩ := nrm_mvd r
    rw [e]
    exact Mk.one hr c) (fun a m => by
  obtain ⟨c, e⟩ := nrm_back a
  have := Mk.one (rows := putsR (l.map nrm) []) (putsR_mem.mpr (.inr (List.mem_map.mpr ⟨a, m, rfl⟩))) c
  rwa [← e] at this) y
/-- the least rows of a lot -/
def lsR (l : List Rw) : List Rw := leastR (putsR (l.map nrm) [])
theorem lsR_mem {k : Nat} {l : List Rw} (hl : ∀ r, r ∈ l → r.length = k) {a : Rw} (m : a ∈ lsR l) : (∃ r, r ∈ l ∧ a = nrm r) ∧ N0 a ∧ a.length = k := by
  obtain ⟨m1, m2⟩ := (LOk.puts hl).mem m
  rcases putsR_mem.mp m1 with q | q
  · cases q
  · obtain ⟨r, hr, e⟩ := List.mem_map.mp q
    exact ⟨⟨r, hr, e.symm⟩, m2⟩
theorem lsR_span {k : Nat} {l : List Rw} (hl : ∀ r, r ∈ l → r.length = k) (y : Rw) : Mk (lsR l) y ↔ Mk l y := ((LOk.puts hl).span y).trans (puts_span l y)
theorem lsR_same {k : Nat} {l l' : List Rw} (hl : ∀ r, r ∈ l → r.length = k) (hl' : ∀ r, r ∈ l' → r.length = k) (h : ∀ y, Mk l y ↔ Mk l' y) : lsR l = lsR l' :=
  (LOk.puts hl).same (LOk.puts hl') fun y => by rw [puts_span, puts_span]; exact h y
theorem lsR_nil {k : Nat} {l : List Rw} (hl : ∀ r, r ∈ l → r.length = k) : lsR l = [] ↔ ∀ a, a ∈ l → live a = false := by
  unfold lsR
  rw [(LOk.puts hl).nil]
  constructor
  · intro h a m
    have := h (nrm a) (putsR_mem.mpr (.inr (List.mem_map.mpr ⟨a, m, rfl⟩)))
    rwa [live_nrm] at this
  · intro h a m
    rcases putsR_mem.mp m with q | q
    · cases q
    · obtain ⟨r, hr, rfl⟩ := List.mem_map.mp q
      rw [live_nrm]; exact h r hr
/-- a row out of unlike ones -/
theorem cut_out {l : List Rw} (nd : l.Nodup) {i : Nat} {r : Rw} (h : l[i]? = some r) : l.take i ++ l.drop (i + 1) = l.filter (· ≠ r) := by
  have hi := (List.getElem?_eq_some_iff.mp h).1
  have e : l = l.take i ++ r :: l.drop (i + 1) := by
    have q : l[i] = r := (List.getElem?_eq_some_iff.mp h).2
    rw [← q, List.getElem_cons_drop, List.take_append_drop]
  have z := filter_mid (P := l.take i) (Q := l.drop (i + 1)) (r := r) (by rw [← e]; exact nd)
  rw [← e] at z
  exact z.symm
theorem least_rows_eq (n : Nat) (b c : Bool) (l : List Rw) {k : Nat} (h0 : k ≠ 0) (hk : k < 1000) (hn : l ≠ []) (hll : l.length ≤ line) (hl : ∀ r, r ∈ l → r.length = k) (S : Store) :
    C (n + 6) i_least_rows [sqD b (l.map (row c))] S = .ok (.tup ((lsR l).map rowT)) S := least_rows_ok n b c l h0 hk hn hll hl S
theorem soonest_tup (n : Nat) (l : List Mo) (S : Store) : C (n + 2) i_law_soonest [.tup (l.map oD)] S = .ok (oD (sn l)) S := by
  rw [C_run (s := f_law_soonest) rfl rfl rfl]
  have h := fr_fold (f := exb tab (C (n + 1)) (f_law_soonest.fn.body.nth 1).bod) (t := .one 2) (S := S) (fun a => [some (.tup (l.map oD)), some (oD a), none]) oD (fun a b => pk a b) (fun _ _ => True) l none trivial
    fun a b m _ _ => ⟨by cases h : soon b a <;> simp [f_law_soonest, sooner_ok, h, pk], trivial⟩
  simp [f_law_soonest] at h ⊢
  rw [h]
  simp [sn]
/-! ### the law's own keys: lists -/
def kyL (r : Rw) : D := .lst (r.map fun m => .tup [.bl m.isNone, .int (m.getD 0)])
def pRwL (r : Rw) : PyData := .list (r.map fun m => .tuple [.bool m.isNone, .int (m.getD 0)])
theorem law_key_ok (n : Nat) (r : Rw) (S : Store) : C (n + 1) i_law_key [rowT r] S = .ok (kyL r) S := by
  rw [C_run (s := f_law_key) rfl rfl rfl]
  simp [f_law_key, rowT]
  rw [lcM_in (h := fun m : Mo => .tup [.bl m.isNone, .int (m.getD 0)]) fun m _ => by cases m <;> rfl]
  rfl
theorem pys_kyL : ∀ l : List Rw, D.pys (l.map kyL) = some (l.map pRwL)
  | [] => rfl
  | r :: l => by
    have h : ∀ r : Rw, D.pys (r.map fun m => D.tup [.bl m.isNone, .int (m.getD 0)]) = some (r.map fun m => PyData.tuple [.bool m.isNone, .int (m.getD 0)]) := fun r => by
      induction r with
      | nil => rfl
      | cons m r ih => simp only [List.map_cons, D.pys, D.py, ih]
    simp only [List.map_cons, D.pys, D.py, kyL, pys_kyL l, h, pRwL]
theorem depth_kyL (r : Rw) : (pRwL r).depth ≤ 100 := by
  unfold pRwL
  simp only [PyData.depth]
  have : PyData.depthAll (r.map fun m => PyData.tuple [.bool m.isNone, .int (m.getD 0)]) ≤ 1 := by
    induction r with
    | nil => exact Nat.zero_le _
    | cons m r ih =>
      simp only [List.map_cons, PyData.depthAll]
      refine Nat.max_le.mpr ⟨?_, ih⟩
      simp [PyData.depth, PyData.depthAll]
  omega
theorem le_rowL (a b : Rw) (x y : D) : PySem.W.dataLe false (fun q : D × PyData => q.2) (x, pRwL a) (y, pRwL b) = rle a b := by
  have h : PySem.W.dataLe false (fun q : D × PyData => q.2) (x, pRwL a) (y, pRwL b) = !PySem.W.dataLt (pRwL b) (pRwL a) := rfl
  rw [h]
  unfold pRwL rle
  rw [PySem.W.dataLt_list]
  have := lt_row b a
  unfold PySem.W.rowLt at this
  rw [this]
theorem srt_rowsL (l : List Rw) : srtKD (l.map rowT) (l.map kyL) = some ((srtR l).map rowT) := by
  unfold srtKD
  rw [pys_kyL]
  simp only
  rw [if_pos]
  · congr 1
    rw [msF_eq _ _ _ (Nat.le_refl _), List.zip_map', ← List.map_mergeSort (f := fun a => (rowT a, pRwL a)) (r := rle) (fun a _ b _ => (le_rowL a b _ _).symm), List.map_map]
    rfl
  · rw [Bool.and_eq_true, Bool.and_eq_true]
    refine ⟨⟨?_, ?_⟩, ?_⟩
    · rw [List.all_map, List.all_eq_true]
      intro a _
      show ((l.map pRwL).all fun e => PySem.W.alike (pRwL a) e) = true
      rw [List.all_map, List.all_eq_true]
      intro b _
      show PySem.W.alike (pRwL a) (pRwL b) = true
      unfold pRwL
      simp only [PySem.W.alike]
      exact alike_row a b
    · unfold sortableB
      rw [Bool.or_eq_true]
      right
      rw [List.all_map, List.all_eq_true]
      intro a _
      rfl
    · rw [List.all_map, List.all_eq_true]
      intro a _
      exact decide_eq_true (depth_kyL a)
theorem law_low_ok (n : Nat) (r : Rw) (S : Store) : C (n + 3) i_law_low [rowT r] S = .ok (rowT (nrm r)) S := by
  rw [C_run (s := f_law_low) rfl rfl rfl]
  have so : ∀ S, C (n + 2) i_law_soonest [rowT r] S = .ok (oD (sn r)) S := fun S => soonest_tup n r S
  have sh1 : ∀ (m : Int) S, C (n + 2) i_law_shifted [rowT r, .int m] S = .ok (rowT (mvd m r)) S := fun m S => shifted_ok n r m S
  have bt : biD .tuple [rowT r] = some (rowT r) := rfl
  unfold nrm
  cases e : sn r with
  | none => simp [f_law_low, so, e, bt, oD]
  | some m =>
    have sb : binD .sub (.int 0) (.int m) = some (.int (-m)) := by show some (D.int (0 - m)) = _; rw [Int.zero_sub]
    simp [f_law_low, so, e, sb, sh1, oD]
/-! ### the law -/
def lowS (acc : List Rw) (r : Rw) : List Rw := if nrm r ∉ acc ∧ live (nrm r) = true then acc ++ [nrm r] else acc
def lowF (l : List Rw) : List Rw := l.foldl lowS []
theorem lowS_len (acc : List Rw) (r : Rw) : (lowS acc r).length ≤ acc.length + 1 := by
  unfold lowS
  split
  · simp
  · omega
theorem lowF_go {k : Nat} : ∀ (l acc : List Rw), (∀ r, r ∈ l → r.length = k) → LOk k acc → (∀ a, a ∈ acc → live a = true) → LOk k (l.foldl lowS acc) ∧ (∀ a, a ∈ l.foldl lowS acc → live a = true) ∧ (∀ a, a ∈ l.foldl lowS acc ↔ a ∈ acc ∨ ∃ r, r ∈ l ∧ a = nrm r ∧ live a = true)
  | [], acc, _, h1, h2 => ⟨h1, h2, fun a => by simp⟩
  | r :: l, acc, hl, h1, h2 => by
    have z : LOk k (lowS acc r) ∧ (∀ a, a ∈ lowS acc r → live a = true) ∧ (∀ a, a ∈ lowS acc r ↔ a ∈ acc ∨ (a = nrm r ∧ live a = true)) := by
      unfold lowS
      split
      · rename_i q
        refine ⟨⟨?_, fun a m => ?_, fun a m => ?_⟩, fun a m => ?_, fun a => ?_⟩
        · rw [List.nodup_append]
          exact ⟨h1.nd, by simp, fun a ha b hb e => q.1 (by rw [← List.mem_singleton.mp hb, ← e]; exact ha)⟩
        · rcases List.mem_append.mp m with m | m
          · exact h1.nm a m
          · rw [List.mem_singleton.mp m]; exact nrm_nrm r
        · rcases List.mem_append.mp m with m | m
          · exact h1.len a m
          · rw [List.mem_singleton.mp m, nrm_len]; exact hl r List.mem_cons_self
        · rcases List.mem_append.mp m with m | m
          · exact h2 a m
          · rw [List.mem_singleton.mp m]; exact q.2
        · rw [List.mem_append, List.mem_singleton]
          exact ⟨fun h => h.imp id fun e => ⟨e, by rw [e]; exact q.2⟩, fun h => h.imp id fun e => e.1⟩
      · rename_i q
        refine ⟨h1, h2, fun a => ⟨.inl, fun h => ?_⟩⟩
        rcases h with h | ⟨e, h⟩
        · exact h
        · rw [e] at h ⊢
          exact Classical.byContradiction fun c => q ⟨c, h⟩
    obtain ⟨z1, z2, z3⟩ := z
    obtain ⟨y1, y2, y3⟩ := lowF_go l (lowS acc r) (fun a m => hl a (List.mem_cons_of_mem _ m)) z1 z2
    refine ⟨y1, y2, fun a => ?_⟩
    rw [List.foldl_cons, y3, z3]
    constructor
    · rintro ((h | ⟨e, h⟩) | ⟨b, hb, e, h⟩)
      · exact .inl h
      · exact .inr ⟨r, List.mem_cons_self, e, h⟩
      · exact .inr ⟨b, List.mem_cons_of_mem _ hb, e, h⟩
    · rintro (h | ⟨b, hb, e, h⟩)
      · exact .inl (.inl h)
      · rcases List.mem_cons.mp hb with rfl | hb
        · exact .inl (.inr ⟨e, h⟩)
        · exact .inr ⟨b, hb, e, h⟩
theorem lowF_ok {k : Nat} {l : List Rw} (hl : ∀ r, r ∈ l → r.length = k) : LOk k (lowF l) ∧ (∀ a, a ∈ lowF l → live a = true) ∧ leastR (lowF l) = lsR l := by
  obtain ⟨y1, y2, y3⟩ := lowF_go l [] hl ⟨List.nodup_nil, nofun, nofun⟩ nofun
  refine ⟨y1, y2, y1.same (LOk.puts hl) (Mk.iff (fun a m => ?_) fun a m => ?_)⟩
  · rcases (y3 a).mp m with h | ⟨r, hr, e, _⟩
    · cases h
    · exact Mk.self (putsR_mem.mpr (.inr (List.mem_map.mpr ⟨r, hr, e.symm⟩)))
  · rcases putsR_mem.mp m with h | h
    · cases h
    · obtain ⟨r, hr, e⟩ := List.mem_map.mp h
      cases q : live a with
      | true => exact Mk.self ((y3 a).mpr (.inr ⟨r, hr, e.symm, q⟩))
      | false => exact Mk.none (dead_at q)
theorem law_least_ok (n : Nat) {l : List Rw} {k : Nat} (hk : 0 < k ∧ k < 1000) (hl : ∀ r, r ∈ l → r.length = k) (hll : l.length ≤ 1000) (S : Store) : C (n + 5) i_law_least [.lst (l.map rowT)] S = .ok (.tup ((lsR l).map rowT)) S := by
  rw [C_run (s := f_law_least) rfl rfl rfl]
  obtain ⟨L1, L2, L3⟩ := lowF_ok hl
  have lo : ∀ r S, C (n + 4) i_law_low [rowT r] S = .ok (rowT (nrm r)) S := fun r S => law_low_ok (n + 1) r S
  have so : ∀ (r : Rw) S, C (n + 4) i_law_soonest [rowT r] S = .ok (oD (sn r)) S := fun r S => soonest_tup (n + 2) r S
  have h1 := fr_fold (f := exb tab (C (n + 4)) (f_law_least.fn.body.nth 1).bod) (t := .one 2) (S := S) (fun acc : List Rw => [some (.lst (l.map rowT)), some (.lst (acc.map rowT)), none, none, none, none]) rowT lowS (fun acc j => acc.length + j ≤ 1000) l [] (by simpa using hll)
    fun acc r m _ hj => by
      have la : acc.length < line := by show _ < 16777216; omega
      have nn := nin_rowsB false (nrm r) acc
      simp at nn
      refine ⟨?_, by have := lowS_len acc r; omega⟩
      have sv : cmpD .notN (oD (sn (nrm r))) .non = some (live (nrm r)) := by
        rw [← sn_live]
        cases sn (nrm r) <;> rfl
      unfold lowS
      by_cases q : nrm r ∈ acc
      · rw [if_neg fun h => h.1 q]
        simp [f_law_least, lo, nn, q]
      · cases e : live (nrm r) with
        | true =>
          rw [e] at sv
          rw [if_pos ⟨q, rfl⟩]
          simp [f_law_least, lo, nn, q, so, sv, z_app, la]
        | false =>
          rw [e] at sv
          rw [if_neg fun h => by cases h.2]
          simp [f_law_least, lo, nn, q, so, sv]
  have fin : ∀ F : List Rw, F.length ≤ 1000 ∧ (∀ a, a ∈ F → a.length = k) → ∀ r, r.length = k → (lstep F r).length ≤ 1000 ∧ ∀ a, a ∈ lstep F r → a.length = k := fun F ⟨f1, f2⟩ r hr => by
    unfold lstep
    split
    · exact ⟨Nat.le_trans (List.length_filter_le _ _) f1, fun a m => f2 a (List.mem_filter.mp m).1⟩
    · exact ⟨f1, f2⟩
  have fl : (lowF l).length ≤ 1000 := by
    have : ∀ (l acc : List Rw), (l.foldl lowS acc).length ≤ acc.length + l.length := fun l => by
      induction l with
      | nil => exact fun acc => Nat.le_refl _
      | cons r l ih => intro acc; have h1 := ih (lowS acc r); have h2 := lowS_len acc r; rw [List.foldl_cons, List.length_cons]; omega
    have := this l []
    unfold lowF
    simp at this
    omega
  have h2 := fr_fold (f := exb tab (C (n + 4)) (f_law_least.fn.body.nth 3).bod) (t := .one 2) (S := S) (fun F : List Rw => [some (.lst (l.map rowT)), some (.lst (F.map rowT)), none, none, none, none]) rowT lstep (fun F _ => F.length ≤ 1000 ∧ ∀ a, a ∈ F → a.length = k) (lowF l) (lowF l) ⟨fl, L1.len⟩
    fun F r m hr hF => by
      have lr := L1.len r hr
      refine ⟨?_, fin F hF r lr⟩
      have g1 : ∀ S, lcF (fun (a : Rw) S => Res.ok (D.bl (!decide (a = r))) S) (fun a S => .ok (rowT a) S) F S = .ok ((F.filter (· ≠ r)).map rowT) S := fun S => by
        rw [lcF_in (p := fun a => !decide (a = r)) (h := rowT) fun a _ => ⟨rfl, fun _ => rfl⟩]
        congr 2
        exact List.filter_congr fun a _ => by simp
      have g2 : ∀ S, C (n + 4) i_law_near [.lst ((F.filter (· ≠ r)).map rowT), rowT r] S = .ok (rowT (mf (F.filter (· ≠ r)) r)) S := fun S => near_gen n false _ r (by omega) (fun a m => by rw [hF.2 a (List.mem_filter.mp m).1, lr]) (by have := List.length_filter_le (· ≠ r) F; omega) S
      by_cases q : mf (F.filter (· ≠ r)) r = r
      · have e : lstep F r = F.filter (· ≠ r) := if_pos q
        rw [e]
        simp at g1 g2 q
        simp [f_law_least, g1, g2, q]
      · have e : lstep F r = F := if_neg q
        rw [e]
        simp at g1 g2 q
        simp [f_law_least, g1, g2, q]
  have fe : (lowF l).filter live = lowF l := List.filter_eq_self.mpr L2
  have ks : ∀ (F : List Rw) S, lcM (fun (r : Rw) S => C (n + 4) i_law_key [rowT r] S) F S = .ok (F.map kyL) S := fun F S => lcM_in fun r _ => law_key_ok (n + 3) r S
  have sr := srt_rowsL ((lowF l).foldl lstep (lowF l))
  have e3 : srtR ((lowF l).foldl lstep (lowF l)) = lsR l := by
    rw [← L3]
    unfold leastR
    rw [fe]
  rw [e3] at sr
  have bl : ∀ L : List D, biD .list [.lst L] = some (.lst L) := fun _ => rfl
  have bt : ∀ L : List D, biD .tuple [.lst L] = some (.tup L) := fun _ => rfl
  have h1 : ∀ f, f = exb tab (C (n + 4)) (f_law_least.fn.body.nth 1).bod → frGo f (.one 2) (l.map rowT) [some (.lst (l.map rowT)), some (.lst []), none, none, none, none] S = .nx [some (.lst (l.map rowT)), some (.lst ((lowF l).map rowT)), none, none, none, none] S := fun f e => by rw [e]; exact h1
  have h1 := h1 _ rfl
  simp [f_law_least] at h1 h2
  simp [f_law_least, h1, bl, h2, ks, sr, bt]
theorem bin_tup_rows (a b : List Rw) (h : a.length + b.length ≤ 1000) : binD .add (.lst (a.map rowT)) (.lst (b.map rowT)) = some (.lst ((a ++ b).map rowT)) := by
  show (if _ then _ else _) = _
  rw [if_pos (by show (a.map rowT).length + (b.map rowT).length ≤ 16777216; rw [List.length_map, List.length_map]; omega), List.map_append]
def env0 (sc : Option D) : Ev := [sc, some (.ref 1), none, none, none, none, none, none, none, none, none]
theorem repr_rows {l : List Rw} {B : Int} (hB : B ≤ 10 ^ 30) (hl : ∀ r, r ∈ l → r.length ≤ 6 ∧ Bd B r) (hm : l.length ≤ 1000) : ∃ t, biD .repr [.tup (l.map rowT)] = some (.str t) := by
  obtain ⟨n, h1, h2⟩ := rzs_map rowT (6 * 43 + 3) l fun r hr => by
    obtain ⟨q1, q2⟩ := hl r hr
    obtain ⟨m, e1, e2⟩ := row_rz hB q2
    exact ⟨m, e1, by have : r.length * 43 ≤ 6 * 43 := Nat.mul_le_mul_right 43 q1; omega⟩
  have hd := dps_map rowT 1 l fun r _ => row_dp r
  refine repr_small (n := n + 3) ?_ ?_ ?_
  · show (D.rzs (l.map rowT)).map (· + 3) = _
    rw [h1]
    rfl
  · show n + 3 ≤ 16777216
    have : l.length * (6 * 43 + 3 + 2) ≤ 1000 * 263 := Nat.mul_le_mul hm (by decide)
    omega
  · show D.dps (l.map rowT) + 1 ≤ 60
    omega
theorem Bd.mono' {B B' : Int} {r : Rw} (h : Bd B r) (q : B ≤ B') : Bd B' r := fun i m => by have := h i m; omega
theorem outer (n : Nat) (sc : Option D) (j : Nat) {S : Store} (hS : Gd S) :
    Turn (optS (bindT (.one 2) (.int j) (env0 sc)) fun g' => exb tab (C (n + 9)) (f_law.fn.body.nth 1).bod g' S) (fun _ : Unit => env0 sc) (fun _ => True) (fun _ => False) := by
  obtain ⟨a, S1, a1, hS1, a2, a3⟩ := dr (n + 8) 6 S hS (by decide) (by decide)
  obtain ⟨k, hk⟩ : ∃ k : Nat, 1 + a = (k : Int) := ⟨(1 + a).toNat, by omega⟩
  obtain ⟨b, S2, b1, hS2, b2, b3⟩ := dr (n + 8) 5 S1 hS1 (by decide) (by decide)
  obtain ⟨m, hm⟩ : ∃ m : Nat, 1 + b = (m : Int) := ⟨(1 + b).toNat, by omega⟩
  obtain ⟨_, S3, c1, hS3, l, rfl, c2, c3⟩ := lines_ok (n + 6) k m (line_of (by omega)) (line_of (by omega)) hS2
  have c1 : C (n + 9) i_law_lines [.ref 1, .int k, .int m] S2 = .ok (.lst (l.map rowT)) S3 := c1
  obtain ⟨d, S4, d1, hS4, d2, d3⟩ := dr (n + 8) 3 S3 hS3 (by decide) (by decide)
  obtain ⟨q, rfl⟩ : ∃ q : Nat, d = (q : Int) := ⟨d.toNat, by omega⟩
  obtain ⟨ys, S5, e1, hS5, e2, e3⟩ := wp_lc (k := fun (_ : Nat) S => C (n + 9) i_law_made_of [.ref 1, .lst (l.map rowT), .int k] S) (fun _ d => ∃ r, d = rowT r ∧ r.length = k ∧ Bd 13 r ∧ Mk l r) (List.range q) hS4 fun _ S _ hS =>
    made_of_ok (n + 5) l k (by omega) c3 (by omega) hS
  obtain ⟨l2, rfl, ll2, lp2⟩ := forms fun y hy => by
    obtain ⟨_, _, h⟩ := e3 y hy
    exact h
  have rq : rngO (.int (q : Int)) = some (rngD 0 q) := rngO_nat (line_of (by omega))
  have lne : l ≠ [] := fun e => by rw [e] at c2; simp at c2; omega
  obtain ⟨r0, l0, hl0⟩ : ∃ r0 l0, l = r0 :: l0 := by
    cases l with
    | nil => exact absurd rfl lne
    | cons r0 l0 => exact ⟨r0, l0, rfl⟩
  have ix : ixD (.lst (l.map rowT)) (.int 0) = some (rowT r0) := by rw [hl0]; exact ix_head false _ _
  have hr0 := c3 r0 (by rw [hl0]; exact List.mem_cons_self)
  have sb : binD .sub (.int 0) (.int 3) = some (.int (-3)) := rfl
  have sh1 : ∀ S, C (n + 9) i_law_shifted [rowT r0, .int (-3)] S = .ok (rowT (mvd (-3) r0)) S := fun S => shifted_ok (n + 7) r0 (-3) S
  have l2l : l2.length ≤ 2 := by rw [ll2, e2, List.length_range]; omega
  obtain ⟨X1, hX1⟩ : ∃ X : List Rw, X = l ++ l2 := ⟨_, rfl⟩
  obtain ⟨X2, hX2⟩ : ∃ X : List Rw, X = X1 ++ [mvd (-3) r0] := ⟨_, rfl⟩
  have ap1 : binD .add (.lst (l.map rowT)) (.lst (l2.map rowT)) = some (.lst (X1.map rowT)) := by rw [hX1]; exact bin_tup_rows l l2 (by omega)
  have ap2 : binD .add (.lst (X1.map rowT)) (.lst [rowT (mvd (-3) r0)]) = some (.lst (X2.map rowT)) := by
    rw [hX2]
    exact bin_tup_rows X1 [mvd (-3) r0] (by rw [hX1, List.length_append, List.length_singleton]; omega)
  have X2p : ∀ x, x ∈ X2 → x.length = k ∧ Bd 13 x := fun x m => by
    rw [hX2, hX1] at m
    rcases List.mem_append.mp m with m | m
    · rcases List.mem_append.mp m with m | m
      · exact ⟨(c3 x m).1, (c3 x m).2.mono' (by decide)⟩
      · exact ⟨(lp2 x m).1, (lp2 x m).2.1⟩
    · rw [List.mem_singleton.mp m]
      exact ⟨by rw [mvd_len]; exact hr0.1, (mvd_bd (A := 3) hr0.2 (Int.le_refl _) (by decide) (by decide)).mono' (by decide)⟩
  obtain ⟨mx, S6, x1, hS6, xp⟩ := mixed_ok (n + 7) false rowT ne_nil_rows X2 (fun _ _ => trivial) (by rw [hX2, hX1, List.length_append, List.length_append, List.length_singleton]; omega) hS5
  have x1 : C (n + 9) i_law_mixed [.ref 1, .lst (X2.map rowT)] S5 = .ok (.lst (mx.map rowT)) S6 := x1
  obtain ⟨L, hL⟩ : ∃ L : List Rw, L = mx.take 8 := ⟨_, rfl⟩
  have sl : sliceD (.lst (mx.map rowT)) none (some 8) = some (.lst (L.map rowT)) := by
    show some (D.lst (cutL _ none (some ((8 : Nat) : Int)))) = _
    rw [cut_take, hL, List.map_take]
  have Lp : ∀ x, x ∈ L → x.length = k ∧ Bd 13 x := fun x mm => X2p x (xp.mem_iff.mp (by rw [hL] at mm; exact List.mem_of_mem_take mm))
  have Lk : ∀ x, x ∈ L → x.length = k := fun x mm => (Lp x mm).1
  have Ll : L.length ≤ 8 := by rw [hL, List.length_take]; omega
  have Lne : L ≠ [] := fun e => by
    have h1 := xp.length_eq
    rw [hX2, List.length_append, List.length_singleton] at h1
    rw [hL] at e
    have : (mx.take 8).length = 0 := by rw [e]; rfl
    rw [List.length_take] at this
    omega
  have ls : ∀ S, C (n + 9) i_law_least [.lst (L.map rowT)] S = .ok (.tup ((lsR L).map rowT)) S := fun S => law_least_ok (n + 4) (k := k) (by omega) Lk (by omega) S
  have lw1 : ∀ S, C (n + 9) i_least_rows [.lst (L.map rowT)] S = .ok (.tup ((lsR L).map rowT)) S := fun S => least_rows_eq (n + 3) false true L (k := k) (by omega) (by omega) Lne (line_of (by omega)) Lk S
  have lw2 : ∀ S, C (n + 9) i_least_rows [.tup (L.map (row false))] S = .ok (.tup ((lsR L).map rowT)) S := fun S => least_rows_eq (n + 3) true false L (k := k) (by omega) (by omega) Lne (line_of (by omega)) Lk S
  have lsm : ∀ r, r ∈ lsR L → r.length = k ∧ Bd 26 r := fun r mm => by
    obtain ⟨⟨x, hx, e⟩, _, h2⟩ := lsR_mem Lk mm
    refine ⟨h2, ?_⟩
    rw [e]
    have bx := (Lp x hx).2
    unfold nrm
    cases es : sn x with
    | none => exact bx.mono' (by decide)
    | some v =>
      rcases sn_mem x with z | z
      · rw [es] at z; cases z
      · rw [es] at z
        have := bx v z
        exact (mvd_bd (A := 13) bx (Int.le_refl _) (by omega) (by omega)).mono' (by decide)
  have lsl : (lsR L).length ≤ 8 := by
    unfold lsR leastR
    rw [(srtR_perm _).length_eq]
    have : ∀ (Q F : List Rw), (Q.foldl lstep F).length ≤ F.length := fun Q => by
      induction Q with
      | nil => exact fun F => Nat.le_refl _
      | cons a Q ih =>
        intro F
        refine Nat.le_trans (ih _) ?_
        unfold lstep
        split
        · exact List.length_filter_le _ _
        · exact Nat.le_refl _
    refine Nat.le_trans (this _ _) (Nat.le_trans (List.length_filter_le _ _) ?_)
    have := putsR_len (ks := L.map nrm) (acc := [])
    rw [List.length_map, List.length_nil] at this
    omega
  obtain ⟨t, et⟩ := repr_rows (B := 26) (l := lsR L) (by decide) (fun r mm => ⟨by rw [(lsm r mm).1]; omega, (lsm r mm).2⟩) (by omega)
  have q3 : ∀ t, cmpD .ne (.str t) (.str t) = some false := ne_str
  have neU : cmpD .ne (.tup ((lsR L).map rowT)) (.tup ((lsR L).map rowT)) = some false := by rw [ne_rowsU]; simp
  have neL : cmpD .ne (.lst (L.map rowT)) (.lst (L.map rowT)) = some false := by rw [ne_rowsL]; simp
  have bl : ∀ L : List D, biD .list [.lst L] = some (.lst L) := fun _ => rfl
  have btp : ∀ L : List D, biD .tuple [.lst L] = some (.tup L) := fun _ => rfl
  have blr : ∀ r : Rw, biD .list [rowT r] = some (row false r) := fun _ => rfl
  have im : ∀ r, r ∈ L → ∀ S, C (n + 9) i_is_made [.tup ((lsR L).map rowT), rowT r] S = .ok (.bl true) S := fun r hr => is_made_ok (n + 3) true true true _ r (fun e => by have := Lk r hr; rw [e] at this; simp at this; omega) (by rw [Lk r hr]; omega) (fun a mm => by rw [(lsm a mm).1, Lk r hr]) (by
    have : mf (lsR L) r = r := mf_fix (fun a mm => by rw [(lsm a mm).1, Lk r hr]) ((lsR_span Lk r).mpr (Mk.self hr))
    simp [this])
  have nim : ∀ S, lcF (fun (r : Rw) S => (C (n + 9) i_is_made [.tup ((lsR L).map rowT), rowT r] S).bnd fun x S => lift ((rd S x).truth.map fun b => .bl (!b)) S) (fun r S => .ok (rowT r) S) L S = .ok [] S := fun S => by
    have := lcF_one (fun _ : Rw => false) (c := fun (r : Rw) S => (C (n + 9) i_is_made [.tup ((lsR L).map rowT), rowT r] S).bnd fun x S => lift ((rd S x).truth.map fun b => .bl (!b)) S) (k := fun r S => .ok (rowT r) S) (h := rowT) (xs := L) (S := S) (fun r hr => by rw [im r hr]; rfl) (fun _ _ e => by cases e)
    rw [List.filter_eq_nil_iff.mpr (fun _ _ => Bool.false_ne_true)] at this
    exact this
  have nn : cmpD .ne (.lst []) (.lst []) = some false := rfl
  have nu : cmpD .ne (.tup ((lsR L).map rowT)) (.tup []) = some (!decide (lsR L = [])) := ne_rowsU _ []
  refine .go () S6 ?_ hS6 trivial
  by_cases z : lsR L = []
  · rw [decide_eq_true z] at nu
    simp [f_law, env0, a1, hk, b1, hm, c1, d1, rq, rng_map, e1, ap1, ix, sb, sh1, ap2, x1, sl, ls, bl, lw1, et, q3, btp, blr, lw2, neU, neL, nim, nn, nu, cifR_or, cifR_and]
  · rw [decide_eq_false z] at nu
    have lw3 : ∀ S, C (n + 9) i_least_rows [.tup ((lsR L).map rowT)] S = .ok (.tup ((lsR L).map rowT)) S := fun S => by
      have := least_rows_eq (n + 3) true true (lsR L) (k := k) (by omega) (by omega) z (line_of (by omega)) (fun a mm => (lsm a mm).1) S
      rw [lsR_same (fun a mm => (lsm a mm).1) Lk (lsR_span Lk)] at this
      exact this
    simp [f_law, env0, a1, hk, b1, hm, c1, d1, rq, rng_map, e1, ap1, ix, sb, sh1, ap2, x1, sl, ls, bl, lw1, et, q3, btp, blr, lw2, lw3, neU, neL, nim, nn, nu, cifR_or, cifR_and]
theorem law_ok (n : Nat) (ns : List Int) (hl : ns.length ≤ 63) : ∃ S, C (n + 10) i_law [.lst (ns.map D.int)] [] = .ok (.bl true) S := by
  rw [C_run (s := f_law) rfl rfl rfl]
  obtain ⟨S0, d1, hS0⟩ := deal_ok (n + 8) ns hl
  have d1 : C (n + 9) i_law_deal [.lst (ns.map D.int), .int 0] [] = .ok (.ref 1) S0 := d1
  obtain ⟨u, S1, e, hS1, _⟩ := wp_frN (f := exb tab (C (n + 9)) (f_law.fn.body.nth 1).bod) (t := .one 2) (fun _ : Unit => env0 (some (.lst (ns.map D.int)))) (fun (j : Nat) => D.int (j : Int)) (fun _ _ => True) (List.range 6) (a := ()) hS0 trivial fun i b u S _ hS _ =>
    outer n _ b hS
  have e6 : rngO (.int 6) = some (rngD 0 6) := rngO_nat (k := 6) (by decide)
  have v1 : lsR [[none, none]] = [] := (lsR_nil (k := 2) (by decide)).mpr (by decide)
  have w1 : ∀ S, C (n + 9) i_least_rows [.lst [.tup [.non, .non]]] S = .ok (.tup []) S := fun S => by
    have := least_rows_eq (n + 3) false true [[none, none]] (k := 2) (by decide) (by decide) (by decide) (by decide) (by decide) S
    rw [v1] at this
    exact this
  have v2 : lsR [[some 3, none], [some 0, none]] = [[some 0, none]] := by
    unfold lsR leastR
    have e1 : (putsR ([[some 3, none], [some 0, none]].map nrm) []).filter live = [[some 0, none]] := by decide
    rw [e1]
    have e2 : [[some 0, none]].foldl lstep [[some 0, none]] = [[some 0, none]] := by decide
    rw [e2]
    exact srtR_of (List.Perm.refl _) (by simp)
  have w2 : ∀ S, C (n + 9) i_least_rows [.lst [.tup [.int 3, .non], .tup [.int 0, .non]]] S = .ok (.tup [.tup [.int 0, .non]]) S := fun S => by
    have := least_rows_eq (n + 3) false true [[some 3, none], [some 0, none]] (k := 2) (by decide) (by decide) (by decide) (by decide) (by decide) S
    rw [v2] at this
    exact this
  have q1 : cmpD .eq (.tup []) (.tup []) = some true := rfl
  have q2 : cmpD .eq (.tup [.tup [.int 0, .non]]) (.tup [.tup [.int 0, .non]]) = some true := by rfl
  simp [f_law, env0] at e
  exact ⟨S1, by simp [f_law, d1, e6, rng_map, e, w1, w2, q1, q2]⟩
theorem value (ns : List Int) (hl : ns.length ≤ 63) : ∃ S, callF tab (ftab specs) 20 li [.lst (ns.map D.int)] [] = .ok (.bl true) S := by
  have h := law_ok 10 ns hl
  rwa [C_eq] at h
end K
open PySem PySem.W PySem.Calls PyProof.Rows
set_option maxRecDepth 100000
set_option maxHeartbeats 0
namespace HZ
abbrev R : PySem.W.OpenRow := PySem.W.OpenLaw.row PySem.Challenge.rw_firstofsome_k27_least_rows
def loose : List PySem.Str := (["FirstError", "InvalidRow", "InvalidRows", "is_integer", "is_sequence", "is_moment", "later", "is_before", "first_of", "key_of", "is_row", "need_row", "need_rows", "need_some_rows", "moved", "normed", "least_move", "moves_to", "made_first", "need_both", "is_made", "least_of", "least_rows", "_law_deal", "_law_draw", "_law_pick", "_law_mixed", "_law_plus", "_law_is_sooner", "_law_soonest"] : List PySem.Str) ++ (["_law_merged", "_law_shifted", "_law_low", "_law_reach", "_law_near", "_law_key", "_law_line", "_law_lines", "_law_made_of", "_law_least"] : List PySem.Str)
theorem map3 {α β γ δ : Type} {o : Option α} {f : α → β} {g : α → γ} {h : α → δ} {a : β} {b : γ} {c : δ} (h1 : o.map f = some a) (h2 : o.map g = some b) (h3 : o.map h = some c) : o.map (fun s => (f s, g s, h s)) = some (a, b, c) := by
  cases o with
  | none => cases h1
  | some x => cases h1; cases h2; cases h3; rfl
theorem run1 (w : World) (os : OsState) : (HandSHeadRun.endF (HandSHeadRun.stepQ (HandSHeadRun.denQ HandSHeadRun.tabQ) R.prog w) 6000 R.prog w os).map (fun s => HandSHeadRun.looksF R.prog (boot_heap w.params) s.abs) = some true := by
  kernel_rfl
theorem run2 (w : World) (os : OsState) : (HandSHeadRun.endF (HandSHeadRun.stepQ (HandSHeadRun.denQ HandSHeadRun.tabQ) R.prog w) 6000 R.prog w os).map (fun s => HandSHeadRun.seenQ (PySem.W.view R.prog [45]) loose (importedModules R.prog.main.body) (fun s => xlAt (PySem.W.view R.prog [45]) [] s && recOk R.toRowW.records s) s.abs) = some (openGood (PySem.W.view R.prog [45]) loose) := by
  kernel_rfl
theorem run3 (w : World) (os : OsState) : (HandSHeadRun.endF (HandSHeadRun.stepQ (HandSHeadRun.denQ HandSHeadRun.tabQ) R.prog w) 6000 R.prog w os).map (Zd.obZ K.t) = some true := by
  kernel_rfl
theorem run (w : World) : HandSHeadRun.RunEq R (PySem.W.view R.prog [45]) (Zd.hookZ K.t) (Zd.obZ K.t) 6000 loose w := fun os => map3 (run1 w os) (run2 w os) (run3 w os)
end HZ
theorem PySem.Challenge.cw_firstofsome_k27_least_rows_holds : PySem.Challenge.rw_firstofsome_k27_least_rows.Holds := by
  w_on; o_law
  refine HandSHeadRun.head_any (r := OpenLaw.row PySem.Challenge.rw_firstofsome_k27_least_rows) (q := view (OpenLaw.row PySem.Challenge.rw_firstofsome_k27_least_rows).prog [45]) (H := Zd.hookZ K.t) (ob := Zd.obZ K.t) (M := 6000) (loose := HZ.loose) (d := HandSHeadRun.topDef (OpenLaw.row PySem.Challenge.rw_firstofsome_k27_least_rows).prog 45) (kwd := []) (Zd.obZ_eq K.t)
    (by kernel_rfl) (fun s => by kernel_rfl) HZ.run (by kernel_rfl) (by kernel_rfl) (by kernel_rfl) (by rfl) (by first | assumption | decide +kernel) (by decide +kernel) ⟨rfl, rfl, rfl, rfl, rfl, by decide +kernel⟩ ?hw ?hc
  case hw => w_witness2
  case hc =>
    exact Zd.closesZ (l := PySem.Challenge.rw_firstofsome_k27_least_rows) (n := 63) (fuel := 20) K.t K.li K.fl rfl (by decide) (by kernel_rfl) ⟨⟨rfl, by decide, by decide⟩, rfl⟩ rfl (by kernel_rfl) rfl rfl rfl rfl K.value

