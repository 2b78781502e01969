import PyProof.Rows.All
import Wide.All
import OpenK.AllK
import Wide.FinOn
import HandS.Deep
import HandS.SortRule
import KE.SortData
import HandS.ForMost
import HandS.IsInst
import HandS.Zip
import HandS.Style
import HandS.Defaults
import HandS.TupAny
import HandS.TupMul
import HandS.Exc
import HandS.ExcField
import HandS.ExcOwn
import HandS.Codes
import HandS.TryOnly
import HandS.Lambda
import HandS.TryMany
import HandS.Conv
import HandS.EndTab
import HandS.ExcValue
import HandS.ExcInit
import PyProof.WalksMore
import HandS.Iter
import KE.GoesEnum
import KE.GoesZip
import KE.GoesMore
import HandS.Dict
import HandS.ExcCtx
import HandS.HotCalls
import KE.KExcIs
import HandS.Nested
import PyProof.ExcBaseAll.ArithmeticError
import HandS.Hot
import HandS.HeadEnd
import HandS.HeadWalk
import HandS.HeadHook4
import HandS.MakeKw
import HandS.Head0
import HandS.Head1
import HandS.Head2
import HandS.Words
import HandS.Base
import HandS.Call
import HandS.Ends
import HandS.More
import HandS.WordsExc
import HandS.HeadHook1
import HandS.HeadHook2
import KE.KStateDown
import Lean
import PySem.Challenge.RW_oncearound_k14_first_stages_refused
set_option Elab.async false
set_option linter.all false
set_option maxRecDepth 100000
section
set_option maxHeartbeats 200000
namespace PyC
open PySem
def sN (l : List Nat) : Str := ⟨l.toArray⟩
theorem str_ext {a b : Str} (h : a.cps.toList = b.cps.toList) : a = b := by
  cases a; cases b
  congr
  exact Array.ext' h
theorem sN_list (a : Str) : sN a.cps.toList = a := str_ext rfl
theorem app_list (a b : Str) : (a ++ b).cps.toList = a.cps.toList ++ b.cps.toList := by
  show (a.cps ++ b.cps).toList = _
  exact Array.toList_append
def natEq : List Nat → List Nat → Bool
  | [], [] => true
  | a :: r, b :: s => Nat.beq a b && natEq r s
  | _, _ => false
theorem natEq_eq : ∀ {a b : List Nat}, natEq a b = decide (a = b)
  | [], [] => by simp [natEq]
  | [], _ :: _ => by simp [natEq]
  | _ :: _, [] => by simp [natEq]
  | a :: r, b :: s => by
    unfold natEq
    rw [natEq_eq (a := r) (b := s)]
    have : Nat.beq a b = decide (a = b) := by
      rw [Bool.eq_iff_iff]; simp [Nat.beq_eq]
    rw [this]
    simp
mutual
def eqvD : PyData → PyData → Bool
  | .none, .none => true
  | .bool a, .bool b => a == b
  | .bool a, .int j => (if a then 1 else 0) == j
  | .int i, .bool b => i == (if b then 1 else 0)
  | .int i, .int j => i == j
  | .str x, .str y => natEq x.cps.toList y.cps.toList
  | .list xs, .list ys => eqvDL xs ys
  | .tuple xs, .tuple ys => eqvDL xs ys
  | _, _ => false
def eqvDL : List PyData → List PyData → Bool
  | [], [] => true
  | x :: xs, y :: ys => eqvD x y && eqvDL xs ys
  | _, _ => false
end
mutual
theorem eqvD_eq : ∀ (x y : PyData), eqvD x y = PyData.eqv x y
  | .none, y => by cases y <;> rfl
  | .bool _, y => by cases y <;> rfl
  | .int _, y => by cases y <;> rfl
  | .str a, y => by
    cases y with
    | str b =>
      show natEq a.cps.toList b.cps.toList = (a == b)
      rw [natEq_eq, Bool.eq_iff_iff]
      simp only [decide_eq_true_eq, beq_iff_eq]
      exact ⟨str_ext, fun h => by rw [h]⟩
    | _ => rfl
  | .list xs, y => by
    cases y with
    | list ys => exact eqvDL_eq xs ys
    | _ => rfl
  | .tuple xs, y => by
    cases y with
    | tuple ys => exact eqvDL_eq xs ys
    | _ => rfl
  | .dict _, y => by cases y <;> rfl
theorem eqvDL_eq : ∀ (xs ys : List PyData), eqvDL xs ys = PyData.eqvAll xs ys
  | [], [] => rfl
  | [], _ :: _ => rfl
  | _ :: _, [] => rfl
  | x :: xs, y :: ys => by
    unfold eqvDL PyData.eqvAll
    rw [eqvD_eq x y, eqvDL_eq xs ys]
end
theorem eqvD_fun : eqvD = PyData.eqv := funext fun x => funext fun y => eqvD_eq x y
/-! written forms -/
def charL (q c : Nat) : List Nat := if Nat.ble 32 c && (Nat.ble c 126 && (!Nat.beq c q && !Nat.beq c 92)) then [c] else Builtin.Str.reprChar q c
theorem print_ascii : ∀ c : Nat, c < 127 → 32 ≤ c → Unicode.isPrintable c = true := by decide +kernel
theorem charL_eq (q c : Nat) : charL q c = Builtin.Str.reprChar q c := by
  unfold charL
  split
  · rename_i h
    simp only [Bool.and_eq_true, Bool.not_eq_true'] at h
    obtain ⟨h1, h2, h3, h4⟩ := h
    have h1 := Nat.le_of_ble_eq_true h1
    have h2 := Nat.le_of_ble_eq_true h2
    have h3 : c ≠ q := fun e => by rw [e, Nat.beq_refl] at h3; cases h3
    have h4 : c ≠ 92 := fun e => by rw [e] at h4; cases h4
    unfold Builtin.Str.reprChar
    simp only [beq_iff_eq, Bool.or_eq_true]
    rw [if_neg (by omega), if_neg (by omega), if_neg (by omega), if_neg (by omega), print_ascii c (by omega) h1]
    rfl
  · rfl
def hasN (n : Nat) : List Nat → Bool
  | [] => false
  | c :: r => Nat.beq c n || hasN n r
theorem hasN_eq (n : Nat) : ∀ l : List Nat, hasN n l = l.contains n
  | [] => rfl
  | c :: r => by
    unfold hasN
    rw [hasN_eq n r, List.contains_cons, Bool.eq_iff_iff]
    simp only [Bool.or_eq_true, Nat.beq_eq, beq_iff_eq]
    exact ⟨fun h => h.imp Eq.symm id, fun h => h.imp Eq.symm id⟩
def reprL (l : List Nat) : List Nat := (fun q => q :: (l.flatMap (charL q) ++ [q])) (if hasN 39 l && !hasN 34 l then 34 else 39)
theorem quote_eq (x : Str) : reprQuote x = if hasN 39 x.cps.toList && !hasN 34 x.cps.toList then 34 else 39 := by
  unfold reprQuote
  rw [hasN_eq, hasN_eq]
  simp
theorem fold_char (q : Nat) : ∀ (l : List Nat) (acc : Array Nat), (l.foldl (fun out c => out ++ (Builtin.Str.reprChar q c).toArray) acc).toList = acc.toList ++ l.flatMap (charL q)
  | [], acc => by simp
  | c :: r, acc => by
    rw [List.foldl_cons, fold_char q r, List.flatMap_cons, charL_eq]
    simp
theorem reprL_eq (x : Str) : (reprText x).cps.toList = reprL x.cps.toList := by
  unfold reprText reprL
  rw [← quote_eq]
  simp only [Array.toList_push, ← Array.foldl_toList]
  rw [fold_char]
  simp
def joinL : List (List Nat) → List Nat
  | [] => []
  | [x] => x
  | x :: y :: r => x ++ 44 :: 32 :: joinL (y :: r)
theorem comma : ((", " : String) : Str).cps.toList = [44, 32] := rfl
theorem joinL_eq : ∀ ts : List Str, (Str.join ", " ts).cps.toList = joinL (ts.map fun t => t.cps.toList)
  | [] => rfl
  | [x] => rfl
  | x :: y :: r => by
    show (x ++ ((", " : String) : Str) ++ Str.join ", " (y :: r)).cps.toList = _
    rw [app_list, app_list, comma, joinL_eq (y :: r)]
    simp [joinL]
theorem textFrom_pos : ∀ (ts : List Str) (k : Nat) (acc : Str), (textFrom (k + 1) acc ts).cps.toList = acc.cps.toList ++ (ts.map fun t => 44 :: 32 :: t.cps.toList).flatten
  | [], _, acc => by simp [textFrom]
  | t :: ts, k, acc => by
    unfold textFrom
    rw [textFrom_pos ts (k + 1), if_pos (Nat.succ_pos k), app_list, app_list, comma]
    simp
theorem join_flat : ∀ (x : List Nat) (ts : List (List Nat)), joinL (x :: ts) = x ++ (ts.map fun t => 44 :: 32 :: t).flatten
  | x, [] => by simp [joinL]
  | x, y :: r => by
    unfold joinL
    rw [join_flat y r]
    simp
theorem listText_eq (ts : List Str) : (listText ts).cps.toList = 91 :: (joinL (ts.map fun t => t.cps.toList) ++ [93]) := by
  unfold listText
  rw [app_list]
  cases ts with
  | nil => rfl
  | cons t ts =>
    unfold textFrom
    rw [textFrom_pos, if_neg (by omega), app_list, app_list, List.map_cons, join_flat]
    have e1 : (("[" : String) : Str).cps.toList = [91] := rfl
    have e2 : (("]" : String) : Str).cps.toList = [93] := rfl
    have e3 : (("" : String) : Str).cps.toList = [] := rfl
    rw [e1, e2, e3]
    simp [List.map_map, Function.comp_def]
theorem tupleText_eq (ts : List Str) : (tupleText ts).cps.toList = 40 :: (joinL (ts.map fun t => t.cps.toList) ++ (if Nat.beq ts.length 1 then [44, 41] else [41])) := by
  unfold tupleText
  rw [app_list, app_list, joinL_eq]
  have e1 : (("(" : String) : Str).cps.toList = [40] := rfl
  have e2 : ((",)" : String) : Str).cps.toList = [44, 41] := rfl
  have e3 : ((")" : String) : Str).cps.toList = [41] := rfl
  have e4 : (ts.length == 1) = Nat.beq ts.length 1 := by rw [Bool.eq_iff_iff]; simp [Nat.beq_eq]
  rw [e1, e4]
  cases Nat.beq ts.length 1
  · rw [if_neg (by simp), if_neg (by simp), e3]; simp
  · rw [if_pos rfl, if_pos rfl, e2]; simp
/-- the digits of an int -/
def intL : Int → List Nat
  | .ofNat n => if Nat.ble n 9 then [48 + n] else ((toString (Int.ofNat n) : String) : Str).cps.toList
  | .negSucc n => ((toString (Int.negSucc n) : String) : Str).cps.toList
theorem intL_dig : ∀ n : Nat, n < 10 → ((toString (Int.ofNat n) : String) : Str).cps.toList = [48 + n] := by decide +kernel
theorem intL_eq (i : Int) : ((toString i : String) : Str).cps.toList = intL i := by
  cases i with
  | ofNat n =>
    show _ = if Nat.ble n 9 then [48 + n] else ((toString (Int.ofNat n) : String) : Str).cps.toList
    split
    · rename_i h
      exact intL_dig n (by have := Nat.le_of_ble_eq_true h; omega)
    · rfl
  | negSucc n => rfl
mutual
def shL : PyData → List Nat
  | .none => [78, 111, 110, 101]
  | .bool b => if b then [84, 114, 117, 101] else [70, 97, 108, 115, 101]
  | .int i => intL i
  | .str x => reprL x.cps.toList
  | .list xs => 91 :: (joinL (shLs xs) ++ [93])
  | .tuple xs => 40 :: (joinL (shLs xs) ++ (if Nat.beq xs.length 1 then [44, 41] else [41]))
  | .dict kvs => (PyData.shown (.dict kvs)).cps.toList
def shLs : List PyData → List (List Nat)
  | [] => []
  | x :: xs => shL x :: shLs xs
end
theorem shownAll_len : ∀ xs : List PyData, (PyData.shownAll xs).length = xs.length
  | [] => rfl
  | x :: xs => by
    unfold PyData.shownAll
    simp [shownAll_len xs]
mutual
theorem shL_eq : ∀ d : PyData, (PyData.shown d).cps.toList = shL d
  | .none => rfl
  | .bool true => rfl
  | .bool false => rfl
  | .int i => by
    unfold shL PyData.shown
    exact intL_eq i
  | .str x => by
    unfold shL PyData.shown
    exact reprL_eq x
  | .list xs => by
    unfold shL PyData.shown
    rw [listText_eq, shLs_eq xs]
  | .tuple xs => by
    unfold shL PyData.shown
    rw [tupleText_eq, shLs_eq xs, shownAll_len]
  | .dict kvs => by unfold shL; rfl
theorem shLs_eq : ∀ xs : List PyData, ((PyData.shownAll xs).map fun t => t.cps.toList) = shLs xs
  | [] => rfl
  | x :: xs => by
    unfold PyData.shownAll shLs
    rw [List.map_cons, shL_eq x, shLs_eq xs]
end
theorem shown_eq (d : PyData) : sN (shL d) = d.shown := by rw [← shL_eq, sN_list]
theorem shown_len (d : PyData) : (shL d).length = d.shown.length := by rw [← shL_eq]; exact Array.length_toList
end PyC
end

section
set_option maxHeartbeats 200000
namespace PyC
open PySem

/-- a slot of the frame: unset; a value that is not changed any more; an object of its own; one that a loop walks -/
inductive Slot where
  | un | fz (p : PyData) | my (p : PyData) | lk (p : PyData) | ex (c : Nat) (ps : List PyData)
abbrev Rho := List Slot
def Slot.val? : Slot → Option PyData
  | .un => none | .fz p => some p | .my p => some p | .lk p => some p | .ex _ _ => none
def Slot.mine : Slot → Bool
  | .my _ => true | .lk _ => true | _ => false
def Slot.freeze : Slot → Slot
  | .my p => .fz p | .lk p => .fz p | s => s
def Slot.lock : Slot → Slot
  | .my p => .lk p | s => s
def Slot.unlock : Slot → Slot
  | .lk p => .my p | s => s
def rd (ρ : Rho) (i : Nat) : Option PyData := match ρ[i]? with
  | some s => s.val?
  | none => none
def at_ (ρ : Rho) (i : Nat) (f : Slot → Slot) : Rho := ρ.modify i f
/-- what comes of an expression -/
inductive Out (α : Type) where
  | stuck | ok (a : α) (ρ : Rho) | exc (c : Nat) (ps : List PyData) (ρ : Rho)
def Out.bind {α β : Type} : Out α → (α → Rho → Out β) → Out β
  | .stuck, _ => .stuck
  | .ok a ρ, f => f a ρ
  | .exc c ps ρ, _ => .exc c ps ρ
/-- where nothing may be raised -/
def Out.calm {α : Type} : Out α → Out α
  | .exc _ _ _ => .stuck
  | o => o
/-- what comes of a call: is it a new object, the value, the in-out parameter's end -/
inductive FOut where
  | stuck | ok (fr : Bool) (p : PyData) (io : Option (List PyData)) | exc (c : Nat) (ps : List PyData)
/-- what comes of a statement -/
inductive SOut where
  | stuck | nx (ρ : Rho) | bk (ρ : Rho) | rt (fr : Bool) (p : PyData) (ρ : Rho) | ex (c : Nat) (ps : List PyData) (ρ : Rho)
def Out.s {α : Type} : Out α → (α → Rho → SOut) → SOut
  | .stuck, _ => .stuck
  | .ok a ρ, f => f a ρ
  | .exc c ps ρ, _ => .ex c ps ρ
/-- an exception's field: the only one; the first, the second of two -/
def fldAt : List PyData → Nat → Option PyData
  | [p], 0 => some p
  | [p, _], 1 => some p
  | [_, p], 2 => some p
  | _, _ => none
def fldOf : Nat → Str
  | 0 => "value"
  | 1 => "what"
  | _ => "limit"
abbrev CallT := Nat → List (Bool × PyData) → FOut

/-! ### operations -/
inductive Ty where | int | bool | str | list | tuple
  deriving DecidableEq
def isTy : Ty → PyData → Bool
  | .int, .int _ => true | .int, .bool _ => true
  | .bool, .bool _ => true
  | .str, .str _ => true
  | .list, .list _ => true
  | .tuple, .tuple _ => true
  | _, _ => false
inductive Op where
  | add | sub | mul | fdiv | mod | pow | neg
  | eq | ne | lt | le | gt | ge | isN | isNotN | isB (b : Bool) | isNotB (b : Bool) | inn | nin
  | idx | slLo | slHi | slRev
  | len | tuple | list | listR | sorted | sum | max1 | min1 | max2 | min2 | all | any | abs | int | divmod | isI (ts : List Ty) | repr
  | index | count | sortedSet | lenSet | din | dnin | didx | dget | tupR
  deriving DecidableEq
mutual
def flatD : PyData → Bool
  | .list _ => false
  | .dict _ => false
  | .tuple xs => flatL xs
  | _ => true
def flatL : List PyData → Bool
  | [] => true
  | x :: xs => flatD x && flatL xs
end
def items : PyData → Option (List PyData)
  | .list xs => some xs
  | .tuple xs => some xs
  | _ => none
def boolsD : List PyData → Option (List Bool)
  | [] => some []
  | .bool b :: r => (boolsD r).map (b :: ·)
  | _ :: _ => none
def intsD : List PyData → Option (List Int)
  | [] => some []
  | .int b :: r => (intsD r).map (b :: ·)
  | _ :: _ => none
/-- the place of an index -/
def place (n : Nat) (i : Int) : Option Nat :=
  match i with
  | .ofNat k => if k < n then some k else none
  | .negSucc k => if k < n then some (n - (k + 1)) else none
def small (i : Int) : Bool := decide (-(2 ^ 62) < i) && decide (i < 2 ^ 62)
/-- a slice's end -/
def cutAt (n : Nat) : Int → Nat
  | .ofNat k => min k n
  | .negSucc k => n - (k + 1)
mutual
/-- before, in Python's order of data that can be compared -/
def dlt : PyData → PyData → Bool
  | .int a, .int b => decide (a < b)
  | .bool a, .bool b => !a && b
  | .str a, .str b => decide (a.cps.toList < b.cps.toList)
  | .list xs, .list ys => dltL xs ys
  | .tuple xs, .tuple ys => dltL xs ys
  | _, _ => false
def dltL : List PyData → List PyData → Bool
  | [], [] => false
  | [], _ :: _ => true
  | _ :: _, [] => false
  | x :: xs, y :: ys => if PyData.eqv x y then dltL xs ys else dlt x y
end
mutual
/-- no dict within -/
def noD : PyData → Bool
  | .list ds => noDL ds
  | .tuple ds => noDL ds
  | .dict _ => false
  | _ => true
def noDL : List PyData → Bool
  | [] => true
  | d :: ds => noD d && noDL ds
end
mutual
/-- no dict within but empty ones -/
def noE : PyData → Bool
  | .list ds => noEL ds
  | .tuple ds => noEL ds
  | .dict kvs => kvs.isEmpty
  | _ => true
def noEL : List PyData → Bool
  | [] => true
  | d :: ds => noE d && noEL ds
end
/-- not behind, in the order of sorted data -/
def leD (x y : PyData) : Bool := PySem.W.dataLe false id x y
def insD (x : PyData) : List PyData → List PyData
  | [] => [x]
  | y :: ys => if leD x y then x :: y :: ys else y :: insD x ys
def sortD : List PyData → List PyData
  | [] => []
  | x :: xs => insD x (sortD xs)
def headTup : PyData → Bool
  | .tuple (_ :: _) => true
  | _ => false
def noTup : PyData → Bool
  | .tuple _ => false | .none => false | _ => true
def depthOk : List PyData → Bool
  | [] => true
  | d :: ds => decide (PyData.depth d ≤ 40) && depthOk ds
def isTupD : PyData → Bool
  | .tuple _ => true
  | _ => false
/-- tuples, the first of them empty -/
def tupE : List PyData → Bool
  | .tuple [] :: r => r.all isTupD
  | _ => false
/-- what can be sorted -/
def sortable (ds : List PyData) : Bool := ((ds.all headTup || ds.all noTup) || tupE ds) && (depthOk ds && noDL ds)
def allAlike (ds : List PyData) : Bool := ds.all fun x => ds.all fun y => PySem.W.alike x y
def dedup : List PyData → List PyData → List PyData
  | acc, [] => acc
  | acc, x :: xs => if acc.any (fun y => PyData.eqv y x) then dedup acc xs else dedup (acc ++ [x]) xs
def big : Nat := 16000000
def shp (p : PyData) : Bool := SeqAt.shaped p && noD p
/-- the script: a list that is only read; in the evaluator a dict with a key that no dict has -/
def scrOf : List (PyData × PyData) → Option (List PyData)
  | [(.list [], .list ds)] => some ds
  | _ => none
def scriptD (ns : List Int) : PyData := .dict [(.list [], .list (ns.map .int))]
def mx (a : Int) : List Int → Int
  | [] => a
  | b :: r => mx (if b > a then b else a) r
def mn (a : Int) : List Int → Int
  | [] => a
  | b :: r => mn (if b < a then b else a) r
/-- a dict's key -/
def keyOk : PyData → Bool
  | .int _ => true | .str _ => true | _ => false
def keyEq : PyData → PyData → Bool
  | .int a, .int b => a == b
  | .str a, .str b => a == b
  | _, _ => false
def keysOk : List (PyData × PyData) → Bool
  | [] => true
  | p :: r => keyOk p.1 && keysOk r
def dGet (k : PyData) : List (PyData × PyData) → Option PyData
  | [] => none
  | p :: r => if keyEq p.1 k then some p.2 else dGet k r
def dRepl (k v : PyData) : List (PyData × PyData) → List (PyData × PyData)
  | [] => []
  | p :: r => (if keyEq p.1 k then (p.1, v) else p) :: dRepl k v r
def dPut (kvs : List (PyData × PyData)) (k v : PyData) : List (PyData × PyData) := if (dGet k kvs).isSome then dRepl k v kvs else kvs ++ [(k, v)]
/-! closures; exceptions of one's own as values -/
def excD (c : Nat) (ps : List PyData) : PyData := .dict ((.list [.int (c : Nat), .int 0], .none) :: ps.map fun p => (.none, p))
def excOf : List (PyData × PyData) → Option (Nat × List (PyData × PyData))
  | (.list [.int c, .int _], .none) :: r => some (c.toNat, r)
  | _ => none
/-- a closure over values; one over the slots of the running frame -/
def clo (f : Int) (ps : List PyData) : PyData := .dict ((.list [.int f], .none) :: ps.map fun p => (.none, p))
def opn (f : Nat) (js : List Nat) : PyData := .dict [(.list (.int (f : Nat) :: .none :: js.map fun j => .int (j : Nat)), .none)]
def opnOf : List (PyData × PyData) → Option (Int × List PyData)
  | [(.list (.int f :: .none :: js), .none)] => some (f, js)
  | _ => none
def cloOf : List (PyData × PyData) → Option (Int × List (PyData × PyData))
  | (.list [.int f], .none) :: r => some (f, r)
  | _ => none
mutual
/-- no closure over slots within -/
def noOp : PyData → Bool
  | .list ds => noOpL ds
  | .tuple ds => noOpL ds
  | .dict kvs => (opnOf kvs).isNone && noOpK kvs
  | _ => true
def noOpL : List PyData → Bool
  | [] => true
  | d :: ds => noOp d && noOpL ds
def noOpK : List (PyData × PyData) → Bool
  | [] => true
  | (_, p) :: r => noOp p && noOpK r
end
mutual
/-- no closure, no script within -/
def noC : PyData → Bool
  | .list ds => noCL ds
  | .tuple ds => noCL ds
  | .dict kvs => noCK kvs
  | _ => true
def noCL : List PyData → Bool
  | [] => true
  | d :: ds => noC d && noCL ds
def noCK : List (PyData × PyData) → Bool
  | [] => true
  | (k, p) :: r => keyOk k && noC p && noCK r
end
def capsOf (ρ : Rho) : List PyData → Option (List PyData)
  | [] => some []
  | .int j :: r => match ρ[j.toNat]?, capsOf ρ r with
    | some (.fz p), some ps => if noOp p then some (p :: ps) else none
    | _, _ => none
  | _ :: _ => none
mutual
/-- closures over slots become closures over what the slots hold -/
def sealD (ρ : Rho) : PyData → Option PyData
  | .list ds => (sealL ρ ds).map .list
  | .tuple ds => (sealL ρ ds).map .tuple
  | .dict kvs => match opnOf kvs with
    | some (f, js) => (capsOf ρ js).map (clo f)
    | none => if noOpK kvs then some (.dict kvs) else none
  | p => some p
def sealL (ρ : Rho) : List PyData → Option (List PyData)
  | [] => some []
  | d :: ds => match sealD ρ d, sealL ρ ds with
    | some p, some ps => some (p :: ps)
    | _, _ => none
end
def sealA (ρ : Rho) : List (Bool × PyData) → Option (List (Bool × PyData))
  | [] => some []
  | v :: vs => match sealD ρ v.2, sealA ρ vs with
    | some p, some ps => some ((v.1, p) :: ps)
    | _, _ => none
/-- the results: is it new, the value -/
abbrev ORes := Option (Bool × PyData)
def semAdd : List PyData → ORes
  | [.int a, .int b] => some (false, .int (a + b))
  | [.list a, .list b] => if a.length + b.length ≤ big then some (true, .list (a ++ b)) else none
  | [.tuple a, .tuple b] => if a.length + b.length ≤ big then some (false, .tuple (a ++ b)) else none
  | [.str a, .str b] => if a.length + b.length ≤ big then some (false, .str (a ++ b)) else none
  | _ => none
def semMul : List PyData → ORes
  | [.int a, .int b] => if small a || small b then some (false, .int (a * b)) else none
  | [.list a, .int k] => if small k && decide (a.length * k.toNat ≤ big) then some (true, .list (List.replicate k.toNat a).flatten) else none
  | [.tuple a, .int k] => if !a.isEmpty && decide (2 ≤ k) && decide (k ≤ 1000) && decide (a.length ≤ 1000) then some (false, .tuple (List.replicate k.toNat a).flatten) else none
  | _ => none
/-- two ints -/
def sem2 (f : Int → Int → ORes) : List PyData → ORes
  | [.int a, .int b] => f a b
  | _ => none
def sem1 (f : Int → ORes) : List PyData → ORes
  | [.int a] => f a
  | _ => none
def semDIn (neg : Bool) : List PyData → Option (Bool × PyData)
  | [k, .dict kvs] => if keyOk k && keysOk kvs then some (false, .bool (neg != (dGet k kvs).isSome)) else none
  | _ => none
def semDIdx : List PyData → Option (Bool × PyData)
  | [.dict kvs, k] => if keyOk k && keysOk kvs then (dGet k kvs).map fun d => (false, d) else none
  | _ => none
def listD : PyData → Bool
  | .list _ => true
  | .dict _ => true
  | _ => false
def semDGet : List PyData → Option (Bool × PyData)
  | [.dict kvs, k] => if keyOk k && keysOk kvs then some (false, (dGet k kvs).getD .none) else none
  | [.dict kvs, k, d] => if (keyOk k && keysOk kvs) && !listD d then some (false, (dGet k kvs).getD d) else none
  | _ => none
def oInt (i : Int) : ORes := some (false, .int i)
def oBool (b : Bool) : ORes := some (false, .bool b)
def semEq (neg : Bool) : List PyData → ORes
  | [x, y] => if shp x && shp y then oBool (neg != eqvD x y) else none
  | _ => none
def isNoneD : PyData → Bool
  | .none => true | _ => false
def semIsN (neg : Bool) : List PyData → ORes
  | [x] => oBool (neg != isNoneD x)
  | _ => none
/-- is True, is False -/
def semIsB (neg b : Bool) : List PyData → ORes
  | [.bool c] => oBool (neg != (c == b))
  | _ => none
def semIn (neg : Bool) : List PyData → ORes
  | [x, .list ds] => if shp x && shp (.list ds) then oBool (neg != ds.any fun z => eqvD z x) else none
  | [x, .tuple ds] => if shp x && shp (.tuple ds) then oBool (neg != ds.any fun z => eqvD z x) else none
  | _ => none
def itemAt (ds : List PyData) (i : Int) : Option PyData := match place ds.length i with
  | some k => ds[k]?
  | none => none
def semIdx : List PyData → ORes
  | [.list ds, .int i] => (itemAt ds i).map fun d => (false, d)
  | [.tuple ds, .int i] => (itemAt ds i).map fun d => (false, d)
  | [.dict kvs, .int i] => (scrOf kvs).bind fun ds => (itemAt ds i).map fun d => (false, d)
  | _ => none
/-- xs[lo:hi] -/
def cutD (ds : List PyData) (lo hi : Nat) : List PyData := (ds.drop lo).take (hi - lo)
def semSlLo : List PyData → ORes
  | [.list ds, .int i] => some (true, .list (cutD ds (cutAt ds.length i) ds.length))
  | [.tuple ds, .int i] => some (false, .tuple (cutD ds (cutAt ds.length i) ds.length))
  | _ => none
def semSlHi : List PyData → ORes
  | [.list ds, .int i] => some (true, .list (cutD ds 0 (cutAt ds.length i)))
  | [.tuple ds, .int i] => some (false, .tuple (cutD ds 0 (cutAt ds.length i)))
  | _ => none
def semSlLoHi : List PyData → ORes
  | [.list ds, .int i, .int j] => some (true, .list (cutD ds (cutAt ds.length i) (cutAt ds.length j)))
  | [.tuple ds, .int i, .int j] => some (false, .tuple (cutD ds (cutAt ds.length i) (cutAt ds.length j)))
  | _ => none
def semRev : List PyData → ORes
  | [.list ds] => some (true, .list ds.reverse)
  | [.tuple ds] => some (false, .tuple ds.reverse)
  | _ => none
def semLen : List PyData → ORes
  | [.list ds] => oInt ds.length
  | [.tuple ds] => oInt ds.length
  | [.dict kvs] => (scrOf kvs).bind fun ds => oInt ds.length
  | _ => none
def semTuple : List PyData → ORes
  | [.list ds] => some (false, .tuple ds)
  | [.tuple ds] => some (false, .tuple ds)
  | _ => none
def semList : List PyData → ORes
  | [.list ds] => some (true, .list ds)
  | [.tuple ds] => some (true, .list ds)
  | _ => none
def rngD (lo : Int) (n : Nat) : List PyData := (List.range n).map fun i => .int (lo + (i : Nat))
/-- a range's ends -/
def rgEnds : List PyData → Option (Int × Int)
  | [.int n] => if small n && decide (n.toNat ≤ big) then some (0, n) else none
  | [.int m, .int n] => if (small m && small n) && decide ((n - m).toNat ≤ big) then some (m, n) else none
  | _ => none
def semListR (ds : List PyData) : ORes := (rgEnds ds).map fun q => (true, .list (rngD q.1 (q.2 - q.1).toNat))
def semTupR (ds : List PyData) : ORes := (rgEnds ds).map fun q => (false, .tuple (rngD q.1 (q.2 - q.1).toNat))
/-- the first place of an equal one -/
def idxOf (d : PyData) : List PyData → Option Nat
  | [] => none
  | z :: r => if eqvD z d then some 0 else (idxOf d r).map (· + 1)
def semIndex : List PyData → ORes
  | [.list ds, d] => if shp d && shp (.list ds) then (idxOf d ds).map fun j => (false, .int (j : Nat)) else none
  | _ => none
/-- is the receiver one that the method asks for -/
def recvOk : Op → PyData → Bool
  | .index, .list _ => true
  | .count, .list _ => true
  | .dget, .dict kvs => keysOk kvs
  | _, _ => false
def semSorted : List PyData → ORes
  | [.list ds] => if allAlike ds && (sortable ds && decide (ds.length ≤ big)) then some (true, .list (sortD ds)) else none
  | _ => none
def isDct0 : PyData → Bool
  | .dict [] => true
  | _ => false
/-- each but once -/
def nubI : List Int → List Int → List Int
  | acc, [] => acc
  | acc, n :: r => if acc.any (· == n) then nubI acc r else nubI (acc ++ [n]) r
def semLenSet : List PyData → ORes
  | [.list ds] => match intsD ds with
    | some ns => if ns.length ≤ 4000 then some (false, .int ((nubI [] ns).length : Nat)) else none
    | none => none
  | _ => none
def semRepr : List PyData → ORes
  | [d] => if noE d && d.showable && decide (d.depth ≤ 40) && decide ((shL d).length ≤ big) then some (false, .str (sN (shL d))) else none
  | _ => none
/-- of ints -/
def semInts (f : List Int → ORes) : List PyData → ORes
  | [.list ds] => match intsD ds with
    | some ns => f ns
    | none => none
  | _ => none
/-- .. of a list or of a tuple -/
def semIntsA (f : List Int → ORes) : List PyData → ORes
  | [.list ds] => match intsD ds with
    | some ns => f ns
    | none => none
  | [.tuple ds] => match intsD ds with
    | some ns => f ns
    | none => none
  | _ => none
def semSum : List PyData → ORes
  | [.list ds] => match intsD ds with
    | some ns => oInt ns.sum
    | none => none
  | [.tuple ds] => match intsD ds with
    | some ns => oInt ns.sum
    | none => none
  | _ => none
def semBools (f : List Bool → Bool) : List PyData → ORes
  | [.list ds] => match boolsD ds with
    | some bs => oBool (f bs)
    | none => none
  | _ => none
def maxD : List Int → ORes
  | n :: ns => oInt (mx n ns)
  | [] => none
def minD : List Int → ORes
  | n :: ns => oInt (mn n ns)
  | [] => none
def divOk (b : Int) : Bool := decide (0 < b) && decide (b < 1073741824)
def powOk (a b : Int) : Bool := decide (0 ≤ b) && decide (b ≤ 1000) && decide (a.natAbs < 2 ^ 64)
def semIsI (ts : List Ty) : List PyData → ORes
  | [.dict kvs] => if keysOk kvs then oBool false else none
  | [x] => oBool (ts.any fun t => isTy t x)
  | _ => none
def opSem : Op → List PyData → ORes
  | .add => semAdd
  | .sub => sem2 fun a b => oInt (a - b)
  | .mul => semMul
  | .fdiv => sem2 fun a b => if divOk b then oInt (a / b) else none
  | .mod => sem2 fun a b => if decide (0 < b) then oInt (a % b) else none
  | .pow => sem2 fun a b => if powOk a b then oInt (a ^ b.toNat) else none
  | .neg => sem1 fun a => oInt (-a)
  | .eq => semEq false
  | .ne => semEq true
  | .lt => sem2 fun a b => oBool (decide (a < b))
  | .le => sem2 fun a b => oBool (decide (a ≤ b))
  | .gt => sem2 fun a b => oBool (decide (b < a))
  | .ge => sem2 fun a b => oBool (decide (b ≤ a))
  | .isN => semIsN false
  | .isNotN => semIsN true
  | .isB b => semIsB false b
  | .isNotB b => semIsB true b
  | .inn => semIn false
  | .nin => semIn true
  | .idx => semIdx
  | .slLo => semSlLo
  | .slHi => semSlHi
  | .slRev => semRev
  | .len => semLen
  | .tuple => semTuple
  | .list => semList
  | .listR => semListR
  | .tupR => semTupR
  | .index => semIndex
  | .sorted => semSorted
  | .sum => semSum
  | .max1 => semIntsA maxD
  | .min1 => semIntsA minD
  | .max2 => sem2 fun a b => oInt (if b > a then b else a)
  | .min2 => sem2 fun a b => oInt (if b < a then b else a)
  | .all => semBools fun bs => bs.all id
  | .any => semBools fun bs => bs.any id
  | .abs => sem1 fun a => oInt (if a < 0 then -a else a)
  | .int => sem1 oInt
  | .divmod => sem2 fun a b => if divOk b then some (false, .tuple [.int (a / b), .int (a % b)]) else none
  | .isI ts => semIsI ts
  | .repr => semRepr
  | .din => semDIn false
  | .dnin => semDIn true
  | .didx => semDIdx
  | .dget => semDGet
  | .lenSet => semLenSet
  | _ => fun _ => none

/-! ### terms -/
mutual
inductive CE where
  | var (i : Nat) | cst (p : PyData)
  | tup (es : CEs) | lst (es : CEs)
  | op (o : Op) (es : CEs)
  | andE (a b : CE) | orE (a b : CE) | notE (a : CE) | ifE (c a b : CE)
  | chn (o1 o2 : Op) (a b c : CE)
  | call (f : Nat) (es : CEs)
  | callK (f : Nat) (pm : List Nat) (es : CEs)
  | callIO (f i : Nat) (es : CEs)
  | pop (i : Nat) | popAt (i : Nat) (k : CE)
  | comp (elt : CE) (tg : Tg) (it : IT) (ifs : CEs) (own : List Nat)
  | attr (i k : Nat) | isE (i : Nat) (cs : List Nat)
  | sl3 (e a b : CE)
  | bad
  | dct0 | dct1 (k v : CE)
  | lam (f : Nat) (js : List Nat) | callV (i : Nat)
  | callC (f : Nat) (es : CEs) | callKC (f : Nat) (pm : List Nat) (es : CEs) | callIOC (f i : Nat) (es : CEs)
  | meth (o : Op) (a : CE) (es : CEs)
  | mkE (c : Nat) (es : CEs) | isX (e : CE) (cs : List Nat) | atX (e : CE) (k : Nat)
inductive CEs where
  | nil | cons (e : CE) (es : CEs)
inductive Tg where
  | nm (i : Nat) | tp (ts : Tgs) | sub (i : Nat) (k : CE) | dsub (i : Nat) (k : CE)
inductive Tgs where
  | nil | cons (t : Tg) (ts : Tgs)
inductive IT where
  | seq (e : CE) | rng1 (a : CE) | rng2 (a b : CE) | enum (e : CE) | zip (a b : CE)
end
mutual
/-- the slots whose objects may be changed -/
def muts : CE → List Nat
  | .var _ => [] | .cst _ => []
  | .tup es => mutsL es | .lst es => mutsL es | .op _ es => mutsL es
  | .andE a b => muts a ++ muts b | .orE a b => muts a ++ muts b | .notE a => muts a
  | .ifE c a b => muts c ++ (muts a ++ muts b)
  | .chn _ _ a b c => muts a ++ (muts b ++ muts c)
  | .call _ es => mutsL es
  | .callK _ _ es => mutsL es
  | .callIO _ i es => i :: mutsL es
  | .pop i => [i] | .popAt i k => i :: muts k
  | .comp e _ it ifs _ => mutsIT it ++ (mutsL ifs ++ muts e)
  | .attr _ _ => [] | .isE _ _ => []
  | .sl3 e a b => muts e ++ (muts a ++ muts b)
  | .bad => []
  | .dct0 => [] | .dct1 k v => muts k ++ muts v
  | .lam _ _ => [] | .callV _ => []
  | .callC _ es => mutsL es | .callKC _ _ es => mutsL es | .callIOC _ i es => i :: mutsL es
  | .meth _ a es => muts a ++ mutsL es
  | .mkE _ es => mutsL es | .isX e _ => muts e | .atX e _ => muts e
def mutsL : CEs → List Nat
  | .nil => [] | .cons e es => muts e ++ mutsL es
def mutsIT : IT → List Nat
  | .seq e => muts e | .rng1 a => muts a | .rng2 a b => muts a ++ muts b | .enum e => muts e | .zip a b => muts a ++ muts b
end
def CE.isVar : CE → Bool
  | .var _ => true | _ => false
mutual
/-- the slots whose objects the value may reach -/
def al : CE → List Nat
  | .var i => [i] | .cst _ => []
  | .tup es => alL es | .lst es => alL es
  | .op _ es => alEs es
  | .andE _ _ => [] | .orE _ _ => [] | .notE _ => []
  | .ifE _ a b => al a ++ al b
  | .chn _ _ _ _ _ => []
  | .call _ es => alL es
  | .callK _ _ es => alL es
  | .callIO _ _ es => alL es
  | .pop _ => [] | .popAt _ _ => []
  | .comp e _ it _ _ => alIT it ++ al e
  | .attr _ _ => [] | .isE _ _ => []
  | .sl3 e _ _ => if e.isVar then [] else al e
  | .bad => []
  | .dct0 => [] | .dct1 k v => al k ++ al v
  | .lam _ _ => [] | .callV i => [i]
  | .callC _ es => alL es | .callKC _ _ es => alL es | .callIOC _ _ es => alL es
  | .meth _ a es => (if a.isVar then [] else al a) ++ alEs es
  | .mkE _ es => alL es | .isX _ _ => [] | .atX e _ => if e.isVar then [] else al e
def alL : CEs → List Nat
  | .nil => [] | .cons e es => al e ++ alL es
/-- of the items of the values -/
def alEs : CEs → List Nat
  | .nil => [] | .cons e es => (if e.isVar then [] else al e) ++ alEs es
def alIT : IT → List Nat
  | .seq e => if e.isVar then [] else al e
  | .rng1 _ => [] | .rng2 _ _ => []
  | .enum e => if e.isVar then [] else al e
  | .zip a b => (if a.isVar then [] else al a) ++ (if b.isVar then [] else al b)
end
/-- the slots that a loop walks -/
def CE.walked : CE → List Nat
  | .var i => [i] | e => al e
def walks : IT → List Nat
  | .seq e => al e | .rng1 _ => [] | .rng2 _ _ => [] | .enum e => al e | .zip a b => al a ++ al b
def meets (as bs : List Nat) : Bool := as.any fun a => bs.contains a

/-! ### the evaluator -/
def zipD : List PyData → List PyData → List PyData
  | x :: xs, y :: ys => .tuple [x, y] :: zipD xs ys
  | _, _ => []
def enumD : Nat → List PyData → List PyData
  | _, [] => []
  | n, x :: xs => .tuple [.int (n : Nat), x] :: enumD (n + 1) xs
def anyMine (ρ : Rho) (is : List Nat) : Bool := is.any fun i => match ρ[i]? with
  | some (.my _) => true
  | some (.lk _) => true
  | _ => false
/-- a list comprehension's loop -/
def compL (f : PyData → Rho → Out (Option PyData)) : List PyData → List PyData → Rho → Out (List PyData)
  | acc, [], ρ => .ok acc ρ
  | acc, x :: xs, ρ => (f x ρ).bind fun r ρ => match r with
    | some y => if acc.length < big then compL f (acc ++ [y]) xs ρ else .stuck
    | none => compL f acc xs ρ
def setNew (ρ : Rho) (i : Nat) (v : Bool × PyData) : Out Unit :=
  if i < ρ.length then .ok () (ρ.set i (if v.1 then .my v.2 else .fz v.2)) else .stuck
def isUn (ρ : Rho) (is : List Nat) : Bool := is.all fun i => match ρ[i]? with
  | some .un => true
  | _ => false
def isMy (ρ : Rho) (i : Nat) : Bool := match ρ[i]? with
  | some (.my (.list _)) => true
  | _ => false
def isMyD (ρ : Rho) (i : Nat) : Bool := match ρ[i]? with
  | some (.my (.dict _)) => true
  | _ => false
def wipeR (ρ : Rho) : List Nat → Rho
  | [] => ρ
  | i :: is => (wipeR ρ is).set i .un
/-- the slots of a comprehension's own names stand as they stood -/
def restR (ρ r : Rho) : List Nat → Rho
  | [] => r
  | i :: is => match ρ[i]? with
    | some s => (restR ρ r is).set i s
    | none => restR ρ r is
/-- values in the parameters' order -/
def permA (vs : List (Bool × PyData)) : List Nat → Option (List (Bool × PyData))
  | [] => some []
  | i :: is => match vs[i]?, permA vs is with
    | some v, some r => some (v :: r)
    | _, _ => none
section
variable (call : CallT)
mutual
def evE : CE → Rho → Out (Bool × PyData)
  | .var i, ρ => match rd ρ i with
    | some p => .ok (false, p) ρ
    | none => .stuck
  | .cst p, ρ => .ok (false, p) ρ
  | .tup es, ρ => (evEs es ρ).bind fun vs ρ => .ok (false, .tuple (vs.map (·.2))) ρ
  | .lst es, ρ => (evEs es ρ).bind fun vs ρ => .ok (true, .list (vs.map (·.2))) ρ
  | .op o es, ρ => (evEs es ρ).bind fun vs ρ => match opSem o (vs.map (·.2)) with
    | some r => .ok r ρ
    | none => .stuck
  | .andE a b, ρ => (evE a ρ).bind fun v ρ => match v.2 with
    | .bool true => (evE b ρ).bind fun w ρ => match w.2 with
      | .bool k => .ok (false, .bool k) ρ
      | _ => .stuck
    | .bool false => .ok (false, .bool false) ρ
    | _ => .stuck
  | .orE a b, ρ => (evE a ρ).bind fun v ρ => match v.2 with
    | .bool false => (evE b ρ).bind fun w ρ => match w.2 with
      | .bool k => .ok (false, .bool k) ρ
      | _ => .stuck
    | .bool true => .ok (false, .bool true) ρ
    | _ => .stuck
  | .notE a, ρ => (evE a ρ).bind fun v ρ => match v.2 with
    | .bool k => .ok (false, .bool (!k)) ρ
    | _ => .stuck
  | .ifE c a b, ρ => (evE c ρ).bind fun v ρ => match v.2 with
    | .bool true => evE a ρ
    | .bool false => evE b ρ
    | _ => .stuck
  | .chn o1 o2 a b c, ρ => (evE a ρ).bind fun x ρ => (evE b ρ).bind fun y ρ => if !(flatD x.2 && flatD y.2) then .stuck else match opSem o1 [x.2, y.2] with
    | some (_, .bool true) => (evE c ρ).bind fun z ρ => match opSem o2 [y.2, z.2] with
      | some (_, .bool k) => .ok (false, .bool k) ρ
      | _ => .stuck
    | some (_, .bool false) => .ok (false, .bool false) ρ
    | _ => .stuck
  | .call f es, ρ => (evEs es ρ).bind fun vs ρ => match call f vs with
    | .ok fr p _ => .ok (fr, p) ρ
    | .exc c ps => .exc c ps ρ
    | .stuck => .stuck
  | .callK f pm es, ρ => (evEs es ρ).bind fun vs ρ => match permA vs pm with
    | some ws => match call f ws with
      | .ok fr p _ => .ok (fr, p) ρ
      | .exc c ps => .exc c ps ρ
      | .stuck => .stuck
    | none => .stuck
  | .callIO f i es, ρ => if !isMy ρ i then .stuck else (evEs es ρ).bind fun vs ρ => match ρ[i]? with
    | some (.my (.list xs)) => if meets (alL es) [i] then .stuck else match call f ((true, .list xs) :: vs) with
      | .ok fr p (some ys) => .ok (fr, p) (ρ.set i (.my (.list ys)))
      | _ => .stuck
    | _ => .stuck
  | .pop i, ρ => match ρ[i]? with
    | some (.my (.list xs)) => match xs.getLast? with
      | some x => .ok (false, x) (ρ.set i (.my (.list xs.dropLast)))
      | none => .stuck
    | _ => .stuck
  | .popAt i k, ρ => if !isMy ρ i then .stuck else (evE k ρ).bind fun v ρ => match v.2, ρ[i]? with
    | .int j, some (.my (.list xs)) => if !small j then .stuck else match place xs.length j with
      | some n => match xs[n]? with
        | some x => .ok (false, x) (ρ.set i (.my (.list (xs.eraseIdx n))))
        | none => .stuck
      | none => .stuck
    | _, _ => .stuck
  | .comp e tg it ifs own, ρ => (evIT it ρ).bind fun xs ρ =>
      if !meets (walks it) (mutsL ifs ++ muts e) && !meets (al e) (mutsL ifs ++ muts e) && (alIT it == [] || (flatL xs || !anyMine ρ (alIT it))) && ((mutsL ifs ++ muts e).isEmpty || flatL xs) then
        (compL (fun x r => ((asgT tg (false, x) r).bind fun _ r => (evIfs ifs r).bind fun b r =>
          if b then (evE e r).bind fun v r => .ok (some v.2) (wipeR r own) else .ok none (wipeR r own)).calm) [] xs (wipeR ρ own)).bind fun ys r => .ok (true, .list ys) (restR ρ r own)
      else .stuck
  | .attr i k, ρ => match ρ[i]? with
    | some (.ex _ ps) => match fldAt ps k with
      | some p => .ok (false, p) ρ
      | none => .stuck
    | _ => .stuck
  | .isE i cs, ρ => match ρ[i]? with
    | some (.ex c _) => .ok (false, .bool (cs.contains c)) ρ
    | _ => .stuck
  | .bad, ρ => .stuck
  | .dct0, ρ => .ok (true, .dict []) ρ
  | .dct1 k v, ρ => (evE k ρ).bind fun x ρ => if !keyOk x.2 then .stuck else (evE v ρ).bind fun y ρ => .ok (true, .dict [(x.2, y.2)]) ρ
  | .lam f js, ρ => .ok (false, opn f js) ρ
  | .callV i, ρ => match rd ρ i with
    | some (.dict kvs) => match cloOf kvs with
      | some (f, r) => if noCL (r.map (·.2)) then match call f.toNat (r.map fun p => (false, p.2)) with
        | .ok fr p _ => .ok (fr, p) ρ
        | .exc c ps => .exc c ps ρ
        | .stuck => .stuck
        else .stuck
      | none => .stuck
    | _ => .stuck
  | .callC f es, ρ => (evEs es ρ).bind fun vs ρ => match sealA ρ vs with
    | some ws => match call f ws with
      | .ok fr p _ => if vs.all (fun v => noOp v.2) || noC p then .ok (fr, p) ρ else .stuck
      | _ => .stuck
    | none => .stuck
  | .callKC f pm es, ρ => (evEs es ρ).bind fun vs ρ => match sealA ρ vs with
    | some us => match permA us pm with
      | some ws => match call f ws with
        | .ok fr p _ => if vs.all (fun v => noOp v.2) || noC p then .ok (fr, p) ρ else .stuck
        | _ => .stuck
      | none => .stuck
    | none => .stuck
  | .callIOC f i es, ρ => if !isMy ρ i then .stuck else (evEs es ρ).bind fun vs ρ => match ρ[i]? with
    | some (.my (.list xs)) => if meets (alL es) [i] || !(noOpL xs && vs.all (fun v => noOp v.2)) then .stuck else match call f ((true, .list xs) :: vs) with
      | .ok fr p (some ys) => .ok (fr, p) (ρ.set i (.my (.list ys)))
      | _ => .stuck
    | _ => .stuck
  | .meth o a es, ρ => (evE a ρ).bind fun v ρ => if !recvOk o v.2 then .stuck else if meets (al a) (mutsL es) && !flatD v.2 then .stuck else (evEs es ρ).bind fun vs ρ => match opSem o (v.2 :: vs.map (·.2)) with
    | some r => .ok r ρ
    | none => .stuck
  | .mkE c es, ρ => (evEs es ρ).bind fun vs ρ => .ok (false, excD c (vs.map (·.2))) ρ
  | .isX e cs, ρ => (evE e ρ).bind fun v ρ => match v.2 with
    | .dict kvs => match excOf kvs with
      | some (c, _) => .ok (false, .bool (cs.contains c)) ρ
      | none => .stuck
    | _ => .stuck
  | .atX e k, ρ => (evE e ρ).bind fun v ρ => match v.2 with
    | .dict kvs => match excOf kvs with
      | some (_, r) => match fldAt (r.map (·.2)) k with
        | some p => .ok (false, p) ρ
        | none => .stuck
      | none => .stuck
    | _ => .stuck
  | .sl3 e a b, ρ => (evE e ρ).bind fun v ρ => (evE a ρ).bind fun i ρ => match i.2 with
    | .int i => (evE b ρ).bind fun j ρ => match j.2 with
      | .int j => if meets (al e) (muts a ++ muts b) && !flatD v.2 then .stuck else match semSlLoHi [v.2, .int i, .int j] with
        | some r => .ok r ρ
        | none => .stuck
      | _ => .stuck
    | _ => .stuck
def evEs : CEs → Rho → Out (List (Bool × PyData))
  | .nil, ρ => .ok [] ρ
  | .cons e es, ρ => (evE e ρ).bind fun v ρ =>
      if meets (al e) (mutsL es) && !flatD v.2 then .stuck else (evEs es ρ).bind fun vs ρ => .ok (v :: vs) ρ
def evIfs : CEs → Rho → Out Bool
  | .nil, ρ => .ok true ρ
  | .cons e .nil, ρ => (evE e ρ).bind fun v ρ => match v.2 with
    | .bool b => .ok b ρ
    | _ => .stuck
  | _, _ => .stuck
/-- targets of a comprehension and of a for: names and tuples of them -/
def asgT : Tg → Bool × PyData → Rho → Out Unit
  | .nm i, v, ρ => setNew ρ i v
  | .tp ts, v, ρ => match v.2 with
    | .tuple xs => asgTs ts xs ρ
    | _ => .stuck
  | .sub i k, v, ρ => if !isMy ρ i then .stuck else (evE k ρ).calm.bind fun j ρ => match ρ[i]?, j.2 with
    | some (.my (.list xs)), .int n => match place xs.length n with
      | some m => .ok () (ρ.set i (.my (.list (xs.set m v.2))))
      | none => .stuck
    | _, _ => .stuck
  | .dsub i k, v, ρ => if !isMyD ρ i then .stuck else (evE k ρ).calm.bind fun j ρ => match ρ[i]? with
    | some (.my (.dict kvs)) => if keyOk j.2 && keysOk kvs && decide (kvs.length < big) then .ok () (ρ.set i (.my (.dict (dPut kvs j.2 v.2)))) else .stuck
    | _ => .stuck
def asgTs : Tgs → List PyData → Rho → Out Unit
  | .nil, [], ρ => .ok () ρ
  | .cons t ts, x :: xs, ρ => (asgT t (false, x) ρ).bind fun _ ρ => asgTs ts xs ρ
  | _, _, _ => .stuck
def evIT : IT → Rho → Out (List PyData)
  | .seq e, ρ => (evE e ρ).bind fun v ρ => match items v.2 with
    | some xs => .ok xs ρ
    | none => .stuck
  | .rng1 a, ρ => (evE a ρ).bind fun v ρ => match v.2 with
    | .int n => if small n then .ok (rngD 0 n.toNat) ρ else .stuck
    | _ => .stuck
  | .rng2 a b, ρ => (evE a ρ).bind fun v ρ => (evE b ρ).bind fun w ρ => match v.2, w.2 with
    | .int m, .int n => if small m && small n then .ok (rngD m (n - m).toNat) ρ else .stuck
    | _, _ => .stuck
  | .enum e, ρ => (evE e ρ).bind fun v ρ => match v.2 with
    | .list xs => .ok (enumD 0 xs) ρ
    | .tuple xs => .ok (enumD 0 xs) ρ
    | _ => .stuck
  | .zip a b, ρ => (evE a ρ).bind fun v ρ => if meets (al a) (muts b) && !flatD v.2 then .stuck else (evE b ρ).bind fun w ρ => match v.2, w.2 with
    | .list xs, .list ys => if flatL (zipD xs ys) && !(flatL xs && flatL ys) then .stuck else .ok (zipD xs ys) ρ
    | .tuple xs, .tuple ys => if flatL (zipD xs ys) && !(flatL xs && flatL ys) then .stuck else .ok (zipD xs ys) ρ
    | .list xs, .tuple ys => if flatL (zipD xs ys) && !(flatL xs && flatL ys) then .stuck else .ok (zipD xs ys) ρ
    | .tuple xs, .list ys => if flatL (zipD xs ys) && !(flatL xs && flatL ys) then .stuck else .ok (zipD xs ys) ρ
    | _, _ => .stuck
end
end

/-! ### statements -/
mutual
inductive CS where
  | skip | seq (a b : CS)
  | ret (e : CE) | retN
  | asg (t : Tg) (e : CE)
  | par (is : List Nat) (es : CEs)
  | app (i : Nat) (e : CE) | ext (i : Nat) (e : CE)
  | exp (e : CE)
  | ifS (c : CE) (a b : CS)
  | whl (c : CE) (b : CS)
  | for_ (t : Tg) (it : IT) (b : CS)
  | brk
  | raise (c : Nat) (es : CEs)
  | tryS (b : CS) (hs : CHs)
  | frz (is : List Nat)
  | bad
/-- except: the classes that are caught, the name's slot, the suite -/
inductive CHs where
  | nil | cons (cs : List Nat) (i : Option Nat) (h : CS) (hs : CHs)
end
def freezeAll (ρ : Rho) : List Nat → Rho
  | [] => ρ
  | i :: is => at_ (freezeAll ρ is) i Slot.freeze
/-- a value is kept: what it may reach is not changed any more -/
def keep (ρ : Rho) (as : List Nat) (p : PyData) : Rho := if anyMine ρ as then (if flatD p then ρ else freezeAll ρ as) else ρ
def keepAll (ρ : Rho) : CEs → List (Bool × PyData) → Rho
  | .cons e es, v :: vs => keepAll (keep ρ (al e) v.2) es vs
  | _, _ => ρ
def lockAll (ρ : Rho) : List Nat → Rho
  | [] => ρ
  | i :: is => at_ (lockAll ρ is) i Slot.lock
def unlockAll (ρ : Rho) : List Nat → Rho
  | [] => ρ
  | i :: is => at_ (unlockAll ρ is) i Slot.unlock
/-- the slots that are walked and were free -/
def free (ρ : Rho) (is : List Nat) : List Nat := is.filter fun i => match ρ[i]? with
  | some (.my _) => true
  | _ => false
def SOut.thn : SOut → (Rho → SOut) → SOut
  | .nx ρ, f => f ρ
  | o, _ => o
/-- behind a loop -/
def SOut.unl (o : SOut) (fs : List Nat) : SOut := match o with
  | .nx ρ => .nx (unlockAll ρ fs)
  | .ex c ps ρ => .ex c ps (unlockAll ρ fs)
  | o => o
def forL (f : PyData → Rho → SOut) : List PyData → Rho → SOut
  | [], ρ => .nx ρ
  | x :: xs, ρ => match f x ρ with
    | .nx ρ => forL f xs ρ
    | .bk ρ => .nx ρ
    | o => o
def whlF (c : Rho → Out Bool) (f : Rho → SOut) : Nat → Rho → SOut
  | 0, _ => .stuck
  | n + 1, ρ => (c ρ).s fun b ρ => if b then match f ρ with
      | .nx ρ => whlF c f n ρ
      | .bk ρ => .nx ρ
      | o => o
    else .nx ρ
def turns : Nat := 1000000
def setAll : List Nat → List (Bool × PyData) → Rho → Out Unit
  | [], [], ρ => .ok () ρ
  | i :: is, v :: vs, ρ => (setNew ρ i v).bind fun _ ρ => setAll is vs ρ
  | _, _, _ => .stuck
section
variable (call : CallT)
def evB (e : CE) (ρ : Rho) : Out Bool := (evE call e ρ).bind fun v ρ => match v.2 with
  | .bool b => .ok b ρ
  | _ => .stuck
/-- what is handed back: an object of the frame's own is new to the caller -/
def evR : CE → Rho → Out (Bool × PyData)
  | .var i, ρ => match ρ[i]? with
    | some (.my p) => .ok (true, p) (ρ.set i .un)
    | some s => match s.val? with
      | some p => .ok (false, p) ρ
      | none => .stuck
    | none => .stuck
  | .ifE c a b, ρ => (evB call c ρ).bind fun k ρ => if k then evR a ρ else evR b ρ
  | e, ρ => evE call e ρ
/-- all of the frame's own objects are kept -/
def freezeMine (ρ : Rho) : Rho := ρ.map Slot.freeze
def isFree (ρ : Rho) : Option Nat → Bool
  | none => true
  | some i => match ρ[i]? with
    | some .un => true
    | _ => false
def noEx (ρ : Rho) : Bool := ρ.all fun s => match s with
  | .ex _ _ => false
  | _ => true
def setEx (ρ : Rho) (c : Nat) (ps : List PyData) : Option Nat → Rho
  | none => ρ
  | some i => ρ.set i (.ex c ps)
def unEx (ρ : Rho) : Option Nat → Rho
  | none => ρ
  | some i => ρ.set i .un
/-- behind the suite of an except clause -/
def SOut.suite (o : SOut) (i : Option Nat) : SOut := match o with
  | .nx ρ => if noEx (unEx ρ i) then .nx (unEx ρ i) else .stuck
  | .rt fr p ρ => .rt fr p ρ
  | _ => .stuck
mutual
def evS (io : Bool) : CS → Rho → SOut
  | .skip, ρ => .nx ρ
  | .seq a b, ρ => (evS io a ρ).thn fun ρ => evS io b ρ
  | .ret e, ρ => (evR call e ρ).s fun v ρ => if io && (al e).contains 0 && !flatD v.2 then .stuck else .rt v.1 v.2 ρ
  | .retN, ρ => .rt false .none ρ
  | .asg t e, ρ => (evE call e ρ).s fun v ρ => (asgT call t v (keep ρ (al e) v.2)).calm.s fun _ ρ => .nx ρ
  | .par is es, ρ => (evEs call es ρ).s fun vs ρ => (setAll is vs (keepAll ρ es vs)).calm.s fun _ ρ => .nx ρ
  | .app i e, ρ => if !isMy ρ i then .stuck else (evE call e ρ).s fun v ρ => let ρ := keep ρ (al e) v.2
      match ρ[i]? with
      | some (.my (.list xs)) => if xs.length < big then .nx (ρ.set i (.my (.list (xs ++ [v.2])))) else .stuck
      | _ => .stuck
  | .ext i e, ρ => if !isMy ρ i then .stuck else (evE call e ρ).s fun v ρ => let ρ := keep ρ (al e) v.2
      match ρ[i]?, items v.2 with
      | some (.my (.list xs)), some ys => if xs.length + ys.length ≤ big then .nx (ρ.set i (.my (.list (xs ++ ys)))) else .stuck
      | _, _ => .stuck
  | .exp e, ρ => (evE call e ρ).s fun _ ρ => .nx ρ
  | .ifS c a b, ρ => (evB call c ρ).s fun k ρ => if k then evS io a ρ else evS io b ρ
  | .whl c b, ρ => whlF (evB call c) (evS io b) turns ρ
  | .for_ t it b, ρ => (evIT call it ρ).s fun xs ρ =>
      let ρ := keep ρ (alIT it) (.tuple xs)
      let fs := free ρ (walks it)
      (forL (fun x ρ => (asgT call t (false, x) ρ).calm.s fun _ ρ => evS io b ρ) xs (lockAll ρ fs)).unl fs
  | .brk, ρ => .bk ρ
  | .bad, ρ => .stuck
  | .raise c es, ρ => (evEs call es ρ).s fun vs ρ => .ex c (vs.map (·.2)) ρ
  | .frz is, ρ => .nx (freezeAll ρ is)
  | .tryS b hs, ρ => match evS io b ρ with
    | .ex c ps ρ => evH io hs c ps (freezeMine ρ)
    | o => o
def evH (io : Bool) : CHs → Nat → List PyData → Rho → SOut
  | .nil, c, ps, ρ => .ex c ps ρ
  | .cons cs i h hs, c, ps, ρ => if cs.contains c then (if isFree ρ i && noEx ρ then (evS io h (setEx ρ c ps i)).suite i else .stuck) else evH io hs c ps ρ
end
end
structure Fn where
  np : Nat
  ns : Nat
  io : Bool
  body : CS
  /-- it makes closures over its names and hands them back -/
  mkc : Bool := false
  /-- it makes closures, for its calls -/
  own : Bool := false
def entry (F : Fn) (args : List (Bool × PyData)) : Rho := args.map (fun a => if a.1 then Slot.my a.2 else .fz a.2) ++ List.replicate (F.ns - F.np) .un
def ioOk : Bool → List (Bool × PyData) → Bool
  | true, (true, .list xs) :: _ => flatL xs
  | true, _ => false
  | false, _ => true
def ioEnd : Bool → Rho → Option (Option (List PyData))
  | true, (.my (.list xs)) :: _ => if flatL xs then some (some xs) else none
  | true, _ => none
  | false, _ => some none
def callF (tbl : Nat → Option Fn) : Nat → CallT
  | 0 => fun _ _ => .stuck
  | d + 1 => fun f args => match tbl f with
    | none => .stuck
    | some F => if args.length == F.np && ioOk F.io args then
        match evS (callF tbl d) F.io F.body (entry F args) with
        | .rt fr p ρ => match ioEnd F.io ρ, (if F.mkc then (if fr then sealD ρ p else none) else if F.own && !noOp p then none else some p) with
          | some io, some q => .ok fr q io
          | _, _ => .stuck
        | .nx ρ => if F.mkc then .stuck else match ioEnd F.io ρ with
          | some io => .ok false .none io
          | none => .stuck
        | .ex c ps _ => if F.io || (F.own && !noOpL ps) then .stuck else .exc c ps
        | _ => .stuck
      else .stuck
end PyC
end

section
set_option maxHeartbeats 200000
namespace PyC
open PySem PySem.Spec L2
abbrev AS := Addr → Prop
/-- a known list -/
def KnL (K : PySem.W.Frag) (a : Addr) (xs : List V) : Prop := ∃ o its n, K.lookup a = some o ∧ o.cls = .type "list" ∧ o.dict = none ∧ o.data = .seq its n ∧ its.size ≤ sizeLine ∧ Vals xs its.toList
/-- no table of code objects -/
def NT (o : HO) : Prop := ∀ ps, o ≠ .tbl ps
/-- a thing that can be changed: a list, a dict -/
def MO : HO → Prop
  | .lst _ => True
  | .dK _ => True
  | _ => False
/-- no such -/
def NL (o : HO) : Prop := ¬ MO o
theorem NL.mo {o : HO} {P : Prop} (n : NL o) (m : MO o) : P := (n m).elim
/-- the key that a datum is -/
def keyD : PyData → Option Key
  | .int i => some (.inl i)
  | .str x => some (.inr x)
  | _ => none
def KeyL (kvs : List (PyData × PyData)) (ks : List (Key × V)) : Prop := kvs.map (fun p => keyD p.1) = ks.map fun q => some q.1
/-- a lambda of the text -/
structure Lam where
  q : Str
  ps : Arguments
  body : Expr
  sc : Scope
  fv : List Str
/-- what the lambdas are; what the numbers of exception classes stand for: the class, its fields -/
structure LT where
  f : Nat → Lam → Prop
  x : Nat → Option (Value × List Str)
instance : CoeFun LT (fun _ => Nat → Lam → Prop) := ⟨LT.f⟩
instance : CoeOut LT (Nat → Lam → Prop) := ⟨LT.f⟩
/-- what a frame knows: the known objects, the lambdas, its own names' cells, the tables of code objects -/
structure KC where
  fr : PySem.W.Frag
  lam : LT
  cell : Nat → Option Addr
  tabs : List (Addr × Str)
/-- in a frame without lambdas -/
abbrev KC.base (K : KC) : KC := { K with cell := fun _ => none }
/-- a thing that is there -/
def HX (a : Addr) : HO := .ext fun h => ∃ o, h.get? a = some o
abbrev lamObj (L : Lam) (cl : List (Str × Addr)) (pm : Value) (c : Addr) (ct : Value) : Obj := PySem.W.kla_obj "<lambda>" L.q L.ps L.body L.sc cl pm c ct
/-- the lambda's object stands at a, its code object at c -/
def LamAt (H : Hp) (L : Lam) (cl : List (Str × Addr)) (a c : Addr) : Prop := ∃ pm ct, H a = some (.frz (lamObj L cl pm c ct) (HX a)) ∧ H c = some (LamX.CodeO c L.q)
/-- a cell that is not written any more holds x -/
def CellR (H : Hp) (c : Addr) (x : V) : Prop := ∃ (o : Obj) (u : Value), H c = some (.frz o (HX c)) ∧ o.data = .cell (some u) ∧ RelV x u
structure ClB (L : Lam) (cl : List (Str × Addr)) (n : Nat) : Prop where
  len : L.fv.length = n
  inj : ∀ x y c, cl.lookup x = some c → cl.lookup y = some c → x = y
  sub : ∀ y c, cl.lookup y = some c → y ∈ L.fv
/-- a closure whose cells are not written any more -/
def CloR (K : KC) (H : Hp) (S : AS) (kvs : List (PyData × PyData)) (xs : List V) (v : V) : Prop :=
  ∃ f r ys L cl a c, kvs = (.list [.int f], .none) :: r ∧ xs = V.non :: ys ∧ K.lam f.toNat L ∧ v = .ref a ∧ LamAt H L cl a c ∧ ClB L cl ys.length ∧
    ∀ (i : Nat) (y : Str) (x : V), L.fv[i]? = some y → ys[i]? = some x → ∃ d, cl.lookup y = some d ∧ S d ∧ CellR H d x
/-- a closure over the running frame's names -/
def OpnR (K : KC) (H : Hp) (kvs : List (PyData × PyData)) (v : V) : Prop :=
  ∃ f js L cl a c, kvs = [(.list (.int f :: .none :: js), .none)] ∧ K.lam f.toNat L ∧ v = .ref a ∧ LamAt H L cl a c ∧ ClB L cl js.length ∧
    ∀ (i : Nat) (y : Str) (p : PyData), L.fv[i]? = some y → js[i]? = some p → ∃ d j, p = .int j ∧ cl.lookup y = some d ∧ K.cell j.toNat = some d
/-- an exception of one's own -/
def ExcR (K : KC) (H : Hp) (kvs : List (PyData × PyData)) (xs : List V) (v : V) : Prop :=
  ∃ (c c' : Int) (r : List (PyData × PyData)) (ys : List V) (Ca : Addr) (ns : List Str) (a : Addr) (d : Option Addr), kvs = (.list [.int c, .int c'], .none) :: r ∧ xs = V.non :: ys ∧ K.lam.x c.toNat = some (.ref Ca, ns) ∧ v = .ref a ∧ H a = some (exo a Ca d) ∧
    ((d = none ∧ ys = []) ∨ ∃ dx fs, d = some dx ∧ H dx = some (exd dx fs) ∧ ns.map (fun n => fs.lookup n) = ys.map some)
/-- the script -/
def ScR (K : PySem.W.Frag) (H : Hp) (S : AS) (kvs : List (PyData × PyData)) (v : V) : Prop := ∃ (ns : List Int) (a : Addr), kvs = [(.list [], .list (ns.map PyData.int))] ∧ v = .ref a ∧ ((S a ∧ Rd H a (.lst (ns.map V.int))) ∨ KnL K a (ns.map V.int))
section
variable (K : KC) (H : Hp) (S : AS)
mutual
/-- v stands for the datum; every list that it reaches is of S -/
def Rep : PyData → V → Prop
  | .none, v => v = .non
  | .bool b, v => v = .bl b
  | .int i, v => v = .int i
  | .str x, v => v = .str x
  | .list ds, v => ∃ a xs, v = .ref a ∧ S a ∧ Rd H a (.lst xs) ∧ RepL ds xs
  | .tuple ds, v => ∃ a xs, v = .ref a ∧ SqT K.fr H a xs ∧ RepL ds xs
  | .dict kvs, v => ScR K.fr H S kvs v ∨ (∃ a ks, v = .ref a ∧ S a ∧ Rd H a (.dK ks) ∧ KeyL kvs ks ∧ RepD kvs (ks.map (·.2))) ∨ OpnR K H kvs v ∨ ∃ xs, RepD kvs xs ∧ (CloR K H S kvs xs v ∨ ExcR K H kvs xs v)
def RepL : List PyData → List V → Prop
  | [], [] => True
  | d :: ds, x :: xs => Rep d x ∧ RepL ds xs
  | _, _ => False
/-- the values of a dict -/
def RepD : List (PyData × PyData) → List V → Prop
  | [], [] => True
  | (_, p) :: r, x :: xs => Rep p x ∧ RepD r xs
  | _, _ => False
end
/-- a list of one's own at a -/
def Cont (p : PyData) (o : HO) : Prop := match p, o with
  | .list ds, .lst xs => RepL K H S ds xs
  | .dict kvs, .dK ks => KeyL kvs ks ∧ RepD K H S kvs (ks.map (·.2))
  | _, _ => False
def Root (p : PyData) (a : Addr) : Prop := ∃ (_ : Unit) (o : HO), MO o ∧ H a = some o ∧ Cont K H S p o
/-- an operand: a list's own place does not matter -/
def AR : PyData → V → Prop
  | .list ds, v => ∃ a xs, v = .ref a ∧ Rd H a (.lst xs) ∧ RepL K H S ds xs
  | .dict kvs, v => (∃ a ks, v = .ref a ∧ Rd H a (.dK ks) ∧ KeyL kvs ks ∧ RepD K H S kvs (ks.map (·.2))) ∨ Rep K H S (.dict kvs) v
  | p, v => Rep K H S p v
end
section
variable {K : KC} {H H' : Hp} {S T : AS}
theorem SqL.stay {a : Addr} {xs : List V} (h : Rd H a (.lst xs)) (k : ∀ o, H a = some o → NT o → H' a = some o) : Rd H' a (.lst xs) := by
  rcases h with h | ⟨o, h⟩
  · exact .inl (k _ h fun ps z => by cases z)
  · exact .inr ⟨o, k _ h fun ps z => by cases z⟩
theorem SqT.stay {K : PySem.W.Frag} {a : Addr} {xs : List V} (h : SqT K H a xs) (k : ∀ o, H a = some o → NT o → NL o → H' a = some o) : SqT K H' a xs := by
  rcases h with (h | ⟨o, h⟩) | h
  · exact .inl (.inl (k _ h (fun ps z => by cases z) (fun z => z)))
  · exact .inl (.inr ⟨o, k _ h (fun ps z => by cases z) (fun z => z)⟩)
  · exact .inr h
theorem RdK.stay {a : Addr} {ks : List (Key × V)} (h : Rd H a (.dK ks)) (k : ∀ o, H a = some o → NT o → H' a = some o) : Rd H' a (.dK ks) := by
  rcases h with h | ⟨o, h⟩
  · exact .inl (k _ h fun ps z => by cases z)
  · exact .inr ⟨o, k _ h fun ps z => by cases z⟩
theorem LamAt.stay {L : Lam} {cl : List (Str × Addr)} {a c : Addr} (h : LamAt H L cl a c) (k : ∀ a o, H a = some o → NT o → NL o → H' a = some o) : LamAt H' L cl a c := by
  obtain ⟨pm, ct, h1, h2⟩ := h
  exact ⟨pm, ct, k _ _ h1 (fun ps z => by cases z) (fun z => z), k _ _ h2 (fun ps z => by unfold LamX.CodeO at z; cases z) (fun z => by unfold LamX.CodeO at z; exact z)⟩
theorem CellR.stay {c : Addr} {x : V} (h : CellR H c x) (k : ∀ a o, H a = some o → NT o → NL o → H' a = some o) : CellR H' c x := by
  obtain ⟨o, u, h1, h2, h3⟩ := h
  exact ⟨o, u, k _ _ h1 (fun ps z => by cases z) (fun z => z), h2, h3⟩
theorem OpnR.stay {kvs : List (PyData × PyData)} {v : V} (h : OpnR K H kvs v) (k : ∀ a o, H a = some o → NT o → NL o → H' a = some o) : OpnR K H' kvs v := by
  obtain ⟨f, js, L, cl, a, c, h1, h2, h3, h4, h5⟩ := h
  exact ⟨f, js, L, cl, a, c, h1, h2, h3, h4.stay k, h5⟩
theorem CloR.stay {kvs : List (PyData × PyData)} {xs : List V} {v : V} (h : CloR K H S kvs xs v) (k : ∀ a o, H a = some o → NT o → NL o → H' a = some o) (m : ∀ a, S a → T a) : CloR K H' T kvs xs v := by
  obtain ⟨f, r, ys, L, cl, a, c, h1, h2, h3, h4, h5, h6, h7⟩ := h
  exact ⟨f, r, ys, L, cl, a, c, h1, h2, h3, h4, h5.stay k, h6, fun i y x e1 e2 => let ⟨d, q1, q2, q3⟩ := h7 i y x e1 e2; ⟨d, q1, m d q2, q3.stay k⟩⟩
theorem exo_NL {a C : Addr} {d : Option Addr} : NL (exo a C d) := fun z => by unfold exo at z; exact z
theorem exd_NL {a : Addr} {fs : List (Str × V)} : NL (exd a fs) := fun z => by unfold exd at z; exact z
theorem exo_NT {a C : Addr} {d : Option Addr} : NT (exo a C d) := fun ps z => by unfold exo at z; cases z
theorem exd_NT {a : Addr} {fs : List (Str × V)} : NT (exd a fs) := fun ps z => by unfold exd at z; cases z
theorem ExcR.stay {kvs : List (PyData × PyData)} {xs : List V} {v : V} (h : ExcR K H kvs xs v) (k : ∀ a o, H a = some o → NT o → NL o → H' a = some o) : ExcR K H' kvs xs v := by
  obtain ⟨c, c', r, ys, Ca, ns, a, d, h1, h2, h3, h4, h5, h6⟩ := h
  refine ⟨c, c', r, ys, Ca, ns, a, d, h1, h2, h3, h4, k _ _ h5 exo_NT exo_NL, ?_⟩
  rcases h6 with h6 | ⟨dx, fs, h7, h8, h9⟩
  · exact .inl h6
  · exact .inr ⟨dx, fs, h7, k _ _ h8 exd_NT exd_NL, h9⟩
mutual
theorem Rep.stay (k : ∀ a o, H a = some o → NT o → (S a ∨ NL o) → H' a = some o) (m : ∀ a, S a → T a) : ∀ {p : PyData} {v : V}, Rep K H S p v → Rep K H' T p v
  | .none, _, h => h
  | .bool _, _, h => h
  | .int _, _, h => h
  | .str _, _, h => h
  | .list ds, _, ⟨a, xs, e, s, q, r⟩ => ⟨a, xs, e, m a s, SqL.stay q fun o z n => k a o z n (.inl s), RepL.stay k m r⟩
  | .tuple ds, _, ⟨a, xs, e, q, r⟩ => ⟨a, xs, e, SqT.stay q fun o z t n => k a o z t (.inr n), RepL.stay k m r⟩
  | .dict _, _, .inl ⟨ns, a, e1, e2, h⟩ => .inl ⟨ns, a, e1, e2, h.imp (fun ⟨s, q⟩ => ⟨m a s, SqL.stay q fun o z n => k a o z n (.inl s)⟩) id⟩
  | .dict _, _, .inr (.inl ⟨a, ks, e1, s, q, e2, r⟩) => .inr (.inl ⟨a, ks, e1, m a s, RdK.stay q fun o z n => k a o z n (.inl s), e2, RepD.stay k m r⟩)
  | .dict _, _, .inr (.inr (.inl h)) => .inr (.inr (.inl (h.stay fun a o z t n => k a o z t (.inr n))))
  | .dict _, _, .inr (.inr (.inr ⟨xs, r, h⟩)) => .inr (.inr (.inr ⟨xs, RepD.stay k m r, h.imp (fun h => h.stay (fun a o z t n => k a o z t (.inr n)) m) fun h => h.stay (fun a o z t n => k a o z t (.inr n))⟩))
theorem RepL.stay (k : ∀ a o, H a = some o → NT o → (S a ∨ NL o) → H' a = some o) (m : ∀ a, S a → T a) : ∀ {ds : List PyData} {xs : List V}, RepL K H S ds xs → RepL K H' T ds xs
  | [], [], _ => trivial
  | _ :: _, _ :: _, ⟨h, t⟩ => ⟨Rep.stay k m h, RepL.stay k m t⟩
  | [], _ :: _, h => h.elim
  | _ :: _, [], h => h.elim
theorem RepD.stay (k : ∀ a o, H a = some o → NT o → (S a ∨ NL o) → H' a = some o) (m : ∀ a, S a → T a) : ∀ {ds : List (PyData × PyData)} {xs : List V}, RepD K H S ds xs → RepD K H' T ds xs
  | [], [], _ => trivial
  | (_, _) :: _, _ :: _, ⟨h, t⟩ => ⟨Rep.stay k m h, RepD.stay k m t⟩
  | [], _ :: _, h => h.elim
  | _ :: _, [], h => h.elim
end
theorem Rep.wk (h : Rep K H S p v) (m : ∀ a, S a → T a) : Rep K H T p v := h.stay (fun _ _ e _ _ => e) m
theorem RepL.wk (h : RepL K H S ps vs) (m : ∀ a, S a → T a) : RepL K H T ps vs := h.stay (fun _ _ e _ _ => e) m
mutual
theorem Rep.flat : ∀ {p : PyData} {v : V}, flatD p = true → Rep K H S p v → Rep K H T p v
  | .none, _, _, h => h
  | .bool _, _, _, h => h
  | .int _, _, _, h => h
  | .str _, _, _, h => h
  | .list ds, _, f, _ => by simp [flatD] at f
  | .tuple ds, _, f, ⟨a, xs, e, q, r⟩ => ⟨a, xs, e, q, RepL.flat (by simpa [flatD] using f) r⟩
  | .dict _, _, f, _ => by simp [flatD] at f
theorem RepL.flat : ∀ {ds : List PyData} {xs : List V}, flatL ds = true → RepL K H S ds xs → RepL K H T ds xs
  | [], [], _, _ => trivial
  | _ :: _, _ :: _, f, ⟨h, t⟩ => by
    simp only [flatL, Bool.and_eq_true] at f
    exact ⟨Rep.flat f.1 h, RepL.flat f.2 t⟩
  | [], _ :: _, _, h => h.elim
  | _ :: _, [], _, h => h.elim
end
theorem RepL.length : ∀ {ds : List PyData} {xs : List V}, RepL K H S ds xs → ds.length = xs.length
  | [], [], _ => rfl
  | _ :: _, _ :: _, ⟨_, t⟩ => by simp [RepL.length t]
  | [], _ :: _, h => h.elim
  | _ :: _, [], h => h.elim
theorem RepL.get : ∀ {ds : List PyData} {xs : List V} {i : Nat} {d : PyData}, RepL K H S ds xs → ds[i]? = some d → ∃ x, xs[i]? = some x ∧ Rep K H S d x
  | _ :: _, _ :: _, 0, _, ⟨h, _⟩, e => by simp at e; subst e; exact ⟨_, rfl, h⟩
  | _ :: _, _ :: _, i + 1, _, ⟨_, t⟩, e => by
    obtain ⟨x, h1, h2⟩ := RepL.get (i := i) t (by simpa using e)
    exact ⟨x, by simpa using h1, h2⟩
  | [], _, _, _, _, e => by simp at e
  | _ :: _, [], _, _, h, _ => h.elim
theorem RepL.append : ∀ {ds es : List PyData} {xs ys : List V}, RepL K H S ds xs → RepL K H S es ys → RepL K H S (ds ++ es) (xs ++ ys)
  | [], _, [], _, _, h => h
  | _ :: _, _, _ :: _, _, ⟨h, t⟩, g => ⟨h, RepL.append t g⟩
  | [], _, _ :: _, _, h, _ => h.elim
  | _ :: _, _, [], _, h, _ => h.elim
theorem RepL.take : ∀ {ds : List PyData} {xs : List V} (n : Nat), RepL K H S ds xs → RepL K H S (ds.take n) (xs.take n)
  | _, _, 0, _ => trivial
  | [], [], _ + 1, _ => trivial
  | _ :: _, _ :: _, n + 1, ⟨h, t⟩ => ⟨h, RepL.take n t⟩
  | [], _ :: _, _ + 1, h => h.elim
  | _ :: _, [], _ + 1, h => h.elim
theorem RepL.drop : ∀ {ds : List PyData} {xs : List V} (n : Nat), RepL K H S ds xs → RepL K H S (ds.drop n) (xs.drop n)
  | _, _, 0, h => h
  | [], [], _ + 1, _ => trivial
  | _ :: _, _ :: _, n + 1, ⟨_, t⟩ => RepL.drop n t
  | [], _ :: _, _ + 1, h => h.elim
  | _ :: _, [], _ + 1, h => h.elim
theorem RepL.set {d : PyData} {x : V} (r : Rep K H S d x) : ∀ {ds : List PyData} {xs : List V} (i : Nat), RepL K H S ds xs → RepL K H S (ds.set i d) (xs.set i x)
  | [], [], _, _ => trivial
  | _ :: _, _ :: _, 0, ⟨_, t⟩ => ⟨r, t⟩
  | _ :: _, _ :: _, i + 1, ⟨h, t⟩ => ⟨h, RepL.set r i t⟩
  | [], _ :: _, _, h => h.elim
  | _ :: _, [], _, h => h.elim
theorem RepL.one {d : PyData} {x : V} (r : Rep K H S d x) : RepL K H S [d] [x] := ⟨r, trivial⟩
theorem RepL.mapInt (ns : List Int) : RepL K H S (ns.map PyData.int) (ns.map V.int) := by
  induction ns with
  | nil => trivial
  | cons n ns ih => exact ⟨rfl, ih⟩
theorem RepL.intsOf : ∀ {ds : List PyData} {xs : List V} {ns : List Int}, intsD ds = some ns → RepL K H S ds xs → xs = ns.map V.int
  | [], [], _, e, _ => by simp [intsD] at e; subst e; rfl
  | d :: ds, x :: xs, ns, e, ⟨h, t⟩ => by
    cases d with
    | int b =>
      simp only [intsD, Option.map_eq_some_iff] at e
      obtain ⟨ms, e1, rfl⟩ := e
      have h : x = .int b := h
      rw [h, RepL.intsOf e1 t]; rfl
    | _ => simp [intsD] at e
  | [], _ :: _, _, _, h => h.elim
  | _ :: _, [], _, _, h => h.elim
theorem RepL.boolsOf : ∀ {ds : List PyData} {xs : List V} {bs : List Bool}, boolsD ds = some bs → RepL K H S ds xs → xs = bs.map V.bl
  | [], [], _, e, _ => by simp [boolsD] at e; subst e; rfl
  | d :: ds, x :: xs, ns, e, ⟨h, t⟩ => by
    cases d with
    | bool b =>
      simp only [boolsD, Option.map_eq_some_iff] at e
      obtain ⟨ms, e1, rfl⟩ := e
      have h : x = .bl b := h
      rw [h, RepL.boolsOf e1 t]; rfl
    | _ => simp [boolsD] at e
  | [], _ :: _, _, _, h => h.elim
  | _ :: _, [], _, _, h => h.elim
mutual
theorem Rep.dp : ∀ {p : PyData} {v : V}, noD p = true → Rep K H S p v → Dp K.fr H v p
  | .none, _, _, h => by cases h; exact .non
  | .bool _, _, _, h => by cases h; exact .bl _
  | .int _, _, _, h => by cases h; exact .int _
  | .str _, _, _, h => by cases h; exact .str _
  | .list ds, _, n, ⟨a, xs, e, _, q, r⟩ => by subst e; exact .lst (.inl q) (RepL.dp n r)
  | .tuple ds, _, n, ⟨a, xs, e, q, r⟩ => by subst e; exact .tup q (RepL.dp n r)
  | .dict _, _, n, h => by simp [noD] at n
theorem RepL.dp : ∀ {ds : List PyData} {xs : List V}, noDL ds = true → RepL K H S ds xs → DpAll K.fr H xs ds
  | [], [], _, _ => .nil
  | _ :: _, _ :: _, n, ⟨h, t⟩ => by
    simp only [noDL, Bool.and_eq_true] at n
    exact .cons (Rep.dp n.1 h) (RepL.dp n.2 t)
  | [], _ :: _, _, h => h.elim
  | _ :: _, [], _, h => h.elim
end
theorem RepD.wk (h : RepD K H S ps vs) (m : ∀ a, S a → T a) : RepD K H T ps vs := h.stay (fun _ _ e _ _ => e) m
theorem AR.dp {p : PyData} {v : V} (n : noD p = true) (h : AR K H S p v) : Dp K.fr H v p := by
  cases p with
  | list ds => obtain ⟨a, xs, rfl, q, r⟩ := h; exact .lst (.inl q) (RepL.dp (by simpa [noD] using n) r)
  | dict kvs => simp [noD] at n
  | _ => exact Rep.dp (S := S) n h
theorem Rep.ar {p : PyData} {v : V} (h : Rep K H S p v) : AR K H S p v := by
  cases p with
  | list ds => obtain ⟨a, xs, rfl, _, q, r⟩ := h; exact ⟨a, xs, rfl, q, r⟩
  | dict kvs => exact .inr h
  | _ => exact h
theorem Root.mkL {ds : List PyData} {xs : List V} {a : Addr} (q : H a = some (.lst xs)) (r : RepL K H S ds xs) : Root K H S (.list ds) a := ⟨(), .lst xs, trivial, q, r⟩
theorem Root.invL {ds : List PyData} {a : Addr} (h : Root K H S (.list ds) a) : ∃ xs, H a = some (.lst xs) ∧ RepL K H S ds xs := by
  obtain ⟨_, o, m, q, r⟩ := h
  cases o <;> first | exact ⟨_, q, r⟩ | exact r.elim
theorem Root.mkD {kvs : List (PyData × PyData)} {ks : List (Key × V)} {a : Addr} (q : H a = some (.dK ks)) (e : KeyL kvs ks) (r : RepD K H S kvs (ks.map (·.2))) : Root K H S (.dict kvs) a := ⟨(), .dK ks, trivial, q, e, r⟩
theorem Root.invD {kvs : List (PyData × PyData)} {a : Addr} (h : Root K H S (.dict kvs) a) : ∃ ks, H a = some (.dK ks) ∧ KeyL kvs ks ∧ RepD K H S kvs (ks.map (·.2)) := by
  obtain ⟨_, o, m, q, r⟩ := h
  cases o <;> first | exact ⟨_, q, r⟩ | exact r.elim
theorem Root.flatF {p : PyData} {a : Addr} (h : Root K H S p a) : flatD p = false := by
  obtain ⟨_, o, _, _, r⟩ := h
  cases p with
  | list ds => rfl
  | dict ds => rfl
  | _ => exact r.elim
theorem Root.obj {p : PyData} {a : Addr} (h : Root K H S p a) : ∃ o, H a = some o ∧ MO o := let ⟨_, o, m, q, _⟩ := h; ⟨o, q, m⟩
theorem Cont.stay (k : ∀ a o, H a = some o → NT o → (S a ∨ NL o) → H' a = some o) (m : ∀ a, S a → T a) {p : PyData} {o : HO} (h : Cont K H S p o) : Cont K H' T p o := by
  cases p with
  | list ds => cases o <;> first | exact RepL.stay k m h | exact h.elim
  | dict ds => cases o <;> first | exact ⟨h.1, RepD.stay k m h.2⟩ | exact h.elim
  | _ => cases o <;> exact h.elim
theorem MO.nt {o : HO} (m : MO o) : NT o := fun ps z => by subst z; exact m
theorem Root.ar {p : PyData} {a : Addr} (h : Root K H S p a) : AR K H S p (.ref a) := by
  cases p with
  | list ds => obtain ⟨xs, q, r⟩ := h.invL; exact ⟨a, xs, rfl, .inl q, r⟩
  | dict kvs => obtain ⟨ks, q, e, r⟩ := h.invD; exact .inl ⟨a, ks, rfl, .inl q, e, r⟩
  | _ => obtain ⟨_, o, _, _, r⟩ := h; exact r.elim
theorem AR.stay (k : ∀ a o, H a = some o → NT o → H' a = some o) (m : ∀ a, S a → T a) {p : PyData} {v : V} (h : AR K H S p v) : AR K H' T p v := by
  cases p with
  | list ds => obtain ⟨a, xs, rfl, q, r⟩ := h; exact ⟨a, xs, rfl, SqL.stay q (k a), r.stay (fun a o e n _ => k a o e n) m⟩
  | dict kvs =>
    rcases h with ⟨a, ks, rfl, q, e, r⟩ | h
    · exact .inl ⟨a, ks, rfl, RdK.stay q (k a), e, r.stay (fun a o e n _ => k a o e n) m⟩
    · exact .inr (Rep.stay (fun a o e n _ => k a o e n) m h)
  | _ => exact Rep.stay (fun a o e n _ => k a o e n) m h
theorem Root.stay {p : PyData} {a : Addr} (k : ∀ b o, H b = some o → NT o → (b = a ∨ S b ∨ NL o) → H' b = some o) (m : ∀ a, S a → T a) (h : Root K H S p a) : Root K H' T p a := by
  obtain ⟨u, o, mo, q, r⟩ := h
  exact ⟨u, o, mo, k a _ q mo.nt (.inl rfl), r.stay (fun b o e n z => k b o e n (.inr z)) m⟩
theorem Root.rep {p : PyData} {a : Addr} (h : Root K H S p a) (m : ∀ b, S b → T b) (t : T a) : Rep K H T p (.ref a) := by
  cases p with
  | list ds => obtain ⟨xs, q, r⟩ := h.invL; exact ⟨a, xs, rfl, t, .inl q, r.wk m⟩
  | dict kvs => obtain ⟨ks, q, e, r⟩ := h.invD; exact .inr (.inl ⟨a, ks, rfl, t, .inl q, e, r.wk m⟩)
  | _ => obtain ⟨_, o, _, _, r⟩ := h; exact r.elim
end

section
variable {K : KC} {H : Hp} {S : AS}
theorem Rep.dref {kvs : List (PyData × PyData)} {v : V} (h : Rep K H S (.dict kvs) v) : ∃ a, v = .ref a := by
  rcases h with ⟨_, a, _, e, _⟩ | ⟨a, _, e, _⟩ | ⟨_, _, _, _, a, _, _, _, e, _⟩ | ⟨_, _, ⟨_, _, _, _, _, a, _, _, _, _, e, _⟩ | ⟨_, _, _, _, _, _, a, _, _, _, _, e, _⟩⟩ <;> exact ⟨a, e⟩
theorem AR.dref {kvs : List (PyData × PyData)} {v : V} (h : AR K H S (.dict kvs) v) : ∃ a, v = .ref a := by
  rcases h with ⟨a, _, e, _⟩ | h
  · exact ⟨a, e⟩
  · exact h.dref
theorem keyL_list {kvs : List (PyData × PyData)} {ks : List (Key × V)} {ds : List PyData} (e : scrOf kvs = some ds) (h : KeyL kvs ks) : False := by
  unfold scrOf at e
  split at e
  · cases ks <;> simp [KeyL, keyD] at h
  · cases e
theorem Rep.scr {kvs : List (PyData × PyData)} {ds : List PyData} {v : V} (e : scrOf kvs = some ds) (h : Rep K H S (.dict kvs) v) : ScR K.fr H S kvs v := by
  rcases h with h | ⟨_, _, _, _, _, h, _⟩ | ⟨f, js, _, _, _, _, rfl, _⟩ | ⟨_, _, ⟨f, r, _, _, _, _, _, rfl, _⟩ | ⟨f, f', r, _, _, _, _, _, rfl, _⟩⟩
  · exact h
  · exact (keyL_list e h).elim
  · cases e
  · cases r <;> cases e
  · cases r <;> cases e
theorem AR.scr {kvs : List (PyData × PyData)} {ds : List PyData} {v : V} (e : scrOf kvs = some ds) (h : AR K H S (.dict kvs) v) : ScR K.fr H S kvs v := by
  rcases h with ⟨_, _, _, _, h, _⟩ | h
  · exact (keyL_list e h).elim
  · exact h.scr e
end
theorem keyL_head {l : List PyData} {p : PyData} {r : List (PyData × PyData)} {ks : List (Key × V)} (h : KeyL ((.list l, p) :: r) ks) : False := by cases ks <;> simp [KeyL, keyD] at h
theorem Rep.dct {K : KC} {H : Hp} {S : AS} {kvs : List (PyData × PyData)} {ks : List (Key × V)} {v : V} (e : KeyL kvs ks) (h : Rep K H S (.dict kvs) v) : ∃ a ks, v = .ref a ∧ S a ∧ Rd H a (.dK ks) ∧ KeyL kvs ks ∧ RepD K H S kvs (ks.map (·.2)) := by
  rcases h with ⟨_, _, rfl, _⟩ | h | ⟨f, js, _, _, _, _, rfl, _⟩ | ⟨_, _, ⟨f, r, _, _, _, _, _, rfl, _⟩ | ⟨f, f', r, _, _, _, _, _, rfl, _⟩⟩
  · exact (keyL_head e).elim
  · exact h
  · exact (keyL_head e).elim
  · exact (keyL_head e).elim
  · exact (keyL_head e).elim
theorem tabs_mv {T : List (Addr × Str)} {H H' : Hp} (t : LamX.Tabs T H) (k : ∀ b o, H b = some o → NL o → H' b = some o) : LamX.Tabs T H' := fun p hp => by
  obtain ⟨ps, h1, h2, h3⟩ := t p hp
  refine ⟨ps, k _ _ h1 (fun z => z), h2, fun pos cv hc => ?_⟩
  obtain ⟨c, e1, e2⟩ := h3 pos cv hc
  exact ⟨c, e1, k _ _ e2 (fun z => by unfold LamX.CodeO at z; exact z)⟩
/-! ### the state -/
/-- what a frame's judgements know: the known objects, the classes of exceptions, the exception that is held -/
structure RK where
  fr : KC
  xa : Addr
  xc : Value
  xd : Option Addr
abbrev RK.ct (C : RK) : Nat → Option (Value × List Str) := C.fr.lam.x
abbrev RK.base (C : RK) : RK := { C with fr := C.fr.base }
/-- an exception of the class c with the payload ps -/
def Pay (C : RK) (H : Hp) (T : AS) (c : Nat) (ps : List PyData) (cls : Value) (d : Option Addr) : Prop :=
  ∃ ns vs, C.ct c = some (cls, ns) ∧ RepL C.fr H T ps vs ∧ ((ns = [] ∧ ps = [] ∧ d = none) ∨ ∃ dd fs, d = some dd ∧ H dd = some (.xd fs) ∧ ns.map (fun n => fs.lookup n) = vs.map some)
theorem Pay.stay {C : RK} {H H' : Hp} {S T : AS} {c : Nat} {ps : List PyData} {cls : Value} {d : Option Addr} (h : Pay C H S c ps cls d) (k : ∀ a o, H a = some o → NT o → (S a ∨ NL o) → H' a = some o) (m : ∀ a, S a → T a) : Pay C H' T c ps cls d := by
  obtain ⟨ns, vs, e, r, z⟩ := h
  refine ⟨ns, vs, e, r.stay k m, ?_⟩
  rcases z with z | ⟨dd, fs, e1, e2, e3⟩
  · exact .inl z
  · exact .inr ⟨dd, fs, e1, k _ _ e2 (fun ps z => by cases z) (.inr fun z => z), e3⟩
section
variable (C : RK)
/-- slot i's own object -/
def Own (σ : L2.St) (ρ : Rho) (i : Nat) (a : Addr) : Prop := ∃ s : Slot, ρ[i]? = some s ∧ s.mine = true ∧ σ[i]? = some (some (.ref a))
def Owns (σ : L2.St) (ρ : Rho) (is : List Nat) (a : Addr) : Prop := ∃ i, i ∈ is ∧ Own σ ρ i a
structure RepS (H : Hp) (S : AS) (σ : L2.St) (ρ : Rho) : Prop where
  len : σ.length = ρ.length
  fz : ∀ (i : Nat) (p : PyData), ρ[i]? = some (.fz p) → ∃ v, σ[i]? = some (some v) ∧ Rep C.fr H S p v
  my : ∀ (i : Nat) (s : Slot) (p : PyData), ρ[i]? = some s → s.mine = true → s.val? = some p → ∃ a, σ[i]? = some (some (.ref a)) ∧ ¬ S a ∧ Root C.fr H S p a
  sep : ∀ i j a, Own σ ρ i a → Own σ ρ j a → i = j
  dom : ∀ a, S a → ∃ o, H a = some o
  tab : LamX.Tabs C.fr.tabs H
  exq : ∀ (i c : Nat) (ps : List PyData), ρ[i]? = some (.ex c ps) → σ[i]? = some (some (.ref C.xa)) ∧ Pay C H S c ps C.xc C.xd
end
end PyC
end

section
set_option maxHeartbeats 200000
namespace PyC
open PySem PySem.Spec L2

/-- only objects of the slots ms are changed -/
structure Chg (ρ ρ' : Rho) (ms : List Nat) : Prop where
  len : ρ'.length = ρ.length
  out : ∀ i : Nat, i ∉ ms → ρ'[i]? = ρ[i]?
  in_ : ∀ i : Nat, ρ'[i]? = ρ[i]? ∨ ∃ p p' : PyData, ρ[i]? = some (.my p) ∧ ρ'[i]? = some (.my p')
theorem Chg.refl (ρ : Rho) (ms : List Nat) : Chg ρ ρ ms := ⟨rfl, fun _ _ => rfl, fun _ => .inl rfl⟩
theorem Chg.mono {ρ ρ' : Rho} {ms ns : List Nat} (c : Chg ρ ρ' ms) (h : ∀ i ∈ ms, i ∈ ns) : Chg ρ ρ' ns := ⟨c.len, fun i hi => c.out i fun z => hi (h i z), c.in_⟩
theorem Chg.trans {ρ ρ1 ρ2 : Rho} {ms ns : List Nat} (a : Chg ρ ρ1 ms) (b : Chg ρ1 ρ2 ns) : Chg ρ ρ2 (ms ++ ns) := by
  refine ⟨b.len.trans a.len, fun i hi => ?_, fun i => ?_⟩
  · rw [List.mem_append, not_or] at hi
    rw [b.out i hi.2, a.out i hi.1]
  · rcases b.in_ i with e | ⟨p, p', e1, e2⟩
    · rw [e]; exact a.in_ i
    · rcases a.in_ i with e | ⟨q, q', e3, e4⟩
      · exact .inr ⟨p, p', by rw [← e]; exact e1, e2⟩
      · exact .inr ⟨q, p', e3, e2⟩
theorem Chg.own {σ : L2.St} {ρ ρ' : Rho} {ms : List Nat} (c : Chg ρ ρ' ms) {i : Nat} {a : Addr} : Own σ ρ' i a ↔ Own σ ρ i a := by
  rcases c.in_ i with e | ⟨p, p', e1, e2⟩
  · unfold Own; rw [e]
  · unfold Own
    rw [e1, e2]
    constructor
    · rintro ⟨s, _, _, h⟩; exact ⟨_, rfl, rfl, h⟩
    · rintro ⟨s, _, _, h⟩; exact ⟨_, rfl, rfl, h⟩
theorem Chg.owns {σ : L2.St} {ρ ρ' : Rho} {ms is : List Nat} (c : Chg ρ ρ' ms) {a : Addr} : Owns σ ρ' is a ↔ Owns σ ρ is a := by
  unfold Owns
  constructor
  · rintro ⟨i, hi, h⟩; exact ⟨i, hi, c.own.mp h⟩
  · rintro ⟨i, hi, h⟩; exact ⟨i, hi, c.own.mpr h⟩
theorem Owns.mono {σ : L2.St} {ρ : Rho} {is js : List Nat} {a : Addr} (h : ∀ i ∈ is, i ∈ js) (o : Owns σ ρ is a) : Owns σ ρ js a := by
  obtain ⟨i, hi, z⟩ := o
  exact ⟨i, h i hi, z⟩
theorem Owns.nil {σ : L2.St} {ρ : Rho} {a : Addr} : ¬ Owns σ ρ [] a := fun ⟨_, h, _⟩ => by cases h
theorem Owns.app {σ : L2.St} {ρ : Rho} {is js : List Nat} {a : Addr} (o : Owns σ ρ (is ++ js) a) : Owns σ ρ is a ∨ Owns σ ρ js a := by
  obtain ⟨i, hi, z⟩ := o
  rcases List.mem_append.mp hi with h | h
  · exact .inl ⟨i, h, z⟩
  · exact .inr ⟨i, h, z⟩

section
variable {C : RK} {H H' : Hp} {S : AS} {σ : L2.St} {ρ : Rho}
theorem RepS.own (R : RepS C H S σ ρ) {i : Nat} {a : Addr} (o : Own σ ρ i a) : ¬ S a ∧ ∃ p, Root C.fr H S p a := by
  obtain ⟨s, h1, h2, h3⟩ := o
  have : ∃ p, s.val? = some p := by cases s <;> simp_all [Slot.mine, Slot.val?]
  obtain ⟨p, hp⟩ := this
  obtain ⟨b, e, n, r⟩ := R.my i s p h1 h2 hp
  rw [h3] at e; cases e
  exact ⟨n, p, r⟩
theorem RepS.owns (R : RepS C H S σ ρ) {is : List Nat} {a : Addr} (o : Owns σ ρ is a) : ¬ S a ∧ ∃ o, H a = some o ∧ MO o := by
  obtain ⟨i, _, o⟩ := o
  obtain ⟨n, p, r⟩ := R.own o
  exact ⟨n, r.obj⟩
/-- objects that are none of the frame's own are kept -/
theorem RepS.ext (R : RepS C H S σ ρ) (k : ∀ a o, H a = some o → H' a = some o) : RepS C H' S σ ρ := by
  refine ⟨R.len, fun i p e => ?_, fun i s p e1 e2 e3 => ?_, R.sep, fun a h => ?_, R.tab.ext k, fun i c ps e => ?_⟩
  · obtain ⟨v, h1, h2⟩ := R.fz i p e
    exact ⟨v, h1, h2.stay (fun a o e _ _ => k a o e) fun _ z => z⟩
  · obtain ⟨a, h1, h2, h3⟩ := R.my i s p e1 e2 e3
    exact ⟨a, h1, h2, h3.stay (fun a o e _ _ => k a o e) fun _ z => z⟩
  · obtain ⟨o, e⟩ := R.dom a h
    exact ⟨o, k a o e⟩
  · obtain ⟨h1, h2⟩ := R.exq i c ps e
    exact ⟨h1, h2.stay (fun a o e _ _ => k a o e) fun _ z => z⟩
end

/-- slot i's own object, that may be changed -/
def OwnM (σ : L2.St) (ρ : Rho) (i : Nat) (a : Addr) : Prop := ∃ p : PyData, ρ[i]? = some (.my p) ∧ σ[i]? = some (some (.ref a))
def OwnsM (σ : L2.St) (ρ : Rho) (is : List Nat) (a : Addr) : Prop := ∃ i, i ∈ is ∧ OwnM σ ρ i a
theorem OwnM.own {σ : L2.St} {ρ : Rho} {i : Nat} {a : Addr} (o : OwnM σ ρ i a) : Own σ ρ i a := let ⟨p, h1, h2⟩ := o; ⟨.my p, h1, rfl, h2⟩
theorem OwnsM.owns {σ : L2.St} {ρ : Rho} {is : List Nat} {a : Addr} (o : OwnsM σ ρ is a) : Owns σ ρ is a := let ⟨i, h, o⟩ := o; ⟨i, h, o.own⟩
theorem OwnsM.mono {σ : L2.St} {ρ : Rho} {is js : List Nat} {a : Addr} (h : ∀ i ∈ is, i ∈ js) (o : OwnsM σ ρ is a) : OwnsM σ ρ js a := let ⟨i, hi, z⟩ := o; ⟨i, h i hi, z⟩
theorem Chg.ownM {σ : L2.St} {ρ ρ' : Rho} {ms : List Nat} (c : Chg ρ ρ' ms) {i : Nat} {a : Addr} : OwnM σ ρ' i a ↔ OwnM σ ρ i a := by
  rcases c.in_ i with e | ⟨p, p', e1, e2⟩
  · unfold OwnM; rw [e]
  · unfold OwnM
    rw [e1, e2]
    exact ⟨fun ⟨_, _, h⟩ => ⟨_, rfl, h⟩, fun ⟨_, _, h⟩ => ⟨_, rfl, h⟩⟩
theorem Chg.ownsM {σ : L2.St} {ρ ρ' : Rho} {ms is : List Nat} (c : Chg ρ ρ' ms) {a : Addr} : OwnsM σ ρ' is a ↔ OwnsM σ ρ is a :=
  ⟨fun ⟨i, hi, h⟩ => ⟨i, hi, c.ownM.mp h⟩, fun ⟨i, hi, h⟩ => ⟨i, hi, c.ownM.mpr h⟩⟩
/-- a step from H, ρ to H', ρ' -/
structure Stp (H H' : Hp) (σ : L2.St) (ρ ρ' : Rho) (ms : List Nat) : Prop where
  chg : Chg ρ ρ' ms
  mvM : ∀ a o, H a = some o → NT o → ¬ OwnsM σ ρ ms a → H' a = some o
  th : ∀ a o, H a = some o → ∃ o', H' a = some o'
theorem Stp.mv {H H' : Hp} {σ : L2.St} {ρ ρ' : Rho} {ms : List Nat} (s : Stp H H' σ ρ ρ' ms) (a : Addr) (o : HO) (e : H a = some o) (t : NT o) (n : ¬ Owns σ ρ ms a) : H' a = some o := s.mvM a o e t fun w => n w.owns
/-- what a value may reach: what is not changed any more, the slots' own, what is new -/
structure Bd (H H' : Hp) (S : AS) (σ : L2.St) (ρ : Rho) (as : List Nat) (T : AS) : Prop where
  bd : ∀ a, T a → S a ∨ Owns σ ρ as a ∨ H a = none
  dm : ∀ a, T a → ∃ o, H' a = some o
def Val (K : KC) (H H' : Hp) (T : AS) (v : Bool × PyData) (x : V) : Prop :=
  if v.1 = true then ∃ t, x = .ref t ∧ H t = none ∧ ¬ T t ∧ Root K H' T v.2 t else Rep K H' T v.2 x

section
variable {C : RK} {H H1 H2 : Hp} {S T : AS} {σ : L2.St} {ρ ρ1 ρ2 : Rho} {ms ns as bs : List Nat}
theorem Stp.refl : Stp H H σ ρ ρ ms := ⟨.refl _ _, fun _ _ e _ _ => e, fun _ o e => ⟨o, e⟩⟩
theorem Stp.trans (a : Stp H H1 σ ρ ρ1 ms) (b : Stp H1 H2 σ ρ1 ρ2 ns) : Stp H H2 σ ρ ρ2 (ms ++ ns) :=
  ⟨a.chg.trans b.chg, fun c o e t n => b.mvM c o (a.mvM c o e t fun z => n (z.mono fun i h => List.mem_append_left _ h)) t fun z => n ((a.chg.ownsM.mp z).mono fun i h => List.mem_append_right _ h), fun c o e => let ⟨o', e'⟩ := a.th c o e; b.th c o' e'⟩
theorem Stp.mono (a : Stp H H1 σ ρ ρ1 ms) (h : ∀ i ∈ ms, i ∈ ns) : Stp H H1 σ ρ ρ1 ns := ⟨a.chg.mono h, fun c o e t n => a.mvM c o e t fun z => n (z.mono h), a.th⟩
theorem Stp.ext (a : Stp H H1 σ ρ ρ1 ms) (k : ∀ a o, H1 a = some o → H2 a = some o) : Stp H H2 σ ρ ρ1 ms := ⟨a.chg, fun c o e t n => k c o (a.mvM c o e t n), fun c o e => let ⟨o', e'⟩ := a.th c o e; ⟨o', k c o' e'⟩⟩
/-- what was there is there -/
theorem Stp.there (a : Stp H H1 σ ρ ρ1 ms) (R1 : RepS C H1 S σ ρ1) {c : Addr} {o : HO} (e : H c = some o) : ∃ o', H1 c = some o' := a.th c o e
theorem Stp.new (a : Stp H H1 σ ρ ρ1 ms) (R1 : RepS C H1 S σ ρ1) {c : Addr} (e : H1 c = none) : H c = none := by
  cases q : H c with
  | none => rfl
  | some o =>
    obtain ⟨o', e'⟩ := a.there R1 q
    rw [e] at e'; cases e'
theorem Bd.mono (b : Bd H H1 S σ ρ as T) (h : ∀ i ∈ as, i ∈ bs) : Bd H H1 S σ ρ bs T := ⟨fun a t => (b.bd a t).imp id (Or.imp (fun z => z.mono h) id), b.dm⟩
theorem Bd.ext (b : Bd H H1 S σ ρ as T) (k : ∀ a o, H1 a = some o → H2 a = some o) : Bd H H2 S σ ρ as T := ⟨b.bd, fun a t => let ⟨o, e⟩ := b.dm a t; ⟨o, k a o e⟩⟩
/-- after a further step -/
theorem Bd.step (b : Bd H H1 S σ ρ as T) (R2 : RepS C H2 S σ ρ2) (st : Stp H1 H2 σ ρ1 ρ2 ns) : Bd H H2 S σ ρ as T := ⟨b.bd, fun a t => let ⟨_, e⟩ := b.dm a t; st.there R2 e⟩
/-- seen from an earlier state -/
theorem Bd.back (b : Bd H1 H2 S σ ρ1 as T) (R1 : RepS C H1 S σ ρ1) (st : Stp H H1 σ ρ ρ1 ms) : Bd H H2 S σ ρ as T :=
  ⟨fun a t => (b.bd a t).imp id (Or.imp (fun z => st.chg.owns.mp z) fun z => st.new R1 z), b.dm⟩
theorem Bd.union {T' : AS} (b : Bd H H1 S σ ρ as T) (c : Bd H H1 S σ ρ bs T') : Bd H H1 S σ ρ (as ++ bs) fun a => T a ∨ T' a :=
  ⟨fun a t => t.elim (fun z => (b.bd a z).imp id (Or.imp (fun y => y.mono fun i h => List.mem_append_left _ h) id)) fun z => (c.bd a z).imp id (Or.imp (fun y => y.mono fun i h => List.mem_append_right _ h) id),
    fun a t => t.elim (b.dm a) (c.dm a)⟩
theorem Bd.none (R : RepS C H S σ ρ) : Bd H H S σ ρ as S := ⟨fun a t => .inl t, R.dom⟩
/-- two states of the same object -/
theorem meets_no {as bs : List Nat} (h : meets as bs = false) {i : Nat} (ha : i ∈ as) (hb : i ∈ bs) : False := by
  unfold meets at h
  have z := List.any_eq_false.mp h i ha
  exact z (List.contains_iff_mem.mpr hb)
/-- a value stays, if nothing that it reaches is changed -/
theorem Val.stay {v : Bool × PyData} {x : V} (h : Val C.fr H H1 T v x) (R : RepS C H S σ ρ) (R1 : RepS C H1 S σ ρ1) (b : Bd H H1 S σ ρ as T) (st0 : Stp H H1 σ ρ ρ1 ms) (st : Stp H1 H2 σ ρ1 ρ2 ns) (n : meets as ns = false ∨ flatD v.2 = true) :
    Val C.fr H H2 T v x := by
  have key : ∀ a o, H1 a = some o → Owns σ ρ1 ns a → NL o → False := fun a o e w z => by
    obtain ⟨_, xs, e', mo⟩ := R1.owns w
    rw [e] at e'; cases e'; exact z mo
  by_cases hf : flatD v.2 = true
  · unfold Val at h ⊢
    split
    · rename_i hv
      rw [if_pos hv] at h
      obtain ⟨t, rfl, e, nt, r⟩ := h
      rw [r.flatF] at hf; cases hf
    · rename_i hv
      rw [if_neg hv] at h
      have h0 : Rep C.fr H1 (fun _ => False) v.2 x := h.flat hf
      exact (h0.stay (T := fun _ => False) (fun a o e t z => st.mv a o e t fun w => by
        rcases z with z | z
        · exact z.elim
        · exact key a o e w z) fun _ z => z).wk fun _ z => z.elim
  · have hm : meets as ns = false := n.resolve_right hf
    have tn : ∀ a, T a → ¬ Owns σ ρ1 ns a := fun a t w => by
      have w0 := st0.chg.owns.mp w
      rcases b.bd a t with s | o | e
      · exact (R.owns w0).1 s
      · obtain ⟨i, hi, oi⟩ := o
        obtain ⟨j, hj, oj⟩ := w0
        have := R.sep i j a oi oj
        subst this
        exact meets_no hm hi hj
      · obtain ⟨_, xs, e', _⟩ := R.owns w0
        rw [e] at e'; cases e'
    unfold Val at h ⊢
    split
    · rename_i hv
      rw [if_pos hv] at h
      obtain ⟨t, rfl, e, nt, r⟩ := h
      refine ⟨t, rfl, e, nt, r.stay (fun a o e' t z => st.mv a o e' t fun w => ?_) fun _ z => z⟩
      rcases z with z | z | z
      · subst z
        obtain ⟨_, xs, e2, _⟩ := R.owns (st0.chg.owns.mp w)
        rw [e] at e2; cases e2
      · exact tn a z w
      · exact key a o e' w z
    · rename_i hv
      rw [if_neg hv] at h
      refine h.stay (fun a o e' t z => st.mv a o e' t fun w => ?_) fun _ z => z
      rcases z with z | z
      · exact tn a z w
      · exact key a o e' w z
theorem Val.back {v : Bool × PyData} {x : V} (h : Val C.fr H1 H2 T v x) (k : ∀ c, H1 c = none → H c = none) : Val C.fr H H2 T v x := by
  unfold Val at h ⊢
  split
  · rename_i hv
    rw [if_pos hv] at h
    obtain ⟨t, e, n, r⟩ := h
    exact ⟨t, e, k t n, r⟩
  · rename_i hv
    rw [if_neg hv] at h
    exact h
end

/-! ### expressions -/
/-- e as an operand: its own place does not matter, if it is a name -/
def al1 (e : CE) : List Nat := if e.isVar then [] else al e
def Opd (K : KC) (H H' : Hp) (S : AS) (σ : L2.St) (ρ : Rho) (e : CE) (p : PyData) (x : V) : Prop := ∃ T0 : AS, Bd H H' S σ ρ (al1 e) T0 ∧ AR K H' T0 p x
theorem al1_sub {e : CE} : ∀ i ∈ al1 e, i ∈ al e := fun i h => by
  unfold al1 at h
  split at h
  · cases h
  · exact h
theorem Opd.stay {C : RK} {H H1 H2 : Hp} {S T : AS} {σ : L2.St} {ρ ρ1 ρ2 : Rho} {ms ns : List Nat} {e : CE} {v : Bool × PyData} {x : V} (o : Opd C.fr H H1 S σ ρ e v.2 x) (h : Val C.fr H H1 T v x) (R : RepS C H S σ ρ) (R1 : RepS C H1 S σ ρ1) (R2 : RepS C H2 S σ ρ2)
    (b : Bd H H1 S σ ρ (al e) T) (st0 : Stp H H1 σ ρ ρ1 ms) (st : Stp H1 H2 σ ρ1 ρ2 ns) (n : meets (al e) ns = false ∨ flatD v.2 = true) : Opd C.fr H H2 S σ ρ e v.2 x := by
  obtain ⟨T0, b0, a0⟩ := o
  have key : ∀ a o, H1 a = some o → Owns σ ρ1 ns a → NL o → False := fun a o e w z => by
    obtain ⟨_, xs, e', mo⟩ := R1.owns w
    rw [e] at e'; cases e'; exact z mo
  obtain ⟨w, p⟩ := v
  by_cases hf : flatD p = true
  · refine ⟨T0, b0.step R2 st, ?_⟩
    have a1 : Rep C.fr H1 T0 p x := by cases p <;> first | exact a0 | simp [flatD] at hf
    have a2 : Rep C.fr H1 (fun _ => False) p x := a1.flat hf
    have a3 : Rep C.fr H2 (fun _ => False) p x := a2.stay (fun a o e t z => st.mv a o e t fun w => by
        rcases z with z | z
        · exact z.elim
        · exact key a o e w z) fun _ z => z
    exact (a3.wk fun _ z => z.elim).ar
  · have hm : meets (al e) ns = false := n.resolve_right hf
    have bad : ∀ a, (S a ∨ Owns σ ρ (al e) a ∨ H a = none) → ¬ Owns σ ρ1 ns a := fun a t w => by
      have w0 := st0.chg.owns.mp w
      rcases t with s | o | e
      · exact (R.owns w0).1 s
      · obtain ⟨i, hi, oi⟩ := o
        obtain ⟨j, hj, oj⟩ := w0
        have := R.sep i j a oi oj
        subst this
        exact meets_no hm hi hj
      · obtain ⟨_, xs, e', _⟩ := R.owns w0
        rw [e] at e'; cases e'
    have el : ∀ a, T0 a → ¬ Owns σ ρ1 ns a := fun a t => bad a ((b0.bd a t).imp id (Or.imp (fun z => z.mono al1_sub) id))
    have st' : ∀ a o, H1 a = some o → NT o → (T0 a ∨ NL o) → H2 a = some o := fun a o e t z => st.mv a o e t fun w => by
      rcases z with z | z
      · exact el a z w
      · exact key a o e w z
    refine ⟨T0, b0.step R2 st, ?_⟩
    cases p with
    | list ds =>
      obtain ⟨a, xs, rfl, q, r⟩ := a0
      have ra : ¬ Owns σ ρ1 ns a := by
        unfold Val at h
        split at h
        · obtain ⟨t, e5, n0, _⟩ := h
          cases e5
          exact bad a (.inr (.inr n0))
        · obtain ⟨a', zs, e5, ta, _⟩ := h
          cases e5
          exact bad a (b.bd a ta)
      exact ⟨a, xs, rfl, SqL.stay q fun o e t => st.mv a o e t ra, r.stay st' fun _ z => z⟩
    | dict kvs =>
      rcases a0 with ⟨a, ks, rfl, q, ek, r⟩ | a0
      · have ra : ¬ Owns σ ρ1 ns a := by
          unfold Val at h
          split at h
          · obtain ⟨t, e5, n0, _⟩ := h
            cases e5
            exact bad a (.inr (.inr n0))
          · obtain ⟨a', _, e5, ta, _⟩ := Rep.dct ek h
            cases e5
            exact bad a (b.bd a ta)
        exact .inl ⟨a, ks, rfl, RdK.stay q fun o e t => st.mv a o e t ra, ek, r.stay st' fun _ z => z⟩
      · exact .inr (Rep.stay st' (fun _ z => z) a0)
    | _ => exact Rep.stay st' (fun _ z => z) a0
theorem Opd.back {C : RK} {H H1 H2 : Hp} {S : AS} {σ : L2.St} {ρ ρ1 : Rho} {ms : List Nat} {e : CE} {p : PyData} {x : V} (o : Opd C.fr H1 H2 S σ ρ1 e p x) (R1 : RepS C H1 S σ ρ1) (st : Stp H H1 σ ρ ρ1 ms) : Opd C.fr H H2 S σ ρ e p x :=
  let ⟨T0, b0, a0⟩ := o
  ⟨T0, b0.back R1 st, a0⟩
/-! ### outcomes -/
def Res {α : Type} (o : Out α) (P : α → Rho → Prop) (E : Nat → List PyData → Rho → Prop) : Prop := match o with
  | .stuck => False
  | .ok a ρ => P a ρ
  | .exc c ps ρ => E c ps ρ
theorem Res.imp {α : Type} {o : Out α} {P P' : α → Rho → Prop} {E E' : Nat → List PyData → Rho → Prop} (h : Res o P E) (p : ∀ a ρ, P a ρ → P' a ρ) (e : ∀ c ps ρ, E c ps ρ → E' c ps ρ) : Res o P' E' := by
  cases o with
  | stuck => exact h
  | ok a ρ => exact p a ρ h
  | exc c ps ρ => exact e c ps ρ h
theorem Res.bind {α β : Type} {o : Out α} {f : α → Rho → Out β} {P : β → Rho → Prop} {E : Nat → List PyData → Rho → Prop} (h : Res (o.bind f) P E) : Res o (fun a ρ => Res (f a ρ) P E) E := by
  cases o with
  | stuck => exact h
  | ok a ρ => exact h
  | exc c ps ρ => exact h
theorem Res.calm {α : Type} {o : Out α} {P : α → Rho → Prop} {E E' : Nat → List PyData → Rho → Prop} (h : Res o.calm P E) : Res o P E' := by
  cases o with
  | stuck => exact h
  | ok a ρ => exact h
  | exc c ps ρ => exact h.elim
section
variable (C : RK) (call : CallT) (W : WX)
/-- what a run of one's own may raise -/
def tX (H : Hp) (S : AS) (σ : L2.St) (ρ : Rho) : Nat → List PyData → Rho → Prop := fun c ps ρ' =>
  ∀ cls d H' T ms as, RepS C H' S σ ρ' → Stp H H' σ ρ ρ' ms → Bd H H' S σ ρ as T → Pay C H' T c ps cls d → W cls d σ H'
/-- the run of e, from a state of ρ -/
def tE (e : CE) : TE := fun σ H Q => ∃ ρ S, RepS C H S σ ρ ∧ Res (evE call e ρ) (fun v ρ' =>
  ∀ x H' T, RepS C H' S σ ρ' → Stp H H' σ ρ ρ' (muts e) → Bd H H' S σ ρ (al e) T → Val C.fr H H' T v x → Opd C.fr H H' S σ ρ e v.2 x → Q x H')
  (tX C W H S σ ρ)
/-- new objects among the values -/
def fresh : List (Bool × PyData) → List V → List Addr
  | (true, _) :: vs, (.ref a) :: xs => a :: fresh vs xs
  | _ :: vs, _ :: xs => fresh vs xs
  | _, _ => []
def ValL (K : KC) (H H' : Hp) (S : AS) (σ : L2.St) (ρ : Rho) (T : AS) : CEs → List (Bool × PyData) → List V → Prop
  | .nil, [], [] => True
  | .cons e es, v :: vs, x :: xs => (∃ T1 : AS, (∀ a, T1 a → T a) ∧ Bd H H' S σ ρ (al e) T1 ∧ Val K H H' T1 v x ∧ Opd K H H' S σ ρ e v.2 x ∧ (v.1 = true → ∀ t, x = .ref t → ¬ T t)) ∧ ValL K H H' S σ ρ T es vs xs
  | _, _, _ => False
def tEs (es : CEs) : TA := fun σ H Q => ∃ ρ S, RepS C H S σ ρ ∧ Res (evEs call es ρ) (fun vs ρ' =>
  ∀ xs H' T, RepS C H' S σ ρ' → Stp H H' σ ρ ρ' (mutsL es) → Bd H H' S σ ρ (alL es) T → ValL C.fr H H' S σ ρ T es vs xs → (fresh vs xs).Nodup → (∀ t ∈ fresh vs xs, H t = none) → Q xs H')
  (tX C W H S σ ρ)
end
section
variable {C : RK} {call : CallT} {W : WX}
theorem tE.mono {e : CE} {σ : L2.St} {H : Hp} {Q Q' : VK} (h : tE C call W e σ H Q) (m : ∀ x H, Q x H → Q' x H) : tE C call W e σ H Q' := by
  obtain ⟨ρ, S, R, k⟩ := h
  exact ⟨ρ, S, R, k.imp (fun v ρ' k x H' T a b c d f => m x H' (k x H' T a b c d f)) fun _ _ _ z => z⟩
theorem tEs.mono {es : CEs} {σ : L2.St} {H : Hp} {Q Q' : List V → Hp → Prop} (h : tEs C call W es σ H Q) (m : ∀ x H, Q x H → Q' x H) : tEs C call W es σ H Q' := by
  obtain ⟨ρ, S, R, k⟩ := h
  exact ⟨ρ, S, R, k.imp (fun v ρ' k x H' T a b c d f g => m x H' (k x H' T a b c d f g)) fun _ _ _ z => z⟩
/-- seen from an earlier state -/
theorem tX.back {H H1 : Hp} {S : AS} {σ : L2.St} {ρ ρ1 : Rho} {ms : List Nat} {c : Nat} {ps : List PyData} {ρ' : Rho} (R1 : RepS C H1 S σ ρ1) (st : Stp H H1 σ ρ ρ1 ms) (h : tX C W H S σ ρ c ps ρ') : tX C W H1 S σ ρ1 c ps ρ' :=
  fun cls d H' T ns as r s b p => h cls d H' T (ms ++ ns) as r (st.trans s) (b.back R1 st) p
theorem fresh_cons {v : Bool × PyData} {vs : List (Bool × PyData)} {x : V} {xs : List V} : ∀ t, t ∈ fresh (v :: vs) (x :: xs) ↔ (v.1 = true ∧ x = .ref t) ∨ t ∈ fresh vs xs := by
  intro t
  obtain ⟨b, p⟩ := v
  cases b <;> cases x <;> simp [fresh, eq_comm]
theorem ValL.mono {H H' : Hp} {S T T' : AS} {σ : L2.St} {ρ : Rho} (m : ∀ a, T a → T' a) : ∀ {es : CEs} {vs : List (Bool × PyData)} {xs : List V}, ValL C.fr H H' S σ ρ T es vs xs → (∀ t ∈ fresh vs xs, ¬ T' t) → ValL C.fr H H' S σ ρ T' es vs xs
  | .nil, [], [], _, _ => trivial
  | .cons e es, v :: vs, x :: xs, ⟨⟨T1, h1, h2, h3, h4, h5⟩, t⟩, n =>
    ⟨⟨T1, fun a z => m a (h1 a z), h2, h3, h4, fun hv t ht => n t ((fresh_cons t).mpr (.inl ⟨hv, ht⟩))⟩, ValL.mono m t fun t ht => n t ((fresh_cons t).mpr (.inr ht))⟩
  | .nil, _ :: _, _, h, _ => h.elim
  | .nil, [], _ :: _, h, _ => h.elim
  | .cons _ _, [], _, h, _ => h.elim
  | .cons _ _, _ :: _, [], h, _ => h.elim
theorem ValL.back {H H1 H2 : Hp} {S T : AS} {σ : L2.St} {ρ ρ1 : Rho} {ms : List Nat} (R1 : RepS C H1 S σ ρ1) (st : Stp H H1 σ ρ ρ1 ms) : ∀ {es : CEs} {vs : List (Bool × PyData)} {xs : List V}, ValL C.fr H1 H2 S σ ρ1 T es vs xs → ValL C.fr H H2 S σ ρ T es vs xs
  | .nil, [], [], _ => trivial
  | .cons e es, v :: vs, x :: xs, ⟨⟨T1, h1, h2, h3, h4, h5⟩, t⟩ => ⟨⟨T1, h1, h2.back R1 st, h3.back fun c e => st.new R1 e, h4.back R1 st, h5⟩, ValL.back R1 st t⟩
  | .nil, _ :: _, _, h => h.elim
  | .nil, [], _ :: _, h => h.elim
  | .cons _ _, [], _, h => h.elim
  | .cons _ _, _ :: _, [], h => h.elim
theorem tEs.nil {σ : L2.St} {H : Hp} {Q : List V → Hp → Prop} (h : tEs C call W .nil σ H Q) : Q [] H := by
  obtain ⟨ρ, S, R, k⟩ := h
  simp only [evEs] at k
  exact k [] H S R .refl (.none R) trivial .nil (fun t ht => by simp [fresh] at ht)
theorem ValL.notT {H H' : Hp} {S T : AS} {σ : L2.St} {ρ : Rho} : ∀ {es : CEs} {vs : List (Bool × PyData)} {xs : List V}, ValL C.fr H H' S σ ρ T es vs xs → ∀ t ∈ fresh vs xs, ¬ T t
  | .nil, [], [], _, t, ht => by simp [fresh] at ht
  | .cons e es, v :: vs, x :: xs, ⟨⟨T1, h1, h2, h3, h4, h5⟩, tl⟩, t, ht => by
    rcases (fresh_cons t).mp ht with ⟨hv, e⟩ | h
    · exact h5 hv t e
    · exact ValL.notT tl t h
  | .nil, _ :: _, _, h, _, _ => h.elim
  | .nil, [], _ :: _, h, _, _ => h.elim
  | .cons _ _, [], _, h, _, _ => h.elim
  | .cons _ _, _ :: _, [], h, _, _ => h.elim
theorem tEs.tail {e : CE} {es : CEs} {σ : L2.St} {H H1 : Hp} {Q : List V → Hp → Prop} {ρ ρ1 : Rho} {S T1 : AS} {v : Bool × PyData} {x : V} (R : RepS C H S σ ρ) (R1 : RepS C H1 S σ ρ1) (st1 : Stp H H1 σ ρ ρ1 (muts e)) (b1 : Bd H H1 S σ ρ (al e) T1) (v1 : Val C.fr H H1 T1 v x) (x1 : Opd C.fr H H1 S σ ρ e v.2 x)
    (hn : meets (al e) (mutsL es) = false ∨ flatD v.2 = true)
    (k : Res (evEs call es ρ1) (fun vs ρ' => ∀ xs H' T, RepS C H' S σ ρ' → Stp H H' σ ρ ρ' (muts e ++ mutsL es) → Bd H H' S σ ρ (al e ++ alL es) T → ValL C.fr H H' S σ ρ T (.cons e es) (v :: vs) xs → (fresh (v :: vs) xs).Nodup → (∀ t ∈ fresh (v :: vs) xs, H t = none) → Q xs H') (tX C W H S σ ρ)) :
    tEs C call W es σ H1 fun xs H2 => Q (x :: xs) H2 := by
  refine ⟨ρ1, S, R1, k.imp (fun ws ρ' k xs H2 T2 R2 st2 b2 v2 nd nw => ?_) fun _ _ _ z => z.back R1 st1⟩
  have hx : v.1 = true → ∀ t, x = .ref t → H t = none ∧ ¬ T1 t ∧ ∃ o, H1 t = some o := fun hv t ht => by
    unfold Val at v1
    rw [if_pos hv] at v1
    obtain ⟨t', e5, n, nt, ds, zs, _, e6, _⟩ := v1
    rw [ht] at e5; cases e5
    exact ⟨n, nt, _, e6⟩
  have t2 : v.1 = true → ∀ t, x = .ref t → ¬ T2 t := fun hv t ht z => by
    obtain ⟨n, _, o, e7⟩ := hx hv t ht
    rcases b2.bd t z with s | w | w
    · obtain ⟨o', e8⟩ := R.dom t s
      rw [n] at e8; cases e8
    · obtain ⟨_, zs, e8, _⟩ := R.owns (st1.chg.owns.mp w)
      rw [n] at e8; cases e8
    · rw [e7] at w; cases w
  have fr2 : ∀ t ∈ fresh ws xs, ¬ T1 t := fun t ht z => by
    obtain ⟨o, e8⟩ := b1.dm t z
    rw [nw t ht] at e8; cases e8
  refine k (x :: xs) H2 (fun a => T1 a ∨ T2 a) R2 (st1.trans st2) ((b1.step R2 st2).union (b2.back R1 st1)) ⟨⟨T1, fun a z => .inl z, b1.step R2 st2, v1.stay R R1 b1 st1 st2 hn, x1.stay v1 R R1 R2 b1 st1 st2 hn, fun hv t ht z => ?_⟩, ?_⟩ ?_ ?_
  · rcases z with z | z
    · exact (hx hv t ht).2.1 z
    · exact t2 hv t ht z
  · refine (ValL.back R1 st1 v2).mono (fun a z => .inr z) fun t ht z => ?_
    rcases z with z | z
    · exact fr2 t ht z
    · -- later new objects are not reached by their like
      exact ValL.notT v2 t ht z
  · obtain ⟨b, p⟩ := v
    cases b with
    | false => cases x <;> exact nd
    | true =>
      cases x with
      | ref a =>
        refine List.nodup_cons.mpr ⟨fun hm => ?_, nd⟩
        obtain ⟨_, _, o, e7⟩ := hx rfl a rfl
        rw [nw a hm] at e7; cases e7
      | _ => exact nd
  · intro t ht
    rcases (fresh_cons t).mp ht with ⟨hv, e9⟩ | h
    · exact (hx hv t e9).1
    · exact st1.new R1 (nw t h)
theorem tEs.cons {e : CE} {es : CEs} {σ : L2.St} {H : Hp} {Q : List V → Hp → Prop} (h : tEs C call W (.cons e es) σ H Q) : tE C call W e σ H fun x H1 => tEs C call W es σ H1 fun xs H2 => Q (x :: xs) H2 := by
  obtain ⟨ρ, S, R, k⟩ := h
  simp only [evEs] at k
  refine ⟨ρ, S, R, k.bind.imp (fun v ρ1 k x H1 T1 R1 st1 b1 v1 x1 => ?_) fun _ _ _ z => z⟩
  by_cases hs : (meets (al e) (mutsL es) && !flatD v.2) = true
  · rw [if_pos hs] at k; exact k.elim
  rw [if_neg hs] at k
  have hn : meets (al e) (mutsL es) = false ∨ flatD v.2 = true := by
    cases q : meets (al e) (mutsL es)
    · exact .inl rfl
    · cases q2 : flatD v.2
      · simp [q, q2] at hs
      · exact .inr rfl
  exact tEs.tail R R1 st1 b1 v1 x1 hn (k.bind.imp (fun ws ρ' k => k) fun _ _ _ z => z)
end
end PyC
end

section
set_option maxHeartbeats 200000
namespace PyC
open PySem PySem.Spec L2
section
variable (K : KC)
def ARL (H : Hp) (T : AS) : List PyData → List V → Prop
  | [], [] => True
  | p :: ps, x :: xs => AR K H T p x ∧ ARL H T ps xs
  | _, _ => False
def OpRes (H : Hp) (T : AS) (r : Bool × PyData) (z : V) (H' : Hp) : Prop :=
  (∀ a o, H a = some o → H' a = some o) ∧ (if r.1 = true then ∃ t, z = .ref t ∧ H t = none ∧ Root K H' T r.2 t else Rep K H' T r.2 z)
/-- the reading r follows from opSem -/
def OpV (o : Op) (r : List V → Hp → VK → Prop) : Prop := ∀ (H : Hp) (T : AS) (ps : List PyData) (xs : List V) (res : Bool × PyData) (Q : VK), ARL K H T ps xs → opSem o ps = some res → (∀ z H', OpRes K H T res z H' → Q z H') → r xs H Q
end
section
variable {K : KC} {H : Hp} {T : AS} {Q : VK}
theorem ARL.two {p q : PyData} {xs : List V} (h : ARL K H T [p, q] xs) : ∃ x y, xs = [x, y] ∧ AR K H T p x ∧ AR K H T q y := by
  match xs, h with
  | [x, y], ⟨h1, h2, _⟩ => exact ⟨x, y, rfl, h1, h2⟩
  | [], h => exact h.elim
  | [_], ⟨_, h⟩ => exact h.elim
  | _ :: _ :: _ :: _, ⟨_, _, h⟩ => exact h.elim
theorem ARL.one {p : PyData} {xs : List V} (h : ARL K H T [p] xs) : ∃ x, xs = [x] ∧ AR K H T p x := by
  match xs, h with
  | [x], ⟨h1, _⟩ => exact ⟨x, rfl, h1⟩
  | [], h => exact h.elim
  | _ :: _ :: _, ⟨_, h⟩ => exact h.elim
/-- a datum that is no object -/
theorem res_flat {p : PyData} {z : V} (k : ∀ z H', OpRes K H T (false, p) z H' → Q z H') (h : Rep K H T p z) : Q z H := k z H ⟨fun _ _ e => e, h⟩
theorem res_int {i : Int} (k : ∀ z H', OpRes K H T (false, .int i) z H' → Q z H') : Q (.int i) H := res_flat k rfl
theorem res_bl {b : Bool} (k : ∀ z H', OpRes K H T (false, .bool b) z H' → Q z H') : Q (.bl b) H := res_flat k rfl
theorem keep_new {p : Addr} {o : HO} (h : H p = none) : ∀ a u, H a = some u → upd H p o a = some u := fun a u e => by
  rw [upd_ne (ne_of_none e h)]; exact e
theorem stay_new {p : Addr} {o : HO} {ds : List PyData} {xs : List V} (h : H p = none) (r : RepL K H T ds xs) : RepL K (upd H p o) T ds xs := r.stay (fun a u e _ _ => keep_new h a u e) fun _ z => z
/-- a new list -/
theorem res_lst {ds : List PyData} {xs : List V} (k : ∀ z H', OpRes K H T (true, .list ds) z H' → Q z H') (r : RepL K H T ds xs) : ∀ p, H p = none → Q (.ref p) (upd H p (.lst xs)) := fun p hp =>
  k _ _ ⟨keep_new hp, p, rfl, hp, Root.mkL upd_same (stay_new hp r)⟩
/-- a new tuple -/
theorem res_tup {ds : List PyData} {xs : List V} (k : ∀ z H', OpRes K H T (false, .tuple ds) z H' → Q z H') (r : RepL K H T ds xs) : ∀ p, H p = none → Q (.ref p) (upd H p (.tup xs)) := fun p hp =>
  k _ _ ⟨keep_new hp, p, xs, rfl, SqT.of upd_same, stay_new hp r⟩
end

/-! ### lists of the layer, frozen ones too -/
section
variable {X : Cx} {pins : List (Addr × Obj)} {σ : L2.St} {H : Hp} {s : Shared} {l : Addr} {xs : List V}
theorem lstR (I : Inv X pins σ H s) (hH : Rd H l (.lst xs)) : xs.length ≤ sizeLine ∧ ∃ (its : List Value) (n : Nat), Vals xs its ∧ xs.length = its.length ∧
    s.heap.get? l = some { cls := .type "list", data := .seq its.toArray n } := by
  have := hH.ok I.hok
  obtain ⟨z, its, n, r, e⟩ := this
  exact ⟨z, its, n, r, r.length, e⟩
/-- + of lists -/
def rCatR : R2 := fun x y H Q => ∃ l b xs zs, x = .ref l ∧ y = .ref b ∧ Rd H l (.lst xs) ∧ Rd H b (.lst zs) ∧ xs.length + zs.length ≤ sizeLine ∧ ∀ p, H p = none → Q (.ref p) (upd H p (.lst (xs ++ zs)))
theorem op_catR : OpR X (binaryOp .Add) rCatR := by
  intro pins s σ H x y v u Q I rx ry ⟨l, b, xs, zs, e1, e2, hH, hB, hz, q⟩
  subst e1 e2
  cases rx; cases ry
  obtain ⟨_, its, n, r, hl, e⟩ := lstR I hH
  obtain ⟨_, ws, m, r2, hl2, e2⟩ := lstR I hB
  have hsz : its.toArray.size + ws.toArray.size ≤ sizeLine := by simp only [List.size_toArray]; omega
  refine PySem.P.add_list e e2 ?_ hsz
  have ea : its.toArray ++ ws.toArray = (its ++ ws).toArray := by simp
  rw [ea]
  exact ⟨.ref _, _, I.lnew (t' := s.toks) (r.append r2) (by rw [List.length_append]; omega), rfl, q _ I.fresh⟩
end

/-! ### arithmetic -/
section
variable {X : Cx}
def rAdd (K : PySem.W.Frag) : R2 := fun x y H Q => ((∃ i j, x = .int i ∧ y = .int j ∧ Q (.int (i + j)) H) ∨ rCatR x y H Q) ∨ (rCatA K x y H Q ∨ ∃ i j, x = .str i ∧ y = .str j ∧ i.length + j.length ≤ sizeLine ∧ Q (.str (i ++ j)) H)
theorem or_add : OpR X (binaryOp .Add) (rAdd X.K) := OpR.or (OpR.or op_add op_catR) (OpR.or op_catA op_add_str)
theorem big_line {n : Nat} (h : n ≤ big) : n ≤ sizeLine := Nat.le_trans h (by decide)
theorem ov_add {K : KC} : OpV K .add fun xs H Q => ∃ x y, xs = [x, y] ∧ rAdd K.fr x y H Q := by
  intro H T ps xs res Q h e k
  simp only [opSem] at e
  unfold semAdd at e
  split at e
  · obtain ⟨x, y, rfl, h1, h2⟩ := ARL.two h
    cases e
    cases h1; cases h2
    exact ⟨_, _, rfl, .inl (.inl ⟨_, _, rfl, rfl, res_int k⟩)⟩
  · obtain ⟨x, y, rfl, h1, h2⟩ := ARL.two h
    split at e
    · rename_i hz
      cases e
      obtain ⟨a, us, rfl, q1, r1⟩ := h1
      obtain ⟨b, ws, rfl, q2, r2⟩ := h2
      rw [r1.length, r2.length] at hz
      exact ⟨_, _, rfl, .inl (.inr ⟨a, b, us, ws, rfl, rfl, q1, q2, big_line hz, res_lst k (r1.append r2)⟩)⟩
    · cases e
  · obtain ⟨x, y, rfl, h1, h2⟩ := ARL.two h
    split at e
    · rename_i hz
      cases e
      obtain ⟨a, us, rfl, q1, r1⟩ := h1
      obtain ⟨b, ws, rfl, q2, r2⟩ := h2
      rw [r1.length, r2.length] at hz
      refine ⟨_, _, rfl, .inr (.inl ⟨a, b, us, ws, rfl, rfl, q1, q2, big_line hz, fun e => ?_, fun n e => ?_, fun n m => res_tup k (r1.append r2)⟩)⟩
      · subst e
        exact res_flat k ⟨b, ws, rfl, q2, by have := r1.append r2; simpa using this⟩
      · subst e
        exact res_flat k ⟨a, us, rfl, q1, by have := r1.append r2; simpa using this⟩
    · cases e
  · obtain ⟨x, y, rfl, h1, h2⟩ := ARL.two h
    split at e
    · rename_i hz
      cases e
      cases h1; cases h2
      exact ⟨_, _, rfl, .inr (.inr ⟨_, _, rfl, rfl, big_line hz, res_flat k rfl⟩)⟩
    · cases e
  · cases e
end
end PyC
namespace PyC
open PySem PySem.Spec L2
/-- a rule of two operands -/
def two (r : R2) : List V → Hp → VK → Prop := fun xs H Q => ∃ x y, xs = [x, y] ∧ r x y H Q
def one (r : V → Hp → VK → Prop) : List V → Hp → VK → Prop := fun xs H Q => ∃ x, xs = [x] ∧ r x H Q
section
variable {K : KC}
theorem ov_int2 {o : Op} {f : Int → Int → ORes} {r : R2} (hs : opSem o = sem2 f) (h : ∀ (H : Hp) (T : AS) (i j : Int) (res : Bool × PyData) (Q : VK), f i j = some res → (∀ z H', OpRes K H T res z H' → Q z H') → r (.int i) (.int j) H Q) : OpV K o (two r) := by
  intro H T ps xs res Q ha e k
  rw [hs] at e
  unfold sem2 at e
  split at e
  · obtain ⟨x, y, rfl, h1, h2⟩ := ARL.two ha
    cases h1; cases h2
    exact ⟨_, _, rfl, h H T _ _ _ Q e k⟩
  · cases e
theorem ov_int1 {o : Op} {f : Int → ORes} {r : V → Hp → VK → Prop} (hs : opSem o = sem1 f) (h : ∀ (H : Hp) (T : AS) (i : Int) (res : Bool × PyData) (Q : VK), f i = some res → (∀ z H', OpRes K H T res z H' → Q z H') → r (.int i) H Q) : OpV K o (one r) := by
  intro H T ps xs res Q ha e k
  rw [hs] at e
  unfold sem1 at e
  split at e
  · obtain ⟨x, rfl, h1⟩ := ARL.one ha
    cases h1
    exact ⟨_, rfl, h H T _ _ Q e k⟩
  · cases e
theorem ov_sub : OpV K .sub (two (rI0 fun i j => .int (i - j))) := ov_int2 rfl fun H T i j res Q e k => by
  cases e; exact ⟨i, j, rfl, rfl, res_int k⟩
theorem ov_fdiv : OpV K .fdiv (two (rI CDiv fun i j => .int (i / j))) := ov_int2 rfl fun H T i j res Q e k => by
  split at e
  · rename_i h
    cases e
    simp only [divOk, Bool.and_eq_true, decide_eq_true_eq] at h
    exact ⟨i, j, rfl, rfl, h, res_int k⟩
  · cases e
theorem ov_mod : OpV K .mod (two (rI (fun _ j => 0 < j) fun i j => .int (i % j))) := ov_int2 rfl fun H T i j res Q e k => by
  split at e
  · rename_i h
    cases e
    exact ⟨i, j, rfl, rfl, of_decide_eq_true h, res_int k⟩
  · cases e
theorem ov_pow : OpV K .pow (two (rI CPow fun i j => .int (i ^ j.toNat))) := ov_int2 rfl fun H T i j res Q e k => by
  split at e
  · rename_i h
    cases e
    simp only [powOk, Bool.and_eq_true, decide_eq_true_eq] at h
    exact ⟨i, j, rfl, rfl, ⟨h.1.1, by omega, h.2⟩, res_int k⟩
  · cases e
theorem ov_lt : OpV K .lt (two (rI0 fun i j => .bl (decide (i < j)))) := ov_int2 rfl fun H T i j res Q e k => by
  cases e; exact ⟨i, j, rfl, rfl, res_bl k⟩
theorem ov_le : OpV K .le (two (rI0 fun i j => .bl (decide (i ≤ j)))) := ov_int2 rfl fun H T i j res Q e k => by
  cases e; exact ⟨i, j, rfl, rfl, res_bl k⟩
theorem ov_gt : OpV K .gt (two (rI0 fun i j => .bl (decide (j < i)))) := ov_int2 rfl fun H T i j res Q e k => by
  cases e; exact ⟨i, j, rfl, rfl, res_bl k⟩
theorem ov_ge : OpV K .ge (two (rI0 fun i j => .bl (decide (j ≤ i)))) := ov_int2 rfl fun H T i j res Q e k => by
  cases e; exact ⟨i, j, rfl, rfl, res_bl k⟩
theorem ov_neg : OpV K .neg (one (rU fun i => .int (-i))) := ov_int1 rfl fun H T i res Q e k => by
  cases e; exact ⟨i, rfl, res_int k⟩
theorem ov_abs : OpV K .abs (fun xs H Q => ∃ i, xs = [.int i] ∧ Q (.int (if i < 0 then -i else i)) H) := by
  intro H T ps xs res Q ha e k
  obtain ⟨x, rfl, i, rfl, h⟩ := ov_int1 (K := K) (o := .abs) (r := fun x H Q => ∃ i, x = .int i ∧ Q (.int (if i < 0 then -i else i)) H) rfl (fun H T i res Q e k => by cases e; exact ⟨i, rfl, res_int k⟩) H T ps xs res Q ha e k
  exact ⟨i, rfl, h⟩
theorem ov_intc : OpV K .int (fun xs H Q => (∃ i, xs = [V.int i] ∧ Q (.int i) H) ∨ ∃ k, xs = [V.bl k] ∧ Q (.int (if k then 1 else 0)) H) := by
  intro H T ps xs res Q ha e k
  obtain ⟨x, rfl, i, rfl, h⟩ := ov_int1 (K := K) (o := .int) (r := fun x H Q => ∃ i, x = .int i ∧ Q (.int i) H) rfl (fun H T i res Q e k => by cases e; exact ⟨i, rfl, res_int k⟩) H T ps xs res Q ha e k
  exact .inl ⟨i, rfl, h⟩
theorem ov_max2 : OpV K .max2 (fun xs H Q => ∃ i j, xs = [.int i, .int j] ∧ Q (.int (if j > i then j else i)) H) := by
  intro H T ps xs res Q ha e k
  obtain ⟨x, y, rfl, i, j, rfl, rfl, h⟩ := ov_int2 (K := K) (o := .max2) (r := fun x y H Q => ∃ i j, x = .int i ∧ y = .int j ∧ Q (.int (if j > i then j else i)) H) rfl (fun H T i j res Q e k => by cases e; exact ⟨i, j, rfl, rfl, res_int k⟩) H T ps xs res Q ha e k
  exact ⟨i, j, rfl, h⟩
theorem ov_min2 : OpV K .min2 (fun xs H Q => ∃ i j, xs = [.int i, .int j] ∧ Q (.int (if j < i then j else i)) H) := by
  intro H T ps xs res Q ha e k
  obtain ⟨x, y, rfl, i, j, rfl, rfl, h⟩ := ov_int2 (K := K) (o := .min2) (r := fun x y H Q => ∃ i j, x = .int i ∧ y = .int j ∧ Q (.int (if j < i then j else i)) H) rfl (fun H T i j res Q e k => by cases e; exact ⟨i, j, rfl, rfl, res_int k⟩) H T ps xs res Q ha e k
  exact ⟨i, j, rfl, h⟩
theorem ov_divmod : OpV K .divmod (fun xs H Q => ∃ i j, xs = [.int i, .int j] ∧ CDiv i j ∧ ∀ p, H p = none → Q (.ref p) (upd H p (.tup [.int (i / j), .int (i % j)]))) := by
  intro H T ps xs res Q ha e k
  obtain ⟨x, y, rfl, i, j, rfl, rfl, h⟩ := ov_int2 (K := K) (o := .divmod) (r := fun x y H Q => ∃ i j, x = .int i ∧ y = .int j ∧ CDiv i j ∧ ∀ p, H p = none → Q (.ref p) (upd H p (.tup [.int (i / j), .int (i % j)]))) rfl (fun H T i j res Q e k => by
    split at e
    · rename_i h
      cases e
      simp only [divOk, Bool.and_eq_true, decide_eq_true_eq] at h
      exact ⟨i, j, rfl, rfl, h, res_tup k ⟨rfl, rfl, trivial⟩⟩
    · cases e) H T ps xs res Q ha e k
  exact ⟨i, j, rfl, h⟩
/-! equality, membership -/
theorem shp_ok {p : PyData} (h : shp p = true) : SeqAt.shaped p = true ∧ noD p = true := by
  unfold shp at h
  rwa [Bool.and_eq_true] at h
theorem ov_eq : OpV K .eq (two (rEqD K.fr)) := by
  intro H T ps xs res Q ha e k
  simp only [opSem] at e
  unfold semEq at e
  simp only [eqvD_eq] at e
  split at e
  · obtain ⟨x, y, rfl, h1, h2⟩ := ARL.two ha
    split at e
    · rename_i h
      cases e
      rw [Bool.and_eq_true] at h
      refine ⟨x, y, rfl, _, _, h1.dp (shp_ok h.1).2, h2.dp (shp_ok h.2).2, (shp_ok h.1).1, (shp_ok h.2).1, ?_⟩
      simpa using res_bl k
    · cases e
  · cases e
theorem ov_ne : OpV K .ne (two (rNeD K.fr)) := by
  intro H T ps xs res Q ha e k
  simp only [opSem] at e
  unfold semEq at e
  simp only [eqvD_eq] at e
  split at e
  · obtain ⟨x, y, rfl, h1, h2⟩ := ARL.two ha
    split at e
    · rename_i h
      cases e
      rw [Bool.and_eq_true] at h
      refine ⟨x, y, rfl, _, _, h1.dp (shp_ok h.1).2, h2.dp (shp_ok h.2).2, (shp_ok h.1).1, (shp_ok h.2).1, ?_⟩
      simpa using res_bl k
    · cases e
  · cases e
theorem non_iff {H : Hp} {T : AS} {p : PyData} {x : V} (h : AR K H T p x) : decide (x = V.non) = isNoneD p := by
  cases p with
  | none => cases h; rfl
  | bool b => cases h; rfl
  | int b => cases h; rfl
  | str b => cases h; rfl
  | list ds => obtain ⟨a, xs, rfl, _⟩ := h; rfl
  | tuple ds => obtain ⟨a, xs, rfl, _⟩ := h; rfl
  | dict ds => obtain ⟨a, rfl⟩ := AR.dref (show AR K H T (.dict ds) x from h); rfl
theorem ov_isN : OpV K .isN (one fun x H Q => Q (.bl (decide (x = V.non))) H) := by
  intro H T ps xs res Q ha e k
  simp only [opSem] at e
  unfold semIsN at e
  split at e
  · obtain ⟨x, rfl, h1⟩ := ARL.one ha
    cases e
    refine ⟨x, rfl, ?_⟩
    dsimp only
    rw [non_iff h1]
    simpa using res_bl k
  · cases e
theorem ov_notN : OpV K .isNotN (one fun x H Q => Q (.bl (!decide (x = V.non))) H) := by
  intro H T ps xs res Q ha e k
  simp only [opSem] at e
  unfold semIsN at e
  split at e
  · obtain ⟨x, rfl, h1⟩ := ARL.one ha
    cases e
    refine ⟨x, rfl, ?_⟩
    dsimp only
    rw [non_iff h1]
    simpa using res_bl k
  · cases e
end
/-! in, over lists and tuples of any data -/
section
variable {X : Cx}
def rInA (K : PySem.W.Frag) (neg : Bool) : R2 := fun x y H Q => ∃ d ds, Dp K H x d ∧ (Dp K H y (.list ds) ∨ Dp K H y (.tuple ds)) ∧ SeqAt.shaped d = true ∧ SeqAt.shaped (.list ds) = true ∧ Q (.bl (neg != ds.any fun z => PyData.eqv z d)) H
theorem op_inA (hu : X.A.units + 65 < cLine) : OpR X (compareOp .In) (rInA X.K false) := by
  intro pins s σ H x y v u Q I rx ry h
  obtain ⟨d, ds, hd, hs, sd, ss, q⟩ := h
  rcases hs with hs | hs
  · exact op_inD hu pins s σ H x y v u Q I rx ry ⟨d, ds, hd, hs, sd, ss, by simpa using q⟩
  · obtain ⟨as, r1⟩ := Dp.reads I d x v hd rx
    obtain ⟨bs, r2⟩ := Dp.reads I (.tuple ds) y u hs ry
    exact SeqAt.in_tuple_reads r2 r1 (SeqAt.canLay_of_shaped ss) (SeqAt.canLay_of_shaped sd) (PyProof.Rows.room_in_shaped sd hu) ⟨.bl _, H, I, rfl, by simpa using q⟩
theorem op_notInA (hu : X.A.units + 65 < cLine) : OpR X (compareOp .NotIn) (rInA X.K true) := by
  intro pins s σ H x y v u Q I rx ry h
  obtain ⟨d, ds, hd, hs, sd, ss, q⟩ := h
  rcases hs with hs | hs
  · exact op_notInD hu pins s σ H x y v u Q I rx ry ⟨d, ds, hd, hs, sd, ss, by simpa using q⟩
  · obtain ⟨as, r1⟩ := Dp.reads I d x v hd rx
    obtain ⟨bs, r2⟩ := Dp.reads I (.tuple ds) y u hs ry
    exact SeqAt.notIn_tuple_reads r2 r1 (SeqAt.canLay_of_shaped ss) (SeqAt.canLay_of_shaped sd) (PyProof.Rows.room_in_shaped sd hu) ⟨.bl _, H, I, rfl, by simpa using q⟩
theorem shp_tup {ds : List PyData} (h : SeqAt.shaped (.tuple ds) = true) : SeqAt.shaped (.list ds) = true := by
  unfold SeqAt.shaped at h ⊢
  simp only [Bool.and_eq_true, decide_eq_true_eq] at h ⊢
  simpa [PyData.canLay0, PyData.depth] using h
theorem ov_inA {K : KC} {o : Op} {neg : Bool} (ho : opSem o = semIn neg) : OpV K o (two (rInA K.fr neg)) := by
  intro H T ps xs res Q ha e k
  rw [ho] at e
  unfold semIn at e
  simp only [eqvD_eq] at e
  split at e
  · obtain ⟨x, y, rfl, h1, h2⟩ := ARL.two ha
    split at e
    · rename_i h
      cases e
      rw [Bool.and_eq_true] at h
      exact ⟨x, y, rfl, _, _, h1.dp (shp_ok h.1).2, .inl (h2.dp (shp_ok h.2).2), (shp_ok h.1).1, (shp_ok h.2).1, res_bl k⟩
    · cases e
  · obtain ⟨x, y, rfl, h1, h2⟩ := ARL.two ha
    split at e
    · rename_i h
      cases e
      rw [Bool.and_eq_true] at h
      exact ⟨x, y, rfl, _, _, h1.dp (shp_ok h.1).2, .inr (h2.dp (shp_ok h.2).2), (shp_ok h.1).1, shp_tup (shp_ok h.2).1, res_bl k⟩
    · cases e
  · cases e
end
end PyC
end

section
set_option maxHeartbeats 200000
namespace PyC
open PySem PySem.Spec L2
theorem RepL.rep {K : KC} {H : Hp} {T : AS} {ds : List PyData} {xs : List V} (r : RepL K H T ds xs) : ∀ n : Nat, RepL K H T (List.replicate n ds).flatten (List.replicate n xs).flatten
  | 0 => trivial
  | n + 1 => by
    rw [List.replicate_succ, List.replicate_succ, List.flatten_cons, List.flatten_cons]
    exact r.append (RepL.rep r n)
section
variable {X : Cx}
def rRepR : R2 := fun x y H Q => ∃ l k xs, x = .ref l ∧ y = .int k ∧ Rd H l (.lst xs) ∧ -(2 ^ 63) ≤ k ∧ k < 2 ^ 63 ∧ xs.length * k.toNat ≤ sizeLine ∧ ∀ p, H p = none → Q (.ref p) (upd H p (.lst (List.replicate k.toNat xs).flatten))
theorem op_repR : OpR X (binaryOp .Mult) rRepR := by
  intro pins s σ H x y v u Q I rx ry ⟨l, k, xs, e1, e2, hR, lo, hi, hz, q⟩
  subst e1 e2
  cases rx
  obtain ⟨tk, rfl⟩ := ry
  obtain ⟨_, ws, m, rv, hlen, hob⟩ := lstR I hR
  have sz : ws.toArray.size * k.toNat ≤ sizeLine := by rw [List.size_toArray, ← hlen]; exact hz
  have c1 : ¬ ws.toArray.size * k.toNat > (2 ^ 63 - 1) / 8 := fun z => by
    have z2 : (sizeLine : Nat) ≤ (2 ^ 63 - 1) / 8 := by decide
    omega
  have c2 : ¬ (!Builtin.List.listFitsIndex k) = true := by rw [fitsIndex_both lo hi]; exact Bool.false_ne_true
  have c3 : ¬ Builtin.List.listTooLong (ws.toArray.size * k.toNat) = true := by rw [notLongL sz]; exact Bool.false_ne_true
  have f0 : ∀ j : Nat, List.foldl (fun a b => a ++ b) #[] (List.replicate j ws.toArray) = (List.replicate j ws).flatten.toArray := fun j => by
    have z := foldl_rep ws j []
    rwa [List.nil_append] at z
  have e0 : List.foldl (fun a b => a ++ b) #[] (List.replicate (if ws.toArray.isEmpty = true then 0 else k.toNat) ws.toArray) = (List.replicate k.toNat ws).flatten.toArray := by
    rw [f0]
    cases ws with
    | nil => simp
    | cons c d => rw [if_neg (by simp)]
  refine wpAny_binaryOp_repeat_ref (T := "list") (U := "int") (by decide) ⟨_, hob, rfl⟩ (fun s2 => typeIs_int s2 k tk) noFill_list_mul F.fills_int_mul F.slot_int_rmul repeat_list F.slot_int_index.lookup ?_
  refine call_meets F.slot_int_rmul (typeIs_int s k tk) F.entry_int_rmul (F.args_int_rmul_2 _ _) (int___rmul___int_list k tk l ws.toArray m) ⟨hob, rfl, ⟨_, hob, rfl⟩, ?_⟩
  refine call_meets F.slot_list_mul ⟨_, hob, rfl⟩ F.entry_list_mul (F.args_list_mul_2 _ _) (AutoListH.list___mul___list_int_3 l ws.toArray m k tk c2 c1 c3) ⟨hob, ?_⟩
  rw [e0]
  exact ⟨.ref _, _, I.lnew (t' := s.toks) (rv.rep k.toNat) (by rw [PyProof.Rows.lm_len_rep_flat, Nat.mul_comm]; exact hz), rfl, q _ I.fresh⟩
def rMul (K : PySem.W.Frag) : R2 := fun x y H Q => rI CMul (fun i j => .int (i * j)) x y H Q ∨ (rRepR x y H Q ∨ rRepT K x y H Q)
theorem or_mul : OpR X (binaryOp .Mult) (rMul X.K) := OpR.or op_mul (OpR.or op_repR op_repT)
end
section
variable {K : KC}
theorem small_of {i : Int} (h : small i = true) : -(2 ^ 62) < i ∧ i < 2 ^ 62 := by
  unfold small at h
  rw [Bool.and_eq_true] at h
  exact ⟨of_decide_eq_true h.1, of_decide_eq_true h.2⟩
theorem ov_mul : OpV K .mul (two (rMul K.fr)) := by
  intro H T ps xs res Q ha e k
  simp only [opSem] at e
  unfold semMul at e
  split at e
  · obtain ⟨x, y, rfl, h1, h2⟩ := ARL.two ha
    split at e
    · rename_i i j h
      cases e
      cases h1; cases h2
      refine ⟨_, _, rfl, .inl ⟨_, _, rfl, rfl, ?_, res_int k⟩⟩
      rw [Bool.or_eq_true] at h
      rcases h with h | h
      · have := small_of h; exact .inl ⟨by omega, by omega⟩
      · have := small_of h; exact .inr ⟨by omega, by omega⟩
    · cases e
  · obtain ⟨x, y, rfl, h1, h2⟩ := ARL.two ha
    split at e
    · rename_i h
      cases e
      obtain ⟨a, us, rfl, q1, r1⟩ := h1
      cases h2
      rw [Bool.and_eq_true] at h
      have hs := small_of h.1
      have hz := of_decide_eq_true h.2
      rw [r1.length] at hz
      exact ⟨_, _, rfl, .inr (.inl ⟨a, _, us, rfl, rfl, q1, by omega, by omega, big_line hz, res_lst k (r1.rep _)⟩)⟩
    · cases e
  · obtain ⟨x, y, rfl, h1, h2⟩ := ARL.two ha
    split at e
    · rename_i h
      cases e
      obtain ⟨a, us, rfl, q1, r1⟩ := h1
      cases h2
      simp only [Bool.and_eq_true, decide_eq_true_eq, Bool.not_eq_true', List.isEmpty_eq_false_iff] at h
      obtain ⟨⟨⟨h1, h2⟩, h3⟩, h4⟩ := h
      rw [r1.length] at h4
      exact ⟨_, _, rfl, .inr (.inr ⟨a, _, us, rfl, rfl, q1, fun z => h1 (by
        have := r1.length
        rw [z] at this
        exact List.eq_nil_of_length_eq_zero (by simpa using this)), h2, h3, h4, res_tup k (r1.rep _)⟩)⟩
    · cases e
  · cases e
/-! places -/
theorem place_ix {n : Nat} {i : Int} {j : Nat} (h : place n i = some j) : ixN n i = some j := by
  unfold place at h
  unfold ixN
  cases i with
  | ofNat k =>
    simp only at h
    split at h
    · rename_i hk
      cases h
      rw [if_pos (show 0 ≤ Int.ofNat j from Int.natCast_nonneg j), if_pos (show Int.ofNat j < (n : Int) from Int.ofNat_lt.mpr hk)]
      rfl
    · cases h
  | negSucc k =>
    simp only at h
    split at h
    · rename_i hk
      cases h
      rw [if_neg (by omega), if_pos (by omega)]
      congr 1
      omega
    · cases h
theorem place_lt {n : Nat} {i : Int} {j : Nat} (h : place n i = some j) : j < n := (ixN_seq (place_ix h)).2.1
theorem itemAt_rep {H : Hp} {T : AS} {ds : List PyData} {xs : List V} {i : Int} {d : PyData} (r : RepL K H T ds xs) (h : itemAt ds i = some d) : ∃ v, atI xs i = some v ∧ Rep K H T d v := by
  unfold itemAt at h
  split at h
  · rename_i k hk
    obtain ⟨v, hv, rv⟩ := r.get h
    refine ⟨v, ?_, rv⟩
    unfold atI
    rw [← r.length, place_ix hk]
    exact hv
  · cases h
theorem ov_idx : OpV K .idx (two (rIx K.fr)) := by
  intro H T ps xs res Q ha e k
  simp only [opSem] at e
  unfold semIdx at e
  split at e
  · obtain ⟨x, y, rfl, h1, h2⟩ := ARL.two ha
    obtain ⟨d, hd, rfl⟩ := Option.map_eq_some_iff.mp e
    obtain ⟨a, us, rfl, q1, r1⟩ := h1
    cases h2
    obtain ⟨v, hv, rv⟩ := itemAt_rep r1 hd
    exact ⟨_, _, rfl, .inl ⟨a, us, _, v, rfl, rfl, .inl q1, hv, res_flat k rv⟩⟩
  · obtain ⟨x, y, rfl, h1, h2⟩ := ARL.two ha
    obtain ⟨d, hd, rfl⟩ := Option.map_eq_some_iff.mp e
    obtain ⟨a, us, rfl, q1, r1⟩ := h1
    cases h2
    obtain ⟨v, hv, rv⟩ := itemAt_rep r1 hd
    exact ⟨_, _, rfl, .inr (.inl ⟨a, us, _, v, rfl, rfl, q1, hv, res_flat k rv⟩)⟩
  · obtain ⟨x, y, rfl, h1, h2⟩ := ARL.two ha
    cases h2
    obtain ⟨dd, hdd, _⟩ := Option.bind_eq_some_iff.mp (show (scrOf _).bind _ = some res from e)
    obtain ⟨ns, a, rfl, rfl, q1⟩ := AR.scr hdd (show AR K H T (.dict _) x from h1)
    obtain ⟨d, hd, rfl⟩ := Option.map_eq_some_iff.mp (show (itemAt (ns.map PyData.int) _).map _ = some res from e)
    obtain ⟨v, hv, rv⟩ := itemAt_rep (RepL.mapInt (H := H) (S := T) ns) hd
    exact ⟨_, _, rfl, .inl ⟨a, _, _, v, rfl, rfl, q1.imp (fun z => z.2) id, hv, res_flat k rv⟩⟩
  · cases e
/-! slices -/
theorem cutAt_ix {n d : Nat} {i : Int} : HT.sIx n d (some i) = cutAt n i := by
  cases i with
  | ofNat k =>
    show (if Int.ofNat k < 0 then (Int.ofNat k + (n : Int)).toNat else min (Int.ofNat k).toNat n) = min k n
    rw [if_neg (by simp)]
    rfl
  | negSucc k =>
    show (if Int.negSucc k < 0 then (Int.negSucc k + (n : Int)).toNat else min (Int.negSucc k).toNat n) = n - (k + 1)
    rw [if_pos (Int.negSucc_lt_zero k)]
    omega
theorem cut_none {n d : Nat} : HT.sIx n d none = d := rfl
/-- the reading of a slice with its ends -/
def rSl (K : PySem.W.Frag) : V → Option Int → Option Int → Hp → VK → Prop := fun x lo hi H Q => rSlL K x lo hi H Q ∨ rSlA K x lo hi H Q
theorem sl_any {X : Cx} : SlR X (rSl X.K) := by
  intro pins s σ H x v vl vu lo hi sl Q I rx h1 h2 h3 h
  rcases h with h | h
  · exact sl_list pins s σ H x v vl vu lo hi sl Q I rx h1 h2 h3 h
  · exact sl_tupA pins s σ H x v vl vu lo hi sl Q I rx h1 h2 h3 h
theorem RepL.cut {H : Hp} {T : AS} {ds : List PyData} {xs : List V} (r : RepL K H T ds xs) (lo hi : Option Int) : RepL K H T (cutD ds (HT.sIx ds.length 0 lo) (HT.sIx ds.length ds.length hi)) (cutV xs lo hi) := by
  unfold cutD cutV
  rw [r.length]
  exact (r.drop _).take _
theorem sl_res {H : Hp} {T : AS} {Q : VK} {lo hi : Option Int} {p : PyData} {x : V} {ds : List PyData} {lst : Bool} (hp : p = if lst then .list ds else .tuple ds) (h : AR K H T p x)
    (k : ∀ z H', OpRes K H T (lst, if lst then .list (cutD ds (HT.sIx ds.length 0 lo) (HT.sIx ds.length ds.length hi)) else .tuple (cutD ds (HT.sIx ds.length 0 lo) (HT.sIx ds.length ds.length hi))) z H' → Q z H') : rSl K.fr x lo hi H Q := by
  cases lst with
  | true =>
    simp only [if_true] at hp k
    subst hp
    obtain ⟨a, us, rfl, q1, r1⟩ := h
    exact .inl ⟨a, us, rfl, .inl q1, res_lst k (r1.cut lo hi)⟩
  | false =>
    simp only [Bool.false_eq_true, if_false] at hp k
    subst hp
    obtain ⟨a, us, rfl, q1, r1⟩ := h
    refine .inr ⟨a, us, rfl, q1, fun ⟨z1, z2⟩ => ?_, fun _ => res_tup k (r1.cut lo hi)⟩
    refine res_flat k ⟨a, us, rfl, q1, ?_⟩
    rw [r1.length, z1, z2]
    unfold cutD
    rw [← r1.length]
    simpa using r1
theorem ov_slLo : OpV K .slLo (two fun x y H Q => ∃ i, y = .int i ∧ rSl K.fr x (some i) none H Q) := by
  intro H T ps xs res Q ha e k
  simp only [opSem] at e
  unfold semSlLo at e
  split at e
  · obtain ⟨x, y, rfl, h1, h2⟩ := ARL.two ha
    cases e; cases h2
    exact ⟨_, _, rfl, _, rfl, sl_res (lst := true) rfl h1 (by simpa only [cutAt_ix, cut_none, if_true] using k)⟩
  · obtain ⟨x, y, rfl, h1, h2⟩ := ARL.two ha
    cases e; cases h2
    exact ⟨_, _, rfl, _, rfl, sl_res (lst := false) rfl h1 (by simpa only [cutAt_ix, cut_none, Bool.false_eq_true, if_false] using k)⟩
  · cases e
theorem ov_slHi : OpV K .slHi (two fun x y H Q => ∃ i, y = .int i ∧ rSl K.fr x none (some i) H Q) := by
  intro H T ps xs res Q ha e k
  simp only [opSem] at e
  unfold semSlHi at e
  split at e
  · obtain ⟨x, y, rfl, h1, h2⟩ := ARL.two ha
    cases e; cases h2
    exact ⟨_, _, rfl, _, rfl, sl_res (lst := true) rfl h1 (by simpa only [cutAt_ix, cut_none, if_true] using k)⟩
  · obtain ⟨x, y, rfl, h1, h2⟩ := ARL.two ha
    cases e; cases h2
    exact ⟨_, _, rfl, _, rfl, sl_res (lst := false) rfl h1 (by simpa only [cutAt_ix, cut_none, Bool.false_eq_true, if_false] using k)⟩
  · cases e
theorem ARL.three {H : Hp} {T : AS} {p q r : PyData} {xs : List V} (h : ARL K H T [p, q, r] xs) : ∃ x y z, xs = [x, y, z] ∧ AR K H T p x ∧ AR K H T q y ∧ AR K H T r z := by
  match xs, h with
  | [x, y, z], ⟨h1, h2, h3, _⟩ => exact ⟨x, y, z, rfl, h1, h2, h3⟩
  | [], h => exact h.elim
  | [_], ⟨_, h⟩ => exact h.elim
  | [_, _], ⟨_, _, h⟩ => exact h.elim
  | _ :: _ :: _ :: _ :: _, ⟨_, _, _, h⟩ => exact h.elim
theorem ov_slLoHi {H : Hp} {T : AS} {p : PyData} {x : V} {i j : Int} {res : Bool × PyData} {Q : VK} (ha : AR K H T p x) (e : semSlLoHi [p, .int i, .int j] = some res) (k : ∀ z H', OpRes K H T res z H' → Q z H') : rSl K.fr x (some i) (some j) H Q := by
  unfold semSlLoHi at e
  split at e
  · rename_i h
    cases h
    cases e
    exact sl_res (lst := true) rfl ha (by simpa only [cutAt_ix, if_true] using k)
  · rename_i h
    cases h
    cases e
    exact sl_res (lst := false) rfl ha (by simpa only [cutAt_ix, Bool.false_eq_true, if_false] using k)
  · cases e
theorem RepL.reverse {H : Hp} {T : AS} : ∀ {ds : List PyData} {xs : List V}, RepL K H T ds xs → RepL K H T ds.reverse xs.reverse
  | [], [], _ => trivial
  | d :: ds, x :: xs, ⟨h, t⟩ => by
    rw [List.reverse_cons, List.reverse_cons]
    exact (RepL.reverse t).append ⟨h, trivial⟩
  | [], _ :: _, h => h.elim
  | _ :: _, [], h => h.elim
/-! calls of the language's own -/
theorem ov_len : OpV K .len (fun xs H Q => ∃ p ys, xs = [.ref p] ∧ (SqL K.fr H p ys ∨ SqT K.fr H p ys) ∧ Q (.int (ys.length : Nat)) H) := by
  intro H T ps xs res Q ha e k
  simp only [opSem] at e
  unfold semLen at e
  split at e
  · obtain ⟨x, rfl, a, us, rfl, q1, r1⟩ := ARL.one ha
    cases e
    exact ⟨a, us, rfl, .inl (.inl q1), by rw [← r1.length]; exact res_int k⟩
  · obtain ⟨x, rfl, a, us, rfl, q1, r1⟩ := ARL.one ha
    cases e
    exact ⟨a, us, rfl, .inr q1, by rw [← r1.length]; exact res_int k⟩
  · obtain ⟨x, rfl, h1⟩ := ARL.one ha
    obtain ⟨dd, hdd, _⟩ := Option.bind_eq_some_iff.mp (show (scrOf _).bind _ = some res from e)
    obtain ⟨ns, a, rfl, rfl, q1⟩ := AR.scr hdd (show AR K H T (.dict _) x from h1)
    cases e
    exact ⟨a, ns.map V.int, rfl, .inl (q1.imp (fun z => z.2) id), by simpa using res_int k⟩
  · cases e
theorem ov_tuple : OpV K .tuple (fun xs H Q => ∃ p ys, xs = [.ref p] ∧ ((SqL K.fr H p ys ∧ ∀ l, H l = none → Q (.ref l) (upd H l (.tup ys))) ∨ (SqT K.fr H p ys ∧ Q (.ref p) H))) := by
  intro H T ps xs res Q ha e k
  simp only [opSem] at e
  unfold semTuple at e
  split at e
  · obtain ⟨x, rfl, a, us, rfl, q1, r1⟩ := ARL.one ha
    cases e
    exact ⟨a, us, rfl, .inl ⟨.inl q1, res_tup k r1⟩⟩
  · obtain ⟨x, rfl, a, us, rfl, q1, r1⟩ := ARL.one ha
    cases e
    exact ⟨a, us, rfl, .inr ⟨q1, res_flat k ⟨a, us, rfl, q1, r1⟩⟩⟩
  · cases e
theorem ov_list : OpV K .list (fun xs H Q => ∃ p ys, xs = [.ref p] ∧ (SqL K.fr H p ys ∨ SqT K.fr H p ys) ∧ ∀ l, H l = none → Q (.ref l) (upd H l (.lst ys))) := by
  intro H T ps xs res Q ha e k
  simp only [opSem] at e
  unfold semList at e
  split at e
  · obtain ⟨x, rfl, a, us, rfl, q1, r1⟩ := ARL.one ha
    cases e
    exact ⟨a, us, rfl, .inl (.inl q1), res_lst k r1⟩
  · obtain ⟨x, rfl, a, us, rfl, q1, r1⟩ := ARL.one ha
    cases e
    exact ⟨a, us, rfl, .inr q1, res_lst k r1⟩
  · cases e
theorem ov_bools {o : Op} {f : List Bool → Bool} (ho : opSem o = semBools f) : OpV K o (fun xs H Q => ∃ a bs, xs = [.ref a] ∧ SqL K.fr H a (bs.map V.bl) ∧ Q (.bl (f bs)) H) := by
  intro H T ps xs res Q ha e k
  rw [ho] at e
  unfold semBools at e
  split at e
  · split at e
    · rename_i bs hb
      obtain ⟨x, rfl, a, us, rfl, q1, r1⟩ := ARL.one ha
      cases e
      have := r1.boolsOf hb
      subst this
      exact ⟨a, bs, rfl, .inl q1, res_bl k⟩
    · cases e
  · cases e
theorem ov_all : OpV K .all (rAll K.fr) := ov_bools rfl
theorem ov_any : OpV K .any (rAny K.fr) := ov_bools rfl
theorem ov_ints {o : Op} {f : List Int → ORes} (ho : opSem o = semInts f) {r : List V → Hp → VK → Prop} (h : ∀ (H : Hp) (T : AS) (a : Addr) (ns : List Int) (res : Bool × PyData) (Q : VK), SqL K.fr H a (ns.map V.int) → f ns = some res → (∀ z H', OpRes K H T res z H' → Q z H') → r [.ref a] H Q) : OpV K o r := by
  intro H T ps xs res Q ha e k
  rw [ho] at e
  unfold semInts at e
  split at e
  · split at e
    · rename_i bs hb
      obtain ⟨x, rfl, a, us, rfl, q1, r1⟩ := ARL.one ha
      have := r1.intsOf hb
      subst this
      exact h H T a bs res Q (.inl q1) e k
    · cases e
  · cases e
theorem mx_ge : ∀ {ns : List Int} {a : Int}, a ≤ mx a ns ∧ ∀ y ∈ ns, y ≤ mx a ns
  | [], a => ⟨Int.le_refl _, fun y h => by cases h⟩
  | b :: r, a => by
    unfold mx
    obtain ⟨h1, h2⟩ := mx_ge (ns := r) (a := if b > a then b else a)
    have hb : b ≤ (if b > a then b else a) := by split <;> omega
    have ha : a ≤ (if b > a then b else a) := by split <;> omega
    refine ⟨Int.le_trans ha h1, fun y hy => ?_⟩
    rcases List.mem_cons.mp hy with e | hy
    · rw [e]; exact Int.le_trans hb h1
    · exact h2 y hy
theorem mx_mem : ∀ {ns : List Int} {a : Int}, mx a ns = a ∨ mx a ns ∈ ns
  | [], a => .inl rfl
  | b :: r, a => by
    unfold mx
    rcases mx_mem (ns := r) (a := if b > a then b else a) with h | h
    · rw [h]
      split
      · exact .inr (List.mem_cons_self ..)
      · exact .inl rfl
    · exact .inr (List.mem_cons_of_mem _ h)
theorem mn_le : ∀ {ns : List Int} {a : Int}, mn a ns ≤ a ∧ ∀ y ∈ ns, mn a ns ≤ y
  | [], a => ⟨Int.le_refl _, fun y h => by cases h⟩
  | b :: r, a => by
    unfold mn
    obtain ⟨h1, h2⟩ := mn_le (ns := r) (a := if b < a then b else a)
    have hb : (if b < a then b else a) ≤ b := by split <;> omega
    have ha : (if b < a then b else a) ≤ a := by split <;> omega
    refine ⟨Int.le_trans h1 ha, fun y hy => ?_⟩
    rcases List.mem_cons.mp hy with e | hy
    · rw [e]; exact Int.le_trans h1 hb
    · exact h2 y hy
theorem mn_mem : ∀ {ns : List Int} {a : Int}, mn a ns = a ∨ mn a ns ∈ ns
  | [], a => .inl rfl
  | b :: r, a => by
    unfold mn
    rcases mn_mem (ns := r) (a := if b < a then b else a) with h | h
    · rw [h]
      split
      · exact .inr (List.mem_cons_self ..)
      · exact .inl rfl
    · exact .inr (List.mem_cons_of_mem _ h)
/-! is True, is False -/
theorem bl_of {H : Hp} {T : AS} {b : Bool} {x : V} (h : AR K H T (.bool b) x) : x = .bl b := h
theorem ov_isB {b : Bool} : OpV K (.isB b) (one fun x H Q => rIsB x (.bl b) H Q) := by
  intro H T ps xs res Q ha e k
  simp only [opSem] at e
  unfold semIsB at e
  split at e
  · rename_i c
    obtain ⟨x, rfl, h1⟩ := ARL.one ha
    cases e
    cases h1
    refine ⟨_, rfl, c, b, rfl, rfl, ?_⟩
    have := res_bl k
    have e2 : (false != (c == b)) = decide (c = b) := by cases c <;> cases b <;> rfl
    rwa [e2] at this
  · cases e
theorem ov_isNotB {b : Bool} : OpV K (.isNotB b) (one fun x H Q => rNotB x (.bl b) H Q) := by
  intro H T ps xs res Q ha e k
  simp only [opSem] at e
  unfold semIsB at e
  split at e
  · rename_i c
    obtain ⟨x, rfl, h1⟩ := ARL.one ha
    cases e
    cases h1
    refine ⟨_, rfl, c, b, rfl, rfl, ?_⟩
    have := res_bl k
    have e2 : (true != (c == b)) = !decide (c = b) := by cases c <;> cases b <;> rfl
    rwa [e2] at this
  · cases e
end
end PyC
end

section
set_option maxHeartbeats 200000
namespace PySem
section
variable {prog : Program} {w : World} {A : Around} {E : Value → Shared → Prop} {s : Shared} {l : Addr} {xs : Array (Int × Tok)}
theorem pyc_sumTup {Q : Value → Shared → Prop} (hh : A.handled = none) (hl : s.heap.IsTuple l (intItems xs)) (h : ∀ h' tk t', (∀ b o, s.heap.get? b = some o → h'.get? b = some o) → Q (.int (preSum (numAt xs) xs.size) t') { s with heap := h', toks := tk }) :
    wpAny (model prog w) A (call (.builtin "sum") [.ref l]) Q E s := by
  obtain ⟨o0, ho0, _⟩ := id hl
  have ll : l < s.heap.objs.size := Heap.lt_size ho0
  have nl : l ≠ s.heap.objs.size := Nat.ne_of_lt ll
  refine call_sum_walkG (wpAny_pyIter_tuple hl ?_)
  have kp : ∀ b o, s.heap.get? b = some o → (s.heap.push { cls := .type "tuple_iterator", data := .fields #[.ref l, .int 0 0] }).get? b = some o := fun b o e => Heap.get?_push_of_some _ e
  refine ⟨_, _, _, _, _, _, numAt xs, rfl, Walks.tuple (A := A.in1) hh s.heap.objs.size l nl (intItems xs), ⟨⟨_, Heap.get?_push_size _ rfl, rfl, rfl⟩, hl.at fun o e => kp l o e⟩, fun b hb => ?_, (fun _ _ => intItems_at), fun h' tk t' hk => ?_⟩
  · have sz : (s.heap.push { cls := .type "tuple_iterator", data := .fields #[.ref l, .int 0 0] }).objs.size = s.heap.objs.size + 1 := Heap.size_push ..
    show b < (s.heap.push { cls := .type "tuple_iterator", data := .fields #[.ref l, .int 0 0] }).objs.size
    rw [sz]
    rcases (show b = s.heap.objs.size ∨ b = l by simpa using hb) with e | e
    · rw [e]; exact Nat.lt_succ_self _
    · rw [e]; exact Nat.lt_succ_of_lt ll
  · have := h h' tk t' fun b o e => hk b o (by simp; exact Nat.ne_of_lt (Heap.lt_size e)) (kp b o e)
    simpa [intItems] using this
/-- the greatest, the least of a tuple of ints -/
theorem pyc_tupIter {Q : Value → Shared → Prop} (hl : s.heap.IsTuple l (intItems xs)) (h : ∀ I h', h'.IsTupleIter I l 0 → h'.IsTuple l (intItems xs) → l ≠ I → I < h'.objs.size → l < h'.objs.size → (∀ b o, s.heap.get? b = some o → b ≠ I ∧ h'.get? b = some o) → Q (.ref I) { s with heap := h' }) : wpAny (model prog w) A (pyIter (.ref l)) Q E s := by
  obtain ⟨o0, ho0, _⟩ := id hl
  have ll : l < s.heap.objs.size := Heap.lt_size ho0
  have sz : (s.heap.push { cls := .type "tuple_iterator", data := .fields #[.ref l, .int 0 0] }).objs.size = s.heap.objs.size + 1 := Heap.size_push ..
  refine wpAny_pyIter_tuple hl (h s.heap.objs.size _ ⟨_, Heap.get?_push_size _ rfl, rfl, rfl⟩ (hl.at fun o e => Heap.get?_push_of_some _ e) (Nat.ne_of_lt ll) (by rw [sz]; exact Nat.lt_succ_self _) (by rw [sz]; exact Nat.lt_succ_of_lt ll) fun b o e => ⟨Nat.ne_of_lt (Heap.lt_size e), Heap.get?_push_of_some _ e⟩)
theorem pyc_maxTup {Q : Value → Shared → Prop} (hh : A.handled = none) (hl : s.heap.IsTuple l (intItems xs)) (hne : 0 < xs.size)
    (h : ∀ k t h' tk, k < xs.size → (∀ j, j < xs.size → numAt xs j ≤ numAt xs k) → (∀ b o, s.heap.get? b = some o → h'.get? b = some o) → Q (.int (numAt xs k) t) { s with heap := h', toks := tk }) :
    wpAny (model prog w) A (call (.builtin "max") [.ref l]) Q E s := by
  refine call_max_walk (pyc_tupIter hl fun I h1 hit ht hne' hI hlt hk1 => ?_)
  obtain ⟨b1, b2⟩ := argBest_gt (numAt xs) (xs.size - 1)
  have lt : argBest (fun i j => decide (numAt xs i > numAt xs j)) (xs.size - 1) < xs.size := by omega
  refine ⟨_, _, _, _, _, _, _, rfl, Walks.tuple (A := A.in1) hh I l hne' (intItems xs), ⟨hit, ht⟩, fun b hb => ?_, by simpa [intItems] using hne, CmpOf.ints_gt (numAt xs) (fun _ _ => intItems_at), fun v h' tk hP hk => ?_⟩
  · rcases (show b = I ∨ b = l by simpa using hb) with e | e <;> subst e <;> assumption
  · obtain ⟨t, rfl⟩ := intItems_at hP
    simp only [intItems, Array.size_map] at *
    exact h _ t h' tk lt (fun j hj => b2 j (by omega)) fun b o e => hk b o (by simpa using (hk1 b o e).1) (hk1 b o e).2
theorem pyc_minTup {Q : Value → Shared → Prop} (hh : A.handled = none) (hl : s.heap.IsTuple l (intItems xs)) (hne : 0 < xs.size)
    (h : ∀ k t h' tk, k < xs.size → (∀ j, j < xs.size → numAt xs k ≤ numAt xs j) → (∀ b o, s.heap.get? b = some o → h'.get? b = some o) → Q (.int (numAt xs k) t) { s with heap := h', toks := tk }) :
    wpAny (model prog w) A (call (.builtin "min") [.ref l]) Q E s := by
  refine call_min_walk (pyc_tupIter hl fun I h1 hit ht hne' hI hlt hk1 => ?_)
  obtain ⟨b1, b2⟩ := argBest_lt (numAt xs) (xs.size - 1)
  have lt : argBest (fun i j => decide (numAt xs i < numAt xs j)) (xs.size - 1) < xs.size := by omega
  refine ⟨_, _, _, _, _, _, _, rfl, Walks.tuple (A := A.in1) hh I l hne' (intItems xs), ⟨hit, ht⟩, fun b hb => ?_, by simpa [intItems] using hne, CmpOf.ints_lt (numAt xs) (fun _ _ => intItems_at), fun v h' tk hP hk => ?_⟩
  · rcases (show b = I ∨ b = l by simpa using hb) with e | e <;> subst e <;> assumption
  · obtain ⟨t, rfl⟩ := intItems_at hP
    simp only [intItems, Array.size_map] at *
    exact h _ t h' tk lt (fun j hj => b2 j (by omega)) fun b o e => hk b o (by simpa using (hk1 b o e).1) (hk1 b o e).2
end
end PySem
namespace PyC
open PySem PySem.Spec L2 PyProof.Rows
def rSumA (K : PySem.W.Frag) : List V → Hp → VK → Prop := fun vs H Q => ∃ (a : Addr) (ns : List Int), vs = [V.ref a] ∧ (SqL K H a (ns.map V.int) ∨ SqT K H a (ns.map V.int)) ∧ Q (.int ns.sum) H
theorem cr_sumA {X : Cx} (hc : X.calm = true) : CallR X (.builtin "sum") (rSumA X.K) := by
  intro pins s σ H vs us Q I r h
  obtain ⟨a, ns, rfl, hs, q⟩ := h
  rcases hs with hs | hs
  · exact cr_sum hc pins s σ H _ us Q I r ⟨a, ns, rfl, hs, q⟩
  · obtain ⟨its, rv, ht, _⟩ := I.tuple hs
    rw [Vals.ref1 r]
    have hi := rv.ints
    obtain ⟨xs, e⟩ := hi.allInts.items
    have hn : numsOf (intItems xs).toList = ns := by rw [← e]; exact hi.numsOf
    rw [nums_intItems] at hn
    rw [e] at ht
    refine PySem.pyc_sumTup (I.ok.hd hc) (show s.heap.IsTuple a (intItems xs) from ht) fun h' tk t' hk => ?_
    rw [preSum_eq, List.take_of_length_le (by simp), hn]
    exact ⟨.int _, H, I.kept hk, ⟨_, rfl⟩, q⟩
section
variable {K : KC}
theorem ov_sumA : OpV K .sum (rSumA K.fr) := by
  intro H T ps xs res Q ha e k
  simp only [opSem] at e
  unfold semSum at e
  split at e
  · split at e
    · rename_i bs hb
      obtain ⟨x, rfl, a, us, rfl, q1, r1⟩ := ARL.one ha
      have := r1.intsOf hb
      subst this
      cases e
      exact ⟨a, bs, rfl, .inl (.inl q1), res_int k⟩
    · cases e
  · split at e
    · rename_i bs hb
      obtain ⟨x, rfl, a, us, rfl, q1, r1⟩ := ARL.one ha
      have := r1.intsOf hb
      subst this
      cases e
      exact ⟨a, bs, rfl, .inr q1, res_int k⟩
    · cases e
  · cases e
end
/-! the greatest, the least -/
def rMxA (K : PySem.W.Frag) : List V → Hp → VK → Prop := fun vs H Q => ∃ (a : Addr) (ns : List Int), vs = [V.ref a] ∧ (SqL K H a (ns.map V.int) ∨ SqT K H a (ns.map V.int)) ∧ 0 < ns.length ∧ ∀ m, m ∈ ns → (∀ y, y ∈ ns → y ≤ m) → Q (.int m) H
def rMnA (K : PySem.W.Frag) : List V → Hp → VK → Prop := fun vs H Q => ∃ (a : Addr) (ns : List Int), vs = [V.ref a] ∧ (SqL K H a (ns.map V.int) ∨ SqT K H a (ns.map V.int)) ∧ 0 < ns.length ∧ ∀ m, m ∈ ns → (∀ y, y ∈ ns → m ≤ y) → Q (.int m) H
theorem num_mem {xs : Array (Int × Tok)} {k : Nat} (h : k < xs.size) : numAt xs k ∈ xs.toList.map (·.1) := by
  rw [numAt_eq]
  exact PySem.getD_mem (by simpa using h)
theorem mem_num {xs : Array (Int × Tok)} {a : Int} (h : a ∈ xs.toList.map (·.1)) : ∃ j, j < xs.size ∧ numAt xs j = a := by
  obtain ⟨j, hj, e⟩ := PySem.mem_getD h
  exact ⟨j, by simpa using hj, by rw [numAt_eq]; exact e⟩
theorem cr_maxA {X : Cx} (hc : X.calm = true) : CallR X (.builtin "max") (rMxA X.K) := by
  intro pins s σ H vs us Q I r h
  obtain ⟨a, ns, rfl, hs, hn0, q⟩ := h
  rcases hs with hs | hs
  · exact cr_max hc pins s σ H _ us Q I r ⟨a, ns, rfl, hs, hn0, q⟩
  · obtain ⟨its, rv, ht, _⟩ := I.tuple hs
    rw [Vals.ref1 r]
    have hi := rv.ints
    obtain ⟨xs, e⟩ := hi.allInts.items
    have hn : numsOf (intItems xs).toList = ns := by rw [← e]; exact hi.numsOf
    rw [nums_intItems] at hn
    subst hn
    rw [e] at ht
    refine PySem.pyc_maxTup (I.ok.hd hc) (show s.heap.IsTuple a (intItems xs) from ht) (by simpa using hn0) fun k t h' tk hk hb kp => ⟨.int _, H, I.kept kp, ⟨_, rfl⟩, q _ (num_mem hk) fun y hy => ?_⟩
    obtain ⟨j, hj, rfl⟩ := mem_num hy
    exact hb j hj
theorem cr_minA {X : Cx} (hc : X.calm = true) : CallR X (.builtin "min") (rMnA X.K) := by
  intro pins s σ H vs us Q I r h
  obtain ⟨a, ns, rfl, hs, hn0, q⟩ := h
  rcases hs with hs | hs
  · exact cr_min hc pins s σ H _ us Q I r ⟨a, ns, rfl, hs, hn0, q⟩
  · obtain ⟨its, rv, ht, _⟩ := I.tuple hs
    rw [Vals.ref1 r]
    have hi := rv.ints
    obtain ⟨xs, e⟩ := hi.allInts.items
    have hn : numsOf (intItems xs).toList = ns := by rw [← e]; exact hi.numsOf
    rw [nums_intItems] at hn
    subst hn
    rw [e] at ht
    refine PySem.pyc_minTup (I.ok.hd hc) (show s.heap.IsTuple a (intItems xs) from ht) (by simpa using hn0) fun k t h' tk hk hb kp => ⟨.int _, H, I.kept kp, ⟨_, rfl⟩, q _ (num_mem hk) fun y hy => ?_⟩
    obtain ⟨j, hj, rfl⟩ := mem_num hy
    exact hb j hj
section
variable {K : KC}
theorem ov_best {o : Op} {f : List Int → ORes} {r : List V → Hp → VK → Prop} (ho : opSem o = semIntsA f) (h : ∀ (H : Hp) (T : AS) (a : Addr) (ns : List Int) (res : Bool × PyData) (Q : VK), (SqL K.fr H a (ns.map V.int) ∨ SqT K.fr H a (ns.map V.int)) → f ns = some res → (∀ z H', OpRes K H T res z H' → Q z H') → r [.ref a] H Q) : OpV K o r := by
  intro H T ps xs res Q ha e k
  rw [ho] at e
  unfold semIntsA at e
  split at e
  · split at e
    · rename_i bs hb
      obtain ⟨x, rfl, a, us, rfl, q1, r1⟩ := ARL.one ha
      have := r1.intsOf hb
      subst this
      exact h H T a bs res Q (.inl (.inl q1)) e k
    · cases e
  · split at e
    · rename_i bs hb
      obtain ⟨x, rfl, a, us, rfl, q1, r1⟩ := ARL.one ha
      have := r1.intsOf hb
      subst this
      exact h H T a bs res Q (.inr q1) e k
    · cases e
  · cases e
theorem ov_maxA : OpV K .max1 (rMxA K.fr) := ov_best rfl fun H T a ns res Q q e k => by
  cases ns with
  | nil => cases e
  | cons n ns =>
    cases e
    refine ⟨a, n :: ns, rfl, q, by simp, fun m hm hx => ?_⟩
    have h1 : mx n ns ∈ n :: ns := by
      rcases mx_mem (ns := ns) (a := n) with h | h
      · rw [h]; exact List.mem_cons_self ..
      · exact List.mem_cons_of_mem _ h
    have h2 : m ≤ mx n ns := by
      rcases List.mem_cons.mp hm with e | h
      · rw [e]; exact mx_ge.1
      · exact mx_ge.2 m h
    have : m = mx n ns := Int.le_antisymm h2 (hx _ h1)
    rw [this]; exact res_int k
theorem ov_minA : OpV K .min1 (rMnA K.fr) := ov_best rfl fun H T a ns res Q q e k => by
  cases ns with
  | nil => cases e
  | cons n ns =>
    cases e
    refine ⟨a, n :: ns, rfl, q, by simp, fun m hm hx => ?_⟩
    have h1 : mn n ns ∈ n :: ns := by
      rcases mn_mem (ns := ns) (a := n) with h | h
      · rw [h]; exact List.mem_cons_self ..
      · exact List.mem_cons_of_mem _ h
    have h2 : mn n ns ≤ m := by
      rcases List.mem_cons.mp hm with e | h
      · rw [e]; exact mn_le.1
      · exact mn_le.2 m h
    have : m = mn n ns := Int.le_antisymm (hx _ h1) h2
    rw [this]; exact res_int k
end
end PyC
end

section
set_option maxHeartbeats 200000
namespace HT
open PySem PyProof.Rows
section
variable {prog : Program} {w : World} {A : Around} {E : Value → Shared → Prop} {s : Shared}
theorem pyc_adj (n : Nat) : Builtin.Slice.sliceAdjust none none (-1) (n : Int) = ((n : Int) - 1, -1) := by
  unfold Builtin.Slice.sliceAdjust
  simp
theorem pyc_plc (n : Nat) : Builtin.Slice.slicePlaces ((n : Int) - 1) (-1) (-1) = n := by
  unfold Builtin.Slice.slicePlaces
  simp
  omega
theorem pyc_fm {f g : Nat → Option Value} : ∀ {l : List Nat}, (∀ k ∈ l, f k = g k) → l.filterMap f = l.filterMap g
  | [], _ => rfl
  | k :: l, h => by rw [List.filterMap_cons, List.filterMap_cons, h k (List.mem_cons_self ..), pyc_fm fun j hj => h j (List.mem_cons_of_mem _ hj)]
theorem pyc_pick (xs : List Value) : ((List.range xs.length).filterMap fun (k : Nat) => xs.toArray[(((xs.length : Int) - 1) + (k : Int) * (-1)).toNat]?) = xs.reverse := by
  have e : ∀ (n : Nat) (ys : List Value), ys.length = n → ((List.range n).filterMap fun (k : Nat) => ys[n - 1 - k]?) = ys.reverse := fun n ys h => by
    subst h
    have : ∀ k ∈ List.range ys.length, ys[ys.length - 1 - k]? = ys.reverse[k]? := fun k hk => by
      rw [List.getElem?_reverse (List.mem_range.mp hk)]
    rw [pyc_fm this]
    have full : ∀ ws : List Value, ((List.range ws.length).filterMap fun k => ws[k]?) = ws := fun ws => by
      induction ws with
      | nil => rfl
      | cons w ws ih => rw [List.length_cons, List.range_succ_eq_map, List.filterMap_cons, List.filterMap_map]; simp; exact ih
    have l : ys.length = ys.reverse.length := by simp
    rw [l]
    exact full ys.reverse
  rw [← e xs.length xs rfl]
  refine pyc_fm fun k hk => ?_
  have := List.mem_range.mp hk
  have z : (((xs.length : Int) - 1) + (k : Int) * (-1)).toNat = xs.length - 1 - k := by omega
  rw [z]
  simp
theorem pyc_sliceM1 {sl : Addr} {v1 v2 v3 : Value} {n : Nat} {Q : Int × Int × Nat → Shared → Prop} (x : s.heap.IsSliceOf sl v1 v2 v3) (p1 : IsPart v1 none) (p2 : IsPart v2 none) (p3 : IsPart v3 (some (-1))) (h : Q ((n : Int) - 1, -1, n) s) :
    wpAny (model prog w) A (Builtin.Slice.sliceApplied (.ref sl) (pure (n : Int))) Q E s := by
  obtain ⟨ob, at1, cl1, dt1⟩ := id x
  unfold Builtin.Slice.sliceApplied Builtin.Slice.sliceFields
  apply wpAny_bind
  apply wpAny_bind
  apply wpAny_field at1 dt1 (x := v1) rfl
  apply wpAny_bind
  apply wpAny_field at1 dt1 (x := v2) rfl
  apply wpAny_bind
  apply wpAny_field at1 dt1 (x := v3) rfl
  apply wpAny_pure
  apply wpAny_bind
  apply slicePart_ p3
  show wpAny _ _ (if ((-1 : Int) == 0) = true then _ else _) _ _ s
  rw [if_neg (by decide)]
  apply wpAny_bind
  apply slicePart_ p1
  apply wpAny_bind
  apply slicePart_ p2
  apply wpAny_bind
  apply wpAny_pure
  show wpAny _ _ (match Builtin.Slice.sliceAdjust none none (-1) (n : Int) with | (lo, hi) => pure (lo, (-1 : Int), Builtin.Slice.slicePlaces lo hi (-1))) _ _ s
  rw [pyc_adj n]
  show wpAny _ _ (pure ((n : Int) - 1, (-1 : Int), Builtin.Slice.slicePlaces ((n : Int) - 1) (-1) (-1))) _ _ s
  rw [pyc_plc]
  exact wpAny_pure h
theorem pyc_tupRev {t sl : Addr} {its : List Value} {v1 v2 v3 : Value} {Q : Value → Shared → Prop} (ht : IsTup s.heap t its.toArray) (x : s.heap.IsSliceOf sl v1 v2 v3) (p1 : IsPart v1 none) (p2 : IsPart v2 none) (p3 : IsPart v3 (some (-1))) (hz : its.length ≤ sizeLine)
    (h : Q (.ref s.heap.objs.size) { s with heap := s.heap.push { cls := .type "tuple", data := .seq its.reverse.toArray } }) : wpAny (model prog w) A (getItem (.ref t) (.ref sl)) Q E s := by
  have fits : sizeOk (.seq its.reverse.toArray) := by
    show its.reverse.toArray.size ≤ sizeLine
    simpa using hz
  obtain ⟨ob, at1, cl1, dt1⟩ := id x
  have isS : s.TypeIs (.ref sl) "slice" := ⟨ob, at1, cl1⟩
  unfold getItem
  try with_reducible apply wpAny_holding
  first | (apply wpAny_bind; apply wpAny_pure) | skip
  apply wpAny_bind
  apply wpAny_sequenceKey ht.typeIs (by decide)
  apply wpAny_bind
  apply wpAny_callSpecial?_slot (name := Str.ofString "__getitem__") ht.typeIs PyProof.Rows.slot_tuple_getitem
  refine wpAny_call_entry PyProof.Rows.slot_tuple_getitem ht.typeIs entry_tuple_getitem ?_ (args_tuple_getitem (.ref t) (.ref sl))
  show wpAny _ _ (Builtin.Tuple.tupleItemsOf (.ref t) >>= fun xs => _) _ _ s
  apply wpAny_bind
  apply tupleItemsOf_ ht
  apply wpAny_bind
  apply wpAny_typeOf isS
  rw [if_pos (by decide)]
  apply wpAny_bind
  apply pyc_sliceM1 x p1 p2 p3
  have no : ¬ ((((its.toArray.size : Nat) : Int) - 1 == 0 && (-1 : Int) == 1 && its.toArray.size == its.toArray.size) = true) := fun q => by
    rw [Bool.and_eq_true, Bool.and_eq_true] at q
    exact absurd q.1.2 (by decide)
  show wpAny _ _ (if (((its.toArray.size : Nat) : Int) - 1 == 0 && (-1 : Int) == 1 && its.toArray.size == its.toArray.size) = true then _ else _) _ _ s
  rw [if_neg no]
  have e : ((List.range its.toArray.size).filterMap fun (k : Nat) => its.toArray[(((its.toArray.size : Nat) : Int) - 1 + (k : Int) * (-1)).toNat]?).toArray = its.reverse.toArray := by
    have := pyc_pick its
    rw [List.size_toArray, this]
  rw [e]
  first
    | exact wpAny_bind (m := Builtin.Tuple.tupleExact its.reverse.toArray) (wpAny_newObj_type (wpAny_pure ⟨_, rfl, wpAny_pure h⟩) fits)
    | exact wpAny_bind (m := Builtin.Tuple.tupleExact its.reverse.toArray) (wpAny_newObj_type (wpAny_bind (wpAny_pure (wpAny_pure ⟨_, rfl, wpAny_pure h⟩))) fits)
    | exact wpAny_bind (wpAny_bind (m := Builtin.Tuple.tupleExact its.reverse.toArray) (wpAny_newObj_type (wpAny_pure (wpAny_pure ⟨_, rfl, wpAny_pure h⟩)) fits))
    | exact wpAny_bind (wpAny_bind (m := Builtin.Tuple.tupleExact its.reverse.toArray) (wpAny_newObj_type (wpAny_pure ⟨_, rfl, wpAny_pure h⟩) fits))
end
end HT
namespace PyC
open PySem PySem.Spec L2 PyProof.Rows
def rRevA (K : PySem.W.Frag) : V → Hp → VK → Prop := fun x H Q => ∃ (a : Addr) (xs : List V), x = .ref a ∧ ((SqL K H a xs ∧ ∀ p, H p = none → Q (.ref p) (upd H p (.lst xs.reverse))) ∨ (SqT K H a xs ∧ ∀ p, H p = none → Q (.ref p) (upd H p (.tup xs.reverse))))
theorem pe_revA {X : Cx} {e : Expr} {te : TE} {k : Nat} {p1 p2 p3 pos : Pos} (he : PE X e te) : PE X (.Subscript e (.Slice none none (some (.UnaryOp .USub (.Constant (.int 1) k p1) p2)) p3) pos) (fun σ H Q => te σ H fun x H1 => rRevA X.K x H1 Q) := by
  constructor
  intro pins s σ H Q I h
  apply Subscript_
  refine thn (he.run pins s σ H _ I h) ?_
  rintro v s1 ⟨x, H1, I1, r1, a, xs, rfl, q⟩
  cases r1
  have step : PO X (some (.UnaryOp .USub (.Constant (.int 1) k p1) p2)) (tPart (tUn (rU fun i => .int (-i)) (tC (.int 1)))) := po_some (pe_un un_neg pe_int)
  apply wpAny_Slice
  refine thn (po_none.run pins s1 σ H1 (fun o K2 => o = none ∧ K2 = H1) I1 ⟨rfl, rfl⟩) ?_
  rintro v1 s2 ⟨o1, H2, I2, q1, rfl, rfl⟩
  refine thn (po_none.run pins s2 σ H2 (fun o K3 => o = none ∧ K3 = H2) I2 ⟨rfl, rfl⟩) ?_
  rintro v2 s3 ⟨o2, H3, I3, q2, rfl, rfl⟩
  refine thn (step.run pins s3 σ H3 (fun o K4 => o = some (-1) ∧ K4 = H3) I3 ⟨1, rfl, -1, rfl, rfl, rfl⟩) ?_
  rintro v3 s4 ⟨o3, H4, I4, q3, rfl, rfl⟩
  have I5 : Inv X pins σ H4 { s4 with heap := s4.heap.push { cls := .type "slice", data := .fields #[v1, v2, v3] } } := I4.kept (t' := s4.toks) fun b ob z => Heap.get?_push_of_some _ z
  show wpAny (model X.prog X.w) X.A (subscriptTail e (.Slice none none (some (.UnaryOp .USub (.Constant (.int 1) k p1) p2)) p3) (.ref a) (.ref s4.heap.objs.size)) (EP X pins σ Q) X.xe { s4 with heap := s4.heap.push { cls := .type "slice", data := .fields #[v1, v2, v3] } }
  rcases q with ⟨hx, q⟩ | ⟨hx, q⟩
  · obtain ⟨its, r, ht, hz⟩ := I5.list hx
    have hl := r.length
    refine tail_any (ops := [.ref a, .ref s4.heap.objs.size]) ht.isList.typeIs (PySem.slot_list_getitem.lookup) (wpAny_getItem_list_slice ht.isList (Heap.IsSliceOf.new _ v1 v2 v3) q1 q2 q3 (by decide) ?_ (by rw [List.size_toArray]; omega)) (by with_unfolding_all rfl)
    rw [PySem.W.krv_pick]
    exact ⟨.ref _, _, I5.laid (t' := s4.toks) (o := .lst xs.reverse) (fun b ob z => Heap.get?_push_of_some _ z) (Nat.le_refl _) ⟨by rw [List.length_reverse]; exact hz, _, 0, r.reverse, Heap.get?_push_size _ rfl⟩, rfl, q _ (I5.hok.fresh (Nat.le_refl _))⟩
  · obtain ⟨its, r, ht, hz⟩ := I5.tuple hx
    have hl := r.length
    refine tail_any (ops := [.ref a, .ref s4.heap.objs.size]) ht.typeIs PyProof.Rows.slot_tuple_getitem.lookup (HT.pyc_tupRev ht (Heap.IsSliceOf.new _ v1 v2 v3) q1 q2 q3 (by omega) ?_) (by with_unfolding_all rfl)
    exact ⟨.ref _, _, I5.laid (t' := s4.toks) (o := .tup xs.reverse) (fun b ob z => Heap.get?_push_of_some _ z) (Nat.le_refl _) ⟨by rw [List.length_reverse]; exact hz, its.reverse, r.reverse, IsTup.new _ _⟩, rfl, q _ (I5.hok.fresh (Nat.le_refl _))⟩
section
variable {K : KC}
theorem RepL.rev {H : Hp} {T : AS} : ∀ {ds : List PyData} {xs : List V}, RepL K H T ds xs → RepL K H T ds.reverse xs.reverse
  | [], [], _ => trivial
  | d :: ds, x :: xs, ⟨h, t⟩ => by
    rw [List.reverse_cons, List.reverse_cons]
    exact RepL.append (RepL.rev t) ⟨h, trivial⟩
  | [], _ :: _, h => h.elim
  | _ :: _, [], h => h.elim
theorem ov_revA : OpV K .slRev (one (rRevA K.fr)) := by
  intro H T ps xs res Q ha e k
  simp only [opSem] at e
  unfold semRev at e
  split at e
  · cases e
    obtain ⟨x, rfl, a, us, rfl, q1, r1⟩ := ARL.one ha
    exact ⟨_, rfl, a, us, rfl, .inl ⟨.inl q1, res_lst k r1.rev⟩⟩
  · cases e
    obtain ⟨x, rfl, a, us, rfl, q1, r1⟩ := ARL.one ha
    exact ⟨_, rfl, a, us, rfl, .inr ⟨q1, res_tup k r1.rev⟩⟩
  · cases e
end
end PyC
end

section
set_option maxHeartbeats 200000
namespace PyC
open PySem PySem.Spec L2
def tyN : Ty → String
  | .int => "int" | .bool => "bool" | .str => "str" | .list => "list" | .tuple => "tuple"
def datN : PyData → String
  | .none => "NoneType" | .bool _ => "bool" | .int _ => "int" | .str _ => "str" | .list _ => "list" | .tuple _ => "tuple" | .dict _ => "dict"
theorem kit_all {K : PySem.W.Frag} {t : Ty} {p : PyData} : PySem.W.kitOne K (.type (datN p)) (.type (tyN t)) = some (isTy t p) := by
  cases p <;> cases t <;> dsimp only [datN, tyN, isTy] <;> exact kit_ty (by decide +kernel)
theorem kit_any {K : PySem.W.Frag} {p : PyData} : ∀ {ts : List Ty}, PySem.W.kitAny K (.type (datN p)) (ts.map fun t => .type (tyN t)) = some (ts.any fun t => isTy t p)
  | [] => rfl
  | t :: ts => kitAny_cons kit_all (fun h => by rw [kit_any]; simp [h]) (fun h => by simp [h])
theorem ty_of {K : KC} {H : Hp} {T : AS} {p : PyData} {x : V} (nd : ∀ kvs, p ≠ .dict kvs) (h : AR K H T p x) : TyX K.fr H x (.type (datN p)) := by
  cases p with
  | none => cases h; exact .base .non
  | bool b => cases h; exact .base (.bl b)
  | int b => cases h; exact .base (.int b)
  | str b => cases h; exact .base (.str b)
  | list ds =>
    obtain ⟨a, xs, rfl, q, _⟩ := h
    rcases q with q | ⟨o, q⟩
    · exact .base (.lst q)
    · exact .base (.frz q)
  | tuple ds =>
    obtain ⟨a, xs, rfl, q, _⟩ := h
    rcases q with (q | ⟨o, q⟩) | ⟨o, its, n, q1, q2, _⟩
    · exact .base (.tup q)
    · exact .fTuple q
    · exact .kTuple q1 q2
  | dict kvs => exact (nd kvs rfl).elim
end PyC
end

section
set_option maxHeartbeats 200000
namespace PyC
open PySem PySem.Spec L2
section
variable {C : RK} {call : CallT} {W : WX} {σ : L2.St} {H H1 H2 : Hp} {S T : AS} {ρ ρ1 : Rho} {Q : VK}
theorem al1_of {e : CE} (h : e.isVar = false) : al1 e = al e := by unfold al1; rw [h]; rfl
theorem Val.ar {v : Bool × PyData} {x : V} (h : Val C.fr H H1 T v x) : AR C.fr H1 T v.2 x := by
  unfold Val at h
  split at h
  · obtain ⟨t, rfl, _, _, r⟩ := h
    exact r.ar
  · exact h.ar
theorem opd_of {e : CE} {v : Bool × PyData} {x : V} (n : e.isVar = false) (b : Bd H H1 S σ ρ (al e) T) (h : Val C.fr H H1 T v x) : Opd C.fr H H1 S σ ρ e v.2 x := ⟨T, by rw [al1_of n]; exact b, h.ar⟩
/-- the values' operands together -/
theorem ValL.arl : ∀ {es : CEs} {vs : List (Bool × PyData)} {xs : List V}, ValL C.fr H H1 S σ ρ T es vs xs → ∃ T' : AS, Bd H H1 S σ ρ (alEs es) T' ∧ ARL C.fr H1 T' (vs.map (·.2)) xs
  | .nil, [], [], _ => ⟨fun _ => False, ⟨fun a z => z.elim, fun a z => z.elim⟩, trivial⟩
  | .cons e es, v :: vs, x :: xs, ⟨⟨T1, _, _, _, ⟨T0, b0, a0⟩, _⟩, t⟩ => by
    obtain ⟨T', b', a'⟩ := ValL.arl t
    refine ⟨fun a => T0 a ∨ T' a, b0.union b', ?_, ?_⟩
    · exact a0.stay (fun _ _ z _ => z) fun _ z => .inl z
    · exact arl_mono a' fun _ z => .inr z
  | .nil, _ :: _, _, h => h.elim
  | .nil, [], _ :: _, h => h.elim
  | .cons _ _, [], _, h => h.elim
  | .cons _ _, _ :: _, [], h => h.elim
where
  arl_mono {H : Hp} {T T' : AS} : ∀ {ps : List PyData} {xs : List V}, ARL C.fr H T ps xs → (∀ a, T a → T' a) → ARL C.fr H T' ps xs
  | [], [], _, _ => trivial
  | p :: ps, x :: xs, ⟨h, t⟩, m => ⟨h.stay (fun _ _ z _ => z) m, arl_mono t m⟩
  | [], _ :: _, h, _ => h.elim
  | _ :: _, [], h, _ => h.elim
theorem tE.op {o : Op} {es : CEs} {r : List V → Hp → VK → Prop} (h : tE C call W (.op o es) σ H Q) (hr : OpV C.fr o r) : tEs C call W es σ H fun xs H1 => r xs H1 Q := by
  obtain ⟨ρ, S, R, k⟩ := h
  simp only [evE] at k
  refine ⟨ρ, S, R, k.bind.imp (fun vs ρ' k xs H1 T R1 st1 b1 vl nd nw => ?_) fun _ _ _ z => z⟩
  split at k
  · rename_i res e
    obtain ⟨T', bd, ar⟩ := vl.arl
    refine hr H1 T' _ xs res Q ar e fun z H2 ⟨kp, vz⟩ => ?_
    have hv : Val C.fr H H2 T' res z := by
      unfold Val
      split at vz
      · rename_i hb
        rw [if_pos hb]
        obtain ⟨t, e1, n, rt⟩ := vz
        refine ⟨t, e1, st1.new R1 n, fun z => ?_, rt⟩
        obtain ⟨o', e2⟩ := bd.dm t z
        rw [n] at e2; cases e2
      · rename_i hb
        rw [if_neg hb]
        exact vz
    exact k z H2 T' (R1.ext kp) (st1.ext kp) (bd.ext kp) hv (opd_of rfl (bd.ext kp) hv)
  · exact k.elim
/-- a method -/
theorem tE.meth {o : Op} {a : CE} {es : CEs} {r : List V → Hp → VK → Prop} {P : V → Hp → Prop} (h : tE C call W (.meth o a es) σ H Q) (hr : OpV C.fr o r) (hP : ∀ (H : Hp) (T : AS) (p : PyData) (x : V), recvOk o p = true → AR C.fr H T p x → P x H) :
    tE C call W a σ H fun x H1 => P x H1 ∧ tEs C call W es σ H1 fun xs H2 => r (x :: xs) H2 Q := by
  obtain ⟨ρ, S, R, k⟩ := h
  simp only [evE] at k
  refine ⟨ρ, S, R, k.bind.imp (fun v ρ1 k x H1 T1 R1 st1 b1 v1 x1 => ?_) fun _ _ _ z => z⟩
  by_cases hv : (!recvOk o v.2) = true
  · rw [if_pos hv] at k; exact k.elim
  rw [if_neg hv] at k
  by_cases hs : (meets (al a) (mutsL es) && !flatD v.2) = true
  · rw [if_pos hs] at k; exact k.elim
  rw [if_neg hs] at k
  have hn : meets (al a) (mutsL es) = false ∨ flatD v.2 = true := by
    cases q : meets (al a) (mutsL es)
    · exact .inl rfl
    · cases q2 : flatD v.2
      · simp [q, q2] at hs
      · exact .inr rfl
  refine ⟨hP H1 T1 v.2 x (by simpa using hv) v1.ar, tEs.tail (Q := fun xs H2 => r xs H2 Q) R R1 st1 b1 v1 x1 hn (k.bind.imp (fun vs ρ' k xs H' T R' st' bd' vl nd nw => ?_) fun _ _ _ z => z)⟩
  split at k
  · rename_i res e
    obtain ⟨T', bd, ar⟩ := vl.arl
    refine hr H' T' _ xs res Q ar e fun z H2 ⟨kp, vz⟩ => ?_
    have hv : Val C.fr H H2 T' res z := by
      unfold Val
      split at vz
      · rename_i hb
        rw [if_pos hb]
        obtain ⟨t, e1, n, rt⟩ := vz
        refine ⟨t, e1, st'.new R' n, fun z => ?_, rt⟩
        obtain ⟨o', e2⟩ := bd.dm t z
        rw [n] at e2; cases e2
      · rename_i hb
        rw [if_neg hb]
        exact vz
    exact k z H2 T' (R'.ext kp) (st'.ext kp) (bd.ext kp) hv (opd_of rfl (bd.ext kp) hv)
  · exact k.elim
theorem tE.op1 {o : Op} {a : CE} {r : V → Hp → VK → Prop} (h : tE C call W (.op o (.cons a .nil)) σ H Q) (hr : OpV C.fr o (one r)) : tE C call W a σ H fun x H1 => r x H1 Q := by
  refine (h.op hr).cons.mono fun x H1 h1 => ?_
  obtain ⟨x', e, q⟩ := h1.nil
  cases e; exact q
theorem tE.op2 {o : Op} {a b : CE} {r : R2} (h : tE C call W (.op o (.cons a (.cons b .nil))) σ H Q) (hr : OpV C.fr o (two r)) : tOp r (tE C call W a) (tE C call W b) σ H Q := by
  refine (h.op hr).cons.mono fun x H1 h1 => h1.cons.mono fun y H2 h2 => ?_
  obtain ⟨x', y', e, q⟩ := h2.nil
  cases e; exact q
/-- a name -/
theorem tE.var {i : Nat} (h : tE C call W (.var i) σ H Q) : tVar i σ H Q := by
  obtain ⟨ρ, S, R, k⟩ := h
  simp only [evE, rd] at k
  cases e : ρ[i]? with
  | none => rw [e] at k; exact k.elim
  | some s =>
    rw [e] at k
    simp only at k
    cases s with
    | un => exact k.elim
    | ex c ps => exact k.elim
    | fz p =>
      obtain ⟨v, h1, h2⟩ := R.fz i p e
      exact ⟨v, h1, k v H S R .refl (.none R) h2 ⟨S, .none R, h2.ar⟩⟩
    | my p => exact own R k e rfl rfl
    | lk p => exact own R k e rfl rfl
where
  own {i : Nat} {s : Slot} {p : PyData} {ρ : Rho} {S : AS} (R : RepS C H S σ ρ) (k : ∀ x H' T, RepS C H' S σ ρ → Stp H H' σ ρ ρ (muts (.var i)) → Bd H H' S σ ρ (al (.var i)) T → Val C.fr H H' T (false, p) x → Opd C.fr H H' S σ ρ (.var i) p x → Q x H')
      (e : ρ[i]? = some s) (m : s.mine = true) (v : s.val? = some p) : tVar i σ H Q := by
    obtain ⟨a, h1, h2, h3⟩ := R.my i s p e m v
    refine ⟨.ref a, h1, k (.ref a) H (fun b => S b ∨ b = a) R .refl ⟨fun b t => ?_, fun b t => ?_⟩ ?_ ⟨S, .none R, h3.ar⟩⟩
    · rcases t with t | t
      · exact .inl t
      · exact .inr (.inl ⟨i, by simp [al], s, e, m, by rw [t]; exact h1⟩)
    · rcases t with t | t
      · exact R.dom b t
      · obtain ⟨ds, xs, _, q, _⟩ := h3
        exact ⟨_, by rw [t]; exact q⟩
    · unfold Val
      rw [if_neg (by simp)]
      exact h3.rep (fun _ z => .inl z) (.inr rfl)
/-- a constant -/
theorem tE.cst {p : PyData} {v : V} (h : tE C call W (.cst p) σ H Q) (hv : ∀ (H : Hp), Rep C.fr H (fun _ => False) p v) : Q v H := by
  obtain ⟨ρ, S, R, k⟩ := h
  simp only [evE] at k
  exact k v H (fun _ => False) R .refl ⟨fun a z => z.elim, fun a z => z.elim⟩ (by unfold Val; rw [if_neg (by simp)]; exact hv H) ⟨fun _ => False, ⟨fun a z => z.elim, fun a z => z.elim⟩, (hv H).ar⟩
theorem Val.bool {b : Bool} {x : V} {v : Bool × PyData} (h : Val C.fr H H1 T v x) (e : v.2 = .bool b) : x = .bl b := by
  unfold Val at h
  split at h
  · obtain ⟨t, _, _, _, r⟩ := h
    have e2 := r.flatF
    rw [e] at e2; cases e2
  · rw [e] at h; exact h
theorem Val.int {b : Int} {x : V} {v : Bool × PyData} (h : Val C.fr H H1 T v x) (e : v.2 = .int b) : x = .int b := by
  unfold Val at h
  split at h
  · obtain ⟨t, _, _, _, r⟩ := h
    have e2 := r.flatF
    rw [e] at e2; cases e2
  · rw [e] at h; exact h
theorem Bd.empty : Bd H H1 S σ ρ as (fun _ => False) := ⟨fun a z => z.elim, fun a z => z.elim⟩
/-- a truth value comes of it -/
theorem val_bl {b : Bool} {K : KC} : Val K H H1 (fun _ => False) (false, .bool b) (.bl b) := by
  unfold Val; rw [if_neg (by simp)]; rfl
theorem opd_bl {b : Bool} {e : CE} {K : KC} : Opd K H H1 S σ ρ e (.bool b) (.bl b) := ⟨fun _ => False, Bd.empty, rfl⟩
theorem Res.ok {α : Type} {a : α} {ρ : Rho} {P : α → Rho → Prop} {E : Nat → List PyData → Rho → Prop} (h : Res (.ok a ρ) P E) : P a ρ := h
/-- the last part's outcome, a truth value -/
theorem bl_last {b : CE} {ms : List Nat} {e : CE} (R1 : RepS C H1 S σ ρ1) (st : Stp H H1 σ ρ ρ1 ms)
    (hm : ∀ i ∈ ms ++ muts b, i ∈ muts e)
    (k : Res ((evE call b ρ1).bind fun w ρ => match w.2 with
      | .bool k => .ok (false, .bool k) ρ
      | _ => .stuck) (fun v ρ' => ∀ x H' T, RepS C H' S σ ρ' → Stp H H' σ ρ ρ' (muts e) → Bd H H' S σ ρ (al e) T → Val C.fr H H' T v x → Opd C.fr H H' S σ ρ e v.2 x → Q x H') (tX C W H S σ ρ)) : tE C call W b σ H1 Q := by
  refine ⟨ρ1, S, R1, k.bind.imp (fun w ρ2 k y H2 T2 R2 st2 b2 v2 _ => ?_) fun _ _ _ z => z.back R1 st⟩
  split at k
  · rename_i kb e0
    rw [v2.bool e0]
    exact k _ H2 _ R2 ((st.trans st2).mono hm) .empty val_bl opd_bl
  · exact k.elim
theorem tE.and {a b : CE} (h : tE C call W (.andE a b) σ H Q) : tAndV (tE C call W a) (tE C call W b) σ H Q := by
  obtain ⟨ρ, S, R, k⟩ := h
  simp only [evE] at k
  refine ⟨ρ, S, R, k.bind.imp (fun v ρ1 k x H1 T R1 st1 b1 v1 _ => ?_) fun _ _ _ z => z⟩
  split at k
  · rename_i e0
    refine ⟨true, v1.bool e0, ?_⟩
    rw [if_pos rfl]
    exact bl_last R1 st1 (by simp [muts]) k
  · rename_i e0
    refine ⟨false, v1.bool e0, ?_⟩
    rw [if_neg (by simp)]
    exact k _ H1 _ R1 (st1.mono (by simp [muts]; exact fun i h => .inl h)) .empty val_bl opd_bl
  · exact k.elim
theorem tE.or {a b : CE} (h : tE C call W (.orE a b) σ H Q) : tOrV (tE C call W a) (tE C call W b) σ H Q := by
  obtain ⟨ρ, S, R, k⟩ := h
  simp only [evE] at k
  refine ⟨ρ, S, R, k.bind.imp (fun v ρ1 k x H1 T R1 st1 b1 v1 _ => ?_) fun _ _ _ z => z⟩
  split at k
  · rename_i e0
    refine ⟨false, v1.bool e0, ?_⟩
    rw [if_neg (by simp)]
    exact bl_last R1 st1 (by simp [muts]) k
  · rename_i e0
    refine ⟨true, v1.bool e0, ?_⟩
    rw [if_pos rfl]
    exact k _ H1 _ R1 (st1.mono (by simp [muts]; exact fun i h => .inl h)) .empty val_bl opd_bl
  · exact k.elim
theorem tE.not {a : CE} (h : tE C call W (.notE a) σ H Q) : tNotV (tE C call W a) σ H Q := by
  obtain ⟨ρ, S, R, k⟩ := h
  simp only [evE] at k
  refine ⟨ρ, S, R, k.bind.imp (fun v ρ1 k x H1 T R1 st1 b1 v1 _ => ?_) fun _ _ _ z => z⟩
  split at k
  · rename_i kb e0
    exact ⟨kb, v1.bool e0, k _ H1 _ R1 st1 .empty val_bl opd_bl⟩
  · exact k.elim
/-- a branch -/
theorem branch {b e : CE} {ms : List Nat} (n : e.isVar = false) (R1 : RepS C H1 S σ ρ1) (st : Stp H H1 σ ρ ρ1 ms) (hm : ∀ i ∈ ms ++ muts b, i ∈ muts e) (ha : ∀ i ∈ al b, i ∈ al e)
    (k : Res (evE call b ρ1) (fun v ρ' => ∀ x H' T, RepS C H' S σ ρ' → Stp H H' σ ρ ρ' (muts e) → Bd H H' S σ ρ (al e) T → Val C.fr H H' T v x → Opd C.fr H H' S σ ρ e v.2 x → Q x H') (tX C W H S σ ρ)) : tE C call W b σ H1 Q :=
  ⟨ρ1, S, R1, k.imp (fun w ρ2 k y H2 T2 R2 st2 b2 v2 _ => by
    have bb := (b2.back R1 st).mono ha
    have vv := v2.back fun c z => st.new R1 z
    exact k y H2 T2 R2 ((st.trans st2).mono hm) bb vv (opd_of n bb vv)) fun _ _ _ z => z.back R1 st⟩
theorem tE.ite {c a b : CE} (h : tE C call W (.ifE c a b) σ H Q) : tIf (tB (tE C call W c)) (tE C call W a) (tE C call W b) σ H Q := by
  obtain ⟨ρ, S, R, k⟩ := h
  simp only [evE] at k
  refine ⟨ρ, S, R, k.bind.imp (fun v ρ1 k x H1 T R1 st1 b1 v1 _ => ?_) fun _ _ _ z => z⟩
  split at k
  · rename_i e0
    refine ⟨true, v1.bool e0, ?_⟩
    dsimp only
    rw [if_pos rfl]
    exact branch rfl R1 st1 (by simp [muts]; rintro i (h | h) <;> simp [h]) (by simp [al]; exact fun i h => .inl h) k
  · rename_i e0
    refine ⟨false, v1.bool e0, ?_⟩
    dsimp only
    rw [if_neg (by simp)]
    exact branch rfl R1 st1 (by simp [muts]; rintro i (h | h) <;> simp [h]) (by simp [al]; exact fun i h => .inr h) k
  · exact k.elim
theorem tE.chain {o1 o2 : Op} {a b c : CE} {r r' : R2} (h : tE C call W (.chn o1 o2 a b c) σ H Q) (h1 : OpV C.fr o1 (two r)) (h2 : OpV C.fr o2 (two r')) :
    tChain r r' (tE C call W a) (tE C call W b) (tE C call W c) σ H Q := by
  obtain ⟨ρ, S, R, k⟩ := h
  simp only [evE] at k
  refine ⟨ρ, S, R, k.bind.imp (fun v ρ1 k x H1 T1 R1 st1 b1 v1 x1 => ?_) fun _ _ _ z => z⟩
  refine ⟨ρ1, S, R1, k.bind.imp (fun w ρ2 k y H2 T2 R2 st2 b2 v2 y2 => ?_) fun _ _ _ z => z.back R1 st1⟩
  split at k
  · exact k.elim
  rename_i hf
  simp only [Bool.not_eq_true', Bool.not_eq_false, Bool.and_eq_true] at hf
  obtain ⟨fx, fy⟩ := hf
  have vx : Val C.fr H H2 T1 v x := v1.stay R R1 b1 st1 st2 (.inr fx)
  have st12 := st1.trans st2
  -- the operands are flat: they lean on nothing
  have rx : ∀ {H3 : Hp} {ρ3 : Rho} {ns : List Nat}, RepS C H3 S σ ρ3 → Stp H2 H3 σ ρ2 ρ3 ns → AR C.fr H3 (fun _ => False) v.2 x := fun {H3 ρ3 ns} R3 st3 => flat_ar fx vx R2 st3
  have ry : ∀ {H3 : Hp} {ρ3 : Rho} {ns : List Nat}, RepS C H3 S σ ρ3 → Stp H2 H3 σ ρ2 ρ3 ns → AR C.fr H3 (fun _ => False) w.2 y := fun {H3 ρ3 ns} R3 st3 => flat_ar fy v2 R2 st3
  have fin : ∀ (kb : Bool) (fr1 : Bool), opSem o1 [v.2, w.2] = some (fr1, .bool kb) → (∀ H3, (∀ a o, H2 a = some o → H3 a = some o) → if kb = true then tE C call W c σ H3 fun w' H4 => r' y w' H4 Q else Q (.bl false) H3) →
      r x y H2 fun z H3 => ∃ k, z = .bl k ∧ if k = true then tE C call W c σ H3 fun w' H4 => r' y w' H4 Q else Q (.bl false) H3 := fun kb fr1 e1 q => by
    obtain ⟨x', y', e, q2⟩ := h1 H2 (fun _ => False) [v.2, w.2] [x, y] _ (fun z H3 => ∃ k, z = .bl k ∧ if k = true then tE C call W c σ H3 fun w' H4 => r' y w' H4 Q else Q (.bl false) H3) ⟨rx (ns := []) R2 .refl, ry (ns := []) R2 .refl, trivial⟩ e1
      fun z H3 vz => ⟨kb, opres_bl vz, q H3 vz.1⟩
    cases e; exact q2
  split at k
  · rename_i fr1 e1
    refine fin true fr1 e1 fun H3 kp => ?_
    rw [if_pos rfl]
    have R3 := R2.ext kp
    have st13 : Stp H H3 σ ρ ρ2 (muts a ++ muts b) := st12.ext kp
    refine ⟨ρ2, S, R3, k.bind.imp (fun u ρ3 k z H4 T4 R4 st4 b4 v4 z4 => ?_) fun _ _ _ z => z.back R3 st13⟩
    split at k
    · rename_i fr2 kb e2
      obtain ⟨T0, b0, a0⟩ := z4
      have st24 : Stp H2 H4 σ ρ2 ρ3 ([] ++ muts c) := (Stp.refl.ext kp).trans st4
      have ay : AR C.fr H4 T0 w.2 y := (ry R4 st24).stay (fun _ _ z _ => z) fun _ z => z.elim
      obtain ⟨x', y', e, q2⟩ := h2 H4 T0 [w.2, u.2] [y, z] _ Q ⟨ay, a0, trivial⟩ e2 fun z' H5 vz => by
        rw [opres_bl vz]
        exact k _ H5 _ (R4.ext vz.1) (((st13.trans st4).ext vz.1).mono (by simp [muts])) .empty val_bl opd_bl
      cases e; exact q2
    · exact k.elim
  · rename_i fr1 e1
    refine fin false fr1 e1 fun H3 kp => ?_
    rw [if_neg (by simp)]
    exact k _ H3 _ (R2.ext kp) ((st12.ext kp).mono (by simp [muts]; rintro i (h | h) <;> simp [h])) .empty val_bl opd_bl
  · exact k.elim
where
  flat_ar {H H1 H2 : Hp} {S T : AS} {σ : L2.St} {ρ1 ρ2 : Rho} {ns : List Nat} {v : Bool × PyData} {x : V} (f : flatD v.2 = true) (h : Val C.fr H H1 T v x) (R1 : RepS C H1 S σ ρ1) (st : Stp H1 H2 σ ρ1 ρ2 ns) : AR C.fr H2 (fun _ => False) v.2 x := by
    unfold Val at h
    split at h
    · obtain ⟨t, _, _, _, r⟩ := h
      rw [r.flatF] at f; cases f
    · have h0 : Rep C.fr H1 (fun _ => False) v.2 x := h.flat f
      refine (h0.stay (T := fun _ => False) (fun a o e t z => st.mv a o e t fun w => ?_) fun _ z => z).ar
      rcases z with z | z
      · exact z.elim
      · obtain ⟨_, xs, e', mo⟩ := R1.owns w
        rw [e] at e'; cases e'; exact z mo
  opres_bl {b fr : Bool} {Ha Hb : Hp} {T : AS} {z : V} (vz : OpRes C.fr Ha T (fr, .bool b) z Hb) : z = .bl b := by
    obtain ⟨_, vz⟩ := vz
    split at vz
    · obtain ⟨t, _, _, r⟩ := vz
      cases r.flatF
    · exact vz
def clen : CEs → Nat
  | .nil => 0 | .cons _ es => clen es + 1
theorem ValL.len : ∀ {es : CEs} {vs : List (Bool × PyData)} {xs : List V}, ValL C.fr H H1 S σ ρ T es vs xs → xs.length = clen es ∧ vs.length = clen es
  | .nil, [], [], _ => ⟨rfl, rfl⟩
  | .cons e es, v :: vs, x :: xs, ⟨_, t⟩ => by
    obtain ⟨h1, h2⟩ := ValL.len t
    simp [clen, h1, h2]
  | .nil, _ :: _, _, h => h.elim
  | .nil, [], _ :: _, h => h.elim
  | .cons _ _, [], _, h => h.elim
  | .cons _ _, _ :: _, [], h => h.elim
/-- the values as items -/
theorem ValL.repl : ∀ {es : CEs} {vs : List (Bool × PyData)} {xs : List V}, ValL C.fr H H1 S σ ρ T es vs xs → RepL C.fr H1 (fun a => T a ∨ a ∈ fresh vs xs) (vs.map (·.2)) xs
  | .nil, [], [], _ => trivial
  | .cons e es, v :: vs, x :: xs, ⟨⟨T1, m, _, hv, _, _⟩, t⟩ => by
    refine ⟨?_, (ValL.repl t).wk fun a z => z.imp id fun y => (fresh_cons a).mpr (.inr y)⟩
    unfold Val at hv
    split at hv
    · rename_i hb
      obtain ⟨t', e1, _, _, r⟩ := hv
      subst e1
      exact r.rep (fun b z => .inl (m b z)) (.inr ((fresh_cons t').mpr (.inl ⟨hb, rfl⟩)))
    · exact hv.wk fun a z => .inl (m a z)
  | .nil, _ :: _, _, h => h.elim
  | .nil, [], _ :: _, h => h.elim
  | .cons _ _, [], _, h => h.elim
  | .cons _ _, _ :: _, [], h => h.elim
theorem ValL.there : ∀ {es : CEs} {vs : List (Bool × PyData)} {xs : List V}, ValL C.fr H H1 S σ ρ T es vs xs → ∀ t ∈ fresh vs xs, ∃ o, H1 t = some o
  | .nil, [], [], _, t, ht => by simp [fresh] at ht
  | .cons e es, v :: vs, x :: xs, ⟨⟨T1, m, _, hv, _, _⟩, tl⟩, t, ht => by
    rcases (fresh_cons t).mp ht with ⟨hb, e⟩ | h
    · unfold Val at hv
      rw [if_pos hb] at hv
      obtain ⟨t', e1, _, _, ds, zs, _, e2, _⟩ := hv
      rw [e] at e1; cases e1
      exact ⟨_, e2⟩
    · exact ValL.there tl t h
  | .nil, _ :: _, _, h, _, _ => h.elim
  | .nil, [], _ :: _, h, _, _ => h.elim
  | .cons _ _, [], _, h, _, _ => h.elim
  | .cons _ _, _ :: _, [], h, _, _ => h.elim
theorem bd_fresh {es : CEs} {vs : List (Bool × PyData)} {xs : List V} {as : List Nat} (b : Bd H H1 S σ ρ as T) (vl : ValL C.fr H H1 S σ ρ T es vs xs) (nw : ∀ t ∈ fresh vs xs, H t = none) : Bd H H1 S σ ρ as (fun a => T a ∨ a ∈ fresh vs xs) :=
  ⟨fun a z => z.elim (b.bd a) fun y => .inr (.inr (nw a y)), fun a z => z.elim (b.dm a) fun y => vl.there a y⟩
theorem tE.tup {es : CEs} (h : tE C call W (.tup es) σ H Q) (hl : clen es ≤ big) : tTup (tEs C call W es) σ H Q := by
  obtain ⟨ρ, S, R, k⟩ := h
  simp only [evE] at k
  refine ⟨ρ, S, R, k.bind.imp (fun vs ρ' k xs H1 T R1 st1 b1 vl nd nw => ?_) fun _ _ _ z => z⟩
  refine ⟨by rw [vl.len.1]; exact big_line hl, fun p hp => ?_⟩
  have kp := keep_new (o := .tup xs) hp
  have bd : Bd H (upd H1 p (.tup xs)) S σ ρ (al (.tup es)) (fun a => T a ∨ a ∈ fresh vs xs) := (bd_fresh b1 vl nw).ext kp
  have vv : Val C.fr H (upd H1 p (.tup xs)) (fun a => T a ∨ a ∈ fresh vs xs) (false, .tuple (vs.map (·.2))) (.ref p) := by
    unfold Val
    rw [if_neg (by simp)]
    exact ⟨p, xs, rfl, SqT.of upd_same, stay_new hp vl.repl⟩
  exact k _ _ _ (R1.ext kp) (st1.ext kp) bd vv (opd_of rfl bd vv)
theorem tE.lst {es : CEs} (h : tE C call W (.lst es) σ H Q) (hl : clen es ≤ big) : tLst (tEs C call W es) σ H Q := by
  obtain ⟨ρ, S, R, k⟩ := h
  simp only [evE] at k
  refine ⟨ρ, S, R, k.bind.imp (fun vs ρ' k xs H1 T R1 st1 b1 vl nd nw => ?_) fun _ _ _ z => z⟩
  refine ⟨by rw [vl.len.1]; exact big_line hl, fun p hp => ?_⟩
  have kp := keep_new (o := .lst xs) hp
  have bd : Bd H (upd H1 p (.lst xs)) S σ ρ (al (.lst es)) (fun a => T a ∨ a ∈ fresh vs xs) := (bd_fresh b1 vl nw).ext kp
  have vv : Val C.fr H (upd H1 p (.lst xs)) (fun a => T a ∨ a ∈ fresh vs xs) (true, .list (vs.map (·.2))) (.ref p) := by
    unfold Val
    rw [if_pos rfl]
    refine ⟨p, rfl, st1.new R1 hp, fun z => ?_, Root.mkL upd_same (stay_new hp vl.repl)⟩
    obtain ⟨o, e⟩ := (bd_fresh b1 vl nw).dm p z
    rw [hp] at e; cases e
  exact k _ _ _ (R1.ext kp) (st1.ext kp) bd vv (opd_of rfl bd vv)
/-! changing an object of the frame's own -/
theorem getElem?_set_self' {α : Type} {l : List α} {i : Nat} {a s : α} (e : l[i]? = some s) : (l.set i a)[i]? = some a := by
  rw [List.getElem?_set_self (List.getElem?_eq_some_iff.mp e).1]
/-- slot i's own list is changed: what stands elsewhere stays -/
theorem RepS.setOwn {i : Nat} {p p' : PyData} {a : Addr} (R : RepS C H S σ ρ) (e : ρ[i]? = some (.my p)) (ea : σ[i]? = some (some (.ref a))) (k : ∀ b o, b ≠ a → H b = some o → H1 b = some o) (r : Root C.fr H1 S p' a) :
    RepS C H1 S σ (ρ.set i (.my p')) ∧ Stp H H1 σ ρ (ρ.set i (.my p')) [i] := by
  have own : Own σ ρ i a := ⟨_, e, rfl, ea⟩
  have ns : ¬ S a := (R.own own).1
  have alst : ∀ o, H a = some o → MO o := fun o h => by
    obtain ⟨_, p, _, xs, mo, q, _⟩ := R.own own
    rw [q] at h; cases h; exact mo
  obtain ⟨o1, e1, _⟩ := r.obj
  have kk : ∀ b o, H b = some o → NT o → (S b ∨ NL o) → H1 b = some o := fun b o h _ z => k b o (fun q => by
    subst q
    rcases z with z | z
    · exact ns z
    · exact z (alst o h)) h
  have ci : Chg ρ (ρ.set i (.my p')) [i] := by
    refine ⟨by simp, fun j hj => ?_, fun j => ?_⟩
    · rw [List.getElem?_set_ne (fun q => hj (by simp [q]))]
    · by_cases h : i = j
      · subst h
        exact .inr ⟨_, _, e, getElem?_set_self' e⟩
      · exact .inl (List.getElem?_set_ne h)
  refine ⟨⟨?_, fun j p h => ?_, fun j s p h m v => ?_, fun j1 j2 b h1 h2 => R.sep j1 j2 b (ci.own.mp h1) (ci.own.mp h2), fun b h => ?_, ?_, fun j c ps h => ?_⟩, ⟨ci, fun b o h _ n => k b o (fun q => n ⟨i, by simp, _, e, by rw [q]; exact ea⟩) h, fun b o h => ?_⟩⟩
  · rw [List.length_set]; exact R.len
  · by_cases hj : i = j
    · subst hj; rw [getElem?_set_self' e] at h; cases h
    · rw [List.getElem?_set_ne hj] at h
      obtain ⟨v, h1, h2⟩ := R.fz j p h
      exact ⟨v, h1, h2.stay kk fun _ z => z⟩
  · by_cases hj : i = j
    · subst hj
      rw [getElem?_set_self' e] at h
      cases h
      cases v
      exact ⟨a, ea, ns, r⟩
    · rw [List.getElem?_set_ne hj] at h
      obtain ⟨b, h1, h2, h3⟩ := R.my j s p h m v
      have nb : b ≠ a := fun q => hj (R.sep i j a own ⟨s, h, m, by rw [← q]; exact h1⟩)
      exact ⟨b, h1, h2, h3.stay (fun c o h t z => by
        rcases z with z | z | z
        · exact k c o (by rw [z]; exact nb) h
        · exact kk c o h t (.inl z)
        · exact kk c o h t (.inr z)) fun _ z => z⟩
  · by_cases q : b = a
    · exact absurd (q ▸ h) ns
    · obtain ⟨o, e⟩ := R.dom b h
      exact ⟨o, k b o q e⟩
  · exact tabs_mv R.tab fun b o h z => k b o (fun q => by
      subst q
      exact z (alst o h)) h
  · by_cases hj : i = j
    · subst hj; rw [getElem?_set_self' e] at h; cases h
    · rw [List.getElem?_set_ne hj] at h
      obtain ⟨h1, h2⟩ := R.exq j c ps h
      exact ⟨h1, h2.stay kk fun _ z => z⟩
  · by_cases q : b = a
    · exact ⟨_, q ▸ e1⟩
    · exact ⟨o, k b o q h⟩
theorem RepL.dropLast {K : KC} : ∀ {ds : List PyData} {xs : List V}, RepL K H T ds xs → RepL K H T ds.dropLast xs.dropLast
  | [], [], _ => trivial
  | [_], [_], _ => trivial
  | _ :: _ :: _, _ :: _ :: _, ⟨h, t⟩ => ⟨h, RepL.dropLast t⟩
  | [], _ :: _, h => h.elim
  | _ :: _, [], h => h.elim
  | [_], _ :: _ :: _, ⟨_, h⟩ => h.elim
  | _ :: _ :: _, [_], ⟨_, h⟩ => h.elim
theorem RepL.eraseIdx {K : KC} : ∀ {ds : List PyData} {xs : List V} (n : Nat), RepL K H T ds xs → RepL K H T (ds.eraseIdx n) (xs.eraseIdx n)
  | [], [], _, _ => trivial
  | _ :: _, _ :: _, 0, ⟨_, t⟩ => t
  | _ :: _, _ :: _, n + 1, ⟨h, t⟩ => ⟨h, RepL.eraseIdx n t⟩
  | [], _ :: _, _, h => h.elim
  | _ :: _, [], _, h => h.elim
/-- an item of a list of the frame's own, once it is out -/
theorem item_out {i : Nat} {e : CE} {ds ds' : List PyData} {a : Addr} {ys : List V} {p : PyData} {y : V} {ms : List Nat} (hS : RepS C H S σ ρ) (R : RepS C H1 S σ ρ1) (st : Stp H H1 σ ρ ρ1 ms) (n : e.isVar = false) (hm : ∀ j ∈ ms ++ [i], j ∈ muts e) (e0 : ρ1[i]? = some (.my (.list ds))) (ea : σ[i]? = some (some (.ref a))) (r : RepL C.fr H1 S ds' ys) (ry : Rep C.fr H1 S p y)
    (k : ∀ x H' T, RepS C H' S σ (ρ1.set i (.my (.list ds'))) → Stp H H' σ ρ (ρ1.set i (.my (.list ds'))) (muts e) → Bd H H' S σ ρ (al e) T → Val C.fr H H' T (false, p) x → Opd C.fr H H' S σ ρ e p x → Q x H') : Q y (upd H1 a (.lst ys)) := by
  have own : Own σ ρ1 i a := ⟨_, e0, rfl, ea⟩
  have ns : ¬ S a := (R.own own).1
  obtain ⟨_, p0, d0, x0, m0, q0, _⟩ := R.own own
  have kp : ∀ b o, b ≠ a → H1 b = some o → upd H1 a (.lst ys) b = some o := fun b o h e => by rw [upd_ne h]; exact e
  have kk : ∀ b o, H1 b = some o → NT o → (S b ∨ NL o) → upd H1 a (.lst ys) b = some o := fun b o h _ z => kp b o (fun q => by
    subst q
    rcases z with z | z
    · exact ns z
    · rw [q0] at h; cases h; exact z m0) h
  obtain ⟨R2, st2⟩ := R.setOwn e0 ea kp (Root.mkL upd_same (r.stay kk fun _ z => z))
  have bd : Bd H (upd H1 a (.lst ys)) S σ ρ (al e) S := ⟨fun b z => .inl z, R2.dom⟩
  have vv : Val C.fr H (upd H1 a (.lst ys)) S (false, p) y := by
    unfold Val; rw [if_neg (by simp)]; exact ry.stay kk fun _ z => z
  exact k _ _ S R2 ((st.trans st2).mono hm) bd vv (opd_of n bd vv)
theorem tE.pop {i : Nat} (h : tE C call W (.pop i) σ H Q) : tBM0 C.fr.fr "list" rPop (tVar i) σ H Q := by
  obtain ⟨ρ, S, R, k⟩ := h
  simp only [evE] at k
  split at k
  · rename_i ds e0
    split at k
    · rename_i p hp
      obtain ⟨a, ea, ns, r⟩ := R.my i _ _ e0 rfl rfl
      obtain ⟨xs, e2, r⟩ := r.invL
      have hl : ds[ds.length - 1]? = some p := by rw [← List.getLast?_eq_getElem?]; exact hp
      obtain ⟨y, hy, ry⟩ := r.get hl
      rw [r.length] at hy
      exact ⟨.ref a, ea, .inl ⟨rfl, xs, .inl (.inl e2)⟩, a, xs, y, rfl, rfl, e2, hy, item_out (ms := []) R R .refl rfl (by simp [muts]) e0 ea r.dropLast ry k.ok⟩
    · exact k.elim
  · exact k.elim
/-- one argument -/
def t1 (t : TE) : TA := fun σ H Q => t σ H fun x H1 => Q [x] H1
theorem Chg.my_back {ms : List Nat} {i : Nat} {p : PyData} (c : Chg ρ ρ1 ms) (e : ρ1[i]? = some (.my p)) : ∃ q, ρ[i]? = some (.my q) := by
  rcases c.in_ i with h | ⟨q, q', h1, _⟩
  · exact ⟨p, by rw [← h]; exact e⟩
  · exact ⟨q, h1⟩
theorem place_seq {n : Nat} {i : Int} {j : Nat} (h : place n i = some j) : seqIndex? i n = some j := (ixN_seq (place_ix h)).1
/-- slot i's own list, read as an operand -/
theorem own_list {ms : List Nat} {i : Nat} {ds : List PyData} (R : RepS C H S σ ρ) (R1 : RepS C H1 S σ ρ1) (st : Stp H H1 σ ρ ρ1 ms) (e : ρ1[i]? = some (.my (.list ds))) :
    ∃ a xs, σ[i]? = some (some (.ref a)) ∧ (∃ o, H a = some o) ∧ H1 a = some (.lst xs) ∧ RepL C.fr H1 S ds xs := by
  obtain ⟨a, ea, ns, r⟩ := R1.my i _ _ e rfl rfl
  obtain ⟨xs, e2, r⟩ := r.invL
  obtain ⟨q, hq⟩ := st.chg.my_back e
  obtain ⟨a', ea', _, _, zs, _, e4, _⟩ := R.my i _ q hq rfl rfl
  rw [ea] at ea'; cases ea'
  exact ⟨a, xs, ea, ⟨zs, e4⟩, e2, r⟩
theorem isMy_some {i : Nat} (h : ¬ (!isMy ρ i) = true) : ∃ p, ρ[i]? = some (.my (.list p)) := by
  unfold isMy at h
  split at h
  · rename_i p e; exact ⟨p, e⟩
  · simp at h
theorem my_addr {i : Nat} {p : List PyData} (R : RepS C H S σ ρ) (e : ρ[i]? = some (.my (.list p))) : ∃ a zs, σ[i]? = some (some (.ref a)) ∧ H a = some (.lst zs) := by
  obtain ⟨a, ea, _, r⟩ := R.my i _ _ e rfl rfl
  obtain ⟨zs, e2, _⟩ := r.invL
  exact ⟨a, zs, ea, e2⟩
theorem tE.popAt {i : Nat} {j : CE} (h : tE C call W (.popAt i j) σ H Q) : tBM C.fr.fr "list" rPopAt (tVar i) (t1 (tE C call W j)) σ H Q := by
  obtain ⟨ρ, S, R, k⟩ := h
  simp only [evE] at k
  split at k
  · exact k.elim
  rename_i hm
  obtain ⟨p0, e0⟩ := isMy_some hm
  obtain ⟨a, zs, ea, eb⟩ := my_addr R e0
  refine ⟨.ref a, ea, .inl ⟨rfl, zs, .inl (.inl eb)⟩, ρ, S, R, k.bind.imp (fun v ρ1 k y H1 T R1 st1 b1 v1 y1 => ?_) fun _ _ _ z => z⟩
  split at k
  · rename_i n ds e1 e2
    split at k
    · exact k.elim
    rename_i hs
    simp only [Bool.not_eq_true', Bool.not_eq_false] at hs
    have hs := small_of hs
    split at k
    · rename_i m hp
      split at k
      · rename_i q hq
        obtain ⟨a', xs, ea', _, e3, r⟩ := own_list R R1 st1 e2
        rw [ea] at ea'; cases ea'
        obtain ⟨z, hz, rz⟩ := r.get hq
        refine ⟨a, xs, n, m, z, rfl, by rw [v1.int e1], e3, by omega, by omega, ?_, hz, item_out R R1 st1 rfl (by simp [muts]; rintro j (h | h) <;> simp [h]) e2 ea (r.eraseIdx m) rz k.ok⟩
        rw [← r.length]; exact place_seq hp
      · exact k.elim
    · exact k.elim
  · exact k.elim
def FldJ (k l j : Nat) : Prop := (k = 0 ∧ l = 1 ∧ j = 0) ∨ (k = 1 ∧ l = 2 ∧ j = 0) ∨ (k = 2 ∧ l = 2 ∧ j = 1)
def FldK (k : Nat) (ns : List Str) (n : Str) : Prop := ∃ j, FldJ k ns.length j ∧ ns[j]? = some n
theorem fldAt_get {ps : List PyData} {k : Nat} {p : PyData} (h : fldAt ps k = some p) : ∃ j, ps[j]? = some p ∧ FldJ k ps.length j := by
  unfold fldAt at h
  split at h
  · exact ⟨0, h, .inl ⟨rfl, rfl, rfl⟩⟩
  · exact ⟨0, h, .inr (.inl ⟨rfl, rfl, rfl⟩)⟩
  · exact ⟨1, h, .inr (.inr ⟨rfl, rfl, rfl⟩)⟩
  · cases h
theorem FldK.two {k : Nat} {ns : List Str} {n : Str} (h : FldK k ns n) (e : ns = [] ∨ (ns = [("value" : Str)] ∨ ns = [("what" : Str), "limit"])) : n = fldOf k ∧ n ∈ ns := by
  obtain ⟨j, h1, h2⟩ := h
  rcases e with rfl | rfl | rfl <;> rcases h1 with ⟨rfl, e, rfl⟩ | ⟨rfl, e, rfl⟩ | ⟨rfl, e, rfl⟩ <;> simp at e h2 <;> subst h2 <;> exact ⟨rfl, by simp⟩
theorem tE.attr {i k : Nat} (h : tE C call W (.attr i k) σ H Q) : ∃ (c : Nat) (ns : List Str) (dd : Addr) (fs : List (Str × V)) (n : Str) (v : V), σ[i]? = some (some (.ref C.xa)) ∧ C.ct c = some (C.xc, ns) ∧ C.xd = some dd ∧ H dd = some (.xd fs) ∧ FldK k ns n ∧ fs.lookup n = some v ∧ Q v H := by
  obtain ⟨ρ, S, R, kk⟩ := h
  simp only [evE] at kk
  split at kk
  · rename_i c ps e0
    split at kk
    · rename_i p hp
      obtain ⟨h1, ns, vs, h2, r, z⟩ := R.exq i c ps e0
      obtain ⟨j, hj, fk⟩ := fldAt_get hp
      obtain ⟨v, hv, rv⟩ := r.get hj
      rcases z with ⟨_, z, _⟩ | ⟨dd, fs, z1, z2, z3⟩
      · rw [z] at hj; simp at hj
      · have hk := congrArg (fun l : List (Option V) => l[j]?) z3
        have hlen : ns.length = ps.length := by
          have := congrArg List.length z3
          rw [List.length_map, List.length_map] at this
          rw [this, r.length]
        simp only [List.getElem?_map, hv, Option.map_some] at hk
        cases hn : ns[j]? with
        | none => rw [hn] at hk; cases hk
        | some n =>
          rw [hn] at hk
          simp only [Option.map_some, Option.some.injEq] at hk
          refine ⟨c, ns, dd, fs, n, v, h1, h2, z1, z2, ⟨j, hlen ▸ fk, hn⟩, hk, ?_⟩
          have vv : Val C.fr H H S (false, p) v := by unfold Val; rw [if_neg (by simp)]; exact rv
          exact kk.ok v H S R .refl (.none R) vv (opd_of rfl (.none R) vv)
    · exact kk.elim
  · exact kk.elim
theorem tE.isE {i : Nat} {cs : List Nat} (h : tE C call W (.isE i cs) σ H Q) : ∃ c ns, σ[i]? = some (some (.ref C.xa)) ∧ C.ct c = some (C.xc, ns) ∧ (C.xd = none ∨ ∃ dd fs, C.xd = some dd ∧ H dd = some (.xd fs)) ∧ ∀ H', (∀ a o, H a = some o → H' a = some o) → Q (.bl (cs.contains c)) H' := by
  obtain ⟨ρ, S, R, kk⟩ := h
  simp only [evE] at kk
  split at kk
  · rename_i c ps e0
    obtain ⟨h1, ns, vs, h2, r, z⟩ := R.exq i c ps e0
    exact ⟨c, ns, h1, h2, z.imp (fun q => q.2.2) (fun ⟨dd, fs, q1, q2, _⟩ => ⟨dd, fs, q1, q2⟩), fun H' k' => kk.ok _ H' _ (R.ext k') (Stp.refl.ext k') .empty val_bl opd_bl⟩
  · exact kk.elim
/-- e[a:b] -/
theorem tE.sl3 {e a b : CE} (h : tE C call W (.sl3 e a b) σ H Q) : tSl (rSl C.fr.fr) (tE C call W e) (tPart (tE C call W a)) (tPart (tE C call W b)) σ H Q := by
  obtain ⟨ρ, S, R, k⟩ := h
  simp only [evE] at k
  refine ⟨ρ, S, R, k.bind.imp (fun v ρ1 k x H1 T1 R1 st1 b1 v1 x1 => ?_) fun _ _ _ z => z⟩
  refine ⟨ρ1, S, R1, k.bind.imp (fun w ρ2 k y H2 T2 R2 st2 b2 v2 y2 => ?_) fun _ _ _ z => z.back R1 st1⟩
  split at k
  · rename_i i ei
    have st12 := st1.trans st2
    refine ⟨i, v2.int ei, ρ2, S, R2, k.bind.imp (fun u ρ3 k z H3 T3 R3 st3 b3 v3 z3 => ?_) fun _ _ _ z => z.back R2 st12⟩
    split at k
    · rename_i j ej
      split at k
      · exact k.elim
      rename_i hn
      split at k
      · rename_i res eo
        refine ⟨j, v3.int ej, ?_⟩
        have hn : meets (al e) (muts a ++ muts b) = false ∨ flatD v.2 = true := by
          cases q : meets (al e) (muts a ++ muts b)
          · exact .inl rfl
          · cases q2 : flatD v.2
            · simp [q, q2] at hn
            · exact .inr rfl
        obtain ⟨T0, b0, a0⟩ := x1.stay v1 R R1 R3 b1 st1 (st2.trans st3) hn
        refine ov_slLoHi a0 eo fun z' H4 ⟨kp, vz⟩ => ?_
        have hv : Val C.fr H H4 T0 res z' := by
          unfold Val
          split at vz
          · rename_i hb
            rw [if_pos hb]
            obtain ⟨t, e1, n, rt⟩ := vz
            refine ⟨t, e1, (st12.trans st3).new R3 n, fun z => ?_, rt⟩
            obtain ⟨o', e2⟩ := b0.dm t z
            rw [n] at e2; cases e2
          · rename_i hb
            rw [if_neg hb]
            exact vz
        exact k.ok z' H4 T0 (R3.ext kp) (((st12.trans st3).ext kp).mono (by simp [muts])) (b0.ext kp) hv (opd_of rfl (b0.ext kp) hv)
      · exact k.elim
    · exact k.elim
  · exact k.elim
end
end PyC
end

section
set_option maxHeartbeats 200000
namespace PyC
open PySem PySem.Spec L2
def ArgV (K : KC) (H : Hp) (S : AS) (a : Bool × PyData) (x : V) : Prop := if a.1 = true then ∃ t, x = .ref t ∧ Root K H S a.2 t else Rep K H S a.2 x
/-- the arguments -/
structure ArgL (K : KC) (H : Hp) (S : AS) (args : List (Bool × PyData)) (vs : List V) : Prop where
  len : args.length = vs.length
  at_ : ∀ (i : Nat) (a : Bool × PyData) (x : V), args[i]? = some a → vs[i]? = some x → ArgV K H S a x
/-- the new objects among them -/
def FrAt (args : List (Bool × PyData)) (vs : List V) (t : Addr) : Prop := ∃ (i : Nat) (p : PyData), args[i]? = some (true, p) ∧ vs[i]? = some (.ref t)
def FrOne (args : List (Bool × PyData)) (vs : List V) : Prop := ∀ (i j : Nat) (p q : PyData) (t : Addr), args[i]? = some (true, p) → vs[i]? = some (.ref t) → args[j]? = some (true, q) → vs[j]? = some (.ref t) → i = j
theorem fresh_at : ∀ {args : List (Bool × PyData)} {vs : List V} {t : Addr}, FrAt args vs t → t ∈ fresh args vs
  | [], _, t, ⟨i, p, h, _⟩ => by simp at h
  | _ :: _, [], t, ⟨i, p, _, h⟩ => by simp at h
  | a :: as, x :: xs, t, ⟨0, p, h1, h2⟩ => by
    simp at h1 h2
    exact (fresh_cons t).mpr (.inl ⟨by rw [h1], h2⟩)
  | a :: as, x :: xs, t, ⟨i + 1, p, h1, h2⟩ => (fresh_cons t).mpr (.inr (fresh_at ⟨i, p, by simpa using h1, by simpa using h2⟩))
theorem fresh_one : ∀ {args : List (Bool × PyData)} {vs : List V}, (fresh args vs).Nodup → FrOne args vs
  | [], _, _ => fun i j p q t h => by simp at h
  | _ :: _, [], _ => fun i j p q t _ h => by simp at h
  | a :: as, x :: xs, nd => by
    have sub : (fresh as xs).Nodup := by
      obtain ⟨b, p⟩ := a
      cases b
      · cases x <;> exact nd
      · cases x <;> first | exact nd | exact (List.nodup_cons.mp nd).2
    have hd : ∀ (p : PyData) (t : Addr) (j : Nat) (q : PyData), a = (true, p) → x = .ref t → as[j]? = some (true, q) → xs[j]? = some (.ref t) → False := fun p t j q h1 h2 h3 h4 => by
      subst h1 h2
      exact (List.nodup_cons.mp nd).1 (fresh_at ⟨j, q, h3, h4⟩)
    intro i j p q t h1 h2 h3 h4
    cases i with
    | zero =>
      cases j with
      | zero => rfl
      | succ j =>
        simp at h1 h2 h3 h4
        exact (hd p t j q h1 h2 h3 h4).elim
    | succ i =>
      cases j with
      | zero =>
        simp at h1 h2 h3 h4
        exact (hd q t i p h3 h4 h1 h2).elim
      | succ j =>
        simp at h1 h2 h3 h4
        rw [fresh_one sub i j p q t h1 h2 h3 h4]
/-- what a call leaves, seen from its entry -/
structure Left (H H' : Hp) (S : AS) (fs : Addr → Prop) (T : AS) : Prop where
  kept : ∀ a o, H a = some o → NT o → ¬ fs a → H' a = some o
  th : ∀ a o, H a = some o → ∃ o', H' a = some o'
  bd : ∀ a, T a → S a ∨ H a = none ∨ fs a
  dm : ∀ a, T a → ∃ o, H' a = some o
/-- the value -/
def RetV (K : KC) (H H' : Hp) (fs : Addr → Prop) (T : AS) (fr : Bool) (p : PyData) (x : V) : Prop :=
  if fr = true then ∃ t, x = .ref t ∧ (H t = none ∨ fs t) ∧ ¬ T t ∧ Root K H' T p t else Rep K H' T p x
def IoR (K : KC) (H' : Hp) (T : AS) (vs : List V) (fr : Bool) (x : V) : Option (List PyData) → Prop
  | none => True
  | some ys => ∃ t, vs.head? = some (.ref t) ∧ Root K H' (fun _ => False) (.list ys) t ∧ ¬ T t ∧ (fr = true → x ≠ .ref t)
/-- a call's promise -/
def spF (C : RK) (call : CallT) (f : Nat) : Sp := fun vs H Q E => ∃ (S : AS) (args : List (Bool × PyData)), (∀ a, S a → ∃ o, H a = some o) ∧ ArgL C.fr H S args vs ∧ FrOne args vs ∧ (∀ t, FrAt args vs t → ¬ S t) ∧ LamX.Tabs C.fr.tabs H ∧
  match call f args with
  | .stuck => False
  | .ok fr p io => ∀ x H' T, Left H H' S (FrAt args vs) T → LamX.Tabs C.fr.tabs H' → RetV C.fr H H' (FrAt args vs) T fr p x → IoR C.fr H' T vs fr x io → Q x H'
  | .exc c ps => ∀ cls d H' T, Left H H' S (FrAt args vs) T → LamX.Tabs C.fr.tabs H' → Pay C H' T c ps cls d → E cls d H'
section
variable {C : RK} {call : CallT} {W : WX} {σ : L2.St} {H H1 H2 H' : Hp} {S T : AS} {ρ ρ1 : Rho} {Q : VK}
theorem spF.mono {f : Nat} {vs : List V} {Q Q' : VK} {E : XK} (h : spF C call f vs H Q E) (m : ∀ x H, Q x H → Q' x H) : spF C call f vs H Q' E := by
  obtain ⟨S, args, h1, h2, h3, h4, hT, h5⟩ := h
  refine ⟨S, args, h1, h2, h3, h4, hT, ?_⟩
  split
  · rename_i e; rw [e] at h5; exact h5
  · rename_i e; rw [e] at h5; exact fun x H' T l tb r i => m x H' (h5 x H' T l tb r i)
  · rename_i e; rw [e] at h5; exact h5
/-- the state, if only things change that it does not lean on -/
theorem RepS.keepBut {fs : Addr → Prop} (R : RepS C H S σ ρ) (k : ∀ a o, H a = some o → NT o → ¬ fs a → H' a = some o) (th : ∀ a o, H a = some o → ∃ o', H' a = some o') (tb : LamX.Tabs C.fr.tabs H') (ns : ∀ t, fs t → ¬ S t) (no : ∀ t i, fs t → ¬ Own σ ρ i t) (ls : ∀ t o, fs t → H t = some o → MO o) : RepS C H' S σ ρ := by
  have kk : ∀ a o, H a = some o → NT o → (S a ∨ NL o) → H' a = some o := fun a o e t z => k a o e t fun q => by
    rcases z with z | z
    · exact ns a q z
    · exact z (ls a o q e)
  refine ⟨R.len, fun i p e => ?_, fun i s p e m v => ?_, R.sep, fun a h => ?_, tb, fun i c ps e => ?_⟩
  · obtain ⟨v, h1, h2⟩ := R.fz i p e
    exact ⟨v, h1, h2.stay kk fun _ z => z⟩
  · obtain ⟨a, h1, h2, h3⟩ := R.my i s p e m v
    refine ⟨a, h1, h2, h3.stay (fun b o e t z => ?_) fun _ z => z⟩
    rcases z with z | z
    · exact k b o e t fun q => no b i q ⟨_, ‹_›, m, by rw [z]; exact h1⟩
    · exact kk b o e t z
  · obtain ⟨o, e⟩ := R.dom a h
    exact th a o e
  · obtain ⟨h1, h2⟩ := R.exq i c ps e
    exact ⟨h1, h2.stay kk fun _ z => z⟩
theorem ValL.lenE {es : CEs} {vs : List (Bool × PyData)} {xs : List V} (h : ValL C.fr H H1 S σ ρ T es vs xs) : vs.length = xs.length := by rw [h.len.1, h.len.2]
theorem ValL.argv : ∀ {es : CEs} {vs : List (Bool × PyData)} {xs : List V} {S' : AS}, ValL C.fr H H1 S σ ρ T es vs xs → (∀ a, T a → S' a) → ∀ (i : Nat) (a : Bool × PyData) (x : V), vs[i]? = some a → xs[i]? = some x → ArgV C.fr H1 S' a x
  | .nil, [], [], _, _, _, i, a, x, h, _ => by simp at h
  | .cons e es, v :: vs, x :: xs, S', ⟨⟨T1, m, _, hv, _, _⟩, t⟩, hs, i, a, y, h1, h2 => by
    cases i with
    | zero =>
      simp at h1 h2
      subst h1 h2
      unfold Val at hv
      unfold ArgV
      split at hv
      · rename_i hb
        rw [if_pos hb]
        obtain ⟨t', e1, _, _, r⟩ := hv
        exact ⟨t', e1, r.stay (fun b o e _ _ => e) fun b z => hs b (m b z)⟩
      · rename_i hb
        rw [if_neg hb]
        exact hv.wk fun b z => hs b (m b z)
    | succ i => exact ValL.argv t hs i a y (by simpa using h1) (by simpa using h2)
  | .nil, _ :: _, _, _, h, _, _, _, _, _, _ => h.elim
  | .nil, [], _ :: _, _, h, _, _, _, _, _, _ => h.elim
  | .cons _ _, [], _, _, h, _, _, _, _, _, _ => h.elim
  | .cons _ _, _ :: _, [], _, h, _, _, _, _, _, _ => h.elim
theorem ValL.arg_l {es : CEs} {vs : List (Bool × PyData)} {xs : List V} {S' : AS} (h : ValL C.fr H H1 S σ ρ T es vs xs) (m : ∀ a, T a → S' a) : ArgL C.fr H1 S' vs xs := ⟨h.lenE, h.argv m⟩
theorem ValL.lists : ∀ {es : CEs} {vs : List (Bool × PyData)} {xs : List V}, ValL C.fr H H1 S σ ρ T es vs xs → ∀ t ∈ fresh vs xs, ∃ o, H1 t = some o ∧ MO o
  | .nil, [], [], _, t, ht => by simp [fresh] at ht
  | .cons e es, v :: vs, x :: xs, ⟨⟨T1, m, _, hv, _, _⟩, tl⟩, t, ht => by
    rcases (fresh_cons t).mp ht with ⟨hb, e⟩ | h
    · unfold Val at hv
      rw [if_pos hb] at hv
      obtain ⟨t', e1, _, _, r⟩ := hv
      rw [e] at e1; cases e1
      exact r.obj
    · exact ValL.lists tl t h
  | .nil, _ :: _, _, h, _, _ => h.elim
  | .nil, [], _ :: _, h, _, _ => h.elim
  | .cons _ _, [], _, h, _, _ => h.elim
  | .cons _ _, _ :: _, [], h, _, _ => h.elim
/-- the state behind a call of new objects fs -/
theorem after_call {ms : List Nat} {as : List Nat} {fs : Addr → Prop} {T' : AS} (R : RepS C H S σ ρ) (R1 : RepS C H1 S σ ρ1) (st : Stp H H1 σ ρ ρ1 ms) (b1 : Bd H H1 S σ ρ as T) (nw : ∀ t, fs t → H t = none) (ls : ∀ t, fs t → ∃ o, H1 t = some o ∧ MO o) (l : Left H1 H' (fun a => S a ∨ T a) fs T') (tb : LamX.Tabs C.fr.tabs H') :
    RepS C H' S σ ρ1 ∧ Stp H H' σ ρ ρ1 ms ∧ Bd H H' S σ ρ as T' := by
  refine ⟨R1.keepBut l.kept l.th tb (fun t ht hs => ?_) (fun t i ht ho => ?_) (fun t o ht e => ?_), ⟨st.chg, fun a o e t n => l.kept a o (st.mvM a o e t n) t fun z => ?_, fun a o e => let ⟨o', e'⟩ := st.th a o e; l.th a o' e'⟩, ⟨fun a z => ?_, l.dm⟩⟩
  · obtain ⟨o, e⟩ := R.dom t hs
    rw [nw t ht] at e; cases e
  · obtain ⟨_, p, _, zs, _, e, _⟩ := R.own (st.chg.own.mp ho)
    rw [nw t ht] at e; cases e
  · obtain ⟨zs, e2, m⟩ := ls t ht
    rw [e] at e2; cases e2
    exact m
  · rw [nw a z] at e; cases e
  · rcases l.bd a z with (h | h) | h | h
    · exact .inl h
    · exact b1.bd a h
    · exact .inr (.inr (st.new R1 h))
    · exact .inr (.inr (nw a h))
theorem ret_val {fs : Addr → Prop} {ms : List Nat} {T' : AS} {fr : Bool} {p : PyData} {x : V} (R1 : RepS C H1 S σ ρ1) (st : Stp H H1 σ ρ ρ1 ms) (nw : ∀ t, fs t → H t = none) (r : RetV C.fr H1 H' fs T' fr p x) : Val C.fr H H' T' (fr, p) x := by
  unfold RetV at r
  unfold Val
  split at r
  · rename_i hb
    rw [if_pos hb]
    obtain ⟨t, e, hn, nt, rt⟩ := r
    exact ⟨t, e, hn.elim (st.new R1) (nw t), nt, rt⟩
  · rename_i hb
    rw [if_neg hb]
    exact r
theorem tE.call_ {f : Nat} {es : CEs} (h : tE C call W (.call f es) σ H Q) : tEs C call W es σ H fun xs H1 => spF C call f xs H1 Q fun cls d H' => W cls d σ H' := by
  obtain ⟨ρ, S, R, k⟩ := h
  simp only [evE] at k
  refine ⟨ρ, S, R, k.bind.imp (fun vs ρ1 k xs H1 T R1 st1 b1 vl nd nw => ?_) fun _ _ _ z => z⟩
  have nw' : ∀ t, FrAt vs xs t → H t = none := fun t ht => nw t (fresh_at ht)
  have ls' : ∀ t, FrAt vs xs t → ∃ o, H1 t = some o ∧ MO o := fun t ht => vl.lists t (fresh_at ht)
  refine ⟨fun a => S a ∨ T a, vs, fun a z => z.elim (R1.dom a) (b1.dm a), vl.arg_l fun a z => .inr z, fresh_one nd, fun t ht z => ?_, R1.tab, ?_⟩
  · rcases z with z | z
    · obtain ⟨o, e⟩ := R.dom t z
      rw [nw' t ht] at e; cases e
    · exact ValL.notT vl t (fresh_at ht) z
  · split
    · rename_i e; rw [e] at k; exact k.elim
    · rename_i fr p io e
      rw [e] at k
      intro x H' T' l tb r _
      obtain ⟨R2, st2, b2⟩ := after_call R R1 st1 b1 nw' ls' l tb
      have vv := ret_val R1 st1 nw' r
      exact k.ok x H' T' R2 st2 b2 vv (opd_of rfl b2 vv)
    · rename_i c ps e
      rw [e] at k
      intro cls d H' T' l tb py
      obtain ⟨R2, st2, b2⟩ := after_call R R1 st1 b1 nw' ls' l tb
      exact k cls d H' T' _ _ R2 st2 b2 py
/-! keywords -/
def permV (xs : List V) : List Nat → Option (List V)
  | [] => some []
  | i :: is => match xs[i]?, permV xs is with
    | some v, some r => some (v :: r)
    | _, _ => none
theorem permA_at {vs : List (Bool × PyData)} : ∀ {pm : List Nat} {ws : List (Bool × PyData)}, permA vs pm = some ws → ws.length = pm.length ∧ ∀ (j : Nat) (a : Bool × PyData), ws[j]? = some a → ∃ i, pm[j]? = some i ∧ vs[i]? = some a
  | [], ws, h => by cases h; exact ⟨rfl, fun j a h => by simp at h⟩
  | i :: is, ws, h => by
    unfold permA at h
    split at h
    · rename_i v r h1 h2
      cases h
      obtain ⟨l, q⟩ := permA_at h2
      refine ⟨by simp [l], fun j a h => ?_⟩
      cases j with
      | zero => simp at h; subst h; exact ⟨i, rfl, h1⟩
      | succ j => exact q j a (by simpa using h)
    · cases h
theorem permV_at {vs : List V} : ∀ {pm : List Nat} {ws : List V}, permV vs pm = some ws → ws.length = pm.length ∧ ∀ (j : Nat) (a : V), ws[j]? = some a → ∃ i, pm[j]? = some i ∧ vs[i]? = some a
  | [], ws, h => by cases h; exact ⟨rfl, fun j a h => by simp at h⟩
  | i :: is, ws, h => by
    unfold permV at h
    split at h
    · rename_i v r h1 h2
      cases h
      obtain ⟨l, q⟩ := permV_at h2
      refine ⟨by simp [l], fun j a h => ?_⟩
      cases j with
      | zero => simp at h; subst h; exact ⟨i, rfl, h1⟩
      | succ j => exact q j a (by simpa using h)
    · cases h
theorem permV_of {vs : List (Bool × PyData)} {xs : List V} (l : vs.length = xs.length) : ∀ {pm : List Nat} {ws : List (Bool × PyData)}, permA vs pm = some ws → ∃ ys, permV xs pm = some ys
  | [], ws, h => ⟨[], rfl⟩
  | i :: is, ws, h => by
    unfold permA at h
    split at h
    · rename_i v r h1 h2
      obtain ⟨ys, e⟩ := permV_of l h2
      have hi : i < xs.length := by rw [← l]; exact (List.getElem?_eq_some_iff.mp h1).1
      exact ⟨xs[i] :: ys, by unfold permV; rw [List.getElem?_eq_getElem hi, e]⟩
    · cases h
theorem tE.callK {f : Nat} {pm : List Nat} {es : CEs} (h : tE C call W (.callK f pm es) σ H Q) (np : pm.Nodup) : tEs C call W es σ H fun xs H1 => xs.length = clen es ∧ ∃ ys, permV xs pm = some ys ∧ spF C call f ys H1 Q fun cls d H' => W cls d σ H' := by
  obtain ⟨ρ, S, R, k⟩ := h
  simp only [evE] at k
  refine ⟨ρ, S, R, k.bind.imp (fun vs ρ1 k xs H1 T R1 st1 b1 vl nd nw => ?_) fun _ _ _ z => z⟩
  refine ⟨vl.len.1, ?_⟩
  split at k
  · rename_i ws hw
    obtain ⟨ys, hy⟩ := permV_of vl.lenE hw
    refine ⟨ys, hy, ?_⟩
    obtain ⟨lw, aw⟩ := permA_at hw
    obtain ⟨ly, ay⟩ := permV_at hy
    have back : ∀ t, FrAt ws ys t → FrAt vs xs t := fun t ⟨j, p, h1, h2⟩ => by
      obtain ⟨i, e1, e2⟩ := aw j _ h1
      obtain ⟨i', e3, e4⟩ := ay j _ h2
      rw [e1] at e3; cases e3
      exact ⟨i, p, e2, e4⟩
    have one : FrOne ws ys := fun i j p q t h1 h2 h3 h4 => by
      obtain ⟨a, e1, e2⟩ := aw i _ h1
      obtain ⟨a', e3, e4⟩ := ay i _ h2
      rw [e1] at e3; cases e3
      obtain ⟨b, e5, e6⟩ := aw j _ h3
      obtain ⟨b', e7, e8⟩ := ay j _ h4
      rw [e5] at e7; cases e7
      have := fresh_one nd a b p q t e2 e4 e6 e8
      subst this
      have hi := (List.getElem?_eq_some_iff.mp e1).1
      exact (List.getElem?_inj hi np).mp (e1.trans e5.symm)
    have nw' : ∀ t, FrAt ws ys t → H t = none := fun t ht => nw t (fresh_at (back t ht))
    have ls' : ∀ t, FrAt ws ys t → ∃ o, H1 t = some o ∧ MO o := fun t ht => vl.lists t (fresh_at (back t ht))
    refine ⟨fun a => S a ∨ T a, ws, fun a z => z.elim (R1.dom a) (b1.dm a), ⟨by rw [lw, ly], fun j a x h1 h2 => ?_⟩, one, fun t ht z => ?_, R1.tab, ?_⟩
    · obtain ⟨i, e1, e2⟩ := aw j _ h1
      obtain ⟨i', e3, e4⟩ := ay j _ h2
      rw [e1] at e3; cases e3
      exact vl.argv (fun a z => .inr z) i a x e2 e4
    · rcases z with z | z
      · obtain ⟨o, e⟩ := R.dom t z
        rw [nw' t ht] at e; cases e
      · exact ValL.notT vl t (fresh_at (back t ht)) z
    · split
      · rename_i e; rw [e] at k; exact k.elim
      · rename_i fr p io e
        rw [e] at k
        intro x H' T' l tb r _
        obtain ⟨R2, st2, b2⟩ := after_call R R1 st1 b1 nw' ls' l tb
        have vv := ret_val R1 st1 nw' r
        exact k.ok x H' T' R2 st2 b2 vv (opd_of rfl b2 vv)
      · rename_i c ps e
        rw [e] at k
        intro cls d H' T' l tb py
        obtain ⟨R2, st2, b2⟩ := after_call R R1 st1 b1 nw' ls' l tb
        exact k cls d H' T' _ _ R2 st2 b2 py
  · exact k.elim
/-! a parameter that is handed in and changed -/
theorem chg_set {i : Nat} {p q : PyData} (e : ρ[i]? = some (.my p)) : Chg ρ (ρ.set i (.my q)) [i] := by
  refine ⟨by simp, fun j hj => List.getElem?_set_ne fun z => hj (by simp [z]), fun j => ?_⟩
  by_cases h : i = j
  · subst h
    exact .inr ⟨_, _, e, getElem?_set_self' e⟩
  · exact .inl (List.getElem?_set_ne h)
/-- slot i's own list is another one now -/
theorem RepS.setBut {fs : Addr → Prop} {i : Nat} {p p' : PyData} {a : Addr} (R : RepS C H S σ ρ) (e : ρ[i]? = some (.my p)) (ea : σ[i]? = some (some (.ref a))) (k : ∀ b o, H b = some o → NT o → ¬ fs b → H' b = some o) (th : ∀ a o, H a = some o → ∃ o', H' a = some o') (tb : LamX.Tabs C.fr.tabs H') (ns : ∀ t, fs t → ¬ S t) (no : ∀ t j, fs t → Own σ ρ j t → t = a) (ls : ∀ t o, fs t → H t = some o → MO o)
    (r : Root C.fr H' S p' a) : RepS C H' S σ (ρ.set i (.my p')) := by
  have own : Own σ ρ i a := ⟨_, e, rfl, ea⟩
  have nsa : ¬ S a := (R.own own).1
  have kk : ∀ a o, H a = some o → NT o → (S a ∨ NL o) → H' a = some o := fun a o e t z => k a o e t fun q => by
    rcases z with z | z
    · exact ns a q z
    · exact z (ls a o q e)
  have ci := chg_set (q := p') e
  refine ⟨by rw [List.length_set]; exact R.len, fun j p h => ?_, fun j s p h m v => ?_, fun j1 j2 b h1 h2 => R.sep j1 j2 b (ci.own.mp h1) (ci.own.mp h2), fun b h => ?_, tb, fun j c ps h => ?_⟩
  · by_cases hj : i = j
    · subst hj; rw [getElem?_set_self' e] at h; cases h
    · rw [List.getElem?_set_ne hj] at h
      obtain ⟨v, h1, h2⟩ := R.fz j p h
      exact ⟨v, h1, h2.stay kk fun _ z => z⟩
  · by_cases hj : i = j
    · subst hj
      rw [getElem?_set_self' e] at h
      cases h
      cases v
      exact ⟨a, ea, nsa, r⟩
    · rw [List.getElem?_set_ne hj] at h
      obtain ⟨b, h1, h2, h3⟩ := R.my j s p h m v
      have oj : Own σ ρ j b := ⟨s, h, m, h1⟩
      have nb : b ≠ a := fun q => hj (R.sep i j a own (q ▸ oj))
      exact ⟨b, h1, h2, h3.stay (fun c o h t z => by
        rcases z with z | z | z
        · exact k c o h t fun q => nb (z ▸ no c j q (z ▸ oj))
        · exact kk c o h t (.inl z)
        · exact kk c o h t (.inr z)) fun _ z => z⟩
  · obtain ⟨o, e⟩ := R.dom b h
    exact th b o e
  · by_cases hj : i = j
    · subst hj; rw [getElem?_set_self' e] at h; cases h
    · rw [List.getElem?_set_ne hj] at h
      obtain ⟨h1, h2⟩ := R.exq j c ps h
      exact ⟨h1, h2.stay kk fun _ z => z⟩
theorem tE.callIO_ {f i : Nat} {es : CEs} {g : List (Bool × PyData) → FOut} {ce : CE} (hmu : muts ce = i :: mutsL es) (hal : al ce = alL es) (hv : ce.isVar = false) (h : ∃ ρ S, RepS C H S σ ρ ∧ Res (if !isMy ρ i then .stuck else (evEs call es ρ).bind fun vs ρ => match ρ[i]? with
    | some (.my (.list xs)) => if meets (alL es) [i] then .stuck else match g ((true, .list xs) :: vs) with
      | .ok fr p (some ys) => .ok (fr, p) (ρ.set i (.my (.list ys)))
      | _ => .stuck
    | _ => .stuck) (fun v ρ' => ∀ x H' T, RepS C H' S σ ρ' → Stp H H' σ ρ ρ' (muts ce) → Bd H H' S σ ρ (al ce) T → Val C.fr H H' T v x → Opd C.fr H H' S σ ρ ce v.2 x → Q x H')
  (tX C W H S σ ρ)) : tVar i σ H fun x H0 => tEs C call W es σ H0 fun xs H1 => spF C (fun _ => g) f (x :: xs) H1 Q fun cls d H' => W cls d σ H' := by
  obtain ⟨ρ, S, R, k⟩ := h
  rw [hmu, hal] at k
  split at k
  · exact k.elim
  rename_i hm
  obtain ⟨p0, e0⟩ := isMy_some hm
  obtain ⟨a, zs, ea, eb⟩ := my_addr R e0
  refine ⟨.ref a, ea, ρ, S, R, k.bind.imp (fun vs ρ1 k xs H1 T R1 st1 b1 vl nd nw => ?_) fun _ _ _ z => z⟩
  split at k
  · rename_i ds e1
    split at k
    · exact k.elim
    rename_i hme
    have hme : meets (alL es) [i] = false := by simpa using hme
    obtain ⟨a', ea', hS, rr⟩ := R1.my i _ _ e1 rfl rfl
    obtain ⟨xs1, q2, q3⟩ := rr.invL
    rw [ea] at ea'; cases ea'
    have own1 : Own σ ρ1 i a := ⟨_, e1, rfl, ea⟩
    have own0 : Own σ ρ i a := st1.chg.own.mp own1
    have nTa : ¬ T a := fun z => by
      rcases b1.bd a z with z | ⟨j, hj, z⟩ | z
      · exact (R.own own0).1 z
      · have := R.sep j i a z own0
        subst this
        exact meets_no hme hj (by simp)
      · rw [eb] at z; cases z
    have fa : ∀ t, FrAt ((true, .list ds) :: vs) (.ref a :: xs) t → t = a ∨ FrAt vs xs t := fun t ⟨j, p, h1, h2⟩ => by
      cases j with
      | zero => simp at h2; exact .inl h2.symm
      | succ j => exact .inr ⟨j, p, by simpa using h1, by simpa using h2⟩
    have fn : ∀ t, FrAt vs xs t → H t = none := fun t ht => nw t (fresh_at ht)
    have ne : ∀ t, FrAt vs xs t → t ≠ a := fun t ht z => by
      have := fn t ht
      rw [z, eb] at this; cases this
    have one : FrOne ((true, .list ds) :: vs) (.ref a :: xs) := fun m n p q t h1 h2 h3 h4 => by
      cases m with
      | zero =>
        cases n with
        | zero => rfl
        | succ n =>
          simp at h2 h3 h4
          exact (ne t ⟨n, q, h3, h4⟩ h2.symm).elim
      | succ m =>
        cases n with
        | zero =>
          simp at h1 h2 h4
          exact (ne t ⟨m, p, h1, h2⟩ h4.symm).elim
        | succ n =>
          simp at h1 h2 h3 h4
          rw [fresh_one nd m n p q t h1 h2 h3 h4]
    have nS1 : ∀ t, FrAt ((true, .list ds) :: vs) (.ref a :: xs) t → ¬ (S t ∨ T t) := fun t ht z => by
      rcases fa t ht with h | h
      · subst h
        exact z.elim (R.own own0).1 nTa
      · rcases z with z | z
        · obtain ⟨o, e⟩ := R.dom t z
          rw [fn t h] at e; cases e
        · exact ValL.notT vl t (fresh_at h) z
    refine ⟨fun b => S b ∨ T b, (true, .list ds) :: vs, fun b z => z.elim (R1.dom b) (b1.dm b), ⟨by simp [vl.lenE], fun j v x h1 h2 => ?_⟩, one, nS1, R1.tab, ?_⟩
    · cases j with
      | zero =>
        simp at h1 h2
        subst h1 h2
        unfold ArgV
        rw [if_pos rfl]
        exact ⟨a, rfl, Root.mkL q2 (q3.wk fun _ z => .inl z)⟩
      | succ j => exact vl.argv (fun b z => .inr z) j v x (by simpa using h1) (by simpa using h2)
    · split at k
      · rename_i fr p ys e2
        simp only [e2]
        intro x H' T' l tb r io
        obtain ⟨t, ht, ri, nT', nx⟩ := io
        simp at ht
        subst ht
        have ls : ∀ t o, FrAt ((true, .list ds) :: vs) (.ref a :: xs) t → H1 t = some o → MO o := fun t o ht e => by
          rcases fa t ht with h | h
          · subst h
            rw [q2] at e; cases e
            trivial
          · obtain ⟨zs, e2, m⟩ := vl.lists t (fresh_at h)
            rw [e] at e2; cases e2
            exact m
        have R2 : RepS C H' S σ (ρ1.set i (.my (.list ys))) := R1.setBut e1 ea l.kept l.th tb (fun t ht z => nS1 t ht (.inl z)) (fun t j ht o => by
          rcases fa t ht with h | h
          · exact h
          · obtain ⟨_, p, _, zs, _, e, _⟩ := R.own (st1.chg.own.mp o)
            rw [fn t h] at e; cases e) ls (ri.stay (fun b o e _ _ => e) fun b z => z.elim)
        have st2 : Stp H H' σ ρ (ρ1.set i (.my (.list ys))) (i :: mutsL es) := by
          refine ⟨(st1.chg.trans (chg_set e1)).mono (by simp; rintro j (h | h) <;> simp [h]), fun b o e t n => l.kept b o (st1.mvM b o e t fun z => n (z.mono (by simp; exact fun j h => .inr h))) t fun z => ?_, fun a o e => let ⟨o', e'⟩ := st1.th a o e; l.th a o' e'⟩
          rcases fa b z with h | h
          · exact n ⟨i, by simp, _, e0, by rw [h]; exact ea⟩
          · rw [fn b h] at e; cases e
        have b2 : Bd H H' S σ ρ (alL es) T' := ⟨fun b z => by
          rcases l.bd b z with (h | h) | h | h
          · exact .inl h
          · exact b1.bd b h
          · exact .inr (.inr (st1.new R1 h))
          · rcases fa b h with h | h
            · rw [h] at z; exact (nT' z).elim
            · exact .inr (.inr (fn b h)), l.dm⟩
        have vv : Val C.fr H H' T' (fr, p) x := by
          unfold RetV at r
          unfold Val
          split at r
          · rename_i hb
            rw [if_pos hb]
            obtain ⟨t, e, hn, nt, rt⟩ := r
            refine ⟨t, e, ?_, nt, rt⟩
            rcases hn with h | h
            · exact st1.new R1 h
            · rcases fa t h with h | h
              · exact (nx hb (by rw [e, h])).elim
              · exact fn t h
          · rename_i hb
            rw [if_neg hb]
            exact r
        exact k.ok x H' T' R2 st2 b2 vv (opd_of hv (by rw [hal]; exact b2) vv)
      · exact k.elim
  · exact k.elim
theorem tE.callIO {f i : Nat} {es : CEs} (h : tE C call W (.callIO f i es) σ H Q) : tVar i σ H fun x H0 => tEs C call W es σ H0 fun xs H1 => spF C call f (x :: xs) H1 Q fun cls d H' => W cls d σ H' := by
  refine tE.callIO_ (f := f) (ce := .callIO f i es) (g := call f) rfl rfl rfl ?_
  obtain ⟨ρ, S, R, k⟩ := h
  simp only [evE] at k
  exact ⟨ρ, S, R, k⟩
end
end PyC
end

section
set_option maxHeartbeats 1000000
namespace PySem
open Sem (wp)
set_option maxHeartbeats 1000000 in
theorem pyc_enumNew {v : Value} {o : Obj} {J : Heap → Prop} (B : Begins v o J) :
    Meets (Builtin.«enumerate.__new__» ⟨[.type "enumerate", v], []⟩) (fun _ R s => J s.heap ∧ R (.ok (.ret (.ref (s.heap.push o).objs.size))) { s with heap := (s.heap.push o).push { cls := .type "enumerate", data := .fields #[.none, .bool false, .ref s.heap.objs.size, rawInt 0, .none, .none] } }) :=
  .of_wp fun prog w A R s hs => by
    obtain ⟨hp, g, d, tk, os⟩ := s; obtain ⟨hj, hs⟩ := hs
    have hsub := sub_enumerate
    have it : ∀ {A' : Around} {E : Value → Shared → Prop} {Q : Value → Shared → Prop}, Q (.ref hp.objs.size) ⟨hp.push o, g, d, tk, os⟩ → wpAny (model prog w) A' (pyIter v) Q E ⟨hp, g, d, tk, os⟩ := fun q => B.iter prog w _ _ ⟨hp, g, d, tk, os⟩ _ hj q
    wp_walk using it
    refine wpAny_stack_any fun st => wpAny_pure ?_
    split
    · rename_i c _ _ _ _ _
      cases (c == Value.type "enumerate")
      · wp_walk using it
        exact ⟨_, rfl, hs⟩
      · wp_walk using it
        exact ⟨_, rfl, hs⟩
    · wp_walk using it
      exact ⟨_, rfl, hs⟩
section
variable {prog : Program} {w : World} {A : Around} {E : Value → Shared → Prop} {s : Shared}
theorem pyc_enumCall {v : Value} {o : Obj} {J : Heap → Prop} {Q : Value → Shared → Prop} (B : Begins v o J) (hj : J s.heap)
    (h : ∀ h', IsEnum h' (s.heap.objs.size + 1) s.heap.objs.size 0 .none → h'.get? s.heap.objs.size = some o → (∀ b o, s.heap.get? b = some o → h'.get? b = some o) → Q (.ref (s.heap.objs.size + 1)) { s with heap := h' }) :
    wpAny (model prog w) A (call (.type "enumerate") [v]) Q E s := by
  refine callType_new F.called_enumerate (by decide) (F.typeCall_enumerate_1 _) (F.newCall_enumerate_1 _) (fun obj => F.args_object_init_2 obj _) F.entry_enumerate_new (pyc_enumNew B) ⟨hj, ?_⟩
  have sz : (s.heap.push o).objs.size = s.heap.objs.size + 1 := Heap.size_push ..
  show _ ∧ _
  rw [sz]
  have en : IsEnum ((s.heap.push o).push { cls := .type "enumerate", data := .fields #[.none, .bool false, .ref s.heap.objs.size, rawInt 0, .none, .none] }) (s.heap.objs.size + 1) s.heap.objs.size 0 .none := by
    have := Heap.get?_push_size (s.heap.push o) (o := { cls := .type "enumerate", data := .fields #[.none, .bool false, .ref s.heap.objs.size, rawInt 0, .none, .none] }) rfl
    rwa [sz] at this
  exact ⟨⟨_, en, rfl⟩, h _ en (Heap.get?_push_of_some _ (Heap.get?_push_size _ B.free)) fun b o x => Heap.get?_push_of_some _ (Heap.get?_push_of_some _ x)⟩
end
end PySem
namespace PyC
open PySem PySem.Spec L2 PyProof.Rows
/-- the tuple at a, each item in a new pair -/
def ItTe (K : PySem.W.Frag) (a : Addr) : It :=
  ⟨fun i H => ∃ (xs : List V) (x : V), SqT K H a xs ∧ xs[i]? = some x, fun i H v H' => ∃ T x, v = .ref T ∧ H T = none ∧ H' = upd H T (.tup [.int (i : Nat), x]) ∧ ∀ xs, SqT K H a xs → xs[i]? = some x, fun i H => ∃ xs : List V, SqT K H a xs ∧ xs.length ≤ i⟩
theorem turn_enumT {P : Program} {w : World} {K : PySem.W.Frag} {elts : List Expr} {kk : Nat} {tpos : Pos} (a e it : Addr) (nea : e ≠ a) (nia : a ≠ it) :
    Turn P w K (.Tuple elts kk tpos) (ItTe K a) [e, it] e (fun i h => (∃ old, IsEnum h e it ((i : Nat) : Int) old) ∧ h.IsTupleIter it a i ∧ e ≠ it) where
  mem := by simp
  obj := fun i h st b hb => by
    obtain ⟨⟨old, he⟩, ⟨o, ho, hc, hd⟩, _⟩ := st
    rcases (show b = e ∨ b = it by simpa using hb) with z | z
    · subst z; exact ⟨_, he, fun v q => nomatch q⟩
    · subst z; exact ⟨o, ho, fun v q => by rw [hd] at q; cases q⟩
  keep := fun i h h' st k => let ⟨⟨old, he⟩, hi, hne⟩ := st; ⟨⟨old, k e (by simp) _ he⟩, hi.at fun o q => k it (by simp) o q, hne⟩
  item := by
    intro X hP hw hK hc i pins s σ H E I hf st hg
    subst hP hw hK
    obtain ⟨⟨old, he⟩, hit, hne⟩ := st
    obtain ⟨xs, x, hq, hx⟩ := hg
    obtain ⟨its, rv, tp, hz⟩ := I.tuple hq
    obtain ⟨u, hu, ru⟩ := rv.get hx
    have hel : e < s.heap.objs.size := Heap.lt_size he
    have hil : it < s.heap.objs.size := by obtain ⟨_, q, _⟩ := hit; exact Heap.lt_size q
    have lt : i < its.toArray.size := by
      have := (List.getElem?_eq_some_iff.mp hu).1
      simpa using this
    refine wpAny_pyNext_enum_itemC (A := X.A) (Draws.tuple (prog := X.prog) (w := X.w) (A := X.A.in1) (I.ok.hd hc) it a nia its.toArray) he ⟨hit, show s.heap.IsTuple a its.toArray from tp⟩ lt hne (by simp [hne, nea]) fun y h' tk hy ho hst hT hsz hk => ?_
    have ey : y = u := by
      have h1 : its[i]? = some y := by simpa using hy
      rw [hu] at h1; exact (Option.some.inj h1).symm
    subst ey
    refine ⟨_, rfl, wpAny_letOwnedTupleGo_enum (s := { s with heap := h', toks := tk + 1 }) ho fun h'' he' sb => ?_⟩
    have at2 : h''.get? s.heap.objs.size = some { cls := .type "tuple", data := .seq #[.int i tk, y] } := (sb.2 _ (Nat.ne_of_gt hel)).trans hT
    have new : ObjOk X.prog X.w (upd H s.heap.objs.size (.tup [.int (i : Nat), x])) h'' s.heap.objs.size (.tup [.int (i : Nat), x]) := ⟨by show 2 ≤ sizeLine; decide, [.int i tk, y], .cons ⟨_, rfl⟩ (.cons ru .nil), ⟨_, at2, rfl, _, rfl⟩⟩
    have I1 : Inv X pins σ (upd H s.heap.objs.size (.tup [.int (i : Nat), x])) { s with heap := h'', toks := tk + 1 } :=
      I.turnedNew (ch := [e, it]) (fun b ob hb q => (sb.2 b (fun z => hb (by simp [z]))).trans (hk b ob (fun z => hb (by simp [z])) (fun z => hb (by simp [z])) q)) hf (Nat.le_refl _) new
    refine ⟨.ref s.heap.objs.size, _, I1, rfl, ⟨_, x, rfl, I.hok.fresh (Nat.le_refl _), rfl, fun ys hy' => by rw [I.tuple_inj hy' hq]; exact hx⟩, ⟨⟨y, ?_⟩, hst.1.at fun o q => (sb.2 it (Ne.symm hne)).trans q, hne⟩, fun b hb => ?_⟩
    · rw [show ((i + 1 : Nat) : Int) = (i : Int) + 1 from by omega]; exact he'
    · have lb : b < s.heap.objs.size := by
        rcases (show b = e ∨ b = it by simpa using hb) with z | z
        · subst z; exact hel
        · subst z; exact hil
      rw [upd_ne (Nat.ne_of_lt lb)]
      exact (hf b hb).1
  done := by
    intro X hP hw hK hc i pins s σ H E I hf st hg
    subst hP hw hK
    obtain ⟨⟨old, he⟩, hit, hne⟩ := st
    obtain ⟨xs, hq, hx⟩ := hg
    obtain ⟨its, rv, tp, hz⟩ := I.tuple hq
    obtain ⟨f0, f1, f2, f3, f4, f5⟩ := hf it (by simp)
    have hl := rv.length
    have hT : s.TypeIs (.ref e) "enumerate" := ⟨_, he, rfl⟩
    unfold pyNext
    refine wpAny_bind (wpAny_attempt (wpAny_callSpecial?_slot (name := Str.ofString "__next__") hT F.slot_enumerate_next (wpAny_call_entry F.slot_enumerate_next hT F.entry_enumerate_next ?_ (F.args_enumerate_next_1 _))))
    show wpAny _ _ (field (.ref e) 2 >>= _) _ _ _
    refine wpAny_bind (wpAny_field he rfl (x := .ref it) rfl ?_)
    refine wpAny_bind (wpAny_nextOf_tuple_end (I.ok.hd hc) hit (show s.heap.IsTuple a its.toArray from tp) (Array.getElem?_eq_none (by simp; omega)) fun h' z eb hz' => ?_)
    obtain ⟨o, ho, hcl⟩ := hz'
    refine wpAny_bind (wpAny_isInstance (T := "StopIteration") (b := true) ⟨o, ho, hcl⟩ isSubtype_stop ?_)
    exact wpAny_pure ⟨rfl, I.turned (t' := s.toks) (fun b o hb q => eb b o hb q) f0 f1 f3 f4 f5⟩
  self := fun A i s Q E st h => let ⟨⟨_, he⟩, _⟩ := st; wpAny_pyIter_enum he h
def iEnumA (K : PySem.W.Frag) (ta : TA) : TI := fun σ H R => ta σ H fun vs H1 => ∃ a xs, vs = [.ref a] ∧ ((SqL K H1 a xs ∧ R (Ite K a) H1) ∨ (SqT K H1 a xs ∧ R (ItTe K a) H1))
theorem pi_enumA {X : Cx} {e : Expr} {ta : TA} {p pos tpos : Pos} {elts : List Expr} {kk : Nat} (hg : Gl X "enumerate") (hm : X.mg "enumerate" = none) (ha : PA X [e] ta) (hs : starEach [e] X.env = [(false, eval e X.env)]) :
    PI X (.Tuple elts kk tpos) (.Call (.Name "enumerate" p) [e] [] pos) (iEnumA X.K ta) := by
  constructor
  intro pins s σ H R I h
  refine Call_ (ld_blt I hg hm boot_enumerate (PyProof.Rows.callWith_type1 (thn (ha.run pos pins s σ H _ I h) fun us s1 ⟨vs, H1, I1, r1, a, xs, ex, q1⟩ => ?_) hs rfl))
  subst ex
  obtain ⟨u, rfl, r⟩ := vals1 r1
  obtain rfl : u = Value.ref a := r
  have frs2 : ∀ b, b ∈ [s1.heap.objs.size + 1, s1.heap.objs.size] → FpOk X pins H1 b := fun b hb => by
    have le : s1.heap.objs.size ≤ b := by
      rcases (show b = s1.heap.objs.size + 1 ∨ b = s1.heap.objs.size by simpa using hb) with z | z
      · rw [z]; exact Nat.le_add_right _ _
      · rw [z]; exact Nat.le_refl _
    exact I1.fpOk le (I1.hok.fresh le)
  rcases q1 with ⟨hq, q⟩ | ⟨hq, q⟩
  · obtain ⟨its, rv, p', hz⟩ := I1.list hq
    refine call_enumerate_list p'.isList fun h' he hit hsz hk => wpAny_pyIter_enum he ?_
    exact ⟨s1.heap.objs.size + 1, _, _, _, H1, rfl, I1.kept (t' := s1.toks) hk, turn_enum a (s1.heap.objs.size + 1) s1.heap.objs.size, ⟨⟨.none, he⟩, hit, Nat.succ_ne_self _⟩, frs2, q⟩
  · obtain ⟨its, rv, tp, hz⟩ := I1.tuple hq
    obtain ⟨oo, ho, _⟩ := id tp
    have la : a < s1.heap.objs.size := Heap.lt_size ho
    refine pyc_enumCall (begins_tuple a its.toArray) (show s1.heap.IsTuple a its.toArray from tp) fun h' he hit hk => wpAny_pyIter_enum he ?_
    exact ⟨s1.heap.objs.size + 1, _, _, _, H1, rfl, I1.kept (t' := s1.toks) hk, turn_enumT a (s1.heap.objs.size + 1) s1.heap.objs.size (Nat.ne_of_gt (Nat.lt_succ_of_lt la)) (Nat.ne_of_lt la), ⟨⟨.none, he⟩, ⟨_, hit, rfl, rfl⟩, Nat.succ_ne_self _⟩, frs2, q⟩
end PyC
end

section
set_option maxHeartbeats 200000
namespace PyC
open PySem PySem.Spec L2 PyProof.Rows RZ
/-- a list, a tuple -/
def SqK (b : Bool) (K : PySem.W.Frag) (H : Hp) (a : Addr) (xs : List V) : Prop := if b then SqL K H a xs else SqT K H a xs
def IsSq (b : Bool) (h : Heap) (a : Addr) (its : Array Value) : Prop := if b then h.IsList a its else h.IsTuple a its
def IsIt (b : Bool) (h : Heap) (it a : Addr) (i : Nat) : Prop := if b then h.IsListIter it a i else h.IsTupleIter it a i
section
variable {b : Bool} {h h' : Heap} {it a : Addr} {i : Nat} {its : Array Value}
theorem IsIt.at (x : IsIt b h it a i) (k : ∀ o, h.get? it = some o → h'.get? it = some o) : IsIt b h' it a i := by
  cases b
  · exact Heap.IsTupleIter.at (h := h) x k
  · exact Heap.IsListIter.at (h := h) x k
theorem IsIt.obj (x : IsIt b h it a i) : ∃ o, h.get? it = some o ∧ ∀ v, o.data ≠ .cell v := by
  cases b
  · obtain ⟨o, e, _, d⟩ : h.IsTupleIter it a i := x
    exact ⟨o, e, fun v q => by rw [d] at q; cases q⟩
  · obtain ⟨o, e, _, d⟩ : h.IsListIter it a i := x
    exact ⟨o, e, fun v q => by rw [d] at q; cases q⟩
theorem drawsK {prog : Program} {w : World} {A : Around} (b : Bool) (hh : A.handled = none) (ne : a ≠ it) (its : Array Value) : Draws prog w A it [it, a] its.size (fun i v => its[i]? = some v) fun i h => IsIt b h it a i ∧ IsSq b h a its := by
  cases b
  · exact Draws.tuple hh it a ne its
  · exact Draws.list hh it a ne its
end
theorem sqK_its {b : Bool} {X : Cx} {pins : List (Addr × Obj)} {σ : L2.St} {H : Hp} {s : Shared} {a : Addr} {xs : List V} (I : Inv X pins σ H s) (h : SqK b X.K H a xs) : ∃ its : List Value, Vals xs its ∧ IsSq b s.heap a its.toArray ∧ a < s.heap.objs.size := by
  cases b
  · obtain ⟨its, rv, tp, hz⟩ := I.tuple h
    obtain ⟨o, e, _⟩ := id tp
    exact ⟨its, rv, tp, Heap.lt_size e⟩
  · obtain ⟨its, rv, p, hz⟩ := I.list h
    exact ⟨its, rv, p.isList, p.lt⟩
theorem sqK_inj {b : Bool} {X : Cx} {pins : List (Addr × Obj)} {σ : L2.St} {H : Hp} {s : Shared} {a : Addr} {xs ys : List V} (I : Inv X pins σ H s) (h : SqK b X.K H a xs) (h' : SqK b X.K H a ys) : xs = ys := by
  cases b
  · exact I.tuple_inj h h'
  · exact I.list_inj h h'
def ItzM (K : PySem.W.Frag) (p q : Bool) (a b : Addr) : It where
  go i H := ∃ (xs ys : List V) (x y : V), SqK p K H a xs ∧ SqK q K H b ys ∧ xs[i]? = some x ∧ ys[i]? = some y
  yld i H v H' := ∃ t x y, v = .ref t ∧ H t = none ∧ H' = upd H t (.tup [x, y]) ∧ (∀ xs, SqK p K H a xs → xs[i]? = some x) ∧ ∀ ys, SqK q K H b ys → ys[i]? = some y
  stop i H := ∃ xs ys : List V, SqK p K H a xs ∧ SqK q K H b ys ∧ i ≤ xs.length ∧ i ≤ ys.length ∧ (i = xs.length ∨ i = ys.length)
/-- the five cells of a zip, its two sequences -/
structure ZApart (z TI TO i1 i2 a b : Addr) : Prop where
  S : ZipSep2 z TI TO i1 i2 [i1, a] [i2, b]
  n1 : a ≠ i1
  n2 : b ≠ i2
theorem turn_zipM {P : Program} {w : World} {K : PySem.W.Frag} {elts : List Expr} {kk : Nat} {tpos : Pos} {a b z TI TO i1 i2 : Addr} {p q : Bool} (D : ZApart z TI TO i1 i2 a b) :
    Turn P w K (.Tuple elts kk tpos) (ItzM K p q a b) [z, TI, TO, i1, i2] z fun i h => IsZip h z TI TO .none ∧ IsTupOf2 h TI (.ref i1) (.ref i2) ∧ (∃ x y, IsTupOf2 h TO x y) ∧ IsIt p h i1 a i ∧ IsIt q h i2 b i := by
  have five : ∀ c, c ∈ [z, TI, TO, i1, i2] → c = z ∨ c = TI ∨ c = TO ∨ c = i1 ∨ c = i2 := fun c hc => by simpa using hc
  refine ⟨by simp, fun i h st c hc => ?_, fun i h h' st k => ?_, ?_, ?_, fun A i s Q E st h => wpAny_pyIter_zip st.1 h⟩
  · obtain ⟨hz, hTI, ⟨x, y, hTO⟩, h1, h2⟩ := st
    rcases five c hc with e | e | e | e | e <;> subst e
    · exact ⟨_, hz, fun v q => nomatch q⟩
    · exact ⟨_, hTI, fun v q => nomatch q⟩
    · exact ⟨_, hTO, fun v q => nomatch q⟩
    · exact h1.obj
    · exact h2.obj
  · obtain ⟨hz, hTI, ⟨x, y, hTO⟩, h1, h2⟩ := st
    exact ⟨k z (by simp) _ hz, k TI (by simp) _ hTI, ⟨x, y, k TO (by simp) _ hTO⟩, h1.at (k i1 (by simp)), h2.at (k i2 (by simp))⟩
  · intro X hP hw hK hc i pins s σ H E I hf st hg
    subst hP hw hK
    obtain ⟨hz, hTI, ⟨x0, y0, hTO⟩, h1, h2⟩ := st
    obtain ⟨xs, ys, x, y, qx, qy, hx, hy⟩ := hg
    obtain ⟨its, rv, s1, _⟩ := sqK_its I qx
    obtain ⟨js, rw', s2, _⟩ := sqK_its I qy
    obtain ⟨u, hu, ru⟩ := rv.get hx
    obtain ⟨v, hv, rv2⟩ := rw'.get hy
    have hn := I.ok.hd hc
    have l1 : i < its.toArray.size := by simpa using (List.getElem?_eq_some_iff.mp hu).1
    have l2 : i < js.toArray.size := by simpa using (List.getElem?_eq_some_iff.mp hv).1
    refine wpAny_pyNext_zipD2_item D.S (drawsK p (by exact hn) D.n1 its.toArray) (drawsK q (by exact hn) D.n2 js.toArray) hz hTI hTO ⟨h1, s1⟩ ⟨h2, s2⟩ l1 l2 fun x1 x2 h' tk e1 e2 z' TO' st1 st2 hT hsz hk => ?_
    have e1 : x1 = u := by
      have : its[i]? = some x1 := by simpa using e1
      rw [hu] at this; exact (Option.some.inj this).symm
    have e2 : x2 = v := by
      have : js[i]? = some x2 := by simpa using e2
      rw [hv] at this; exact (Option.some.inj this).symm
    subst e1 e2
    have zl : z < s.heap.objs.size := Heap.lt_size hz
    refine ⟨_, rfl, wpAny_letOwnedTupleGo_zip (s := { s with heap := h', toks := tk }) z' fun h'' z'' sb => ?_⟩
    have tup2 : h''.get? s.heap.objs.size = some { cls := .type "tuple", data := .seq #[x1, x2] } := (sb.2 _ (Nat.ne_of_gt zl)).trans hT
    have fresh : ObjOk X.prog X.w (upd H s.heap.objs.size (.tup [x, y])) h'' s.heap.objs.size (.tup [x, y]) := ⟨(by decide : 2 ≤ sizeLine), [x1, x2], .cons ru (.cons rv2 .nil), ⟨_, tup2, rfl, _, rfl⟩⟩
    have keepO : ∀ (c : Addr) (o : Obj), c ∉ [z, TI, TO, i1, i2] → s.heap.get? c = some o → h''.get? c = some o := fun c o hc q => by
      have n : c ≠ z ∧ c ≠ TI ∧ c ≠ TO ∧ c ≠ i1 ∧ c ≠ i2 := by simpa using hc
      exact (sb.2 c n.1).trans (hk c o n.1 n.2.2.1 n.2.2.2.1 n.2.2.2.2 q)
    have I1 : Inv X pins σ (upd H s.heap.objs.size (.tup [x, y])) { s with heap := h'', toks := tk } := I.turnedNew (t' := tk) (ch := [z, TI, TO, i1, i2]) keepO hf (Nat.le_refl _) fresh
    refine ⟨.ref s.heap.objs.size, _, I1, rfl, ⟨_, x, y, rfl, I.hok.fresh (Nat.le_refl _), rfl, fun l hl => ?_, fun l hl => ?_⟩, ⟨z'', ?_, ⟨x1, x2, ?_⟩, ?_, ?_⟩, fun c hcm => ?_⟩
    · rw [sqK_inj I hl qx]; exact hx
    · rw [sqK_inj I hl qy]; exact hy
    · exact (sb.2 _ D.S.TIz).trans (hk _ _ D.S.TIz D.S.TITO D.S.TIi1 D.S.TIi2 hTI)
    · exact (sb.2 _ D.S.TOz).trans TO'
    · exact st1.1.at fun o e => (sb.2 _ D.S.zi1.symm).trans e
    · exact st2.1.at fun o e => (sb.2 _ D.S.zi2.symm).trans e
    · have lt : c < s.heap.objs.size := by
        rcases five c hcm with e | e | e | e | e <;> subst e
        · exact zl
        · exact Heap.lt_size hTI
        · exact Heap.lt_size hTO
        · obtain ⟨_, e, _⟩ := h1.obj; exact Heap.lt_size e
        · obtain ⟨_, e, _⟩ := h2.obj; exact Heap.lt_size e
      rw [upd_ne (Nat.ne_of_lt lt)]
      exact (hf c hcm).1
  · intro X hP hw hK hc i pins s σ H E I hf st hg
    subst hP hw hK
    obtain ⟨hz, hTI, ⟨x0, y0, hTO⟩, h1, h2⟩ := st
    obtain ⟨xs, ys, qx, qy, b1, b2, hend⟩ := hg
    obtain ⟨its, rv, s1, _⟩ := sqK_its I qx
    obtain ⟨js, rw', s2, _⟩ := sqK_its I qy
    have hn := I.ok.hd hc
    have e1 := rv.length
    have e2 := rw'.length
    refine wpAny_pyNext_zipD2_end D.S (drawsK p (by exact hn) D.n1 its.toArray) (drawsK q (by exact hn) D.n2 js.toArray) hz hTI hTO ⟨h1, s1⟩ ⟨h2, s2⟩ (by simp; omega) (by simp; omega) (by simp; omega) fun h' tk hk => ⟨rfl, ?_⟩
    exact I.turnedL (t' := tk) (ch := [z, TI, TO, i1, i2]) (fun c o hb q => by
      have n : c ≠ z ∧ c ≠ TI ∧ c ≠ TO ∧ c ≠ i1 ∧ c ≠ i2 := by simpa using hb
      exact hk c o n.1 n.2.2.1 n.2.2.2.1 n.2.2.2.2 q) hf
def newIt (b : Bool) (a : Addr) : Obj := if b then { cls := .type "list_iterator", data := .fields #[.ref a, .int 0 0] } else { cls := .type "tuple_iterator", data := .fields #[.ref a, .int 0 0] }
theorem beginsK (b : Bool) (a : Addr) (its : Array Value) : Begins (.ref a) (newIt b a) fun h => IsSq b h a its := by
  cases b
  · exact begins_tuple a its
  · exact begins_list a its
theorem newIt_is {b : Bool} {h : Heap} {it a : Addr} (e : h.get? it = some (newIt b a)) : IsIt b h it a 0 := by
  cases b
  · exact ⟨_, e, rfl, rfl⟩
  · exact ⟨_, e, rfl, rfl⟩
def iZipM (K : PySem.W.Frag) (ta : TA) : TI := fun σ H R => ta σ H fun vs H1 => ∃ p q a b xs ys, vs = [.ref a, .ref b] ∧ SqK p K H1 a xs ∧ SqK q K H1 b ys ∧ R (ItzM K p q a b) H1
theorem pi_zipM {X : Cx} {e e2 : Expr} {ta : TA} {p pos tpos : Pos} {elts : List Expr} {kk : Nat} (hg : Gl X "zip") (hm : X.mg "zip" = none) (ha : PA X [e, e2] ta)
    (hs : starEach [e, e2] X.env = (false, eval e X.env) :: starEach [e2] X.env) (hpl : (backTo pos (starEach [e2] X.env)).any (·.1) = false) :
    PI X (.Tuple elts kk tpos) (.Call (.Name "zip" p) [e, e2] [] pos) (iZipM X.K ta) := by
  constructor
  intro pins s σ H R I h
  refine Call_ (ld_blt I hg hm PyProof.Rows.boot_zip (PyProof.Rows.callWith_type1 (thn (ha.run pos pins s σ H _ I h) ?_) hs hpl))
  rintro us s1 ⟨vs, H1, I1, r1, p', q', a, b, xs, ys, rfl, qx, qy, q1⟩
  obtain ⟨u, us', rfl, ru, r1⟩ : ∃ u us', us = u :: us' ∧ RelV (.ref a) u ∧ Vals [.ref b] us' := by cases r1 with | cons r rr => exact ⟨_, _, rfl, r, rr⟩
  obtain ⟨v, rfl, rv'⟩ := vals1 r1
  obtain rfl : u = Value.ref a := ru
  obtain rfl : v = Value.ref b := rv'
  obtain ⟨its, rv, s1', la⟩ := sqK_its I1 qx
  obtain ⟨js, rw', s2', lb⟩ := sqK_its I1 qy
  refine zip_begins2 (beginsK p' a its.toArray) (beginsK q' b js.toArray) s1' s2' fun h' hz hTI hTO g1 g2 hsz hk => wpAny_pyIter_zip hz ?_
  have I2 : Inv X pins σ H1 { s1 with heap := h' } := I1.kept (t' := s1.toks) hk
  have fr : ∀ c, c ∈ [s1.heap.objs.size + 4, s1.heap.objs.size + 2, s1.heap.objs.size + 3, s1.heap.objs.size, s1.heap.objs.size + 1] → FpOk X pins H1 c := fun c hc => by
    have le : s1.heap.objs.size ≤ c := by
      rcases (show c = s1.heap.objs.size + 4 ∨ c = s1.heap.objs.size + 2 ∨ c = s1.heap.objs.size + 3 ∨ c = s1.heap.objs.size ∨ c = s1.heap.objs.size + 1 by simpa using hc) with e | e | e | e | e <;> rw [e] <;> first | exact Nat.le_add_right _ _ | exact Nat.le_refl _
    exact I1.fpOk le (I1.hok.fresh le)
  have D : ZApart (s1.heap.objs.size + 4) (s1.heap.objs.size + 2) (s1.heap.objs.size + 3) s1.heap.objs.size (s1.heap.objs.size + 1) a b :=
    ⟨zip_sep2 (fp1 := [a]) (fp2 := [b]) (fun c hc => by rw [List.mem_singleton.mp hc]; exact la) (fun c hc => by rw [List.mem_singleton.mp hc]; exact lb), Nat.ne_of_lt la, Nat.ne_of_lt (Nat.lt_succ_of_lt lb)⟩
  exact ⟨s1.heap.objs.size + 4, _, _, _, H1, rfl, I2, turn_zipM D, ⟨hz, hTI, ⟨_, _, hTO⟩, newIt_is g1, newIt_is g2⟩, fr, q1⟩
end PyC
end

section
set_option maxHeartbeats 200000
namespace PyC
open PySem PySem.Spec L2 RZ
/-- J walks xs, while what it leans on is held -/
structure Walk (K : KC) (J : It) (H1 : Hp) (P : Addr → Prop) (T : AS) (xs : List PyData) : Prop where
  step : ∀ (H : Hp), (∀ a o, H1 a = some o → NT o → (P a ∨ T a ∨ NL o) → H a = some o) → ∀ (i : Nat),
    (∀ d, xs[i]? = some d → J.go i H ∧ ∀ x H', J.yld i H x H' → (∀ a o, H a = some o → H' a = some o) ∧ Rep K H' T d x) ∧ (xs.length = i → J.stop i H)
section
variable {X : Cx}
def iSeq (K : PySem.W.Frag) (tl : TE) : TI := fun σ H R => tl σ H fun x H1 => ∃ a, x = .ref a ∧ (((∃ xs, SqL K H1 a xs) ∧ R (Itl K a) H1) ∨ ((∃ xs, SqT K H1 a xs) ∧ R (Itt K a) H1))
theorem pi_seq {tg l : Expr} {tl : TE} (hl : PE X l tl) : PI X tg l (iSeq X.K tl) := by
  refine ⟨fun pins s σ H R I h => thn (hl.run pins s σ H _ I h) fun v s1 ⟨x, H1, I1, r1, a, e, q1⟩ => ?_⟩
  subst e
  cases r1
  have lone : ∀ b ∈ [s1.heap.objs.size], FpOk X pins H1 b := fun b hb => by
    obtain rfl : b = s1.heap.objs.size := by simpa using hb
    exact I1.fpOk (Nat.le_refl _) (I1.hok.fresh (Nat.le_refl _))
  rcases q1 with ⟨⟨ys, hq⟩, q⟩ | ⟨⟨ys, hq⟩, q⟩
  · obtain ⟨us, _, p, _⟩ := I1.list hq
    exact wpAny_pyIter_list p.isList ⟨s1.heap.objs.size, [s1.heap.objs.size], _, _, H1, rfl, I1.kept (t' := s1.toks) fun b o e => Heap.get?_push_of_some _ e, turn_list a _, ⟨_, Heap.get?_push_size _ rfl, rfl, rfl⟩, lone, q⟩
  · obtain ⟨us, _, p, _⟩ := I1.tuple hq
    exact wpAny_pyIter_tuple (show s1.heap.IsTuple a us.toArray from p) ⟨s1.heap.objs.size, [s1.heap.objs.size], _, _, H1, rfl, I1.kept (t' := s1.toks) fun b o e => Heap.get?_push_of_some _ e, turn_tuple a _, ⟨_, Heap.get?_push_size _ rfl, rfl, rfl⟩, lone, q⟩
end
section
variable {K : KC} {H H1 : Hp} {T : AS} {P : Addr → Prop}
/-- what is held -/
abbrev Held (H1 H : Hp) (P : Addr → Prop) (T : AS) : Prop := ∀ a o, H1 a = some o → NT o → (P a ∨ T a ∨ NL o) → H a = some o
theorem Held.rd {a : Addr} {vs : List V} (k : Held H1 H P T) (h : Rd H1 a (.lst vs)) (p : P a) : Rd H a (.lst vs) := by
  rcases h with h | ⟨o, h⟩
  · exact .inl (k a _ h (fun _ z => by cases z) (.inl p))
  · exact .inr ⟨o, k a _ h (fun _ z => by cases z) (.inl p)⟩
theorem Held.repl {xs : List PyData} {vs : List V} (k : Held H1 H P T) (r : RepL K H1 T xs vs) : RepL K H T xs vs := r.stay (fun a o e t z => k a o e t (.inr z)) fun _ z => z
theorem walk_list {a : Addr} {vs : List V} {xs : List PyData} (h : Rd H1 a (.lst vs)) (p : P a) (r : RepL K H1 T xs vs) : Walk K (Itl K.fr a) H1 P T xs := by
  refine ⟨fun H k i => ⟨fun d hd => ?_, fun hi => ?_⟩⟩
  · obtain ⟨x, hx, rx⟩ := (Held.repl k r).get hd
    refine ⟨⟨vs, x, .inl (Held.rd k h p), hx⟩, fun y H' ⟨e, q⟩ => ?_⟩
    subst e
    have := q vs (.inl (Held.rd k h p))
    rw [hx] at this; cases this
    exact ⟨fun _ _ e => e, rx⟩
  · exact ⟨vs, .inl (Held.rd k h p), by rw [← r.length]; exact Nat.le_of_eq hi⟩
theorem walk_tup {a : Addr} {vs : List V} {xs : List PyData} (h : SqT K.fr H1 a vs) (r : RepL K H1 T xs vs) : Walk K (Itt K.fr a) H1 P T xs := by
  refine ⟨fun H k i => ?_⟩
  have h' : SqT K.fr H a vs := SqT.stay h fun o e t n => k a o e t (.inr (.inr n))
  refine ⟨fun d hd => ?_, fun hi => ⟨vs, h', by rw [← r.length]; exact Nat.le_of_eq hi⟩⟩
  obtain ⟨x, hx, rx⟩ := (Held.repl k r).get hd
  refine ⟨⟨vs, x, h', hx⟩, fun y H' ⟨e, q⟩ => ?_⟩
  subst e
  have := q vs h'
  rw [hx] at this; cases this
  exact ⟨fun _ _ e => e, rx⟩
theorem rngD_len {lo : Int} {n : Nat} : (rngD lo n).length = n := by simp [rngD]
theorem walk_rng {lo : Int} {n : Nat} : Walk K (Itr lo n) H1 P T (rngD lo n) := by
  refine ⟨fun H k i => ⟨fun d hd => ?_, fun hi => by rw [rngD_len] at hi; exact Nat.le_of_eq hi⟩⟩
  have hi : i < n := by
    have := (List.getElem?_eq_some_iff.mp hd).1
    rwa [rngD_len] at this
  refine ⟨hi, fun x H' ⟨e, q⟩ => ?_⟩
  subst e
  simp [rngD, hi] at hd
  subst hd
  exact ⟨fun _ _ e => e, q⟩
theorem enumD_get : ∀ {xs : List PyData} {n i : Nat}, (enumD n xs)[i]? = (xs[i]?).map fun d => .tuple [.int ((n + i : Nat) : Int), d]
  | [], n, i => by simp [enumD]
  | x :: xs, n, 0 => by simp [enumD]
  | x :: xs, n, i + 1 => by
    simp only [enumD, List.getElem?_cons_succ]
    rw [enumD_get]
    congr 1
    funext d
    rw [show n + 1 + i = n + (i + 1) from by omega]
theorem enumD_len : ∀ {xs : List PyData} {n : Nat}, (enumD n xs).length = xs.length
  | [], _ => rfl
  | x :: xs, n => by simp [enumD, enumD_len]
theorem walk_enum {a : Addr} {vs : List V} {xs : List PyData} (h : Rd H1 a (.lst vs)) (p : P a) (r : RepL K H1 T xs vs) : Walk K (Ite K.fr a) H1 P T (enumD 0 xs) := by
  refine ⟨fun H k i => ⟨fun d hd => ?_, fun hi => ?_⟩⟩
  · rw [enumD_get] at hd
    obtain ⟨d0, hd0, rfl⟩ := Option.map_eq_some_iff.mp hd
    obtain ⟨x, hx, rx⟩ := (Held.repl k r).get hd0
    refine ⟨⟨vs, x, .inl (Held.rd k h p), hx⟩, fun y H' ⟨t, x', e1, e2, e3, e4⟩ => ?_⟩
    subst e1 e3
    have := e4 vs (.inl (Held.rd k h p))
    rw [hx] at this; cases this
    refine ⟨keep_new e2, t, _, rfl, SqT.of upd_same, ?_, rx.stay (fun a o e _ _ => keep_new e2 a o e) fun _ z => z, trivial⟩
    show V.int ((i : Nat) : Int) = V.int ((0 + i : Nat) : Int)
    rw [Nat.zero_add]
  · rw [enumD_len] at hi
    exact ⟨vs, .inl (Held.rd k h p), by rw [← r.length]; exact Nat.le_of_eq hi⟩
theorem walk_enumT {a : Addr} {vs : List V} {xs : List PyData} (h : SqT K.fr H1 a vs) (r : RepL K H1 T xs vs) : Walk K (ItTe K.fr a) H1 P T (enumD 0 xs) := by
  refine ⟨fun H k i => ?_⟩
  have g1 : SqT K.fr H a vs := SqT.stay h fun o e t n => k a o e t (.inr (.inr n))
  refine ⟨fun d hd => ?_, fun hi => ?_⟩
  · rw [enumD_get] at hd
    obtain ⟨d0, hd0, rfl⟩ := Option.map_eq_some_iff.mp hd
    obtain ⟨x, hx, rx⟩ := (Held.repl k r).get hd0
    refine ⟨⟨vs, x, g1, hx⟩, fun y H' ⟨t, x', e1, e2, e3, e4⟩ => ?_⟩
    subst e1 e3
    have := e4 vs g1
    rw [hx] at this; cases this
    refine ⟨keep_new e2, t, _, rfl, SqT.of upd_same, ?_, rx.stay (fun a o e _ _ => keep_new e2 a o e) fun _ z => z, trivial⟩
    show V.int ((i : Nat) : Int) = V.int ((0 + i : Nat) : Int)
    rw [Nat.zero_add]
  · rw [enumD_len] at hi
    exact ⟨vs, g1, by rw [← r.length]; exact Nat.le_of_eq hi⟩
theorem zipD_get : ∀ {xs ys : List PyData} {i : Nat} {d : PyData}, (zipD xs ys)[i]? = some d → ∃ a b, xs[i]? = some a ∧ ys[i]? = some b ∧ d = .tuple [a, b]
  | [], _, i, d, h => by simp [zipD] at h
  | _ :: _, [], i, d, h => by simp [zipD] at h
  | x :: xs, y :: ys, 0, d, h => by simp [zipD] at h; exact ⟨x, y, rfl, rfl, h.symm⟩
  | x :: xs, y :: ys, i + 1, d, h => by
    simp only [zipD, List.getElem?_cons_succ] at h ⊢
    exact zipD_get h
theorem zipD_len : ∀ {xs ys : List PyData} {i : Nat}, (zipD xs ys).length ≤ i → xs.length ≤ i ∨ ys.length ≤ i
  | [], _, i, _ => .inl (Nat.zero_le _)
  | _ :: _, [], i, _ => .inr (Nat.zero_le _)
  | x :: xs, y :: ys, 0, h => by simp [zipD] at h
  | x :: xs, y :: ys, i + 1, h => by
    simp only [zipD, List.length_cons, Nat.add_le_add_iff_right] at h ⊢
    exact zipD_len h
theorem walk_zip {a b : Addr} {vs ws : List V} {xs ys : List PyData} (h : Rd H1 a (.lst vs)) (p : P a) (r : RepL K H1 T xs vs) (h2 : Rd H1 b (.lst ws)) (p2 : P b) (r2 : RepL K H1 T ys ws) : Walk K (Itz K.fr a b) H1 P T (zipD xs ys) := by
  refine ⟨fun H k i => ⟨fun d hd => ?_, fun hi => ?_⟩⟩
  · obtain ⟨da, db, ea, eb, rfl⟩ := zipD_get hd
    obtain ⟨x, hx, rx⟩ := (Held.repl k r).get ea
    obtain ⟨y, hy, ry⟩ := (Held.repl k r2).get eb
    refine ⟨⟨vs, ws, x, y, .inl (Held.rd k h p), .inl (Held.rd k h2 p2), hx, hy⟩, fun z H' ⟨t, x', y', e1, e2, e3, e4, e5⟩ => ?_⟩
    subst e1 e3
    have q1 := e4 vs (.inl (Held.rd k h p))
    rw [hx] at q1; cases q1
    have q2 := e5 ws (.inl (Held.rd k h2 p2))
    rw [hy] at q2; cases q2
    exact ⟨keep_new e2, t, _, rfl, SqT.of upd_same, rx.stay (fun a o e _ _ => keep_new e2 a o e) fun _ z => z, ry.stay (fun a o e _ _ => keep_new e2 a o e) fun _ z => z, trivial⟩
  · refine ⟨vs, ws, .inl (Held.rd k h p), .inl (Held.rd k h2 p2), ?_⟩
    rw [← r.length, ← r2.length]
    exact zipD_len (Nat.le_of_eq hi)
theorem walk_zipT {a b : Addr} {vs ws : List V} {xs ys : List PyData} (h : SqT K.fr H1 a vs) (r : RepL K H1 T xs vs) (h2 : SqT K.fr H1 b ws) (r2 : RepL K H1 T ys ws) : Walk K (ItzT K.fr a b) H1 P T (zipD xs ys) := by
  refine ⟨fun H k i => ?_⟩
  have g1 : SqT K.fr H a vs := SqT.stay h fun o e t n => k a o e t (.inr (.inr n))
  have g2 : SqT K.fr H b ws := SqT.stay h2 fun o e t n => k b o e t (.inr (.inr n))
  refine ⟨fun d hd => ?_, fun hi => ?_⟩
  · obtain ⟨da, db, ea, eb, rfl⟩ := zipD_get hd
    obtain ⟨x, hx, rx⟩ := (Held.repl k r).get ea
    obtain ⟨y, hy, ry⟩ := (Held.repl k r2).get eb
    refine ⟨⟨vs, ws, x, y, g1, g2, hx, hy⟩, fun z H' ⟨t, x', y', e1, e2, e3, e4, e5⟩ => ?_⟩
    subst e1 e3
    have q1 := e4 vs g1
    rw [hx] at q1; cases q1
    have q2 := e5 ws g2
    rw [hy] at q2; cases q2
    exact ⟨keep_new e2, t, _, rfl, SqT.of upd_same, rx.stay (fun a o e _ _ => keep_new e2 a o e) fun _ z => z, ry.stay (fun a o e _ _ => keep_new e2 a o e) fun _ z => z, trivial⟩
  · refine ⟨vs, ws, g1, g2, ?_⟩
    rw [← r.length, ← r2.length]
    exact zipD_len (Nat.le_of_eq hi)
theorem zipD_eq : ∀ {xs ys : List PyData} {i : Nat}, (zipD xs ys).length = i → i ≤ xs.length ∧ i ≤ ys.length ∧ (i = xs.length ∨ i = ys.length)
  | [], ys, i, h => by simp [zipD] at h; subst h; simp
  | _ :: _, [], i, h => by simp [zipD] at h; subst h; simp
  | x :: xs, y :: ys, 0, h => by simp [zipD] at h
  | x :: xs, y :: ys, i + 1, h => by
    simp only [zipD, List.length_cons, Nat.add_right_cancel_iff] at h
    have := zipD_eq h
    simp only [List.length_cons]
    omega
/-- read as it is held -/
def RdK (b : Bool) (K : PySem.W.Frag) (H : Hp) (a : Addr) (xs : List V) : Prop := if b then Rd H a (.lst xs) else SqT K H a xs
theorem walk_zipM {p q : Bool} {a b : Addr} {vs ws : List V} {xs ys : List PyData} (h : RdK p K.fr H1 a vs) (pa : p = true → P a) (r : RepL K H1 T xs vs) (h2 : RdK q K.fr H1 b ws) (pb : q = true → P b) (r2 : RepL K H1 T ys ws) : Walk K (ItzM K.fr p q a b) H1 P T (zipD xs ys) := by
  refine ⟨fun H k i => ?_⟩
  have hold : ∀ {c : Bool} {d : Addr} {us : List V}, RdK c K.fr H1 d us → (c = true → P d) → SqK c K.fr H d us := fun {c d us} z pd => by
    cases c
    · exact SqT.stay (show SqT K.fr H1 d us from z) fun o e t n => k d o e t (.inr (.inr n))
    · exact .inl (Held.rd k (show Rd H1 d (.lst us) from z) (pd rfl))
  have g1 := hold h pa
  have g2 := hold h2 pb
  have uniq : ∀ {c : Bool} {d : Addr} {us us' : List V}, SqK c K.fr H d us → SqK c K.fr H d us' → True := fun _ _ => trivial
  refine ⟨fun d hd => ?_, fun hi => ?_⟩
  · obtain ⟨da, db, ea, eb, rfl⟩ := zipD_get hd
    obtain ⟨x, hx, rx⟩ := (Held.repl k r).get ea
    obtain ⟨y, hy, ry⟩ := (Held.repl k r2).get eb
    refine ⟨⟨vs, ws, x, y, g1, g2, hx, hy⟩, fun z H' ⟨t, x', y', e1, e2, e3, e4, e5⟩ => ?_⟩
    subst e1 e3
    have q1 := e4 vs g1
    rw [hx] at q1; cases q1
    have q2 := e5 ws g2
    rw [hy] at q2; cases q2
    exact ⟨keep_new e2, t, _, rfl, SqT.of upd_same, rx.stay (fun a o e _ _ => keep_new e2 a o e) fun _ z => z, ry.stay (fun a o e _ _ => keep_new e2 a o e) fun _ z => z, trivial⟩
  · obtain ⟨b1, b2, b3⟩ := zipD_eq hi
    exact ⟨vs, ws, g1, g2, by rw [← r.length]; exact b1, by rw [← r2.length]; exact b2, by rw [← r.length, ← r2.length]; exact b3⟩
end
/-! the evaluator's iterables -/
section
variable {C : RK} {call : CallT} {W : WX} {σ : L2.St} {H H1 H2 : Hp} {S T : AS} {ρ ρ1 : Rho}
section
variable (C : RK) (call : CallT) (W : WX)
def tIT (it : IT) : TI := fun σ H R => ∃ ρ S, RepS C H S σ ρ ∧ Res (evIT call it ρ) (fun xs ρ' =>
  ∀ J H' T P, RepS C H' S σ ρ' → Stp H H' σ ρ ρ' (mutsIT it) → Bd H H' S σ ρ (alIT it) T → Bd H H' S σ ρ (walks it) P → Walk C.fr J H' P T xs → (flatL xs = true → ∀ a, ¬ T a) → R J H') (tX C W H S σ ρ)
end
theorem al1_it {e : CE} : (if e.isVar then [] else al e) = al1 e := rfl
/-- the address of a value that is a list -/
theorem val_lst {ds : List PyData} {v : Bool × PyData} {x : V} {as : List Nat} (R : RepS C H S σ ρ) (b : Bd H H1 S σ ρ as T) (h : Val C.fr H H1 T v x) (e : v.2 = .list ds) : ∃ a, x = .ref a ∧ Bd H H1 S σ ρ as fun c => c = a := by
  unfold Val at h
  split at h
  · obtain ⟨t, e1, n, _, d, zs, _, e2, _⟩ := h
    exact ⟨t, e1, fun c z => .inr (.inr (z ▸ n)), fun c z => ⟨_, z ▸ e2⟩⟩
  · rw [e] at h
    obtain ⟨a, zs, e1, ta, _⟩ := h
    exact ⟨a, e1, fun c z => z ▸ b.bd a ta, fun c z => z ▸ b.dm a ta⟩
/-- what flat items reach: nothing -/
theorem repl_if {K : KC} {ds : List PyData} {vs : List V} (r : RepL K H T ds vs) : RepL K H (fun a => T a ∧ flatL ds = false) ds vs := by
  cases q : flatL ds
  · exact r.wk fun a z => ⟨z, rfl⟩
  · exact r.flat q
theorem bd_if {as : List Nat} {p : Prop} (b : Bd H H1 S σ ρ as T) : Bd H H1 S σ ρ as (fun a => T a ∧ p) := ⟨fun a z => b.bd a z.1, fun a z => b.dm a z.1⟩
theorem flat_enum : ∀ {xs : List PyData} {n : Nat}, flatL (enumD n xs) = true → flatL xs = true
  | [], _, _ => rfl
  | x :: xs, n, h => by
    simp only [enumD, flatL, flatD, Bool.and_eq_true] at h ⊢
    exact ⟨h.1.2.1, flat_enum h.2⟩
theorem tIT.seq {e : CE} {R : It → Hp → Prop} (h : tIT C call W (.seq e) σ H R) : iSeq C.fr.fr (tE C call W e) σ H R := by
  obtain ⟨ρ, S, R0, k⟩ := h
  simp only [evIT] at k
  refine ⟨ρ, S, R0, k.bind.imp (fun v ρ1 k x H1 T R1 st1 b1 v1 ⟨T0, b0, a0⟩ => ?_) fun _ _ _ z => z⟩
  obtain ⟨w, p⟩ := v
  cases p with
  | list ds =>
    obtain ⟨a, e1, ba⟩ := val_lst R0 b1 v1 rfl
    obtain ⟨a', vs, e2, rd, r⟩ := a0
    rw [e1] at e2; cases e2
    exact ⟨a, e1, .inl ⟨⟨vs, .inl rd⟩, k.ok (Itl C.fr.fr a) H1 _ _ R1 st1 (bd_if b0) ba (walk_list rd rfl (repl_if r)) fun q a z => by rw [q] at z; cases z.2⟩⟩
  | tuple ds =>
    obtain ⟨a, vs, e1, q, r⟩ := a0
    exact ⟨a, e1, .inr ⟨⟨vs, q⟩, k.ok (Itt C.fr.fr a) H1 _ (fun _ => False) R1 st1 (bd_if b0) .empty (walk_tup q (repl_if r)) fun q a z => by rw [q] at z; cases z.2⟩⟩
  | _ => exact k.elim
theorem tIT.rng1 {a : CE} {R : It → Hp → Prop} (h : tIT C call W (.rng1 a) σ H R) : iRng1 (t1 (tE C call W a)) σ H R := by
  obtain ⟨ρ, S, R0, k⟩ := h
  simp only [evIT] at k
  refine ⟨ρ, S, R0, k.bind.imp (fun v ρ1 k x H1 T R1 st1 b1 v1 _ => ?_) fun _ _ _ z => z⟩
  split at k
  · rename_i n e
    split at k
    · rename_i hs
      have hs := small_of hs
      refine ⟨n, by rw [v1.int e], by omega, by omega, k.ok (Itr 0 n.toNat) H1 (fun _ => False) (fun _ => False) R1 st1 .empty .empty walk_rng fun _ a z => z⟩
    · exact k.elim
  · exact k.elim
/-- two arguments -/
def t2 (t u : TE) : TA := fun σ H Q => t σ H fun x H1 => u σ H1 fun y H2 => Q [x, y] H2
theorem tIT.rng2 {a b : CE} {R : It → Hp → Prop} (h : tIT C call W (.rng2 a b) σ H R) : iRng2 (t2 (tE C call W a) (tE C call W b)) σ H R := by
  obtain ⟨ρ, S, R0, k⟩ := h
  simp only [evIT] at k
  refine ⟨ρ, S, R0, k.bind.imp (fun v ρ1 k x H1 T R1 st1 b1 v1 _ => ?_) fun _ _ _ z => z⟩
  refine ⟨ρ1, S, R1, k.bind.imp (fun w ρ2 k y H2 T2 R2 st2 b2 v2 _ => ?_) fun _ _ _ z => z.back R1 st1⟩
  split at k
  · rename_i m n e1 e2
    split at k
    · rename_i hs
      rw [Bool.and_eq_true] at hs
      have h1 := small_of hs.1
      have h2 := small_of hs.2
      have hx : x = .int m := by
        unfold Val at v1
        split at v1
        · obtain ⟨t, _, _, _, r⟩ := v1
          have e := r.flatF
          rw [e1] at e; cases e
        · rw [e1] at v1; exact v1
      exact ⟨m, n, by rw [hx, v2.int e2], ⟨by omega, by omega, by omega, by omega⟩, k.ok (Itr m (n - m).toNat) H2 (fun _ => False) (fun _ => False) R2 (st1.trans st2) .empty .empty walk_rng fun _ a z => z⟩
    · exact k.elim
  · exact k.elim
theorem tIT.enum {e : CE} {R : It → Hp → Prop} (h : tIT C call W (.enum e) σ H R) : iEnumA C.fr.fr (t1 (tE C call W e)) σ H R := by
  obtain ⟨ρ, S, R0, k⟩ := h
  simp only [evIT] at k
  refine ⟨ρ, S, R0, k.bind.imp (fun v ρ1 k x H1 T R1 st1 b1 v1 ⟨T0, b0, a0⟩ => ?_) fun _ _ _ z => z⟩
  obtain ⟨w, p⟩ := v
  cases p with
  | list ds =>
    obtain ⟨a, e1, ba⟩ := val_lst R0 b1 v1 rfl
    obtain ⟨a', vs, e2, rd, r⟩ := a0
    rw [e1] at e2; cases e2
    exact ⟨a, vs, by rw [e1], .inl ⟨.inl rd, k.ok (Ite C.fr.fr a) H1 _ _ R1 st1 (bd_if b0) ba (walk_enum rd rfl (repl_if r)) fun q a z => by rw [flat_enum q] at z; cases z.2⟩⟩
  | tuple ds =>
    obtain ⟨a, vs, e2, q, r⟩ := a0
    exact ⟨a, vs, by rw [e2], .inr ⟨q, k.ok (ItTe C.fr.fr a) H1 _ (fun _ => False) R1 st1 (bd_if b0) .empty (walk_enumT q (repl_if r)) fun q a z => by rw [flat_enum q] at z; cases z.2⟩⟩
  | _ => exact k.elim
theorem tIT.zip {a b : CE} {R : It → Hp → Prop} (h : tIT C call W (.zip a b) σ H R) : iZipM C.fr.fr (t2 (tE C call W a) (tE C call W b)) σ H R := by
  obtain ⟨ρ, S, R0, k⟩ := h
  simp only [evIT] at k
  refine ⟨ρ, S, R0, k.bind.imp (fun v ρ1 k x H1 T R1 st1 b1 v1 o1 => ?_) fun _ _ _ z => z⟩
  split at k
  · exact k.elim
  rename_i hn
  have hn : meets (al a) (muts b) = false ∨ flatD v.2 = true := by
    cases q : meets (al a) (muts b)
    · exact .inl rfl
    · cases q2 : flatD v.2
      · simp [q, q2] at hn
      · exact .inr rfl
  refine ⟨ρ1, S, R1, k.bind.imp (fun w ρ2 k y H2 T2 R2 st2 b2 v2 o2 => ?_) fun _ _ _ z => z.back R1 st1⟩
  have v1' := v1.stay R0 R1 b1 st1 st2 hn
  have b1' := b1.step R2 st2
  obtain ⟨T0, b0, a0⟩ := o1.stay v1 R0 R1 R2 b1 st1 st2 hn
  obtain ⟨T3, b3, a3⟩ := o2.back R1 st1
  have v2' := v2.back fun c e => st1.new R1 e
  have b2' := b2.back R1 st1
  obtain ⟨w1, p⟩ := v
  obtain ⟨w2, q⟩ := w
  have nf : ∀ {ds es : List PyData}, ¬ (flatL (zipD ds es) && !(flatL ds && flatL es)) = true → flatL (zipD ds es) = true → ∀ a, ¬ ((T0 a ∧ flatL ds = false) ∨ (T3 a ∧ flatL es = false)) := fun {ds es} h q a z => by
    rw [q] at h
    simp only [Bool.true_and, Bool.not_eq_true', Bool.not_eq_false, Bool.and_eq_true] at h
    rw [h.1, h.2] at z
    rcases z with z | z <;> cases z.2
  cases p with
  | list ds =>
    cases q with
    | list es =>
      obtain ⟨c1, e1, ba1⟩ := val_lst R0 b1' v1' rfl
      obtain ⟨c1', vs, e1', rd1, r1⟩ := a0
      rw [e1] at e1'; cases e1'
      obtain ⟨c2, e2, ba2⟩ := val_lst R0 b2' v2' rfl
      obtain ⟨c2', ws, e2', rd2, r2⟩ := a3
      rw [e2] at e2'; cases e2'
      by_cases hz : (flatL (zipD ds es) && !(flatL ds && flatL es)) = true
      · simp only [if_pos hz] at k; exact k.elim
      simp only [if_neg hz] at k
      exact ⟨true, true, c1, c2, vs, ws, by rw [e1, e2], .inl rd1, .inl rd2, k.ok (ItzM C.fr.fr true true c1 c2) H2 _ _ R2 (st1.trans st2) ((bd_if b0).union (bd_if b3)) (ba1.union ba2) (walk_zipM rd1 (fun _ => .inl rfl) ((repl_if r1).wk fun _ z => .inl z) rd2 (fun _ => .inr rfl) ((repl_if r2).wk fun _ z => .inr z)) (nf hz)⟩
    | tuple es =>
      obtain ⟨c1, e1, ba1⟩ := val_lst R0 b1' v1' rfl
      obtain ⟨c1', vs, e1', rd1, r1⟩ := a0
      rw [e1] at e1'; cases e1'
      obtain ⟨c2, ws, e2, q2, r2⟩ := a3
      by_cases hz : (flatL (zipD ds es) && !(flatL ds && flatL es)) = true
      · simp only [if_pos hz] at k; exact k.elim
      simp only [if_neg hz] at k
      exact ⟨true, false, c1, c2, vs, ws, by rw [e1, e2], .inl rd1, q2, k.ok (ItzM C.fr.fr true false c1 c2) H2 _ _ R2 (st1.trans st2) ((bd_if b0).union (bd_if b3)) (ba1.mono fun _ z => List.mem_append_left _ z) (walk_zipM rd1 (fun _ => rfl) ((repl_if r1).wk fun _ z => .inl z) q2 (fun z => by cases z) ((repl_if r2).wk fun _ z => .inr z)) (nf hz)⟩
    | _ => exact k.elim
  | tuple ds =>
    cases q with
    | tuple es =>
      obtain ⟨c1, vs, e1, q1, r1⟩ := a0
      obtain ⟨c2, ws, e2, q2, r2⟩ := a3
      by_cases hz : (flatL (zipD ds es) && !(flatL ds && flatL es)) = true
      · simp only [if_pos hz] at k; exact k.elim
      simp only [if_neg hz] at k
      exact ⟨false, false, c1, c2, vs, ws, by rw [e1, e2], q1, q2, k.ok (ItzM C.fr.fr false false c1 c2) H2 _ (fun _ => False) R2 (st1.trans st2) ((bd_if b0).union (bd_if b3)) .empty (walk_zipM q1 (fun z => by cases z) ((repl_if r1).wk fun _ z => .inl z) q2 (fun z => by cases z) ((repl_if r2).wk fun _ z => .inr z)) (nf hz)⟩
    | list es =>
      obtain ⟨c1, vs, e1, q1, r1⟩ := a0
      obtain ⟨c2, e2, ba2⟩ := val_lst R0 b2' v2' rfl
      obtain ⟨c2', ws, e2', rd2, r2⟩ := a3
      rw [e2] at e2'; cases e2'
      by_cases hz : (flatL (zipD ds es) && !(flatL ds && flatL es)) = true
      · simp only [if_pos hz] at k; exact k.elim
      simp only [if_neg hz] at k
      exact ⟨false, true, c1, c2, vs, ws, by rw [e1, e2], q1, .inl rd2, k.ok (ItzM C.fr.fr false true c1 c2) H2 _ _ R2 (st1.trans st2) ((bd_if b0).union (bd_if b3)) (ba2.mono fun _ z => List.mem_append_right _ z) (walk_zipM q1 (fun z => by cases z) ((repl_if r1).wk fun _ z => .inl z) rd2 (fun _ => rfl) ((repl_if r2).wk fun _ z => .inr z)) (nf hz)⟩
    | _ => exact k.elim
  | _ => cases q <;> exact k.elim
end
end PyC
end

section
set_option maxHeartbeats 200000
namespace PyC
open PySem PySem.Spec L2
mutual
/-- the names that a target sets -/
def tgs : Tg → List Nat
  | .nm i => [i] | .tp ts => tgsL ts | .sub _ _ => [] | .dsub _ _ => []
def tgsL : Tgs → List Nat
  | .nil => [] | .cons t ts => tgs t ++ tgsL ts
end
mutual
def plainT : Tg → Bool
  | .nm _ => true | .tp ts => plainTs ts | .sub _ _ => false | .dsub _ _ => false
def plainTs : Tgs → Bool
  | .nil => true | .cons t ts => plainT t && plainTs ts
end
def tlen : Tgs → Nat
  | .nil => 0 | .cons _ ts => tlen ts + 1
/-- a value at hand, before it is set -/
def InV (C : RK) (H : Hp) (S : AS) (σ : L2.St) (ρ : Rho) (v : Bool × PyData) (x : V) : Prop :=
  if v.1 = true then ∃ t, x = .ref t ∧ ¬ S t ∧ (∀ i, ¬ Own σ ρ i t) ∧ Root C.fr H S v.2 t else Rep C.fr H S v.2 x
/-- what setting does -/
structure PostA (H H' : Hp) (S S' : AS) (σ σ' : L2.St) (ρ ρ' : Rho) (new : Addr → Prop) (ns : List Nat) (pl : Bool) : Prop where
  mvM : ∀ a o, H a = some o → NT o → (∀ i, ¬ OwnM σ ρ i a) → H' a = some o
  sb : ∀ a, S a → S' a
  sm : ∀ a, S' a → S a ∨ new a
  ow : ∀ i a, Own σ' ρ' i a → (∃ j, Own σ ρ j a) ∨ new a
  sg : ∀ i : Nat, i ∉ ns → σ'[i]? = σ[i]?
  hp : pl = true → H' = H
  rg : pl = true → (∀ a, ¬ new a) → ∀ i : Nat, ρ'[i]? = ρ[i]? ∨ (i ∈ ns ∧ ∃ p, ρ'[i]? = some (.fz p))
  ro : pl = true → ∀ i : Nat, i ∉ ns → ρ'[i]? = ρ[i]?
  ln : ρ'.length = ρ.length
  owM : ∀ i a, OwnM σ' ρ' i a → (∃ j, OwnM σ ρ j a) ∨ new a
  lk : ∀ (i : Nat) (p : PyData), ρ'[i]? = some (.lk p) → ρ[i]? = some (.lk p) ∧ σ'[i]? = σ[i]?
  th : ∀ a o, H a = some o → ∃ o', H' a = some o'
theorem PostA.mv {H H' : Hp} {S S' : AS} {σ σ' : L2.St} {ρ ρ' : Rho} {new : Addr → Prop} {ns : List Nat} {pl : Bool} (p : PostA H H' S S' σ σ' ρ ρ' new ns pl) (a : Addr) (o : HO) (e : H a = some o) (t : NT o) (n : ∀ i, ¬ Own σ ρ i a) : H' a = some o := p.mvM a o e t fun i z => n i z.own
section
variable {C : RK} {call : CallT} {W : WX} {σ σ1 σ2 : L2.St} {H H1 H2 : Hp} {S S1 S2 T : AS} {ρ ρ1 ρ2 : Rho} {new new2 : Addr → Prop} {ns ms : List Nat} {b1 b2 : Bool}
theorem PostA.refl : PostA H H S S σ σ ρ ρ new ns b1 := ⟨fun _ _ e _ _ => e, fun _ z => z, fun _ z => .inl z, fun i a o => .inl ⟨i, o⟩, fun _ _ => rfl, fun _ => rfl, fun _ _ _ => .inl rfl, fun _ _ _ => rfl, rfl, fun i a o => .inl ⟨i, o⟩, fun i p e => ⟨e, rfl⟩, fun _ o e => ⟨o, e⟩⟩
theorem PostA.trans (p : PostA H H1 S S1 σ σ1 ρ ρ1 new ns b1) (q : PostA H1 H2 S1 S2 σ1 σ2 ρ1 ρ2 new2 ms b2) (hn : ∀ a, new2 a → new a) (dm : ∀ a, new a → H a = none ∨ ∀ i, ¬ Own σ ρ i a) (ok : ∀ a o, H a = some o → (∀ i, ¬ OwnM σ ρ i a) → ∀ i, ¬ OwnM σ1 ρ1 i a) : PostA H H2 S S2 σ σ2 ρ ρ2 new (ns ++ ms) (b1 && b2) where
  mvM := fun a o e t n => q.mvM a o (p.mvM a o e t n) t (ok a o e n)
  th := fun a o e => let ⟨o', e'⟩ := p.th a o e; q.th a o' e'
  owM := fun i a o => (q.owM i a o).elim (fun ⟨j, o⟩ => p.owM j a o) fun y => .inr (hn a y)
  lk := fun i d e => let ⟨e1, e2⟩ := q.lk i d e; let ⟨e3, e4⟩ := p.lk i d e1; ⟨e3, e2.trans e4⟩
  sb := fun a z => q.sb a (p.sb a z)
  sm := fun a z => (q.sm a z).elim (p.sm a) fun y => .inr (hn a y)
  ow := fun i a o => (q.ow i a o).elim (fun ⟨j, o⟩ => p.ow j a o) fun y => .inr (hn a y)
  sg := fun i h => by
    rw [List.mem_append, not_or] at h
    rw [q.sg i h.2, p.sg i h.1]
  hp := fun h => by
    rw [Bool.and_eq_true] at h
    rw [q.hp h.2, p.hp h.1]
  rg := fun h z i => by
    rw [Bool.and_eq_true] at h
    rcases q.rg h.2 (fun a y => z a (hn a y)) i with e | ⟨m, e⟩
    · rcases p.rg h.1 z i with e2 | ⟨m, e2⟩
      · exact .inl (e.trans e2)
      · exact .inr ⟨List.mem_append_left _ m, by rw [e]; exact e2⟩
    · exact .inr ⟨List.mem_append_right _ m, e⟩
  ro := fun h i hi => by
    rw [Bool.and_eq_true] at h
    rw [List.mem_append, not_or] at hi
    rw [q.ro h.2 i hi.2, p.ro h.1 i hi.1]
  ln := q.ln.trans p.ln
section
variable (C : RK) (call : CallT)
def gT (tg : Tg) : TG := fun x σ H K => ∃ ρ S v, RepS C H S σ ρ ∧ InV C H S σ ρ v x ∧ Res (asgT call tg v ρ) (fun _ ρ' => ∀ σ' H' S', RepS C H' S' σ' ρ' → PostA H H' S S' σ σ' ρ ρ' (fun a => v.1 = true ∧ x = .ref a) (tgs tg) (plainT tg) → K σ' H') (fun _ _ _ => False)
def gTs (ts : Tgs) : TGs := fun xs σ H K => ∃ ρ S ds, RepS C H S σ ρ ∧ RepL C.fr H S ds xs ∧ Res (asgTs call ts ds ρ) (fun _ ρ' => ∀ σ' H' S', RepS C H' S' σ' ρ' → PostA H H' S S' σ σ' ρ ρ' (fun _ => False) (tgsL ts) (plainTs ts) → K σ' H') (fun _ _ _ => False)
end
theorem PostA.mono (p : PostA H H1 S S1 σ σ1 ρ ρ1 new ns b1) (h : ∀ a, new a → new2 a) (he : (∀ a, ¬ new2 a) → ∀ a, ¬ new a) : PostA H H1 S S1 σ σ1 ρ ρ1 new2 ns b1 :=
  ⟨p.mvM, p.sb, fun a z => (p.sm a z).imp id (h a), fun i a o => (p.ow i a o).imp id (h a), p.sg, p.hp, fun hb z => p.rg hb (he z), p.ro, p.ln, fun i a o => (p.owM i a o).imp id (h a), p.lk, p.th⟩
/-- a value is set into slot i -/
theorem RepS.setSlot {i : Nat} {v : Bool × PyData} {x : V} (R : RepS C H S σ ρ) (iv : InV C H S σ ρ v x) (hi : i < ρ.length) :
    RepS C H S (σ.set i (some x)) (ρ.set i (if v.1 then .my v.2 else .fz v.2)) ∧ PostA H H S S σ (σ.set i (some x)) ρ (ρ.set i (if v.1 then .my v.2 else .fz v.2)) (fun a => v.1 = true ∧ x = .ref a) [i] true := by
  have hs : i < σ.length := by rw [R.len]; exact hi
  have own : ∀ j a, Own (σ.set i (some x)) (ρ.set i (if v.1 then .my v.2 else .fz v.2)) j a → (j ≠ i ∧ Own σ ρ j a) ∨ (j = i ∧ v.1 = true ∧ x = .ref a) := fun j a ⟨s, h1, h2, h3⟩ => by
    by_cases hj : i = j
    · subst hj
      rw [List.getElem?_set_self hi] at h1
      rw [List.getElem?_set_self hs] at h3
      cases h3
      cases h1
      cases hb : v.1
      · rw [hb] at h2; cases h2
      · exact .inr ⟨rfl, rfl, rfl⟩
    · rw [List.getElem?_set_ne hj] at h1 h3
      exact .inl ⟨fun z => hj z.symm, s, h1, h2, h3⟩
  refine ⟨⟨by simp [R.len], fun j p h => ?_, fun j s p h m e => ?_, fun j k a h1 h2 => ?_, R.dom, R.tab, fun j c ps h => ?_⟩, ⟨fun _ _ e _ _ => e, fun _ z => z, fun _ z => .inl z, fun j a o => ?_, fun j hj => List.getElem?_set_ne fun z => hj (by simp [z]), fun _ => rfl, fun _ hz j => ?_, fun _ j hj => List.getElem?_set_ne fun z => hj (by simp [z]), by simp, fun j a o => ?_, fun j p h => ?_, fun _ o e => ⟨o, e⟩⟩⟩
  · by_cases hj : i = j
    · subst hj
      rw [List.getElem?_set_self hi] at h
      rw [List.getElem?_set_self hs]
      unfold InV at iv
      cases hb : v.1
      · rw [hb] at h iv
        rw [if_neg (by simp)] at h iv
        cases h
        exact ⟨x, rfl, iv⟩
      · rw [hb] at h; cases h
    · rw [List.getElem?_set_ne hj] at h ⊢
      exact R.fz j p h
  · by_cases hj : i = j
    · subst hj
      rw [List.getElem?_set_self hi] at h
      rw [List.getElem?_set_self hs]
      unfold InV at iv
      cases hb : v.1
      · rw [hb] at h; cases h; cases m
      · rw [hb] at h iv
        rw [if_pos rfl] at h iv
        cases h
        cases e
        obtain ⟨t, e1, n1, n2, r⟩ := iv
        exact ⟨t, by rw [e1], n1, r⟩
    · rw [List.getElem?_set_ne hj] at h ⊢
      exact R.my j s p h m e
  · have nn : ∀ j, x = .ref a → v.1 = true → ¬ Own σ ρ j a := fun j e hb => by
      unfold InV at iv
      rw [hb, if_pos rfl] at iv
      obtain ⟨t, e1, _, n2, _⟩ := iv
      rw [e] at e1; cases e1
      exact n2 j
    rcases own j a h1 with ⟨z1, o1⟩ | ⟨z1, hb, e⟩
    · rcases own k a h2 with ⟨z2, o2⟩ | ⟨z2, hb, e⟩
      · exact R.sep j k a o1 o2
      · exact (nn j e hb o1).elim
    · rcases own k a h2 with ⟨z2, o2⟩ | ⟨z2, _, _⟩
      · exact (nn k e hb o2).elim
      · rw [z1, z2]
  · by_cases hj : i = j
    · subst hj
      rw [List.getElem?_set_self hi] at h
      cases hb : v.1 <;> rw [hb] at h <;> cases h
    · rw [List.getElem?_set_ne hj] at h ⊢
      exact R.exq j c ps h
  · rcases own j a o with ⟨_, o⟩ | ⟨_, hb, e⟩
    · exact .inl ⟨j, o⟩
    · exact .inr ⟨hb, e⟩
  · by_cases hj : i = j
    · subst hj
      rw [List.getElem?_set_self hi]
      cases hb : v.1
      · exact .inr ⟨by simp, v.2, by simp⟩
      · unfold InV at iv
        rw [hb, if_pos rfl] at iv
        obtain ⟨t, e1, _⟩ := iv
        exact (hz t ⟨hb, e1⟩).elim
    · exact .inl (List.getElem?_set_ne hj)
  · obtain ⟨p, h1, h3⟩ := o
    by_cases hj : i = j
    · subst hj
      rw [List.getElem?_set_self hi] at h1
      rw [List.getElem?_set_self hs] at h3
      cases hb : v.1
      · rw [hb] at h1; cases h1
      · exact .inr ⟨rfl, by cases h3; rfl⟩
    · rw [List.getElem?_set_ne hj] at h1 h3
      exact .inl ⟨j, p, h1, h3⟩
  · by_cases hj : i = j
    · subst hj
      rw [List.getElem?_set_self hi] at h
      cases hb : v.1 <;> rw [hb] at h <;> cases h
    · rw [List.getElem?_set_ne hj] at h ⊢
      exact ⟨h, rfl⟩
theorem gT.nm {i : Nat} {x : V} {K : L2.St → Hp → Prop} (h : gT C call (.nm i) x σ H K) : gName i x σ H K := by
  obtain ⟨ρ, S, v, R, iv, k⟩ := h
  simp only [asgT, setNew] at k
  split at k
  · rename_i hi
    obtain ⟨R', p⟩ := R.setSlot iv hi
    exact k.ok _ H S R' p
  · exact k.elim
theorem gT.tp {ts : Tgs} {x : V} {K : L2.St → Hp → Prop} (h : gT C call (.tp ts) x σ H K) : gTup C.fr.fr (tlen ts) (gTs C call ts) x σ H K := by
  obtain ⟨ρ, S, v, R, iv, k⟩ := h
  simp only [asgT] at k
  split at k
  · rename_i ds e
    have hb : v.1 = false := by
      cases hb : v.1
      · rfl
      · unfold InV at iv
        rw [hb, if_pos rfl] at iv
        obtain ⟨t, _, _, _, r⟩ := iv
        have e2 := r.flatF
        simp [e, flatD] at e2
        rw [e] at r
        obtain ⟨_, o, _, _, c⟩ := r
        exact c.elim
    unfold InV at iv
    rw [hb, if_neg (by simp), e] at iv
    obtain ⟨a, xs, e1, q, r⟩ := iv
    have hl : xs.length = tlen ts := by
      rw [← r.length]
      exact len_of k
    refine ⟨a, xs, e1, q, hl, ρ, S, ds, R, r, k.imp (fun _ ρ' k σ' H' S' R' p => k σ' H' S' R' (p.mono (fun a z => z.elim) fun _ a z => z)) fun _ _ _ z => z⟩
  · exact k.elim
where
  len_of {call : CallT} {P : Unit → Rho → Prop} : ∀ {ts : Tgs} {ds : List PyData} {ρ : Rho}, Res (asgTs call ts ds ρ) P (fun _ _ _ => False) → ds.length = tlen ts
    | .nil, [], _, _ => rfl
    | .cons t ts, d :: ds, ρ, k => by
      simp only [asgTs] at k
      have k2 := k.bind
      cases e : asgT call t (false, d) ρ with
      | stuck => rw [e] at k2; exact k2.elim
      | exc c ps r => rw [e] at k2; exact k2.elim
      | ok u r =>
        rw [e] at k2
        have := len_of (show Res (asgTs call ts ds r) P (fun _ _ _ => False) from k2)
        simp [tlen, this]
    | .nil, _ :: _, _, k => k.elim
    | .cons _ _, [], _, k => k.elim
theorem gTs.nil {xs : List V} {K : L2.St → Hp → Prop} (h : gTs C call .nil xs σ H K) : gNil xs σ H K := by
  obtain ⟨ρ, S, ds, R, r, k⟩ := h
  cases ds with
  | nil =>
    cases xs with
    | nil => exact ⟨rfl, k.ok σ H S R .refl⟩
    | cons x xs => exact r.elim
  | cons d ds => exact k.elim
theorem gTs.cons {t : Tg} {ts : Tgs} {xs : List V} {K : L2.St → Hp → Prop} (h : gTs C call (.cons t ts) xs σ H K) : gCons (gT C call t) (gTs C call ts) xs σ H K := by
  obtain ⟨ρ, S, ds, R, r, k⟩ := h
  cases ds with
  | nil => exact k.elim
  | cons d ds =>
    cases xs with
    | nil => exact r.elim
    | cons x xs =>
      obtain ⟨r1, r2⟩ := r
      simp only [asgTs] at k
      refine ⟨x, xs, rfl, ρ, S, (false, d), R, by unfold InV; rw [if_neg (by simp)]; exact r1, k.bind.imp (fun _ ρ1 k σ1 H1 S1 R1 p1 => ?_) fun _ _ _ z => z⟩
      have nolst : ∀ a o, H a = some o → NT o → (S a ∨ NL o) → H1 a = some o := fun a o e t z => p1.mv a o e t fun i oi => by
        rcases z with z | z
        · exact (R.own oi).1 z
        · obtain ⟨_, p, _, zs, mo, e2, _⟩ := R.own oi
          rw [e] at e2; cases e2; exact z mo
      refine ⟨ρ1, S1, ds, R1, r2.stay nolst p1.sb, k.imp (fun _ ρ2 k σ2 H2 S2 R2 p2 => ?_) fun _ _ _ z => z⟩
      have nofalse : ∀ a, ¬ ((false, d).1 = true ∧ x = V.ref a) := fun a z => by cases z.1
      refine k σ2 H2 S2 R2 ((p1.mono (new2 := fun _ => False) (fun a z => nofalse a z) fun _ => nofalse).trans p2 (fun a z => z.elim) (fun a z => z.elim) fun a o e n i oi => ?_)
      rcases p1.owM i a oi with ⟨j, oj⟩ | z
      · exact n j oj
      · exact nofalse a z
/-- more may be known as kept -/
theorem RepS.more (R : RepS C H S σ ρ) (m : ∀ a, S a → S1 a) (n : ∀ a, S1 a → ∀ i, ¬ Own σ ρ i a) (d : ∀ a, S1 a → ∃ o, H a = some o) : RepS C H S1 σ ρ :=
  ⟨R.len, fun i p e => let ⟨v, h1, h2⟩ := R.fz i p e; ⟨v, h1, h2.wk m⟩, fun i s p e h v => let ⟨a, h1, h2, h3⟩ := R.my i s p e h v; ⟨a, h1, fun z => n a z i ⟨s, e, h, h1⟩, h3.stay (fun b o e _ _ => e) m⟩, R.sep, d, R.tab,
    fun i c ps e => let ⟨h1, h2⟩ := R.exq i c ps e; ⟨h1, h2.stay (fun _ _ e _ _ => e) m⟩⟩
theorem gT.sub {i : Nat} {k : CE} {x : V} {K : L2.St → Hp → Prop} (h : gT C call (.sub i k) x σ H K) : gSub (tVar i) (tE C call W k) rSetL x σ H K := by
  obtain ⟨ρ, S, v, R, iv, kk⟩ := h
  simp only [asgT] at kk
  split at kk
  · exact kk.elim
  rename_i hm
  obtain ⟨p0, e0⟩ := isMy_some hm
  obtain ⟨a, zs, ea, eb⟩ := my_addr R e0
  refine ⟨.ref a, ea, ρ, S, R, kk.bind.calm.imp (fun j ρ1 kk y H1 T R1 st1 b1 v1 _ => ?_) fun _ _ _ z => z⟩
  split at kk
  · rename_i ds n e1 e2
    split at kk
    · rename_i m hp
      obtain ⟨a', ws, ea', _, e3, r⟩ := own_list R R1 st1 e1
      rw [ea] at ea'; cases ea'
      have own1 : Own σ ρ1 i a := ⟨_, e1, rfl, ea⟩
      have own0 : Own σ ρ i a := st1.chg.own.mp own1
      refine ⟨a, ws, n, m, rfl, v1.int e2, e3, by rw [← r.length]; exact place_ix hp, ?_⟩
      -- what is kept from now on
      have nl0 : ∀ b o, H b = some o → NT o → (∀ q, ¬ OwnM σ ρ q b) → H1 b = some o := fun b o e t q => st1.mvM b o e t fun ⟨q', _, z⟩ => q q' z
      have nl1 : ∀ b o, H b = some o → NT o → (∀ q, ¬ Own σ ρ q b) → H1 b = some o := fun b o e t q => nl0 b o e t fun i z => q i z.own
      have keepS : ∀ b o, H b = some o → NT o → (S b ∨ NL o) → H1 b = some o := fun b o e t z => nl1 b o e t fun q oq => by
        rcases z with z | z
        · exact (R.own oq).1 z
        · obtain ⟨_, p, _, zs, mo, e2, _⟩ := R.own oq
          rw [e] at e2; cases e2; exact z mo
      let S2 : AS := fun b => S b ∨ (v.1 = true ∧ x = .ref b)
      have xr : Rep C.fr H1 S2 v.2 x := by
        unfold InV at iv
        split at iv
        · rename_i hb
          obtain ⟨t, e4, n1, n2, rt⟩ := iv
          subst e4
          have rt1 : Root C.fr H1 S v.2 t := rt.stay (fun b o e t z => by
            rcases z with z | z
            · exact nl1 b o e t fun q => by rw [z]; exact n2 q
            · exact keepS b o e t z) fun _ z => z
          exact rt1.rep (fun _ z => .inl z) (.inr ⟨hb, rfl⟩)
        · exact iv.stay keepS fun _ z => .inl z
      have noown : ∀ b, S2 b → ∀ q, ¬ Own σ ρ1 q b := fun b z q oq => by
        have oq := st1.chg.own.mp oq
        rcases z with z | ⟨hb, e⟩
        · exact (R.own oq).1 z
        · unfold InV at iv
          rw [if_pos hb] at iv
          obtain ⟨t, e4, _, n2, _⟩ := iv
          rw [e] at e4; cases e4
          exact n2 q oq
      have R2 : RepS C H1 S2 σ ρ1 := R1.more (fun _ z => .inl z) noown fun b z => by
        rcases z with z | ⟨hb, e⟩
        · exact R1.dom b z
        · unfold InV at iv
          rw [if_pos hb] at iv
          obtain ⟨t, e4, _, n2, d, zs, mo, e5, _⟩ := iv
          rw [e] at e4; cases e4
          exact ⟨_, nl1 _ _ e5 mo.nt n2⟩
      have ns2 : ¬ S2 a := fun z => noown a z i own1
      have kp : ∀ b o, H1 b = some o → NT o → ¬ b = a → upd H1 a (.lst (ws.set m x)) b = some o := fun b o e _ q => by rw [upd_ne q]; exact e
      have kk2 : ∀ b o, H1 b = some o → NT o → (S2 b ∨ NL o) → upd H1 a (.lst (ws.set m x)) b = some o := fun b o e t z => kp b o e t fun q => by
        subst q
        rcases z with z | z
        · exact ns2 z
        · rw [e3] at e; cases e; exact z trivial
      have R3 := R2.setBut (fs := fun b => b = a) (H' := upd H1 a (.lst (ws.set m x))) (p' := .list (ds.set m v.2)) e1 ea kp (fun b o e => if q : b = a then ⟨.lst (ws.set m x), by rw [q]; exact upd_same⟩ else ⟨o, (upd_ne q).trans e⟩) (tabs_mv R2.tab fun b o e z => (upd_ne fun q => by rw [q, e3] at e; cases e; exact z trivial).trans e) (fun t z q => ns2 (z ▸ q)) (fun t j z _ => z) (fun t o z e => by
        rw [z, e3] at e; cases e
        trivial) (Root.mkL upd_same (((r.wk fun _ z => .inl z).set xr m).stay kk2 fun _ z => z))
      refine kk.ok σ _ S2 R3 ⟨fun b o e t n => ?_, fun _ z => .inl z, fun _ z => z, fun j b o => .inl ⟨j, st1.chg.own.mp ((chg_set e1).own.mp o)⟩, fun _ _ => rfl, (fun z => by cases z), (fun z => by cases z), (fun z => by cases z), by rw [List.length_set, st1.chg.len], fun j b o => .inl ⟨j, st1.chg.ownM.mp ((chg_set e1).ownM.mp o)⟩, fun j p e => ?_, fun b o e => ?_⟩
      · exact kp b o (nl0 b o e t n) t fun z => n i ⟨_, e0, z ▸ ea⟩
      · rcases (st1.chg.trans (chg_set e1)).in_ j with h | ⟨_, _, _, h⟩
        · exact ⟨h ▸ e, rfl⟩
        · rw [h] at e; cases e
      · obtain ⟨o', e'⟩ := st1.th b o e
        exact if q : b = a then ⟨.lst (ws.set m x), by rw [q]; exact upd_same⟩ else ⟨o', (upd_ne q).trans e'⟩
    · exact kk.elim
  · exact kk.elim
end
end PyC
end

section
set_option maxHeartbeats 200000
namespace PyC
open PySem PySem.Spec L2
theorem wipeR_len (ρ : Rho) : ∀ own : List Nat, (wipeR ρ own).length = ρ.length
  | [] => rfl
  | i :: is => by unfold wipeR; rw [List.length_set, wipeR_len ρ is]
theorem wipeR_out {ρ : Rho} {i : Nat} : ∀ {own : List Nat}, i ∉ own → (wipeR ρ own)[i]? = ρ[i]?
  | [], _ => rfl
  | j :: is, h => by
    rw [List.mem_cons, not_or] at h
    unfold wipeR
    rw [List.getElem?_set_ne (fun z => h.1 z.symm), wipeR_out h.2]
theorem wipeR_in {ρ : Rho} {i : Nat} : ∀ {own : List Nat}, i ∈ own → (wipeR ρ own)[i]? = if i < ρ.length then some .un else none
  | [], h => by cases h
  | j :: is, h => by
    unfold wipeR
    by_cases e : j = i
    · subst e
      by_cases hl : j < ρ.length
      · rw [List.getElem?_set_self (by rw [wipeR_len]; exact hl), if_pos hl]
      · rw [if_neg hl, List.getElem?_eq_none (by simp [wipeR_len]; omega)]
    · rw [List.getElem?_set_ne e]
      exact wipeR_in ((List.mem_cons.mp h).resolve_left fun z => e z.symm)
theorem wipeR_ext {ρ r : Rho} {own : List Nat} (l : ρ.length = r.length) (h : ∀ i, i ∉ own → ρ[i]? = r[i]?) : wipeR ρ own = wipeR r own := by
  apply List.ext_getElem?
  intro i
  by_cases hi : i ∈ own
  · rw [wipeR_in hi, wipeR_in hi, l]
  · rw [wipeR_out hi, wipeR_out hi, h i hi]
theorem wipeR_idem {ρ : Rho} {own : List Nat} : wipeR (wipeR ρ own) own = wipeR ρ own := wipeR_ext (wipeR_len _ _) fun i hi => wipeR_out hi
theorem wipe_outS {σ : L2.St} {i : Nat} : ∀ {own : List Nat}, i ∉ own → (wipe σ own)[i]? = σ[i]?
  | [], _ => rfl
  | j :: is, h => by
    rw [List.mem_cons, not_or] at h
    unfold wipe
    rw [List.getElem?_set_ne (fun z => h.1 z.symm), wipe_outS h.2]
theorem wipe_inS {σ : L2.St} {i : Nat} : ∀ {own : List Nat}, i ∈ own → (wipe σ own)[i]? = if i < σ.length then some none else none
  | [], h => by cases h
  | j :: is, h => by
    unfold wipe
    by_cases e : j = i
    · subst e
      by_cases hl : j < σ.length
      · rw [List.getElem?_set_self (by rw [wipe_length]; exact hl), if_pos hl]
      · rw [if_neg hl, List.getElem?_eq_none (by simp [wipe_length]; omega)]
    · rw [List.getElem?_set_ne e]
      exact wipe_inS ((List.mem_cons.mp h).resolve_left fun z => e z.symm)
theorem wipe_extS {σ τ : L2.St} {own : List Nat} (l : σ.length = τ.length) (h : ∀ i, i ∉ own → σ[i]? = τ[i]?) : wipe σ own = wipe τ own := by
  apply List.ext_getElem?
  intro i
  by_cases hi : i ∈ own
  · rw [wipe_inS hi, wipe_inS hi, l]
  · rw [wipe_outS hi, wipe_outS hi, h i hi]
theorem own_wipe {σ : L2.St} {ρ : Rho} {own : List Nat} {i : Nat} {a : Addr} (o : Own (wipe σ own) (wipeR ρ own) i a) : i ∉ own ∧ Own σ ρ i a := by
  obtain ⟨s, h1, h2, h3⟩ := o
  by_cases hi : i ∈ own
  · rw [wipeR_in hi] at h1
    split at h1
    · cases h1; cases h2
    · cases h1
  · rw [wipeR_out hi] at h1
    rw [wipe_outS hi] at h3
    exact ⟨hi, s, h1, h2, h3⟩
theorem own_unwipe {σ : L2.St} {ρ : Rho} {own : List Nat} {i : Nat} {a : Addr} (hi : i ∉ own) (o : Own σ ρ i a) : Own (wipe σ own) (wipeR ρ own) i a := by
  obtain ⟨s, h1, h2, h3⟩ := o
  exact ⟨s, by rw [wipeR_out hi]; exact h1, h2, by rw [wipe_outS hi]; exact h3⟩
section
variable {C : RK} {call : CallT} {W : WX} {σ σ1 σ2 : L2.St} {H H1 H2 : Hp} {S S1 S2 T : AS} {ρ ρ1 ρ2 : Rho} {own ms : List Nat}
theorem RepS.wipe (R : RepS C H S σ ρ) : RepS C H S (wipe σ own) (wipeR ρ own) := by
  refine ⟨by rw [wipe_length, wipeR_len]; exact R.len, fun i p e => ?_, fun i s p e m v => ?_, fun i j a h1 h2 => R.sep i j a (own_wipe h1).2 (own_wipe h2).2, R.dom, R.tab, fun i c ps e => ?_⟩
  · by_cases hi : i ∈ own
    · rw [wipeR_in hi] at e; split at e <;> cases e
    · rw [wipeR_out hi] at e; rw [wipe_outS hi]; exact R.fz i p e
  · by_cases hi : i ∈ own
    · rw [wipeR_in hi] at e
      split at e
      · cases e; cases m
      · cases e
    · rw [wipeR_out hi] at e; rw [wipe_outS hi]; exact R.my i s p e m v
  · by_cases hi : i ∈ own
    · rw [wipeR_in hi] at e; split at e <;> cases e
    · rw [wipeR_out hi] at e; rw [wipe_outS hi]; exact R.exq i c ps e
theorem Chg.wipe (c : Chg ρ ρ1 ms) : Chg (wipeR ρ own) (wipeR ρ1 own) ms := by
  refine ⟨by rw [wipeR_len, wipeR_len]; exact c.len, fun i hi => ?_, fun i => ?_⟩
  · by_cases h : i ∈ own
    · rw [wipeR_in h, wipeR_in h, c.len]
    · rw [wipeR_out h, wipeR_out h, c.out i hi]
  · by_cases h : i ∈ own
    · rw [wipeR_in h, wipeR_in h, c.len]; exact .inl rfl
    · rw [wipeR_out h, wipeR_out h]; exact c.in_ i
theorem restR_len (ρ r : Rho) : ∀ own : List Nat, (restR ρ r own).length = r.length
  | [] => rfl
  | i :: is => by
    unfold restR
    split
    · rw [List.length_set, restR_len ρ r is]
    · exact restR_len ρ r is
theorem restR_out {ρ r : Rho} {i : Nat} : ∀ {own : List Nat}, i ∉ own → (restR ρ r own)[i]? = r[i]?
  | [], _ => rfl
  | j :: is, h => by
    rw [List.mem_cons, not_or] at h
    unfold restR
    split
    · rw [List.getElem?_set_ne (fun z => h.1 z.symm), restR_out h.2]
    · exact restR_out h.2
theorem restR_in {ρ r : Rho} {i : Nat} (l : r.length = ρ.length) : ∀ {own : List Nat}, i ∈ own → (restR ρ r own)[i]? = ρ[i]?
  | [], h => by cases h
  | j :: is, h => by
    unfold restR
    by_cases e : j = i
    · subst e
      split
      · rename_i s hs
        have hl : j < r.length := by rw [l]; exact (List.getElem?_eq_some_iff.mp hs).1
        rw [List.getElem?_set_self (by rw [restR_len]; exact hl), hs]
      · rename_i hs
        rw [hs]
        exact List.getElem?_eq_none (by rw [restR_len, l]; exact List.getElem?_eq_none_iff.mp hs)
    · have hm : i ∈ is := (List.mem_cons.mp h).resolve_left fun z => e z.symm
      split
      · rw [List.getElem?_set_ne e, restR_in l hm]
      · exact restR_in l hm
/-- what lists the kept ones and what is no list -/
theorem keep_mv (R : RepS C H S σ ρ) (mv : ∀ a o, H a = some o → NT o → ¬ Owns σ ρ ms a → H1 a = some o) : ∀ a o, H a = some o → NT o → (S a ∨ NL o) → H1 a = some o := fun a o e t z => mv a o e t fun w => by
  obtain ⟨n, xs, e2, mo⟩ := R.owns w
  rcases z with z | z
  · exact n z
  · rw [e] at e2; cases e2; exact z mo
/-- behind the loop: the names stand as they stood -/
theorem RepS.rest {r : Rho} {Sx : AS} (R1 : RepS C H1 S σ ρ1) (Rk : RepS C H2 Sx (L2.wipe σ own) r) (st : Stp H1 H2 (L2.wipe σ own) (wipeR ρ1 own) r ms) (hms : ms = [] ∨ ∀ a, Sx a → S a) :
    RepS C H2 S σ (restR ρ1 r own) ∧ Chg ρ1 (restR ρ1 r own) ms := by
  have l : r.length = ρ1.length := by rw [st.chg.len, wipeR_len]
  have kk := keep_mv (R1.wipe (own := own)) st.mv
  have ch : Chg ρ1 (restR ρ1 r own) ms := by
    refine ⟨by rw [restR_len]; exact l, fun i hi => ?_, fun i => ?_⟩
    · by_cases h : i ∈ own
      · rw [restR_in l h]
      · rw [restR_out h, st.chg.out i hi, wipeR_out h]
    · by_cases h : i ∈ own
      · rw [restR_in l h]; exact .inl rfl
      · rw [restR_out h]
        have := st.chg.in_ i
        rwa [wipeR_out h] at this
  have same : ∀ i : Nat, i ∉ own → r[i]? = ρ1[i]? ∨ ∃ p p' : PyData, ρ1[i]? = some (.my p) ∧ r[i]? = some (.my p') := fun i h => by
    have := st.chg.in_ i
    rwa [wipeR_out h] at this
  -- an own object that the loop does not change
  have old : ∀ (i : Nat) (s : Slot) (p : PyData), ρ1[i]? = some s → s.mine = true → s.val? = some p → (i ∈ own ∨ ms = []) → ∃ a, σ[i]? = some (some (.ref a)) ∧ ¬ S a ∧ Root C.fr H2 S p a := fun i s p e m v hi => by
    obtain ⟨a, h1, h2, h3⟩ := R1.my i s p e m v
    refine ⟨a, h1, h2, h3.stay (fun b o eb t z => ?_) fun _ z => z⟩
    rcases z with z | z
    · subst z
      refine st.mv _ o eb t fun ⟨j, hj, oj⟩ => ?_
      rcases hi with hi | hi
      · obtain ⟨q1, q2⟩ := own_wipe oj
        exact q1 (R1.sep j i _ q2 ⟨s, e, m, h1⟩ ▸ hi)
      · rw [hi] at hj; cases hj
    · exact kk b o eb t z
  refine ⟨⟨by rw [restR_len, l]; exact R1.len, fun i p e => ?_, fun i s p e m v => ?_, fun i j a h1 h2 => R1.sep i j a (ch.own.mp h1) (ch.own.mp h2), fun a z => ?_, Rk.tab, fun i c ps e => ?_⟩, ch⟩
  · have e1 : ρ1[i]? = some (.fz p) := by
      rcases ch.in_ i with h | ⟨q, q', _, h⟩
      · rw [← h]; exact e
      · rw [e] at h; cases h
    obtain ⟨v, h1, h2⟩ := R1.fz i p e1
    exact ⟨v, h1, h2.stay kk fun _ z => z⟩
  · by_cases hi : i ∈ own
    · rw [restR_in l hi] at e
      exact old i s p e m v (.inl hi)
    · rw [restR_out hi] at e
      rcases hms with h | h
      · have e1 : ρ1[i]? = some s := by
          rw [← wipeR_out hi, ← st.chg.out i (by rw [h]; simp)]; exact e
        exact old i s p e1 m v (.inr h)
      · obtain ⟨a, h1, h2, h3⟩ := Rk.my i s p e m v
        rw [wipe_outS hi] at h1
        have oi : Own σ ρ1 i a := ch.own.mp ⟨s, by rw [restR_out hi]; exact e, m, h1⟩
        exact ⟨a, h1, (R1.own oi).1, h3.stay (fun _ _ e _ _ => e) h⟩
  · obtain ⟨o, e⟩ := R1.dom a z
    exact st.th a o e
  · have e1 : ρ1[i]? = some (.ex c ps) := by
      rcases ch.in_ i with h | ⟨q, q', _, h⟩
      · rw [← h]; exact e
      · rw [e] at h; cases h
    obtain ⟨h1, h2⟩ := R1.exq i c ps e1
    exact ⟨h1, h2.stay kk fun _ z => z⟩
section
variable (C : RK) (call : CallT)
def tIfs (ifs : CEs) : TT := fun σ H K => ∃ ρ S, RepS C H S σ ρ ∧ Res (evIfs call ifs ρ) (fun b ρ' => ∀ H', RepS C H' S σ ρ' → Stp H H' σ ρ ρ' (mutsL ifs) → K b H') (fun _ _ _ => False)
end
theorem tIfs.nil {K : Bool → Hp → Prop} (h : tIfs C call .nil σ H K) : tYes σ H K := by
  obtain ⟨ρ, S, R, k⟩ := h
  exact k.ok H R .refl
theorem tIfs.one {e : CE} {K : Bool → Hp → Prop} (h : tIfs C call (.cons e .nil) σ H K) : tB (tE C call W e) σ H K := by
  obtain ⟨ρ, S, R, k⟩ := h
  simp only [evIfs] at k
  refine ⟨ρ, S, R, k.bind.imp (fun v ρ1 k x H1 T R1 st1 b1 v1 _ => ?_) fun _ _ _ z => z.elim⟩
  split at k
  · rename_i b e0
    exact ⟨b, v1.bool e0, k.ok H1 R1 (st1.mono (by simp [mutsL]))⟩
  · exact k.elim
end
end PyC
end

section
set_option maxHeartbeats 200000
namespace PyC
open PySem PySem.Spec L2
/-- a turn -/
def compF (call : CallT) (e : CE) (tg : Tg) (ifs : CEs) (own : List Nat) (x : PyData) (r : Rho) : Out (Option PyData) :=
  ((asgT call tg (false, x) r).bind fun _ r => (evIfs call ifs r).bind fun b r => if b then (evE call e r).bind fun v r => .ok (some v.2) (wipeR r own) else .ok none (wipeR r own)).calm
theorem evE_comp {call : CallT} {e : CE} {tg : Tg} {it : IT} {ifs : CEs} {own : List Nat} {ρ : Rho} : evE call (.comp e tg it ifs own) ρ = (evIT call it ρ).bind fun xs ρ =>
      if !meets (walks it) (mutsL ifs ++ muts e) && !meets (al e) (mutsL ifs ++ muts e) && (alIT it == [] || (flatL xs || !anyMine ρ (alIT it))) && ((mutsL ifs ++ muts e).isEmpty || flatL xs) then
        (compL (compF call e tg ifs own) [] xs (wipeR ρ own)).bind fun ys r => .ok (true, .list ys) (restR ρ r own)
      else .stuck := by
  simp only [evE]
  rfl
section
variable {C : RK} {call : CallT} {W : WX} {σ : L2.St} {H H1 : Hp} {S T : AS} {ρ ρ1 : Rho} {Q : VK}
/-- before a turn -/
structure CI (C : RK) (H1 Hk : Hp) (Sx : AS) (σ : L2.St) (ρ1 : Rho) (own ms as : List Nat) (D : Addr) (r : Rho) (acc : List PyData) (vs : List V) (Tk : AS) : Prop where
  R : RepS C Hk Sx (wipe σ own) r
  w : wipeR r own = r
  st : Stp H1 Hk (wipe σ own) (wipeR ρ1 own) r ms
  D_ : Hk D = some (.lst vs)
  rep : RepL C.fr Hk Tk acc vs
  bd : Bd H1 Hk Sx (wipe σ own) (wipeR ρ1 own) as Tk
  nD : ¬ Tk D
theorem flat_at : ∀ {xs : List PyData} {i : Nat} {d : PyData}, flatL xs = true → xs[i]? = some d → flatD d = true
    | x :: xs, 0, d, h, e => by
      simp only [flatL, Bool.and_eq_true] at h
      simp at e; subst e; exact h.1
    | x :: xs, i + 1, d, h, e => by
      simp only [flatL, Bool.and_eq_true] at h
      exact flat_at h.2 (by simpa using e)
    | [], _, _, _, e => by simp at e
/-- the state behind a turn: H' the item is there, σ2 ρ2 it is set, H5 ρ5 the parts are evaluated -/
theorem CI.turn {Hk H' H5 : Hp} {Sx : AS} {own ms as : List Nat} {D : Addr} {r ρ2 ρ5 : Rho} {acc : List PyData} {vs : List V} {Tk : AS} {σ2 : L2.St} {ns : List Nat} {new : Addr → Prop} (ci : CI C H1 Hk Sx σ ρ1 own ms as D r acc vs Tk)
    (hD : H1 D = none) (sxd : ∀ a, Sx a → ∃ o, H1 a = some o) (ownX : ∀ {i a}, Own (wipe σ own) (wipeR ρ1 own) i a → ∃ o, H1 a = some o ∧ MO o) (offX : ∀ a, Sx a ∨ Owns (wipe σ own) (wipeR ρ1 own) as a ∨ H1 a = none → ¬ Owns (wipe σ own) (wipeR ρ1 own) ms a)
    (kp : ∀ a o, Hk a = some o → H' a = some o) (R2 : RepS C H' Sx σ2 ρ2) (p2 : PostA H' H' Sx Sx (wipe σ own) σ2 r ρ2 new ns true) (hn : ∀ a, ¬ new a) (ho : ∀ i ∈ ns, i ∈ own) (R5 : RepS C H5 Sx σ2 ρ5) (st5 : Stp H' H5 σ2 ρ2 ρ5 ms) :
    wipe σ2 own = wipe σ own ∧ CI C H1 H5 Sx σ ρ1 own ms as D (wipeR ρ5 own) acc vs Tk ∧ (∀ i a, Own σ2 ρ2 i a → i ∉ own ∧ Own (wipe σ own) r i a) := by
  have l2 : σ2.length = (wipe σ own).length := by rw [R2.len, ci.R.len, p2.ln]
  have sg : ∀ i, i ∉ own → σ2[i]? = (wipe σ own)[i]? := fun i hi => p2.sg i fun z => hi (ho i z)
  have hσ : wipe σ2 own = wipe σ own := wipe_extS (by rw [l2, wipe_length]) fun i hi => (sg i hi).trans (wipe_outS hi)
  have hr : wipeR ρ2 own = r := by
    rw [wipeR_ext p2.ln fun i hi => p2.ro rfl i fun z => hi (ho i z), ci.w]
  have own2 : ∀ i a, Own σ2 ρ2 i a → i ∉ own ∧ Own (wipe σ own) r i a := fun i a ⟨s, h1, h2, h3⟩ => by
    have hi : i ∉ own := fun hi => by
      rcases p2.rg rfl hn i with e | ⟨_, p, e⟩
      · rw [e, ← ci.w, wipeR_in hi] at h1
        split at h1
        · cases h1; cases h2
        · cases h1
      · rw [h1] at e; cases e; cases h2
    refine ⟨hi, s, ?_, h2, by rw [← sg i hi]; exact h3⟩
    rw [← p2.ro rfl i fun z => hi (ho i z)]; exact h1
  have ms2 : ∀ a, ¬ Owns (wipe σ own) r ms a → ¬ Owns σ2 ρ2 ms a := fun a n ⟨i, hi, o⟩ => n ⟨i, hi, (own2 i a o).2⟩
  have ms2M : ∀ a, ¬ OwnsM (wipe σ own) r ms a → ¬ OwnsM σ2 ρ2 ms a := fun a n ⟨i, hi, o⟩ => by
    obtain ⟨p, h1, h2⟩ := o
    have hi' := (own2 i a (OwnM.own ⟨p, h1, h2⟩)).1
    exact n ⟨i, hi, p, by rw [← p2.ro rfl i fun z => hi' (ho i z)]; exact h1, by rw [← sg i hi']; exact h2⟩
  have mv5 : ∀ a o, Hk a = some o → NT o → ¬ Owns (wipe σ own) r ms a → H5 a = some o := fun a o e t n => st5.mv a o (kp a o e) t (ms2 a n)
  have off : ∀ a, Sx a ∨ Owns (wipe σ own) (wipeR ρ1 own) as a ∨ H1 a = none → ¬ Owns (wipe σ own) r ms a := fun a z w => offX a z (ci.st.chg.owns.mp w)
  have nol : ∀ {a o}, Hk a = some o → NL o → ¬ Owns (wipe σ own) r ms a := fun {a o} e n w => by
    obtain ⟨_, xs, e2, mo⟩ := ci.R.owns w
    rw [e] at e2; cases e2; exact n mo
  have nDo : ¬ Owns (wipe σ own) r ms D := off D (.inr (.inr hD))
  refine ⟨hσ, ⟨?_, wipeR_idem, ⟨?_, fun a o e t n => ?_, fun a o e => let ⟨o', e'⟩ := ci.st.th a o e; st5.th a o' (kp a o' e')⟩, mv5 D _ ci.D_ (fun _ z => by cases z) nDo, ci.rep.stay (fun a o e t z => mv5 a o e t ?_) fun _ z => z, ⟨ci.bd.bd, fun a z => ?_⟩, ci.nD⟩, own2⟩
  · rw [← hσ]; exact R5.wipe
  · have c5 := st5.chg.wipe (own := own)
    rw [hr] at c5
    exact (ci.st.chg.trans c5).mono (by simp)
  · exact st5.mvM a o (kp a o (ci.st.mvM a o e t n)) t (ms2M a fun w => n (ci.st.chg.ownsM.mp w))
  · rcases z with z | z
    · exact off a (ci.bd.bd a z)
    · exact nol e z
  · obtain ⟨o, e⟩ := ci.bd.dm a z
    exact st5.th a o (kp a o e)
theorem CI.end_ {Hk : Hp} {Sx : AS} {own ms as : List Nat} {D : Addr} {r : Rho} {acc : List PyData} {vs : List V} {Tk : AS} (ci : CI C H1 Hk Sx σ ρ1 own ms as D r acc vs Tk) (hD : H1 D = none) (R1 : RepS C H1 S σ ρ1) (hSx : ms = [] ∨ ∀ a, Sx a → S a) :
    RepS C Hk S σ (restR ρ1 r own) ∧ Chg ρ1 (restR ρ1 r own) ms ∧ Root C.fr Hk Tk (.list acc) D :=
  let ⟨a, b⟩ := R1.rest ci.R ci.st hSx
  ⟨a, b, Root.mkL ci.D_ ci.rep⟩
theorem tE.comp {e : CE} {tg : Tg} {it : IT} {ifs : CEs} {own : List Nat} (h : tE C call W (.comp e tg it ifs own) σ H Q) (hp : plainT tg = true) (ho : ∀ i ∈ tgs tg, i ∈ own) {wi : TI} (hwi : ∀ R, tIT C call W it σ H R → wi σ H R) {WF : WX} :
    tLc wi (gT C call tg) (tIfs C call ifs) (tE C call WF e) own σ H Q := by
  obtain ⟨ρ, S, R, k⟩ := h
  rw [evE_comp] at k
  refine hwi _ ⟨ρ, S, R, k.bind.imp (fun xs ρ1 k J H1 T P R1 st1 bT bP wk flt => ?_) fun _ _ _ z => z⟩
  intro D hD
  by_cases hc : (!meets (walks it) (mutsL ifs ++ muts e) && !meets (al e) (mutsL ifs ++ muts e) && (alIT it == [] || (flatL xs || !anyMine ρ1 (alIT it))) && ((mutsL ifs ++ muts e).isEmpty || flatL xs)) = true
  case neg => rw [if_neg hc] at k; exact k.elim
  rw [if_pos hc] at k
  simp only [Bool.and_eq_true, Bool.not_eq_true', beq_iff_eq, Bool.or_eq_true, List.isEmpty_iff] at hc
  obtain ⟨⟨⟨hw, ha⟩, hi⟩, hm⟩ := hc
  have bT : Bd H H1 S σ ρ [] T := by
    rcases hi with hi | hi | hi
    · rw [hi] at bT; exact bT
    · exact ⟨fun a z => (flt hi a z).elim, fun a z => (flt hi a z).elim⟩
    · refine ⟨fun a z => ?_, bT.dm⟩
      rcases bT.bd a z with y | ⟨i, hi2, s, e1, e2, e3⟩ | y
      · exact .inl y
      · have o1 : Own σ ρ1 i a := st1.chg.own.mpr ⟨s, e1, e2, e3⟩
        obtain ⟨s1, f1, f2, _⟩ := o1
        unfold anyMine at hi
        have := List.any_eq_false.mp hi i hi2
        rw [f1] at this
        cases s1 <;> first | (cases f2; done) | exact absurd rfl this
      · exact .inr (.inr y)
  have hmi : ∀ i ∈ mutsL ifs, i ∈ mutsL ifs ++ muts e := fun i h => List.mem_append_left _ h
  have hme : ∀ i ∈ muts e, i ∈ mutsL ifs ++ muts e := fun i h => List.mem_append_right _ h
  have hall : ∀ i ∈ mutsIT it ++ (mutsL ifs ++ muts e), i ∈ muts (.comp e tg it ifs own) := by simp [muts]
  generalize mutsL ifs ++ muts e = ms at hw ha hm hmi hme hall
  have kb := k.bind
  -- what is kept, and what the items reach
  let Sx : AS := fun a => S a ∨ (ms = [] ∧ T a)
  have hSx : ms = [] ∨ ∀ a, Sx a → S a := by
    by_cases q : ms = []
    · exact .inl q
    · exact .inr fun a z => z.elim id fun y => absurd y.1 q
  have tS : ∀ a, T a → S a ∨ H a = none := fun a t => by
    rcases bT.bd a t with z | z | z
    · exact .inl z
    · exact (Owns.nil z).elim
    · exact .inr z
  have sxn : ∀ a, Sx a → ∀ i, ¬ Own σ ρ1 i a := fun a z i o => by
    have hS := R.own (st1.chg.own.mp o)
    rcases z with z | ⟨_, z⟩
    · exact hS.1 z
    · rcases tS a z with z | z
      · exact hS.1 z
      · obtain ⟨_, p, _, zs, _, q, _⟩ := hS
        rw [z] at q; cases q
  have sxd : ∀ a, Sx a → ∃ o, H1 a = some o := fun a z => z.elim (R1.dom a) fun y => bT.dm a y.2
  have RX : RepS C H1 Sx (wipe σ own) (wipeR ρ1 own) := (R1.more (fun _ z => .inl z) sxn sxd).wipe
  have ownX : ∀ {i a}, Own (wipe σ own) (wipeR ρ1 own) i a → ∃ o, H1 a = some o ∧ MO o := fun {i a} o => by
    obtain ⟨_, p, _, zs, mo, q, _⟩ := R1.own (own_wipe o).2
    exact ⟨zs, q, mo⟩
  have own0 : ∀ {i a}, Own (wipe σ own) (wipeR ρ1 own) i a → Own σ ρ i a := fun {i a} o => st1.chg.own.mp (own_wipe o).2
  -- what the loop leans on is not changed by its turns
  have off : ∀ (as : List Nat) (B : AS), meets as ms = false → Bd H H1 S σ ρ as B → ∀ a, B a → ¬ Owns (wipe σ own) (wipeR ρ1 own) ms a := fun as B hme b a z ⟨i, hi, o⟩ => by
    have o0 := own0 o
    rcases b.bd a z with z | ⟨j, hj, z⟩ | z
    · exact (R.own o0).1 z
    · have := R.sep j i a z o0
      subst this
      exact meets_no hme hj hi
    · obtain ⟨_, p, _, zs, _, q, _⟩ := R.own o0
      rw [z] at q; cases q
  have offX : ∀ a, Sx a ∨ Owns (wipe σ own) (wipeR ρ1 own) (al e) a ∨ H1 a = none → ¬ Owns (wipe σ own) (wipeR ρ1 own) ms a := fun a z ⟨i, hi, o⟩ => by
    rcases z with z | ⟨j, hj, z⟩ | z
    · exact sxn a z i (own_wipe o).2
    · have := RX.sep j i a z o
      subst this
      exact meets_no ha hj hi
    · obtain ⟨zs, q, mo⟩ := ownX o
      rw [z] at q; cases q
  let I : Nat → Hp → Prop := fun i Hk => ∃ r acc vs Tk, CI C H1 Hk Sx σ ρ1 own ms (al e) D r acc vs Tk ∧
    Res (compL (compF call e tg ifs own) acc (xs.drop i) r) (fun ys r => Res (Out.ok (true, PyData.list ys) (restR ρ1 r own)) (fun v ρ' => ∀ x H' T, RepS C H' S σ ρ' → Stp H H' σ ρ ρ' (muts (.comp e tg it ifs own)) → Bd H H' S σ ρ (al (.comp e tg it ifs own)) T → Val C.fr H H' T v x → Opd C.fr H H' S σ ρ (.comp e tg it ifs own) v.2 x → Q x H') (tX C W H S σ ρ)) (tX C W H S σ ρ)
  refine ⟨fun i m Hk => m = xs.length - i ∧ i ≤ xs.length ∧ I i Hk, ⟨xs.length, by simp, Nat.zero_le _, wipeR ρ1 own, [], [], fun _ => False, ?_, ?_⟩, fun i m Hk ⟨em, hle, r, acc, vs, Tk, ci, kk⟩ => ?_⟩
  · have kp := keep_new (o := .lst []) hD
    exact ⟨RX.ext kp, wipeR_idem, Stp.refl.ext kp, upd_same, trivial, .empty, fun z => z⟩
  · rw [List.drop_zero]; exact kb
  have held : Held H1 Hk P T := fun a o eq t z => ci.st.mv a o eq t (by
    rcases z with z | z | z
    · exact off _ _ hw bP a z
    · exact off [] _ rfl bT a z
    · intro ⟨i, _, o⟩
      obtain ⟨zs, q, mo⟩ := ownX o
      rw [eq] at q; cases q; exact z mo)
  obtain ⟨w1, w2⟩ := wk.step Hk held i
  by_cases hlt : i < xs.length
  · -- a turn
    obtain ⟨hgo, hy⟩ := w1 xs[i] (List.getElem?_eq_getElem hlt)
    refine .inr ⟨hgo, I (i + 1), fun H' z => ⟨xs.length - (i + 1), by omega, rfl, hlt, z⟩, fun x H' yl => ?_⟩
    obtain ⟨kp, rx⟩ := hy x H' yl
    have rx' : Rep C.fr H' Sx xs[i] x := by
      rcases hm with hm | hm
      · exact rx.wk fun a z => .inr ⟨hm, z⟩
      · exact rx.flat (flat_at hm (List.getElem?_eq_getElem hlt))
    rw [List.drop_eq_getElem_cons hlt] at kk
    simp only [compL] at kk
    have k1 := kk.bind
    unfold compF at k1
    refine ⟨r, Sx, (false, xs[i]), ci.R.ext kp, by unfold InV; rw [if_neg (by simp)]; exact rx', (Res.bind (Res.calm (E' := fun _ _ _ => False) k1)).imp (fun _ ρ2 k3 σ2 H2 S2 R2 p2 => ?_) fun _ _ _ z => z⟩
    have nn : ∀ a, ¬ ((false, xs[i]).1 = true ∧ x = V.ref a) := fun a z => by cases z.1
    have hS2 : S2 = Sx := funext fun a => propext ⟨fun z => (p2.sm a z).elim id fun y => (nn a y).elim, p2.sb a⟩
    have hH2 := p2.hp hp
    subst hH2
    rw [hS2] at R2 p2
    rw [hp] at p2
    have t0 := ci.turn hD sxd ownX offX kp R2 p2 nn ho R2 .refl
    refine ⟨t0.1, ρ2, Sx, R2, k3.bind.imp (fun b ρ3 k4 H3 R3 st3 => ?_) fun _ _ _ z => z⟩
    have st3' := st3.mono hmi
    obtain ⟨_, ci3, own2⟩ := ci.turn hD sxd ownX offX kp R2 p2 nn ho R3 st3'
    cases b with
    | false =>
      dsimp only
      rw [if_neg (by simp)] at k4 ⊢
      exact ⟨_, acc, vs, Tk, ci3, k4.ok⟩
    | true =>
      dsimp only
      rw [if_pos rfl] at k4 ⊢
      refine ⟨ρ3, Sx, R3, k4.bind.imp (fun v ρ4 k5 y H4 Ty R4 st4 by_ vy _ => ?_) fun _ _ _ z => z.elim⟩
      obtain ⟨_, ci4, _⟩ := ci.turn hD sxd ownX offX kp R2 p2 nn ho R4 ((st3'.trans (st4.mono hme)).mono (by simp))
      have k6 := k5.ok
      simp only at k6
      by_cases hl : acc.length < big
      case neg => rw [if_neg hl] at k6; exact k6.elim
      rw [if_pos hl] at k6
      refine ⟨vs, ci4.D_, by rw [← ci4.rep.length]; exact Nat.lt_of_lt_of_le hl (big_line (Nat.le_refl _)), wipeR ρ4 own, acc ++ [v.2], vs ++ [y], fun a => Tk a ∨ (Ty a ∨ (v.1 = true ∧ y = .ref a)), ?_, k6⟩
      have nSD : ¬ Sx D := fun z => by
        obtain ⟨o, q⟩ := sxd D z
        rw [hD] at q; cases q
      have nOD : ∀ i, ¬ Own (wipe σ own) (wipeR ρ4 own) i D := fun i o => by
        obtain ⟨zs, q, mo⟩ := ownX (ci4.st.chg.own.mp o)
        rw [hD] at q; cases q
      have kpD : ∀ b o, H4 b = some o → ¬ b = D → upd H4 D (.lst (vs ++ [y])) b = some o := fun b o q n => by rw [upd_ne n]; exact q
      have tyb : ∀ a, Ty a → Sx a ∨ Owns (wipe σ own) (wipeR ρ1 own) (al e) a ∨ H3 a = none := fun a z => (by_.bd a z).imp id (Or.imp (fun ⟨j, hj, o⟩ => ⟨j, hj, ci.st.chg.own.mp (own2 j a (st3.chg.own.mp o)).2⟩) id)
      have nTD : ¬ Ty D := fun z => by
        rcases tyb D z with z | ⟨j, _, z⟩ | z
        · exact nSD z
        · obtain ⟨zs, q, mo⟩ := ownX z
          rw [hD] at q; cases q
        · rw [ci3.D_] at z; cases z
      have fy : v.1 = true → ∀ a, y = .ref a → H3 a = none ∧ Root C.fr H4 Ty v.2 a := fun hb a q => by
        unfold Val at vy
        rw [if_pos hb] at vy
        obtain ⟨t, q1, q2, _, q3⟩ := vy
        rw [q] at q1; cases q1
        exact ⟨q2, q3⟩
      have ry : Rep C.fr H4 (fun a => Tk a ∨ (Ty a ∨ (v.1 = true ∧ y = .ref a))) v.2 y := by
        have vy' := vy
        unfold Val at vy
        split at vy
        · rename_i hb
          obtain ⟨t, q1, q2, _, q3⟩ := vy
          subst q1
          exact q3.rep (fun b z => .inr (.inl z)) (.inr (.inr ⟨hb, rfl⟩))
        · exact vy.wk fun b z => .inr (.inl z)
      have nT : ∀ a, (Tk a ∨ (Ty a ∨ (v.1 = true ∧ y = .ref a))) → ¬ a = D := fun a z q => by
        subst q
        rcases z with z | z | ⟨hb, q⟩
        · exact ci4.nD z
        · exact nTD z
        · have := (fy hb _ q).1
          rw [ci3.D_] at this; cases this
      have kk2 : ∀ a o, H4 a = some o → NT o → ((Tk a ∨ (Ty a ∨ (v.1 = true ∧ y = .ref a))) ∨ NL o) → upd H4 D (.lst (vs ++ [y])) a = some o := fun a o q _ z => kpD a o q fun n => by
        rcases z with z | z
        · exact nT a z n
        · rw [n, ci4.D_] at q; cases q; exact z trivial
      have thD : ∀ b o, H4 b = some o → ∃ o', upd H4 D (.lst (vs ++ [y])) b = some o' := fun b o q => if n : b = D then ⟨.lst (vs ++ [y]), by rw [n]; exact upd_same⟩ else ⟨o, kpD b o q n⟩
      refine ⟨ci4.R.keepBut (fs := fun b => b = D) (fun b o q _ n => kpD b o q n) thD (tabs_mv ci4.R.tab fun b o q n => kpD b o q fun z => by rw [z, ci4.D_] at q; cases q; exact n trivial) (fun t z q => nSD (z ▸ q)) (fun t i z o => nOD i (z ▸ o)) (fun t o z q => ?_), ci4.w, ⟨ci4.st.chg, fun a o q t n => kpD a o (ci4.st.mvM a o q t n) fun z => ?_, fun a o q => let ⟨o', q'⟩ := ci4.st.th a o q; thD a o' q'⟩, upd_same, ?_, ⟨fun a z => ?_, fun a z => ?_⟩, fun z => nT D z rfl⟩
      · rw [z, ci4.D_] at q; cases q
        trivial
      · rw [z, hD] at q; cases q
      · exact ((ci4.rep.wk fun a z => .inl z).stay kk2 fun _ z => z).append ⟨ry.stay kk2 fun _ z => z, trivial⟩
      · rcases z with z | z | ⟨hb, q⟩
        · exact ci4.bd.bd a z
        · exact (tyb a z).imp id (Or.imp id fun n => ci3.st.new ci3.R n)
        · exact .inr (.inr (ci3.st.new ci3.R (fy hb a q).1))
      · have : ∃ o, H4 a = some o := by
          rcases z with z | z | ⟨hb, q⟩
          · exact ci4.bd.dm a z
          · exact by_.dm a z
          · obtain ⟨_, q2, _⟩ := (fy hb a q).2.obj
            exact ⟨_, q2⟩
        obtain ⟨o, q⟩ := this
        exact ⟨o, kpD a o q (nT a z)⟩
  · -- the end
    have ei : i = xs.length := by omega
    subst ei
    refine .inl ⟨w2 rfl, ?_⟩
    rw [List.drop_length] at kk
    simp only [compL] at kk
    obtain ⟨Re, ce, rt⟩ := ci.end_ hD R1 hSx
    have nH : H D = none := st1.new R1 hD
    have bd : Bd H Hk S σ ρ (al (.comp e tg it ifs own)) Tk := ⟨fun a z => by
      rcases ci.bd.bd a z with (z | ⟨_, z⟩) | ⟨j, hj, z⟩ | z
      · exact .inl z
      · exact (tS a z).imp id .inr
      · exact .inr (.inl ⟨j, by simp [al, hj], own0 z⟩)
      · exact .inr (.inr (st1.new R1 z)), ci.bd.dm⟩
    have vv : Val C.fr H Hk Tk (true, .list acc) (.ref D) := by
      unfold Val
      rw [if_pos rfl]
      exact ⟨D, rfl, nH, ci.nD, rt⟩
    refine kk.ok.ok (.ref D) Hk Tk Re ⟨(st1.chg.trans ce).mono hall, fun a o e t n => ?_, fun a o e => let ⟨o', e'⟩ := st1.th a o e; ci.st.th a o' e'⟩ bd vv (opd_of rfl bd vv)
    have e1 := st1.mvM a o e t fun w => n (w.mono fun i h => hall i (List.mem_append_left _ h))
    refine ci.st.mvM a o e1 t fun ⟨j, hj, p, q1, q2⟩ => ?_
    have hjo := (own_wipe (OwnM.own ⟨p, q1, q2⟩)).1
    rw [wipeR_out hjo] at q1
    rw [wipe_outS hjo] at q2
    exact n ⟨j, hall j (List.mem_append_right _ hj), st1.chg.ownM.mp ⟨p, q1, q2⟩⟩
end
end PyC
end

section
set_option maxHeartbeats 200000
namespace PyC
open PySem PySem.Spec L2
/-- where a frame, or a loop of it, began: its heap, the objects that are its own, what it found kept, the parameter that is handed back -/
structure Bse where
  H0 : Hp
  R0 : Addr → Prop
  S0 : AS
  io : Option Addr
  /-- what is held while a loop walks it; the slots that are walked -/
  L : Addr → Prop
  LK : Nat → Addr → Prop
def Bse.In (B : Bse) (a : Addr) : Prop := B.S0 a ∨ B.H0 a = none ∨ B.R0 a
structure Frm (B : Bse) (H : Hp) (S : AS) (σ : L2.St) (ρ : Rho) : Prop where
  kept : ∀ a o, B.H0 a = some o → NT o → ¬ B.R0 a → H a = some o
  th : ∀ a o, B.H0 a = some o → ∃ o', H a = some o'
  sb : ∀ a, S a → B.In a
  ow : ∀ i a, Own σ ρ i a → B.H0 a = none ∨ B.R0 a
  io : ∀ t, B.io = some t → σ[0]? = some (some (.ref t))
  ld : ∀ a, B.L a → ∃ o, B.H0 a = some o
  pl : ∀ a o, B.L a → B.H0 a = some o → NT o → H a = some o
  nl : ∀ i a, OwnM σ ρ i a → ¬ B.L a
  lks : ∀ (i : Nat) (p : PyData), ρ[i]? = some (.lk p) → ∃ a, σ[i]? = some (some (.ref a)) ∧ B.LK i a
  s0 : ∀ a, B.S0 a → S a
/-- what is handed back -/
def RtR (C : RK) (B : Bse) (fr : Bool) (p : PyData) (ρ : Rho) (x : V) (H' : Hp) : Prop := ∃ T : AS, (∀ a, T a → B.In a) ∧ (∀ a, T a → ∃ o, H' a = some o) ∧ (∀ a o, B.H0 a = some o → NT o → ¬ B.R0 a → H' a = some o) ∧ (∀ a o, B.H0 a = some o → ∃ o', H' a = some o') ∧ LamX.Tabs C.fr.tabs H' ∧ RetV C.fr B.H0 H' B.R0 T fr p x ∧
  ∀ t, B.io = some t → ∀ ys, ρ[0]? = some (.my (.list ys)) → flatL ys = true → Root C.fr H' (fun _ => False) (.list ys) t ∧ ¬ T t ∧ (fr = true → x ≠ .ref t)
/-- the ways on -/
structure K4 where
  nx : Rho → Prop
  bk : Rho → Prop
  rt : Bool → PyData → Rho → Prop
  ex : Nat → List PyData → Rho → Prop
def SRes (o : SOut) (K : K4) : Prop := match o with
  | .stuck => False
  | .nx ρ => K.nx ρ
  | .bk ρ => K.bk ρ
  | .rt fr p ρ => K.rt fr p ρ
  | .ex c ps ρ => K.ex c ps ρ
theorem SRes.s {α : Type} {o : Out α} {f : α → Rho → SOut} {K : K4} (h : SRes (o.s f) K) : Res o (fun a ρ => SRes (f a ρ) K) K.ex := by
  cases o with
  | stuck => exact h
  | ok a ρ => exact h
  | exc c ps ρ => exact h
theorem SRes.thn {o : SOut} {f : Rho → SOut} {K : K4} (h : SRes (o.thn f) K) : SRes o { K with nx := fun ρ => SRes (f ρ) K } := by
  cases o with
  | nx ρ => exact h
  | stuck => exact h
  | bk ρ => exact h
  | rt fr p ρ => exact h
  | ex c ps ρ => exact h
theorem SRes.imp {o : SOut} {K K' : K4} (h : SRes o K) (h1 : ∀ ρ, K.nx ρ → K'.nx ρ) (h2 : ∀ ρ, K.bk ρ → K'.bk ρ) (h3 : ∀ fr p ρ, K.rt fr p ρ → K'.rt fr p ρ) (h4 : ∀ c ps ρ, K.ex c ps ρ → K'.ex c ps ρ) : SRes o K' := by
  cases o with
  | stuck => exact h
  | nx ρ => exact h1 _ h
  | bk ρ => exact h2 _ h
  | rt fr p ρ => exact h3 _ _ _ h
  | ex c ps ρ => exact h4 _ _ _ h
section
variable (C : RK) (call : CallT) (W : WX) (B : Bse) (io : Bool)
def kNx (N : L2.St → Hp → Prop) (ρ' : Rho) : Prop := ∀ σ' H' S', RepS C H' S' σ' ρ' → Frm B H' S' σ' ρ' → N σ' H'
def kEx (c : Nat) (ps : List PyData) (ρ' : Rho) : Prop := ∀ cls d σ' H' S' T, RepS C H' S' σ' ρ' → Frm B H' S' σ' ρ' → (∀ a, T a → B.In a) → (∀ a, T a → ∃ o, H' a = some o) → Pay C H' T c ps cls d → W cls d σ' H'
def kS (D : Ends) : K4 := ⟨kNx C B D.nx, kNx C B D.bk, fun fr p ρ' => ∀ x H', RtR C B fr p ρ' x H' → D.rt x H', kEx C W B⟩
def tS (st : CS) : TS := fun D σ H => ∃ ρ S, RepS C H S σ ρ ∧ Frm B H S σ ρ ∧ SRes (evS call io st ρ) (kS C W B D)
end
section
variable {C : RK} {call : CallT} {W : WX} {B : Bse} {io : Bool} {σ σ1 : L2.St} {H H1 : Hp} {S S1 T : AS} {ρ ρ1 : Rho} {D : Ends} {ms as : List Nat}
theorem Frm.none_ (F : Frm B H S σ ρ) {a : Addr} (e : H a = none) : B.H0 a = none ∨ B.R0 a := by
  by_cases h : B.R0 a
  · exact .inr h
  · cases q : B.H0 a with
    | none => exact .inl rfl
    | some o =>
      obtain ⟨o', this⟩ := F.th a o q
      rw [e] at this; cases this
theorem Frm.free (F : Frm B H S σ ρ) {a : Addr} {o : HO} (e : B.H0 a = some o) (n : ¬ B.R0 a) : ∀ i, ¬ Own σ ρ i a := fun i z => by
  rcases F.ow i a z with h | h
  · rw [e] at h; cases h
  · exact n h
theorem Frm.step (F : Frm B H S σ ρ) (st : Stp H H1 σ ρ ρ1 ms) : Frm B H1 S σ ρ1 :=
  ⟨fun a o e t n => st.mv a o (F.kept a o e t n) t fun ⟨i, _, z⟩ => F.free e n i z, fun a o e => (F.th a o e).elim fun o' e' => st.th a o' e', F.sb, fun i a z => F.ow i a (st.chg.own.mp z), F.io, F.ld, fun a o l e t => st.mvM a o (F.pl a o l e t) t fun ⟨i, _, z⟩ => F.nl i a z l, fun i a z => F.nl i a (st.chg.ownM.mp z), fun i p e => (by
    rcases st.chg.in_ i with h | ⟨_, _, _, h⟩
    · exact F.lks i p (h ▸ e)
    · rw [h] at e; cases e), F.s0⟩
theorem Frm.bd (F : Frm B H S σ ρ) (b : Bd H H1 S σ ρ as T) : ∀ a, T a → B.In a := fun a z => by
  rcases b.bd a z with h | ⟨i, _, h⟩ | h
  · exact F.sb a h
  · exact .inr (F.ow i a h)
  · exact .inr (F.none_ h)
theorem ex_of {c : Nat} {ps : List PyData} {ρ' : Rho} (F : Frm B H S σ ρ) (h : kEx C W B c ps ρ') : tX C W H S σ ρ c ps ρ' := fun cls d H' T ms as R st b p => h cls d σ H' S T R (F.step st) (F.bd b) b.dm p
/-! what is kept -/
theorem at_get {ρ : Rho} {j : Nat} {f : Slot → Slot} {i : Nat} : (at_ ρ j f)[i]? = if j = i then ρ[i]?.map f else ρ[i]? := by
  unfold at_
  rw [List.getElem?_modify]
  split <;> rename_i h
  · simp [h]
  · simp [h]
theorem freeze2 (s : Slot) : s.freeze.freeze = s.freeze := by cases s <;> rfl
theorem freezeAll_get {ρ : Rho} {i : Nat} : ∀ {as : List Nat}, (freezeAll ρ as)[i]? = if i ∈ as then ρ[i]?.map Slot.freeze else ρ[i]?
  | [] => by simp [freezeAll]
  | j :: as => by
    unfold freezeAll
    rw [at_get, freezeAll_get]
    by_cases h : j = i
    · subst h
      rw [if_pos rfl, if_pos (List.mem_cons_self ..)]
      by_cases hm : j ∈ as
      · rw [if_pos hm]
        cases ρ[j]? with
        | none => rfl
        | some s => exact congrArg some (freeze2 s)
      · rw [if_neg hm]
    · rw [if_neg h]
      by_cases hm : i ∈ as
      · rw [if_pos hm, if_pos (List.mem_cons_of_mem _ hm)]
      · rw [if_neg hm, if_neg (fun z => (List.mem_cons.mp z).elim (fun q => h q.symm) hm)]
/-- the slots of as are kept from now on -/
theorem RepS.freeze {ρk : Rho} {Sk : AS} (R : RepS C H S σ ρ) (l : ρk.length = ρ.length) (hg : ∀ i : Nat, ρk[i]? = if i ∈ as then ρ[i]?.map Slot.freeze else ρ[i]?) (m : ∀ a, S a → Sk a) (ro : ∀ a, Owns σ ρ as a → Sk a) (n : ∀ i a, i ∉ as → Own σ ρ i a → ¬ Sk a) (d : ∀ a, Sk a → ∃ o, H a = some o) :
    RepS C H Sk σ ρk ∧ ∀ i a, Own σ ρk i a → i ∉ as ∧ Own σ ρ i a := by
  have ow : ∀ i a, Own σ ρk i a → i ∉ as ∧ Own σ ρ i a := fun i a ⟨s, h1, h2, h3⟩ => by
    rw [hg] at h1
    split at h1
    · cases e : ρ[i]? with
      | none => rw [e] at h1; cases h1
      | some s0 =>
        rw [e] at h1
        cases h1
        cases s0 <;> cases h2
    · rename_i hi
      exact ⟨hi, s, h1, h2, h3⟩
  refine ⟨⟨by rw [R.len, l], fun i p e => ?_, fun i s p e h v => ?_, fun i j a h1 h2 => R.sep i j a (ow i a h1).2 (ow j a h2).2, d, R.tab, fun i c ps e => ?_⟩, ow⟩
  · rw [hg] at e
    split at e
    · rename_i hi
      cases q : ρ[i]? with
      | none => rw [q] at e; cases e
      | some s0 =>
        rw [q] at e
        simp only [Option.map_some, Option.some.injEq] at e
        have own : ∀ s1 : Slot, s0 = s1 → s1.mine = true → s1.val? = some p → ∃ v, σ[i]? = some (some v) ∧ Rep C.fr H Sk p v := fun s1 e1 hm hv => by
          subst e1
          obtain ⟨a, h1, h2, h3⟩ := R.my i s0 p q hm hv
          exact ⟨.ref a, h1, h3.rep m (ro a ⟨i, hi, s0, q, hm, h1⟩)⟩
        cases s0 with
        | un => cases e
        | ex c ps => cases e
        | fz p0 =>
          cases e
          obtain ⟨v, h1, h2⟩ := R.fz i p q
          exact ⟨v, h1, h2.wk m⟩
        | my p0 => cases e; exact own _ rfl rfl rfl
        | lk p0 => cases e; exact own _ rfl rfl rfl
    · obtain ⟨v, h1, h2⟩ := R.fz i p e
      exact ⟨v, h1, h2.wk m⟩
  · obtain ⟨a, h1, h2, h3⟩ : ∃ a, σ[i]? = some (some (.ref a)) ∧ i ∉ as ∧ Own σ ρ i a ∧ Root C.fr H S p a := by
      rw [hg] at e
      split at e
      · cases q : ρ[i]? with
        | none => rw [q] at e; cases e
        | some s0 =>
          rw [q] at e
          cases e
          cases s0 <;> cases h
      · rename_i hi
        obtain ⟨a, h1, h2, h3⟩ := R.my i s p e h v
        exact ⟨a, h1, hi, ⟨s, e, h, h1⟩, h3⟩
    exact ⟨a, h1, n i a h2 h3.1, h3.2.stay (fun _ _ e _ _ => e) m⟩
  · rw [hg] at e
    split at e
    · cases q : ρ[i]? with
      | none => rw [q] at e; cases e
      | some s0 =>
        rw [q] at e
        simp only [Option.map_some, Option.some.injEq] at e
        cases s0 with
        | ex c0 p0 =>
          cases e
          obtain ⟨h1, h2⟩ := R.exq i c ps q
          exact ⟨h1, h2.stay (fun _ _ e _ _ => e) m⟩
        | _ => cases e
    · obtain ⟨h1, h2⟩ := R.exq i c ps e
      exact ⟨h1, h2.stay (fun _ _ e _ _ => e) m⟩
theorem freezeAll_len {ρ : Rho} : ∀ {as : List Nat}, (freezeAll ρ as).length = ρ.length
  | [] => rfl
  | j :: as => by unfold freezeAll at_; rw [List.length_modify, freezeAll_len]
/-- a value is kept -/
theorem keep_ok {v : Bool × PyData} {x : V} (R : RepS C H S σ ρ) (F : Frm B H S σ ρ) (R1 : RepS C H1 S σ ρ1) (st : Stp H H1 σ ρ ρ1 ms) (b : Bd H H1 S σ ρ as T) (h : Val C.fr H H1 T v x) :
    ∃ Sk, RepS C H1 Sk σ (keep ρ1 as v.2) ∧ Frm B H1 Sk σ (keep ρ1 as v.2) ∧ InV C H1 Sk σ (keep ρ1 as v.2) v x ∧ (∀ a, S a → Sk a) ∧ (flatD v.2 = false → ∀ a, T a → Sk a) := by
  have F1 := F.step st
  by_cases hf : flatD v.2 = true
  · have hk : keep ρ1 as v.2 = ρ1 := by
      unfold keep
      rw [if_pos hf]
      split <;> rfl
    rw [hk]
    refine ⟨S, R1, F1, ?_, fun _ z => z, fun z => by rw [hf] at z; cases z⟩
    unfold Val at h
    unfold InV
    split at h
    · obtain ⟨t, _, _, _, r⟩ := h
      rw [r.flatF] at hf; cases hf
    · rename_i hb
      rw [if_neg hb]
      exact h.flat hf
  · have hg : ∀ i : Nat, (keep ρ1 as v.2)[i]? = if i ∈ as then ρ1[i]?.map Slot.freeze else ρ1[i]? := fun i => by
      unfold keep
      split
      · exact freezeAll_get
      · rename_i hm
        split
        · rename_i hi
          have : ∀ s, ρ1[i]? = some s → s.freeze = s := fun s e => by
            unfold anyMine at hm
            have := List.any_eq_false.mp (by simpa using hm) i hi
            rw [e] at this
            cases s <;> first | rfl | (simp at this)
          cases e : ρ1[i]? with
          | none => rfl
          | some s => rw [Option.map_some, this s e]
        · rfl
    have hl : (keep ρ1 as v.2).length = ρ1.length := by
      unfold keep
      split
      · exact freezeAll_len
      · rfl
    let Sk : AS := fun a => S a ∨ (Owns σ ρ1 as a ∨ T a)
    have dm : ∀ a, Sk a → ∃ o, H1 a = some o := fun a z => by
      rcases z with z | ⟨i, _, z⟩ | z
      · exact R1.dom a z
      · obtain ⟨_, p, _, zs, _, q, _⟩ := R1.own z
        exact ⟨_, q⟩
      · exact b.dm a z
    have nn : ∀ i a, i ∉ as → Own σ ρ1 i a → ¬ Sk a := fun i a hi o z => by
      have o0 := st.chg.own.mp o
      have hS := R.own o0
      rcases z with z | ⟨j, hj, z⟩ | z
      · exact hS.1 z
      · exact hi (R1.sep j i a z o ▸ hj)
      · rcases b.bd a z with z | ⟨j, hj, z⟩ | z
        · exact hS.1 z
        · exact hi (R.sep j i a z o0 ▸ hj)
        · obtain ⟨_, p, _, zs, _, q, _⟩ := hS
          rw [z] at q; cases q
    obtain ⟨Rk, ow⟩ := R1.freeze (Sk := Sk) hl hg (fun _ z => .inl z) (fun _ z => .inr (.inl z)) nn dm
    refine ⟨Sk, Rk, ⟨F1.kept, F1.th, fun a z => ?_, fun i a o => F1.ow i a (ow i a o).2, F1.io, F1.ld, F1.pl, fun i a ⟨p, h1, h2⟩ => ?_, fun i p h1 => ?_, fun a z => .inl (F1.s0 a z)⟩, ?_, fun _ z => .inl z, fun _ a z => .inr (.inr z)⟩
    · rcases z with z | ⟨i, _, z⟩ | z
      · exact F.sb a z
      · exact .inr (F1.ow i a z)
      · exact F.bd b a z
    · rw [hg] at h1
      split at h1
      · cases q : ρ1[i]? with
        | none => rw [q] at h1; cases h1
        | some s0 => rw [q] at h1; cases s0 <;> cases h1
      · exact F1.nl i a ⟨p, h1, h2⟩
    · rw [hg] at h1
      split at h1
      · cases q : ρ1[i]? with
        | none => rw [q] at h1; cases h1
        | some s0 => rw [q] at h1; cases s0 <;> cases h1
      · exact F1.lks i p h1
    · unfold Val at h
      unfold InV
      split at h
      · rename_i hb
        rw [if_pos hb]
        obtain ⟨t, e, n, nt, r⟩ := h
        have no : ∀ i, ¬ Own σ ρ1 i t := fun i o => by
          obtain ⟨_, p, _, zs, _, q, _⟩ := R.own (st.chg.own.mp o)
          rw [n] at q; cases q
        refine ⟨t, e, fun z => ?_, fun i o => no i (ow i t o).2, r.stay (fun _ _ e _ _ => e) fun _ z => .inr (.inr z)⟩
        rcases z with z | ⟨i, _, z⟩ | z
        · obtain ⟨o, q⟩ := R.dom t z
          rw [n] at q; cases q
        · exact no i z
        · exact nt z
      · rename_i hb
        rw [if_neg hb]
        exact h.wk fun _ z => .inr (.inr z)
/-- what may reach as is kept -/
theorem keep_core {p : PyData} (R : RepS C H S σ ρ) (F : Frm B H S σ ρ) (R1 : RepS C H1 S σ ρ1) (st : Stp H H1 σ ρ ρ1 ms) (b : Bd H H1 S σ ρ as T) :
    ∃ Sk, RepS C H1 Sk σ (keep ρ1 as p) ∧ Frm B H1 Sk σ (keep ρ1 as p) ∧ (∀ a, S a → Sk a) ∧ (flatD p = false → ∀ a, T a → Sk a) := by
  have F1 := F.step st
  by_cases hf : flatD p = true
  · have hk : keep ρ1 as p = ρ1 := by
      unfold keep
      rw [if_pos hf]
      split <;> rfl
    rw [hk]
    exact ⟨S, R1, F1, fun _ z => z, fun z => by rw [hf] at z; cases z⟩
  · have hg : ∀ i : Nat, (keep ρ1 as p)[i]? = if i ∈ as then ρ1[i]?.map Slot.freeze else ρ1[i]? := fun i => by
      unfold keep
      split
      · exact freezeAll_get
      · rename_i hm
        split
        · rename_i hi
          have : ∀ s, ρ1[i]? = some s → s.freeze = s := fun s e => by
            unfold anyMine at hm
            have := List.any_eq_false.mp (by simpa using hm) i hi
            rw [e] at this
            cases s <;> first | rfl | (simp at this)
          cases e : ρ1[i]? with
          | none => rfl
          | some s => rw [Option.map_some, this s e]
        · rfl
    have hl : (keep ρ1 as p).length = ρ1.length := by
      unfold keep
      split
      · exact freezeAll_len
      · rfl
    let Sk : AS := fun a => S a ∨ (Owns σ ρ1 as a ∨ T a)
    have dm : ∀ a, Sk a → ∃ o, H1 a = some o := fun a z => by
      rcases z with z | ⟨i, _, z⟩ | z
      · exact R1.dom a z
      · obtain ⟨_, p, _, zs, _, q, _⟩ := R1.own z
        exact ⟨_, q⟩
      · exact b.dm a z
    have nn : ∀ i a, i ∉ as → Own σ ρ1 i a → ¬ Sk a := fun i a hi o z => by
      have o0 := st.chg.own.mp o
      have hS := R.own o0
      rcases z with z | ⟨j, hj, z⟩ | z
      · exact hS.1 z
      · exact hi (R1.sep j i a z o ▸ hj)
      · rcases b.bd a z with z | ⟨j, hj, z⟩ | z
        · exact hS.1 z
        · exact hi (R.sep j i a z o0 ▸ hj)
        · obtain ⟨_, p, _, zs, _, q, _⟩ := hS
          rw [z] at q; cases q
    obtain ⟨Rk, ow⟩ := R1.freeze (Sk := Sk) hl hg (fun _ z => .inl z) (fun _ z => .inr (.inl z)) nn dm
    refine ⟨Sk, Rk, ⟨F1.kept, F1.th, fun a z => ?_, fun i a o => F1.ow i a (ow i a o).2, F1.io, F1.ld, F1.pl, fun i a ⟨p, h1, h2⟩ => ?_, fun i p h1 => ?_, fun a z => .inl (F1.s0 a z)⟩, fun _ z => .inl z, fun _ a z => .inr (.inr z)⟩
    · rcases z with z | ⟨i, _, z⟩ | z
      · exact F.sb a z
      · exact .inr (F1.ow i a z)
      · exact F.bd b a z
    · rw [hg] at h1
      split at h1
      · cases q : ρ1[i]? with
        | none => rw [q] at h1; cases h1
        | some s0 => rw [q] at h1; cases s0 <;> cases h1
      · exact F1.nl i a ⟨p, h1, h2⟩
    · rw [hg] at h1
      split at h1
      · cases q : ρ1[i]? with
        | none => rw [q] at h1; cases h1
        | some s0 => rw [q] at h1; cases s0 <;> cases h1
      · exact F1.lks i p h1
/-- behind a target -/
theorem Frm.post {σ' : L2.St} {ρ' : Rho} {H' : Hp} {S' : AS} {new : Addr → Prop} {ns : List Nat} {pl : Bool} (F : Frm B H S σ ρ) (p : PostA H H' S S' σ σ' ρ ρ' new ns pl) (hn : ∀ a, new a → (B.H0 a = none ∨ B.R0 a) ∧ ¬ B.L a) (h0 : B.io ≠ none → 0 ∉ ns) : Frm B H' S' σ' ρ' :=
  ⟨fun a o e t n => p.mv a o (F.kept a o e t n) t (F.free e n), fun a o e => (F.th a o e).elim fun o' e' => p.th a o' e', fun a z => (p.sm a z).elim (F.sb a) fun y => .inr (hn a y).1, fun i a o => (p.ow i a o).elim (fun ⟨j, z⟩ => F.ow j a z) fun y => (hn a y).1, fun t e => by
    rw [p.sg 0 (h0 (by rw [e]; simp))]
    exact F.io t e, F.ld, fun a o l e t => p.mvM a o (F.pl a o l e t) t fun i z => F.nl i a z l, fun i a o => (p.owM i a o).elim (fun ⟨j, z⟩ => F.nl j a z) fun y => (hn a y).2, fun i d e => (by
    obtain ⟨e1, e2⟩ := p.lk i d e
    rw [e2]; exact F.lks i d e1), fun a z => p.sb a (F.s0 a z)⟩
end
end PyC
end

section
set_option maxHeartbeats 200000
namespace PyC
open PySem PySem.Spec L2
section
variable {C : RK} {call : CallT} {W : WX} {B : Bse} {io : Bool} {σ σ1 : L2.St} {H H1 : Hp} {S S1 T : AS} {ρ ρ1 : Rho} {D : Ends} {ms as : List Nat}
theorem tS.skip (h : tS C call W B io .skip D σ H) : tNext D σ H := by
  obtain ⟨ρ, S, R, F, k⟩ := h
  exact k σ H S R F
theorem tS.brk (h : tS C call W B io .brk D σ H) : tBreak D σ H := by
  obtain ⟨ρ, S, R, F, k⟩ := h
  exact k σ H S R F
theorem tS.seq {a b : CS} (h : tS C call W B io (.seq a b) D σ H) : tSeq (tS C call W B io a) (tS C call W B io b) D σ H := by
  obtain ⟨ρ, S, R, F, k⟩ := h
  simp only [evS] at k
  refine ⟨ρ, S, R, F, k.thn.imp (fun ρ' k σ' H' S' R' F' => ⟨ρ', S', R', F', k⟩) (fun _ z => z) (fun _ _ _ z => z) fun _ _ _ z => z⟩
theorem tS.exp {e : CE} (h : tS C call W B io (.exp e) D σ H) : tDrop (tE C call W e) D σ H := by
  obtain ⟨ρ, S, R, F, k⟩ := h
  simp only [evS] at k
  exact ⟨ρ, S, R, k.s.imp (fun v ρ1 k x H1 T R1 st1 b1 v1 _ => k σ H1 S R1 (F.step st1)) fun _ _ _ z => ex_of F z⟩
theorem val_new {v : Bool × PyData} {x : V} (F : Frm B H S σ ρ) (h : Val C.fr H H1 T v x) : ∀ a, (v.1 = true ∧ x = .ref a) → (B.H0 a = none ∨ B.R0 a) ∧ ¬ B.L a := fun a ⟨hb, e⟩ => by
  unfold Val at h
  rw [if_pos hb] at h
  obtain ⟨t, e1, n, _⟩ := h
  rw [e] at e1; cases e1
  refine ⟨F.none_ n, fun l => ?_⟩
  obtain ⟨o, q⟩ := F.ld _ l
  obtain ⟨o', this⟩ := F.th _ o q
  rw [n] at this; cases this
theorem tS.asg {t : Tg} {e : CE} (h : tS C call W B io (.asg t e) D σ H) (h0 : B.io ≠ none → 0 ∉ tgs t) : tAsg (tE C call W e) (gT C call t) D σ H := by
  obtain ⟨ρ, S, R, F, k⟩ := h
  simp only [evS] at k
  refine ⟨ρ, S, R, k.s.imp (fun v ρ1 k x H1 T R1 st1 b1 v1 _ => ?_) fun _ _ _ z => ex_of F z⟩
  obtain ⟨Sk, Rk, Fk, iv, _⟩ := keep_ok R F R1 st1 b1 v1
  exact ⟨_, Sk, v, Rk, iv, k.s.calm.imp (fun _ ρ2 k σ2 H2 S2 R2 p2 => k σ2 H2 S2 R2 (Fk.post p2 (val_new F v1) h0)) fun _ _ _ z => z⟩
theorem tS.ite {c : CE} {a b : CS} (h : tS C call W B io (.ifS c a b) D σ H) : tIfS (tB (tE C call W c)) (tS C call W B io a) (tS C call W B io b) D σ H := by
  obtain ⟨ρ, S, R, F, k⟩ := h
  simp only [evS, evB] at k
  refine ⟨ρ, S, R, k.s.bind.imp (fun v ρ1 k x H1 T R1 st1 b1 v1 _ => ?_) fun _ _ _ z => ex_of F z⟩
  split at k
  · rename_i kb e0
    refine ⟨kb, v1.bool e0, ?_⟩
    have k := k.ok
    cases kb
    · dsimp only
      rw [if_neg (by simp)] at k ⊢
      exact ⟨ρ1, S, R1, F.step st1, k⟩
    · dsimp only
      rw [if_pos rfl] at k ⊢
      exact ⟨ρ1, S, R1, F.step st1, k⟩
  · exact k.elim
theorem tS.retN (h : tS C call W B io .retN D σ H) : tRetN D σ H := by
  obtain ⟨ρ, S, R, F, k⟩ := h
  refine k .non H ⟨fun _ => False, fun _ z => z.elim, fun _ z => z.elim, F.kept, F.th, R.tab, ?_, fun t ht ys hy fy => ?_⟩
  · unfold RetV; rw [if_neg (by simp)]; rfl
  · obtain ⟨a, h1, h2, r⟩ := R.my 0 _ _ hy rfl rfl
    obtain ⟨xs, q, r2⟩ := r.invL
    have := F.io t ht
    rw [h1] at this; cases this
    exact ⟨Root.mkL q (r2.flat fy), fun z => z, fun z => by cases z⟩
/-- xs.append(e) -/
theorem tS.app {i : Nat} {e : CE} (h : tS C call W B io (.app i e) D σ H) : tDrop (tBM C.fr.fr "list" rAppend (tVar i) (t1 (tE C call W e))) D σ H := by
  obtain ⟨ρ, S, R, F, k⟩ := h
  simp only [evS] at k
  split at k
  · exact k.elim
  rename_i hm
  obtain ⟨p0, e0⟩ := isMy_some hm
  obtain ⟨a, zs, ea, eb⟩ := my_addr R e0
  refine ⟨.ref a, ea, .inl ⟨rfl, zs, .inl (.inl eb)⟩, ρ, S, R, k.s.imp (fun v ρ1 k x H1 T R1 st1 b1 v1 _ => ?_) fun _ _ _ z => ex_of F z⟩
  obtain ⟨Sk, Rk, Fk, iv, _⟩ := keep_ok R F R1 st1 b1 v1
  split at k
  · rename_i ds e1
    by_cases hl : ds.length < big
    case neg => rw [if_neg hl] at k; exact k.elim
    rw [if_pos hl] at k
    obtain ⟨a', ea', nsa, rr⟩ := Rk.my i _ _ e1 rfl rfl
    obtain ⟨xs, q2, r⟩ := rr.invL
    rw [ea] at ea'; cases ea'
    have own1 : Own σ (keep ρ1 (al e) v.2) i a := ⟨_, e1, rfl, ea⟩
    refine ⟨a, xs, x, rfl, rfl, q2, by rw [← r.length]; exact Nat.lt_of_lt_of_le hl (big_line (Nat.le_refl _)), ?_⟩
    let S2 : AS := fun b => Sk b ∨ (v.1 = true ∧ x = .ref b)
    have fr : v.1 = true → ∀ b, x = .ref b → (∀ j, ¬ Own σ (keep ρ1 (al e) v.2) j b) ∧ Root C.fr H1 Sk v.2 b := fun hb b hx => by
      unfold InV at iv
      rw [if_pos hb] at iv
      obtain ⟨t, e4, _, n2, rt⟩ := iv
      rw [hx] at e4; cases e4
      exact ⟨n2, rt⟩
    have xr : Rep C.fr H1 S2 v.2 x := by
      have iv' := iv
      unfold InV at iv
      split at iv
      · rename_i hb
        obtain ⟨t, e4, n1, n2, rt⟩ := iv
        subst e4
        exact rt.rep (fun _ z => .inl z) (.inr ⟨hb, rfl⟩)
      · exact iv.wk fun _ z => .inl z
    have noown : ∀ b, S2 b → ∀ j, ¬ Own σ (keep ρ1 (al e) v.2) j b := fun b z j o => by
      rcases z with z | ⟨hb, q⟩
      · exact (Rk.own o).1 z
      · exact (fr hb b q).1 j o
    have R2 : RepS C H1 S2 σ (keep ρ1 (al e) v.2) := Rk.more (fun _ z => .inl z) noown fun b z => by
      rcases z with z | ⟨hb, q⟩
      · exact Rk.dom b z
      · obtain ⟨_, q2, _⟩ := (fr hb b q).2.obj
        exact ⟨_, q2⟩
    have kp : ∀ b o, H1 b = some o → ¬ b = a → upd H1 a (.lst (xs ++ [x])) b = some o := fun b o e q => by rw [upd_ne q]; exact e
    have thk : ∀ b o, H1 b = some o → ∃ o', upd H1 a (.lst (xs ++ [x])) b = some o' := fun b o q => if n : b = a then ⟨.lst (xs ++ [x]), by rw [n]; exact upd_same⟩ else ⟨o, kp b o q n⟩
    have kk2 : ∀ b o, H1 b = some o → NT o → (S2 b ∨ NL o) → upd H1 a (.lst (xs ++ [x])) b = some o := fun b o e _ z => kp b o e fun q => by
      subst q
      rcases z with z | z
      · exact noown _ z i own1
      · rw [q2] at e; cases e; exact z trivial
    have R3 := R2.setBut (fs := fun b => b = a) (H' := upd H1 a (.lst (xs ++ [x]))) (p' := .list (ds ++ [v.2])) e1 ea (fun b o e _ n => kp b o e n) thk (tabs_mv R2.tab fun b o q n => kp b o q fun z => by rw [z, q2] at q; cases q; exact n trivial) (fun t z q => noown t q i (z ▸ own1)) (fun t j z _ => z) (fun t o z e => by
      rw [z, q2] at e; cases e
      trivial) (Root.mkL upd_same (((r.wk fun _ z => .inl z).append (RepL.one xr)).stay kk2 fun _ z => z))
    have ao := Fk.ow i a own1
    refine k σ _ S2 R3 ⟨fun b o e t n => kp b o (Fk.kept b o e t n) fun z => ?_, fun b o e => (Fk.th b o e).elim fun o' e' => thk b o' e', fun b z => ?_, fun j b o => Fk.ow j b ((chg_set e1).own.mp o), Fk.io, Fk.ld, fun b o l e t => kp b o (Fk.pl b o l e t) fun z => Fk.nl i a ⟨_, e1, ea⟩ (z ▸ l), fun j b o => Fk.nl j b ((chg_set e1).ownM.mp o), fun j p e => ?_, fun b z => .inl (Fk.s0 b z)⟩
    · rcases ao with h | h
      · rw [z, h] at e; cases e
      · exact n (z ▸ h)
    · rcases z with z | z
      · exact Fk.sb b z
      · exact .inr (val_new F v1 b z).1
    · rcases (chg_set (q := .list (ds ++ [v.2])) e1).in_ j with h | ⟨_, _, _, h⟩
      · exact Fk.lks j p (h ▸ e)
      · rw [h] at e; cases e
  · exact k.elim
end
end PyC
end

section
set_option maxHeartbeats 200000
namespace PyC
open PySem PySem.Spec L2
set_option maxRecDepth 8000 in
theorem ext_tup (l : Addr) (us : Array Value) (n : Nat) (b : Addr) (ws : Array Value) (m : Nat) (od : Option Addr) (sl : Array (Option Value)) (c0 : ¬(!us.isEmpty && Builtin.List.listTooLong (us.size + ws.size)) = true) (c1 : us.size ≤ sizeLine) (c2 : us.size + ws.size ≤ sizeLine + 1) :
    Meets (Builtin.«list.extend» ⟨[.ref l, .ref b], []⟩) (fun _ R s => s.heap.get? l = some ⟨.type "list", none, .seq us n, #[]⟩ ∧ s.heap.get? b = some ⟨.type "tuple", od, .seq ws m, sl⟩ ∧ R (.ok (.ret Value.none)) { s with heap := s.heap.update l (Obj.mapSeq fun x => x ++ ws) }) :=
  .of_wp fun prog w A R s h => by
    obtain ⟨hp, g, d, tk, os⟩ := s; obtain ⟨hl, hb, h⟩ := h; have e1 := PySem.AutoSeq1.idx_int; have e2 := PySem.AutoSeq1.sub_tuple_tuple; have e3 := PySem.AutoSeq1.sub_list_list; have e4 := PySem.AutoSeq1.sub_tuple_list; have e5 := PySem.AutoSeq1.sub_list_tuple;
    have c3 : (us ++ ws).size ≤ sizeLine + 1 := by rw [Array.size_append]; exact c2
    wp_walk using (wpAny_updateSeq hl rfl (hz := c1) (_hz' := c3)), wpAny_loadPart' hl, wpAny_loadPart' hb; exact ⟨_, rfl, h⟩
section
variable {X : Cx}
def rExtA (K : PySem.W.Frag) : V → List V → Hp → VK → Prop := fun x vs H Q => ∃ l b xs zs, x = .ref l ∧ vs = [.ref b] ∧ H l = some (.lst xs) ∧ (Rd H b (.lst zs) ∨ SqT K H b zs) ∧ xs.length + zs.length ≤ sizeLine ∧ Q .non (upd H l (.lst (xs ++ zs)))
theorem mt_extA : MtM X "list.extend" (rExtA X.K) := by
  intro pins s σ H x vs v us Q I rx rv h
  obtain ⟨l, b, xs, zs, rfl, rfl, hH, hB, hz, q⟩ := h
  cases rx
  obtain ⟨u, rfl, ru⟩ := rv.one
  cases ru
  obtain ⟨z, its, n, r, hl, e⟩ := I.lstM hH
  rcases hB with hB | hB
  · obtain ⟨z2, ws, n2, r2, hl2, e2⟩ := lstR I hB
    have hsz : its.toArray.size + ws.toArray.size ≤ sizeLine := by rw [List.size_toArray, List.size_toArray]; omega
    have short : ¬ (!its.toArray.isEmpty && Builtin.List.listTooLong (its.toArray.size + ws.toArray.size)) = true := by
      rw [notLongL hsz, Bool.and_false]
      exact Bool.false_ne_true
    refine call_meets F.slot_list_extend ⟨_, e, rfl⟩ F.entry_list_extend (F.args_list_extend_2 _ _)
      (AutoSeq1.list_extend_list_list_0 l its.toArray n b ws.toArray n2 short (by rw [List.size_toArray]; omega) (by omega)) ⟨e, e2, ?_⟩
    refine ⟨.non, _, I.lset (its' := its ++ ws) hH e (by simp) (r.append r2) ?_, rfl, q⟩
    rw [List.length_append]
    omega
  · obtain ⟨ws, r2, ⟨o, e2, hc, n2, hd⟩, z2⟩ := I.tuple hB
    obtain ⟨oc, od, dt, sl⟩ := o
    simp only at hc hd
    subst hc hd
    have hl2 := r2.length
    have hsz : its.toArray.size + ws.toArray.size ≤ sizeLine := by rw [List.size_toArray, List.size_toArray]; omega
    have short : ¬ (!its.toArray.isEmpty && Builtin.List.listTooLong (its.toArray.size + ws.toArray.size)) = true := by
      rw [notLongL hsz, Bool.and_false]
      exact Bool.false_ne_true
    refine call_meets F.slot_list_extend ⟨_, e, rfl⟩ F.entry_list_extend (F.args_list_extend_2 _ _)
      (ext_tup l its.toArray n b ws.toArray n2 od sl short (by rw [List.size_toArray]; omega) (by omega)) ⟨e, e2, ?_⟩
    refine ⟨.non, _, I.lset (its' := its ++ ws) hH e (by simp) (r.append r2) ?_, rfl, q⟩
    rw [List.length_append]
    omega
end
section
variable {C : RK} {call : CallT} {W : WX} {B : Bse} {io : Bool} {D : Ends} {σ : L2.St} {H : Hp}
theorem tS.ext {i : Nat} {e : CE} (h : tS C call W B io (.ext i e) D σ H) : tDrop (tBM C.fr.fr "list" (rExtA C.fr.fr) (tVar i) (t1 (tE C call W e))) D σ H := by
  obtain ⟨ρ, S, R, F, k⟩ := h
  simp only [evS] at k
  split at k
  · exact k.elim
  rename_i hm
  obtain ⟨p0, e0⟩ := isMy_some hm
  obtain ⟨a, zs, ea, eb⟩ := my_addr R e0
  refine ⟨.ref a, ea, .inl ⟨rfl, zs, .inl (.inl eb)⟩, ρ, S, R, k.s.imp (fun v ρ1 k x H1 T R1 st1 b1 v1 _ => ?_) fun _ _ _ z => ex_of F z⟩
  obtain ⟨Sk, Rk, Fk, iv, _⟩ := keep_ok R F R1 st1 b1 v1
  split at k
  case h_2 => exact k.elim
  rename_i ds ys e1 hy
  by_cases hl : ds.length + ys.length ≤ big
  case neg => rw [if_neg hl] at k; exact k.elim
  rw [if_pos hl] at k
  obtain ⟨a', ea', nsa, rr⟩ := Rk.my i _ _ e1 rfl rfl
  obtain ⟨xs, q2, r⟩ := rr.invL
  rw [ea] at ea'; cases ea'
  have own1 : Own σ (keep ρ1 (al e) v.2) i a := ⟨_, e1, rfl, ea⟩
  have src : ∃ b ws, x = .ref b ∧ (Rd H1 b (.lst ws) ∨ SqT C.fr.fr H1 b ws) ∧ RepL C.fr H1 Sk ys ws := by
    obtain ⟨fr, p⟩ := v
    unfold InV at iv
    simp only at iv hy
    split at iv
    · obtain ⟨t, e4, _, _, rt⟩ := iv
      cases p with
      | list es =>
        cases hy
        obtain ⟨ws, q, r⟩ := rt.invL
        exact ⟨t, ws, e4, .inl (.inl q), r⟩
      | dict _ => cases hy
      | tuple _ => obtain ⟨_, o, _, _, r⟩ := rt; cases o <;> exact r.elim
      | _ => cases hy
    · cases p with
      | list es =>
        cases hy
        obtain ⟨b, ws, e5, _, q, r⟩ := iv
        exact ⟨b, ws, e5, .inl q, r⟩
      | tuple es =>
        cases hy
        obtain ⟨b, ws, e5, q, r⟩ := iv
        exact ⟨b, ws, e5, .inr q, r⟩
      | _ => cases hy
  obtain ⟨b, ws, ex, hb, rw'⟩ := src
  refine ⟨a, b, xs, ws, rfl, by rw [ex], q2, hb, by rw [← r.length, ← rw'.length]; exact big_line hl, ?_⟩
  have noown : ∀ b, Sk b → ∀ j, ¬ Own σ (keep ρ1 (al e) v.2) j b := fun b z j o => (Rk.own o).1 z
  have kp : ∀ b o, H1 b = some o → ¬ b = a → upd H1 a (.lst (xs ++ ws)) b = some o := fun b o e q => by rw [upd_ne q]; exact e
  have thk : ∀ b o, H1 b = some o → ∃ o', upd H1 a (.lst (xs ++ ws)) b = some o' := fun b o q => if n : b = a then ⟨.lst (xs ++ ws), by rw [n]; exact upd_same⟩ else ⟨o, kp b o q n⟩
  have kk2 : ∀ b o, H1 b = some o → NT o → (Sk b ∨ NL o) → upd H1 a (.lst (xs ++ ws)) b = some o := fun b o e _ z => kp b o e fun q => by
    subst q
    rcases z with z | z
    · exact noown _ z i own1
    · rw [q2] at e; cases e; exact z trivial
  have R3 := Rk.setBut (fs := fun b => b = a) (H' := upd H1 a (.lst (xs ++ ws))) (p' := .list (ds ++ ys)) e1 ea (fun b o e _ n => kp b o e n) thk (tabs_mv Rk.tab fun b o q n => kp b o q fun z => by rw [z, q2] at q; cases q; exact n trivial) (fun t z q => noown t q i (z ▸ own1)) (fun t j z _ => z) (fun t o z e => by
    rw [z, q2] at e; cases e
    trivial) (Root.mkL upd_same ((r.append rw').stay kk2 fun _ z => z))
  have ao := Fk.ow i a own1
  refine k σ _ Sk R3 ⟨fun b o e t n => kp b o (Fk.kept b o e t n) fun z => ?_, fun b o e => (Fk.th b o e).elim fun o' e' => thk b o' e', Fk.sb, fun j b o => Fk.ow j b ((chg_set e1).own.mp o), Fk.io, Fk.ld, fun b o l e t => kp b o (Fk.pl b o l e t) fun z => Fk.nl i a ⟨_, e1, ea⟩ (z ▸ l), fun j b o => Fk.nl j b ((chg_set e1).ownM.mp o), fun j p e => ?_, Fk.s0⟩
  · rcases ao with h | h
    · rw [z, h] at e; cases e
    · exact n (z ▸ h)
  · rcases (chg_set (q := .list (ds ++ ys)) e1).in_ j with h | ⟨_, _, _, h⟩
    · exact Fk.lks j p (h ▸ e)
    · rw [h] at e; cases e
end
end PyC
end

section
set_option maxHeartbeats 200000
namespace PyC
open PySem PySem.Spec L2
section
variable {C : RK} {call : CallT} {W : WX} {B : Bse} {io : Bool} {σ σ1 : L2.St} {H H1 : Hp} {S S1 T : AS} {ρ ρ1 : Rho} {D : Ends} {ms as : List Nat} {Q : VK}
section
variable (C : RK) (call : CallT) (W : WX) (B : Bse) (io : Bool) (as : List Nat)
/-- what is handed back by e -/
def tRE (e : CE) : TE := fun σ H Q => ∃ ρ S, RepS C H S σ ρ ∧ Frm B H S σ ρ ∧ Res (evR call e ρ) (fun v ρ' => (¬ (io && as.contains 0 && !flatD v.2) = true) ∧ ∀ x H', RtR C B v.1 v.2 ρ' x H' → Q x H') (kEx C W B)
end
theorem tS.ret {e : CE} (h : tS C call W B io (.ret e) D σ H) : tRet (tRE C call W B io (al e) e) D σ H := by
  obtain ⟨ρ, S, R, F, k⟩ := h
  simp only [evS] at k
  refine ⟨ρ, S, R, F, k.s.imp (fun v ρ1 k => ?_) fun _ _ _ z => z⟩
  by_cases n : (io && (al e).contains 0 && !flatD v.2) = true
  · rw [if_pos n] at k; exact k.elim
  · rw [if_neg n] at k; exact ⟨n, k⟩
/-- the in-out parameter at the end -/
theorem io_end (R : RepS C H S σ ρ) (F : Frm B H S σ ρ) (nT : ∀ t, OwnM σ ρ 0 t → ¬ T t) {x : V} {fr : Bool} (nx : fr = true → ∀ t, OwnM σ ρ 0 t → x ≠ .ref t) : ∀ t, B.io = some t → ∀ ys, ρ[0]? = some (.my (.list ys)) → flatL ys = true → Root C.fr H (fun _ => False) (.list ys) t ∧ ¬ T t ∧ (fr = true → x ≠ .ref t) := fun t ht ys hy fy => by
  obtain ⟨a, h1, h2, rr⟩ := R.my 0 _ _ hy rfl rfl
  obtain ⟨xs, q, r⟩ := rr.invL
  have := F.io t ht
  rw [h1] at this; cases this
  have o : OwnM σ ρ 0 t := ⟨_, hy, h1⟩
  exact ⟨Root.mkL q (r.flat fy), nT t o, fun hb => nx hb t o⟩
theorem tRE.var {i : Nat} (h : tRE C call W B io as (.var i) σ H Q) : tVar i σ H Q := by
  obtain ⟨ρ, S, R, F, k⟩ := h
  simp only [evR] at k
  cases e : ρ[i]? with
  | none => rw [e] at k; exact k.elim
  | some s =>
    rw [e] at k
    cases s with
    | un => exact k.elim
    | ex c ps => exact k.elim
    | fz p =>
      obtain ⟨v, h1, h2⟩ := R.fz i p e
      refine ⟨v, h1, ?_⟩
      exact k.ok.2 v H ⟨S, F.sb, R.dom, F.kept, F.th, R.tab, by unfold RetV; rw [if_neg (by simp)]; exact h2, io_end R F (fun t o => (R.own o.own).1) fun z => by cases z⟩
    | my p =>
      obtain ⟨a, h1, h2, h3⟩ := R.my i _ p e rfl rfl
      have om : OwnM σ ρ i a := ⟨p, e, h1⟩
      refine ⟨.ref a, h1, k.ok.2 (.ref a) H ⟨S, F.sb, R.dom, F.kept, F.th, R.tab, ?_, fun t ht ys hy fy => ?_⟩⟩
      · unfold RetV; rw [if_pos rfl]
        exact ⟨a, rfl, F.ow i a om.own, h2, h3⟩
      · have hi : i ≠ 0 := fun z => by
          subst z
          rw [List.getElem?_set_self (List.getElem?_eq_some_iff.mp e).1] at hy
          cases hy
        rw [List.getElem?_set_ne hi] at hy
        exact io_end (x := .ref a) (fr := true) R F (fun t o => (R.own o.own).1) (fun _ t o z => by cases z; exact hi (R.sep i 0 a om.own o.own)) t ht ys hy fy
    | lk p =>
      obtain ⟨a, h1, h2, h3⟩ := R.my i _ p e rfl rfl
      have o1 : Own σ ρ i a := ⟨_, e, rfl, h1⟩
      refine ⟨.ref a, h1, k.ok.2 (.ref a) H ⟨fun b => S b ∨ b = a, fun b z => ?_, fun b z => ?_, F.kept, F.th, R.tab, ?_, io_end R F (fun t o z => ?_) fun z => by cases z⟩⟩
      · exact z.elim (F.sb b) fun y => .inr (y ▸ F.ow i a o1)
      · rcases z with z | z
        · exact R.dom b z
        · obtain ⟨ds, xs, _, q, _⟩ := h3
          exact ⟨_, z ▸ q⟩
      · unfold RetV; rw [if_neg (by simp)]
        exact h3.rep (fun _ z => .inl z) (.inr rfl)
      · rcases z with z | z
        · exact (R.own o.own).1 z
        · have := R.sep 0 i a (z ▸ o.own) o1
          subst this
          obtain ⟨q, q1, _⟩ := o
          rw [e] at q1; cases q1
theorem tRE.ite {c a b : CE} (h : tRE C call W B io as (.ifE c a b) σ H Q) : tIf (tB (tE C call W c)) (tRE C call W B io as a) (tRE C call W B io as b) σ H Q := by
  obtain ⟨ρ, S, R, F, k⟩ := h
  simp only [evR, evB] at k
  refine ⟨ρ, S, R, k.bind.bind.imp (fun v ρ1 k x H1 T R1 st1 b1 v1 _ => ?_) fun _ _ _ z => ex_of F z⟩
  split at k
  · rename_i kb e0
    refine ⟨kb, v1.bool e0, ?_⟩
    have k := k.ok
    cases kb
    · dsimp only
      rw [if_neg (by simp)] at k ⊢
      exact ⟨ρ1, S, R1, F.step st1, k⟩
    · dsimp only
      rw [if_pos rfl] at k ⊢
      exact ⟨ρ1, S, R1, F.step st1, k⟩
  · exact k.elim
theorem tRE.other {e : CE} (h : tRE C call W B io as e σ H Q) (he : ∀ ρ, evR call e ρ = evE call e ρ) (nv : e.isVar = false) (hal : ∀ i ∈ al e, i ∈ as) (hio : B.io ≠ none → io = true) : tE C call W e σ H Q := by
  obtain ⟨ρ, S, R, F, k⟩ := h
  rw [he] at k
  refine ⟨ρ, S, R, k.imp (fun v ρ1 ⟨hc, k⟩ x H1 T R1 st1 b1 v1 _ => ?_) fun _ _ _ z => ex_of F z⟩
  have F1 := F.step st1
  by_cases hf : flatD v.2 = true
  · refine k x H1 ⟨fun _ => False, fun _ z => z.elim, fun _ z => z.elim, F1.kept, F1.th, R1.tab, ?_, io_end R1 F1 (fun t o z => z) fun hb t o => ?_⟩
    · unfold Val at v1
      unfold RetV
      split at v1
      · obtain ⟨t, _, _, _, r⟩ := v1
        rw [r.flatF] at hf; cases hf
      · rename_i hb
        rw [if_neg hb]
        exact v1.flat hf
    · unfold Val at v1
      rw [if_pos hb] at v1
      obtain ⟨t, _, _, _, r⟩ := v1
      rw [r.flatF] at hf; cases hf
  · have h0 : ∀ t, B.io = some t → 0 ∉ al e := fun t ht z => by
      refine hc ?_
      rw [hio (by rw [ht]; simp)]
      have : as.contains 0 = true := List.contains_iff_mem.mpr (hal 0 z)
      rw [this]
      simpa using hf
    have nT : ∀ t, B.io = some t → OwnM σ ρ1 0 t → ¬ T t := fun t ht o z => by
      have o0 := st1.chg.own.mp o.own
      rcases b1.bd t z with z | ⟨j, hj, z⟩ | z
      · exact (R.own o0).1 z
      · have := R.sep j 0 t z o0
        subst this
        exact h0 t ht hj
      · obtain ⟨_, p, _, zs, _, q, _⟩ := R.own o0
        rw [z] at q; cases q
    refine k x H1 ⟨T, F.bd b1, b1.dm, F1.kept, F1.th, R1.tab, ?_, fun t ht ys hy fy => ?_⟩
    · unfold Val at v1
      unfold RetV
      split at v1
      · rename_i hb
        rw [if_pos hb]
        obtain ⟨t, e1, n, nt, r⟩ := v1
        exact ⟨t, e1, F.none_ n, nt, r⟩
      · rename_i hb
        rw [if_neg hb]
        exact v1
    · obtain ⟨a, h1, h2, rr⟩ := R1.my 0 _ _ hy rfl rfl
      obtain ⟨xs, q, r⟩ := rr.invL
      have h1' := F1.io t ht
      rw [h1] at h1'; cases h1'
      have o : OwnM σ ρ1 0 t := ⟨_, hy, h1⟩
      refine ⟨Root.mkL q (r.flat fy), nT t ht o, fun hb z => ?_⟩
      unfold Val at v1
      rw [if_pos hb] at v1
      obtain ⟨t', e1, n, _⟩ := v1
      rw [z] at e1; cases e1
      obtain ⟨_, p, _, zs, _, q, _⟩ := R.own (st1.chg.own.mp o.own)
      rw [n] at q; cases q
/-! while -/
theorem SRes.loop {o : SOut} {g : Rho → SOut} {K : K4} (h : SRes (match o with
      | .nx ρ => g ρ
      | .bk ρ => .nx ρ
      | o => o) K) : SRes o ⟨fun ρ => SRes (g ρ) K, K.nx, K.rt, K.ex⟩ := by
  cases o with
  | nx ρ => exact h
  | stuck => exact h
  | bk ρ => exact h
  | rt fr p ρ => exact h
  | ex c ps ρ => exact h
theorem tS.whl {c : CE} {b : CS} (h : tS C call W B io (.whl c b) D σ H) : tWhile (tB (tE C call W c)) (tS C call W B io b) D σ H := by
  obtain ⟨ρ, S, R, F, k⟩ := h
  simp only [evS] at k
  let Wm : Nat → L2.St → Hp → Prop := fun m σ H => ∃ ρ S, RepS C H S σ ρ ∧ Frm B H S σ ρ ∧ SRes (whlF (evB call c) (evS call io b) m ρ) (kS C W B D)
  refine ⟨Wm, ⟨turns, ρ, S, R, F, k⟩, fun m σ H ⟨ρ, S, R, F, k⟩ => ?_⟩
  cases m with
  | zero => exact k.elim
  | succ m =>
    simp only [whlF, evB] at k
    refine ⟨ρ, S, R, k.s.bind.imp (fun v ρ1 k x H1 T R1 st1 b1 v1 _ => ?_) fun _ _ _ z => ex_of F z⟩
    split at k
    · rename_i kb e0
      refine ⟨kb, v1.bool e0, ?_⟩
      have k := k.ok
      cases kb
      · dsimp only
        rw [if_neg (by simp)] at k ⊢
        exact k σ H1 S R1 (F.step st1)
      · dsimp only
        rw [if_pos rfl] at k ⊢
        exact ⟨Wm m, fun σ' H' z => ⟨m, Nat.lt_succ_self m, z⟩, ρ1, S, R1, F.step st1, k.loop.imp (fun ρ' k σ' H' S' R' F' => ⟨ρ', S', R', F', k⟩) (fun _ z => z) (fun _ _ _ z => z) fun _ _ _ z => z⟩
    · exact k.elim
end
end PyC
end

section
set_option maxHeartbeats 200000
namespace PyC
open PySem PySem.Spec L2
section
variable {C : RK} {call : CallT} {W : WX} {B : Bse} {io : Bool} {σ σ1 : L2.St} {H H1 : Hp} {S S1 T : AS} {ρ ρ1 : Rho} {D : Ends} {ms as : List Nat} {Q : VK}
/-- a statement, from wherever its frame or loop began -/
def tSx (C : RK) (call : CallT) (W : WX) (io : Bool) (st : CS) : TS := fun D σ H => ∃ B : Bse, (B.io ≠ none → io = true) ∧ tS C call W B io st D σ H
theorem lock2 (s : Slot) : s.lock.lock = s.lock := by cases s <;> rfl
theorem unlock2 (s : Slot) : s.unlock.unlock = s.unlock := by cases s <;> rfl
theorem lockAll_get {ρ : Rho} {i : Nat} : ∀ {as : List Nat}, (lockAll ρ as)[i]? = if i ∈ as then ρ[i]?.map Slot.lock else ρ[i]?
  | [] => by simp [lockAll]
  | j :: as => by
    unfold lockAll
    rw [at_get, lockAll_get]
    by_cases h : j = i
    · subst h
      rw [if_pos rfl, if_pos (List.mem_cons_self ..)]
      by_cases hm : j ∈ as
      · rw [if_pos hm]
        cases ρ[j]? with
        | none => rfl
        | some s => exact congrArg some (lock2 s)
      · rw [if_neg hm]
    · rw [if_neg h]
      by_cases hm : i ∈ as
      · rw [if_pos hm, if_pos (List.mem_cons_of_mem _ hm)]
      · rw [if_neg hm, if_neg (fun z => (List.mem_cons.mp z).elim (fun q => h q.symm) hm)]
theorem unlockAll_get {ρ : Rho} {i : Nat} : ∀ {as : List Nat}, (unlockAll ρ as)[i]? = if i ∈ as then ρ[i]?.map Slot.unlock else ρ[i]?
  | [] => by simp [unlockAll]
  | j :: as => by
    unfold unlockAll
    rw [at_get, unlockAll_get]
    by_cases h : j = i
    · subst h
      rw [if_pos rfl, if_pos (List.mem_cons_self ..)]
      by_cases hm : j ∈ as
      · rw [if_pos hm]
        cases ρ[j]? with
        | none => rfl
        | some s => exact congrArg some (unlock2 s)
      · rw [if_neg hm]
    · rw [if_neg h]
      by_cases hm : i ∈ as
      · rw [if_pos hm, if_pos (List.mem_cons_of_mem _ hm)]
      · rw [if_neg hm, if_neg (fun z => (List.mem_cons.mp z).elim (fun q => h q.symm) hm)]
theorem lockAll_len {ρ : Rho} : ∀ {as : List Nat}, (lockAll ρ as).length = ρ.length
  | [] => rfl
  | j :: as => by unfold lockAll at_; rw [List.length_modify, lockAll_len]
theorem unlockAll_len {ρ : Rho} : ∀ {as : List Nat}, (unlockAll ρ as).length = ρ.length
  | [] => rfl
  | j :: as => by unfold unlockAll at_; rw [List.length_modify, unlockAll_len]
/-- flags that say whether a slot's own object may be changed -/
structure Flag (ρ ρ' : Rho) : Prop where
  len : ρ'.length = ρ.length
  at_ : ∀ i : Nat, ρ'[i]? = ρ[i]? ∨ (∃ p, ρ[i]? = some (.my p) ∧ ρ'[i]? = some (.lk p)) ∨ ∃ p, ρ[i]? = some (.lk p) ∧ ρ'[i]? = some (.my p)
theorem Flag.symm {ρ ρ' : Rho} (f : Flag ρ ρ') : Flag ρ' ρ := ⟨f.len.symm, fun i => by
  rcases f.at_ i with h | ⟨p, h1, h2⟩ | ⟨p, h1, h2⟩
  · exact .inl h.symm
  · exact .inr (.inr ⟨p, h2, h1⟩)
  · exact .inr (.inl ⟨p, h2, h1⟩)⟩
theorem Flag.own1 {ρ ρ' : Rho} (f : Flag ρ ρ') {i : Nat} {a : Addr} (o : Own σ ρ' i a) : Own σ ρ i a := by
  obtain ⟨s, h1, h2, h3⟩ := o
  rcases f.at_ i with h | ⟨p, e1, e2⟩ | ⟨p, e1, e2⟩
  · exact ⟨s, h ▸ h1, h2, h3⟩
  · exact ⟨_, e1, rfl, h3⟩
  · exact ⟨_, e1, rfl, h3⟩
theorem RepS.flag {ρ' : Rho} (R : RepS C H S σ ρ) (f : Flag ρ ρ') : RepS C H S σ ρ' := by
  refine ⟨by rw [f.len]; exact R.len, fun i p e => ?_, fun i s p e m v => ?_, fun i j a h1 h2 => R.sep i j a (f.own1 h1) (f.own1 h2), R.dom, R.tab, fun i c ps e => ?_⟩
  · rcases f.at_ i with h | ⟨q, e1, e2⟩ | ⟨q, e1, e2⟩
    · exact R.fz i p (h ▸ e)
    · rw [e] at e2; cases e2
    · rw [e] at e2; cases e2
  · rcases f.at_ i with h | ⟨q, e1, e2⟩ | ⟨q, e1, e2⟩
    · exact R.my i s p (h ▸ e) m v
    · rw [e] at e2; cases e2; exact R.my i _ p e1 rfl v
    · rw [e] at e2; cases e2; exact R.my i _ p e1 rfl v
  · rcases f.at_ i with h | ⟨q, e1, e2⟩ | ⟨q, e1, e2⟩
    · exact R.exq i c ps (h ▸ e)
    · rw [e] at e2; cases e2
    · rw [e] at e2; cases e2
theorem flag_lock {ρ : Rho} {as : List Nat} : Flag ρ (lockAll ρ as) := ⟨lockAll_len, fun i => by
  rw [lockAll_get]
  split
  · cases e : ρ[i]? with
    | none => exact .inl rfl
    | some s =>
      cases s with
      | my p => exact .inr (.inl ⟨p, rfl, rfl⟩)
      | _ => exact .inl rfl
  · exact .inl rfl⟩
theorem flag_unlock {ρ : Rho} {as : List Nat} : Flag ρ (unlockAll ρ as) := ⟨unlockAll_len, fun i => by
  rw [unlockAll_get]
  split
  · cases e : ρ[i]? with
    | none => exact .inl rfl
    | some s =>
      cases s with
      | lk p => exact .inr (.inr ⟨p, rfl, rfl⟩)
      | _ => exact .inl rfl
  · exact .inl rfl⟩
theorem mem_free {is : List Nat} {i : Nat} : i ∈ free ρ is ↔ i ∈ is ∧ ∃ p, ρ[i]? = some (.my p) := by
  unfold free
  rw [List.mem_filter]
  constructor
  · rintro ⟨h1, h2⟩
    refine ⟨h1, ?_⟩
    split at h2
    · rename_i p e; exact ⟨p, e⟩
    · cases h2
  · rintro ⟨h1, p, h2⟩
    exact ⟨h1, by rw [h2]⟩
/-- the loop's own beginning -/
def Bse.loop (B : Bse) (H1 : Hp) (Sk : AS) (σ : L2.St) (ρk : Rho) (fs : List Nat) (P : Addr → Prop) : Bse :=
  ⟨H1, fun a => ∃ i, Own σ ρk i a, Sk, B.io, fun a => P a ∨ B.L a, fun i a => (∃ p, (lockAll ρk fs)[i]? = some (.lk p)) ∧ σ[i]? = some (some (.ref a))⟩
section
variable {Sk : AS} {ρk : Rho} {fs : List Nat} {P : Addr → Prop}
theorem Frm.loop (Rk : RepS C H1 Sk σ ρk) (F : Frm B H1 Sk σ ρk) (pd : ∀ a, P a → ∃ o, H1 a = some o) (np : ∀ i a, OwnM σ (lockAll ρk fs) i a → ¬ P a) : Frm (B.loop H1 Sk σ ρk fs P) H1 Sk σ (lockAll ρk fs) := by
  refine ⟨fun _ _ e _ _ => e, fun _ o e => ⟨o, e⟩, fun _ z => .inl z, fun i a o => .inr ⟨i, flag_lock.own1 o⟩, F.io, fun a z => z.elim (pd a) fun y => ?_, fun _ _ _ e _ => e, fun i a o z => ?_, fun i p e => ?_, fun _ z => z⟩
  · obtain ⟨o, q⟩ := F.ld a y
    exact F.th a o q
  · rcases z with z | z
    · exact np i a o z
    · obtain ⟨p, h1, h2⟩ := o
      refine F.nl i a ⟨p, ?_, h2⟩ z
      rw [lockAll_get] at h1
      split at h1
      · cases q : ρk[i]? with
        | none => rw [q] at h1; cases h1
        | some s => rw [q] at h1; cases s <;> cases h1
      · exact h1
  · obtain ⟨a, h1, _⟩ := (Rk.flag (flag_lock (as := fs))).my i _ p e rfl rfl
    exact ⟨a, h1, ⟨p, e⟩, h1⟩
theorem loop_in (F : Frm B H1 Sk σ ρk) {a : Addr} (z : (B.loop H1 Sk σ ρk fs P).In a) : B.In a := by
  rcases z with z | z | ⟨i, z⟩
  · exact F.sb a z
  · exact .inr (F.none_ z)
  · exact .inr (F.ow i a z)
theorem loop_kept (F : Frm B H1 Sk σ ρk) {H' : Hp} (k : ∀ a o, H1 a = some o → NT o → ¬ (∃ i, Own σ ρk i a) → H' a = some o) : ∀ a o, B.H0 a = some o → NT o → ¬ B.R0 a → H' a = some o := fun a o e t n => k a o (F.kept a o e t n) t fun ⟨i, z⟩ => F.free e n i z
theorem loop_th (F : Frm B H1 Sk σ ρk) {H' : Hp} (k : ∀ a o, H1 a = some o → ∃ o', H' a = some o') : ∀ a o, B.H0 a = some o → ∃ o', H' a = some o' := fun a o e => (F.th a o e).elim fun o' e' => k a o' e'
/-- behind the loop -/
theorem Frm.unloop {σ' : L2.St} {ρ' : Rho} {H' : Hp} {S' : AS} (F : Frm B H1 Sk σ ρk) (hfs : ∀ i ∈ fs, ∃ p, ρk[i]? = some (.my p)) (F' : Frm (B.loop H1 Sk σ ρk fs P) H' S' σ' ρ') : Frm B H' S' σ' (unlockAll ρ' fs) := by
  refine ⟨loop_kept F F'.kept, loop_th F F'.th, fun a z => loop_in F (F'.sb a z), fun i a o => ?_, F'.io, F.ld, fun a o l e t => F'.pl a o (.inr l) (F.pl a o l e t) t, fun i a ⟨p, h1, h2⟩ l => ?_, fun i p h1 => ?_, fun a z => F'.s0 a (F.s0 a z)⟩
  · rcases F'.ow i a (flag_unlock.own1 o) with z | ⟨j, z⟩
    · exact F.none_ z
    · exact F.ow j a z
  · rw [unlockAll_get] at h1
    have two : ∀ q, ρ'[i]? = some (.my q) → False := fun q e => F'.nl i a ⟨q, e, h2⟩ (.inr l)
    split at h1
    · rename_i hi
      cases e : ρ'[i]? with
      | none => rw [e] at h1; cases h1
      | some s =>
        rw [e] at h1
        cases s with
        | my q => exact two q e
        | lk q =>
          obtain ⟨a', e1, _, e2⟩ := F'.lks i q e
          rw [h2] at e1; cases e1
          obtain ⟨pk, hk⟩ := hfs i hi
          exact F.nl i a ⟨pk, hk, e2⟩ l
        | _ => cases h1
    · exact two p h1
  · rw [unlockAll_get] at h1
    split at h1
    · cases e : ρ'[i]? with
      | none => rw [e] at h1; cases h1
      | some s => rw [e] at h1; cases s <;> cases h1
    · rename_i hi
      obtain ⟨a, e1, ⟨q, e2⟩, e3⟩ := F'.lks i p h1
      rw [lockAll_get, if_neg hi] at e2
      obtain ⟨a', e4, e5⟩ := F.lks i q e2
      rw [e3] at e4; cases e4
      exact ⟨a, e1, e5⟩
theorem RtR.unloop {fr : Bool} {p : PyData} {ρ' : Rho} {x : V} {H' : Hp} (F : Frm B H1 Sk σ ρk) (r : RtR C (B.loop H1 Sk σ ρk fs P) fr p ρ' x H') : RtR C B fr p ρ' x H' := by
  obtain ⟨T, h1, h2, h3, hth, htb, h4, h5⟩ := r
  refine ⟨T, fun a z => loop_in F (h1 a z), h2, loop_kept F h3, loop_th F hth, htb, ?_, h5⟩
  unfold RetV at h4 ⊢
  split at h4
  · rename_i hb
    rw [if_pos hb]
    obtain ⟨t, e, hn, q⟩ := h4
    refine ⟨t, e, ?_, q⟩
    rcases hn with z | ⟨i, z⟩
    · exact F.none_ z
    · exact F.ow i t z
  · rename_i hb
    rw [if_neg hb]
    exact h4
end
theorem SRes.unl {o : SOut} {fs : List Nat} {K : K4} (h : SRes (o.unl fs) K) : SRes o ⟨fun ρ => K.nx (unlockAll ρ fs), K.bk, K.rt, fun c ps ρ => K.ex c ps (unlockAll ρ fs)⟩ := by
  cases o with
  | nx ρ => exact h
  | stuck => exact h
  | bk ρ => exact h
  | rt fr p ρ => exact h
  | ex c ps ρ => exact h
theorem tS.for_ {t : Tg} {it : IT} {b : CS} (h : tS C call W B io (.for_ t it b) D σ H) (h0 : B.io ≠ none → 0 ∉ tgs t) (hio : B.io ≠ none → io = true) {wi : TI} (hwi : ∀ R, tIT C call W it σ H R → wi σ H R) :
    tFor wi (gT C call t) (tSx C call W io b) D σ H := by
  obtain ⟨ρ, S, R, F, k⟩ := h
  simp only [evS] at k
  refine hwi _ ⟨ρ, S, R, k.s.imp (fun xs ρ1 k J H1 T P R1 st1 bT bP wk nf => ?_) fun _ _ _ z => ex_of F z⟩
  obtain ⟨Sk, Rk, Fk, sub, tk⟩ := keep_core (p := .tuple xs) R F R1 st1 bT
  have flat : flatD (.tuple xs) = flatL xs := rfl
  rw [flat] at tk
  have ownk : ∀ i a, Own σ (keep ρ1 (alIT it) (.tuple xs)) i a → Own σ ρ i a := fun i a o => by
    refine st1.chg.own.mp ?_
    obtain ⟨s, h1, h2, h3⟩ := o
    unfold keep at h1
    split at h1
    · split at h1
      · exact ⟨s, h1, h2, h3⟩
      · rw [freezeAll_get] at h1
        split at h1
        · cases q : ρ1[i]? with
          | none => rw [q] at h1; cases h1
          | some s0 =>
            rw [q] at h1
            cases h1
            cases s0 <;> cases h2
        · exact ⟨s, h1, h2, h3⟩
    · exact ⟨s, h1, h2, h3⟩
  generalize keep ρ1 (alIT it) (.tuple xs) = ρk at Rk Fk ownk k
  have hfs : ∀ i ∈ free ρk (walks it), ∃ p, ρk[i]? = some (.my p) := fun i hi => (mem_free.mp hi).2
  have tS' : ∀ a, T a → Sk a := fun a z => by
    cases q : flatL xs
    · exact tk q a z
    · exact (nf q a z).elim
  let P' : Addr → Prop := fun a => P a ∨ T a
  have pd : ∀ a, P' a → ∃ o, H1 a = some o := fun a z => z.elim (bP.dm a) (bT.dm a)
  have np : ∀ i a, OwnM σ (lockAll ρk (free ρk (walks it))) i a → ¬ P' a := fun i a o z => by
    have ok := flag_lock.own1 o.own
    rcases z with z | z
    · rcases bP.bd a z with z | ⟨j, hj, z⟩ | z
      · exact (R.own (ownk i a ok)).1 z
      · have := R.sep j i a z (ownk i a ok)
        subst this
        obtain ⟨p, h1, h2⟩ := o
        rw [lockAll_get] at h1
        split at h1
        · cases q : ρk[j]? with
          | none => rw [q] at h1; cases h1
          | some s => rw [q] at h1; cases s <;> cases h1
        · rename_i hn
          exact hn (mem_free.mpr ⟨hj, p, h1⟩)
      · obtain ⟨_, p, _, zs, _, q, _⟩ := R.own (ownk i a ok)
        rw [z] at q; cases q
    · exact (Rk.own ok).1 (tS' a z)
  have FL := Frm.loop (fs := free ρk (walks it)) Rk Fk pd np
  have RL : RepS C H1 Sk σ (lockAll ρk (free ρk (walks it))) := Rk.flag flag_lock
  generalize free ρk (walks it) = fs at hfs np FL RL k
  let B' := B.loop H1 Sk σ ρk fs P'
  -- behind the loop
  have exit : ∀ {N : L2.St → Hp → Prop} {ρ' : Rho}, kNx C B N (unlockAll ρ' fs) → kNx C B' N ρ' := fun {N ρ'} z σ' H' S' R' F' => z σ' H' S' (R'.flag flag_unlock) (Fk.unloop hfs F')
  have exitX : ∀ {c ps} {ρ' : Rho}, kEx C W B c ps (unlockAll ρ' fs) → kEx C W B' c ps ρ' := fun {c ps ρ'} z cls d σ' H' S' T' R' F' h1 h2 h3 => z cls d σ' H' S' T' (R'.flag flag_unlock) (Fk.unloop hfs F') (fun a y => loop_in Fk (h1 a y)) h2 h3
  let KL : K4 := ⟨fun ρ => kNx C B D.nx (unlockAll ρ fs), (kS C W B D).bk, (kS C W B D).rt, fun c ps ρ => kEx C W B c ps (unlockAll ρ fs)⟩
  let f : PyData → Rho → SOut := fun x ρ => (asgT call t (false, x) ρ).calm.s fun _ ρ => evS call io b ρ
  let Wt : Nat → Nat → L2.St → Hp → Prop := fun i m σ' H' => m = xs.length - i ∧ i ≤ xs.length ∧ ∃ ρ' S', RepS C H' S' σ' ρ' ∧ Frm B' H' S' σ' ρ' ∧ SRes (forL f (xs.drop i) ρ') KL
  refine ⟨Wt, ⟨xs.length, by simp, Nat.zero_le _, _, Sk, RL, FL, by rw [List.drop_zero]; exact k.unl⟩, fun i m σ' H' ⟨em, hle, ρ', S', R', F', kk⟩ => ?_⟩
  have held : Held H1 H' P T := fun a o e t z => by
    rcases z with z | z | z
    · exact F'.pl a o (.inl (.inl z)) e t
    · exact F'.pl a o (.inl (.inr z)) e t
    · by_cases q : ∃ i, Own σ ρk i a
      · obtain ⟨i, q⟩ := q
        obtain ⟨_, p, _, zs, mo, e2, _⟩ := Rk.own q
        rw [e] at e2; cases e2; exact (z mo).elim
      · exact F'.kept a o e t q
  obtain ⟨w1, w2⟩ := wk.step H' held i
  by_cases hlt : i < xs.length
  · obtain ⟨hgo, hy⟩ := w1 xs[i] (List.getElem?_eq_getElem hlt)
    refine .inr ⟨hgo, Wt (i + 1) (xs.length - (i + 1)), fun σ2 H2 z => ⟨xs.length - (i + 1), by omega, z⟩, fun x H'' yl => ?_⟩
    obtain ⟨kp, rx⟩ := hy x H'' yl
    rw [List.drop_eq_getElem_cons hlt] at kk
    simp only [forL] at kk
    have k2 := kk.loop
    have rx' : Rep C.fr H'' S' xs[i] x := rx.wk fun a z => F'.s0 a (tS' a z)
    have F2 : Frm B' H'' S' σ' ρ' := F'.step (ms := []) (Stp.refl.ext kp)
    refine ⟨ρ', S', (false, xs[i]), R'.ext kp, by unfold InV; rw [if_neg (by simp)]; exact rx', k2.s.calm.imp (fun _ ρ2 k3 σ2 H2 S2 R2 p2 => ?_) fun _ _ _ z => z⟩
    have F3 := F2.post p2 (fun a z => by cases z.1) h0
    refine ⟨B', hio, ρ2, S2, R2, F3, k3.imp (fun ρ3 z σ3 H3 S3 R3 F3 => ⟨rfl, hlt, ρ3, S3, R3, F3, z⟩) (fun ρ3 z => exit z) (fun fr p ρ3 z x H3 r => z x H3 (r.unloop Fk)) fun c ps ρ3 z => exitX z⟩
  · have ei : i = xs.length := by omega
    subst ei
    rw [List.drop_length] at kk
    exact .inl ⟨w2 rfl, exit (show kNx C B D.nx (unlockAll ρ' fs) from kk) σ' H' S' R' F'⟩
end
end PyC
end

section
set_option maxHeartbeats 200000
namespace PyC
open PySem PySem.Spec L2
section
variable {C : RK} {call : CallT} {W : WX} {B : Bse} {io : Bool} {σ σ1 : L2.St} {H H1 : Hp} {S S1 T : AS} {ρ ρ1 : Rho} {D : Ends} {ms as : List Nat} {Q : VK}
/-- values that wait to be kept -/
def Pend (C : RK) (B : Bse) (H : Hp) (S : AS) (σ : L2.St) (ρ : Rho) (T : AS) : CEs → List (Bool × PyData) → List V → Prop
  | .nil, [], [] => True
  | .cons e es, v :: vs, x :: xs => (∃ T1 : AS, (∀ a, T1 a → T a) ∧ (∀ a, T1 a → S a ∨ Owns σ ρ (al e) a ∨ ((∀ i, ¬ Own σ ρ i a) ∧ B.In a)) ∧ (∀ a, T1 a → ∃ o, H a = some o) ∧
      (if v.1 = true then ∃ t, x = .ref t ∧ ¬ S t ∧ ¬ T t ∧ (∀ i, ¬ Own σ ρ i t) ∧ Root C.fr H T1 v.2 t else Rep C.fr H T1 v.2 x)) ∧ Pend C B H S σ ρ T es vs xs
  | _, _, _ => False
/-- values at hand -/
def InVL (C : RK) (H : Hp) (S : AS) (σ : L2.St) (ρ : Rho) : List (Bool × PyData) → List V → Prop
  | [], [] => True
  | v :: vs, x :: xs => InV C H S σ ρ v x ∧ InVL C H S σ ρ vs xs
  | _, _ => False
theorem InVL.len : ∀ {vs : List (Bool × PyData)} {xs : List V}, InVL C H S σ ρ vs xs → xs.length = vs.length
  | [], [], _ => rfl
  | _ :: _, _ :: _, ⟨_, t⟩ => by simp [InVL.len t]
  | [], _ :: _, h => h.elim
  | _ :: _, [], h => h.elim
theorem pend_of (R : RepS C H S σ ρ) (F : Frm B H S σ ρ) (R1 : RepS C H1 S σ ρ1) (st : Stp H H1 σ ρ ρ1 ms) : ∀ {es : CEs} {vs : List (Bool × PyData)} {xs : List V}, ValL C.fr H H1 S σ ρ T es vs xs → (∀ t ∈ fresh vs xs, H t = none) → Pend C B H1 S σ ρ1 T es vs xs
  | .nil, [], [], _, _ => trivial
  | .cons e es, v :: vs, x :: xs, ⟨⟨T1, m, b, hv, _, nt⟩, t⟩, nw => by
    have no : ∀ a, H a = none → ∀ i, ¬ Own σ ρ1 i a := fun a n i o => by
      obtain ⟨_, p, _, zs, _, q, _⟩ := R.own (st.chg.own.mp o)
      rw [n] at q; cases q
    refine ⟨⟨T1, m, fun a z => ?_, b.dm, ?_⟩, pend_of R F R1 st t fun t ht => nw t ((fresh_cons t).mpr (.inr ht))⟩
    · rcases b.bd a z with z | z | z
      · exact .inl z
      · exact .inr (.inl (st.chg.owns.mpr z))
      · exact .inr (.inr ⟨no a z, .inr (F.none_ z)⟩)
    · unfold Val at hv
      split at hv
      · rename_i hb
        rw [if_pos hb]
        obtain ⟨t', e1, n, _, r⟩ := hv
        refine ⟨t', e1, fun z => ?_, nt hb t' e1, no t' n, r⟩
        obtain ⟨o, q⟩ := R.dom t' z
        rw [n] at q; cases q
      · rename_i hb
        rw [if_neg hb]
        exact hv
  | .nil, _ :: _, _, h, _ => h.elim
  | .nil, [], _ :: _, h, _ => h.elim
  | .cons _ _, [], _, h, _ => h.elim
  | .cons _ _, _ :: _, [], h, _ => h.elim
theorem keep_get {p : PyData} (hf : flatD p = false) (i : Nat) : (keep ρ as p)[i]? = if i ∈ as then ρ[i]?.map Slot.freeze else ρ[i]? := by
  unfold keep
  split
  · rw [hf, if_neg (by simp), freezeAll_get]
  · rename_i hm
    split
    · rename_i hi
      have : ∀ s, ρ[i]? = some s → s.freeze = s := fun s e => by
        unfold anyMine at hm
        have := List.any_eq_false.mp (by simpa using hm) i hi
        rw [e] at this
        cases s <;> first | rfl | (simp at this)
      cases e : ρ[i]? with
      | none => rfl
      | some s => rw [Option.map_some, this s e]
    · rfl
theorem keep_flat {p : PyData} (hf : flatD p = true) : keep ρ as p = ρ := by
  unfold keep
  rw [if_pos hf]
  split <;> rfl
theorem keep_len {p : PyData} : (keep ρ as p).length = ρ.length := by
  unfold keep
  split
  · split
    · rfl
    · exact freezeAll_len
  · rfl
/-- one of them is kept -/
theorem keep_pend {e : CE} {es : CEs} {v : Bool × PyData} {vs : List (Bool × PyData)} {x : V} {xs : List V} (R : RepS C H S σ ρ) (F : Frm B H S σ ρ) (h : Pend C B H S σ ρ T (.cons e es) (v :: vs) (x :: xs)) :
    ∃ Sk, RepS C H Sk σ (keep ρ (al e) v.2) ∧ Frm B H Sk σ (keep ρ (al e) v.2) ∧ InV C H Sk σ (keep ρ (al e) v.2) v x ∧ Pend C B H Sk σ (keep ρ (al e) v.2) T es vs xs ∧ (∀ a, S a → Sk a) ∧ (∀ a, Sk a → S a ∨ Owns σ ρ (al e) a ∨ T a) ∧ (∀ i a, Own σ (keep ρ (al e) v.2) i a → Own σ ρ i a) := by
  obtain ⟨⟨T1, m, tb, dm, hv⟩, tl⟩ := h
  cases hf : flatD v.2
  · have hg := fun i => keep_get (ρ := ρ) (as := al e) hf i
    let Sk : AS := fun a => S a ∨ (Owns σ ρ (al e) a ∨ T1 a)
    have dmk : ∀ a, Sk a → ∃ o, H a = some o := fun a z => by
      rcases z with z | ⟨i, _, z⟩ | z
      · exact R.dom a z
      · obtain ⟨_, p, _, zs, _, q, _⟩ := R.own z
        exact ⟨_, q⟩
      · exact dm a z
    have nn : ∀ i a, i ∉ al e → Own σ ρ i a → ¬ Sk a := fun i a hi o z => by
      rcases z with z | ⟨j, hj, z⟩ | z
      · exact (R.own o).1 z
      · exact hi (R.sep j i a z o ▸ hj)
      · rcases tb a z with z | ⟨j, hj, z⟩ | ⟨z, _⟩
        · exact (R.own o).1 z
        · exact hi (R.sep j i a z o ▸ hj)
        · exact z i o
    obtain ⟨Rk, ow⟩ := R.freeze (Sk := Sk) keep_len hg (fun _ z => .inl z) (fun _ z => .inr (.inl z)) nn dmk
    have owm : ∀ i a, OwnM σ (keep ρ (al e) v.2) i a → OwnM σ ρ i a := fun i a ⟨p, h1, h2⟩ => by
      rw [hg] at h1
      split at h1
      · cases q : ρ[i]? with
        | none => rw [q] at h1; cases h1
        | some s0 => rw [q] at h1; cases s0 <;> cases h1
      · exact ⟨p, h1, h2⟩
    refine ⟨Sk, Rk, ⟨F.kept, F.th, fun a z => ?_, fun i a o => F.ow i a (ow i a o).2, F.io, F.ld, F.pl, fun i a o => F.nl i a (owm i a o), fun i p h1 => ?_, fun a z => .inl (F.s0 a z)⟩, ?_, ?_, fun _ z => .inl z, fun a z => z.imp id (Or.imp id (m a)), fun i a o => (ow i a o).2⟩
    · rcases z with z | ⟨i, _, z⟩ | z
      · exact F.sb a z
      · exact .inr (F.ow i a z)
      · rcases tb a z with z | ⟨j, _, z⟩ | ⟨_, z⟩
        · exact F.sb a z
        · exact .inr (F.ow j a z)
        · exact z
    · rw [hg] at h1
      split at h1
      · cases q : ρ[i]? with
        | none => rw [q] at h1; cases h1
        | some s0 => rw [q] at h1; cases s0 <;> cases h1
      · exact F.lks i p h1
    · unfold InV
      split at hv
      · rename_i hb
        rw [if_pos hb]
        obtain ⟨t, e1, n1, n2, n3, r⟩ := hv
        refine ⟨t, e1, fun z => ?_, fun i o => n3 i (ow i t o).2, r.stay (fun _ _ e _ _ => e) fun _ z => .inr (.inr z)⟩
        rcases z with z | ⟨i, _, z⟩ | z
        · exact n1 z
        · exact n3 i z
        · exact n2 (m t z)
      · rename_i hb
        rw [if_neg hb]
        exact hv.wk fun _ z => .inr (.inr z)
    · refine pend_more tl (fun i a o => (ow i a o).2) (fun _ z => .inl z) (fun j a o => ?_) fun t z n1 n2 n3 => ?_
      · by_cases hj : j ∈ al e
        · exact .inl (.inr (.inl ⟨j, hj, o⟩))
        · obtain ⟨s, h1, h2, h3⟩ := o
          exact .inr ⟨s, by rw [hg, if_neg hj]; exact h1, h2, h3⟩
      · rcases z with z | ⟨i, _, z⟩ | z
        · exact n1 z
        · exact n3 i z
        · exact n2 (m t z)
  · rw [keep_flat hf]
    refine ⟨S, R, F, ?_, tl, fun _ z => z, fun _ z => .inl z, fun _ _ o => o⟩
    unfold InV
    split at hv
    · obtain ⟨t, _, _, _, _, r⟩ := hv
      rw [r.flatF] at hf; cases hf
    · rename_i hb
      rw [if_neg hb]
      exact hv.flat hf
where
  pend_more {Sk : AS} {ρk : Rho} : ∀ {es : CEs} {vs : List (Bool × PyData)} {xs : List V}, Pend C B H S σ ρ T es vs xs → (∀ i a, Own σ ρk i a → Own σ ρ i a) → (∀ a, S a → Sk a) → (∀ j a, Own σ ρ j a → Sk a ∨ Own σ ρk j a) → (∀ t, Sk t → ¬ S t → ¬ T t → (∀ i, ¬ Own σ ρ i t) → False) → Pend C B H Sk σ ρk T es vs xs
    | .nil, [], [], _, _, _, _, _ => trivial
    | .cons e es, v :: vs, x :: xs, ⟨⟨T1, m, tb, dm, hv⟩, tl⟩, ow, sub, st, ns => by
      refine ⟨⟨T1, m, fun a z => ?_, dm, ?_⟩, pend_more tl ow sub st ns⟩
      · rcases tb a z with z | ⟨j, hj, z⟩ | ⟨z1, z2⟩
        · exact .inl (sub a z)
        · exact (st j a z).imp id fun o => .inl ⟨j, hj, o⟩
        · exact .inr (.inr ⟨fun i o => z1 i (ow i a o), z2⟩)
      · split at hv
        · rename_i hb
          rw [if_pos hb]
          obtain ⟨t, e1, n1, n2, n3, r⟩ := hv
          exact ⟨t, e1, fun z => ns t z n1 n2 n3, n2, fun i o => n3 i (ow i t o), r⟩
        · rename_i hb
          rw [if_neg hb]
          exact hv
    | .nil, _ :: _, _, h, _, _, _, _ => h.elim
    | .nil, [], _ :: _, h, _, _, _, _ => h.elim
    | .cons _ _, [], _, h, _, _, _, _ => h.elim
    | .cons _ _, _ :: _, [], h, _, _, _, _ => h.elim
theorem InV.more {Sk : AS} {ρk : Rho} {v : Bool × PyData} {x : V} (h : InV C H S σ ρ v x) (sub : ∀ a, S a → Sk a) (ow : ∀ i a, Own σ ρk i a → Own σ ρ i a) (ns : ∀ t, v.1 = true → x = .ref t → Sk t → False) : InV C H Sk σ ρk v x := by
  unfold InV at h ⊢
  split at h
  · rename_i hb
    rw [if_pos hb]
    obtain ⟨t, e, n1, n2, r⟩ := h
    exact ⟨t, e, fun z => ns t hb e z, fun i o => n2 i (ow i t o), r.stay (fun _ _ e _ _ => e) sub⟩
  · rename_i hb
    rw [if_neg hb]
    exact h.wk sub
theorem keepAll_ok : ∀ {es : CEs} {vs : List (Bool × PyData)} {xs : List V} {S : AS} {ρ : Rho}, RepS C H S σ ρ → Frm B H S σ ρ → Pend C B H S σ ρ T es vs xs →
    ∃ Sk, RepS C H Sk σ (keepAll ρ es vs) ∧ Frm B H Sk σ (keepAll ρ es vs) ∧ InVL C H Sk σ (keepAll ρ es vs) vs xs ∧ (∀ a, S a → Sk a) ∧ (∀ a, Sk a → S a ∨ (∃ i, Own σ ρ i a) ∨ T a) ∧ (∀ i a, Own σ (keepAll ρ es vs) i a → Own σ ρ i a)
  | .nil, [], [], S, ρ, R, F, _ => ⟨S, R, F, trivial, fun _ z => z, fun _ z => .inl z, fun _ _ o => o⟩
  | .cons e es, v :: vs, x :: xs, S, ρ, R, F, h => by
    have h0 := h
    obtain ⟨S1, R1, F1, iv, pd, sub, sup, ow⟩ := keep_pend R F h
    obtain ⟨Sk, Rk, Fk, ivl, sub2, sup2, ow2⟩ := keepAll_ok R1 F1 pd
    refine ⟨Sk, Rk, Fk, ⟨iv.more sub2 ow2 fun t hb e z => ?_, ivl⟩, fun a z => sub2 a (sub a z), fun a z => ?_, fun i a o => ow i a (ow2 i a o)⟩
    · obtain ⟨⟨T1, _, _, _, hv⟩, _⟩ := h0
      rw [if_pos hb] at hv
      obtain ⟨t', e1, n1, n2, n3, _⟩ := hv
      rw [e] at e1; cases e1
      unfold InV at iv
      rw [if_pos hb] at iv
      obtain ⟨t'', e1, n4, _⟩ := iv
      rw [e] at e1; cases e1
      rcases sup2 t z with z | ⟨i, z⟩ | z
      · exact n4 z
      · exact n3 i (ow i t z)
      · exact n2 z
    · rcases sup2 a z with z | ⟨i, z⟩ | z
      · rcases sup a z with z | ⟨i, _, z⟩ | z
        · exact .inl z
        · exact .inr (.inl ⟨i, z⟩)
        · exact .inr (.inr z)
      · exact .inr (.inl ⟨i, ow i a z⟩)
      · exact .inr (.inr z)
  | .nil, _ :: _, _, _, _, _, _, h => h.elim
  | .nil, [], _ :: _, _, _, _, _, h => h.elim
  | .cons _ _, [], _, _, _, _, _, h => h.elim
  | .cons _ _, _ :: _, [], _, _, _, _, h => h.elim
/-- the slots set one behind another -/
def setσ (σ : L2.St) : List Nat → List V → L2.St
  | i :: is, x :: xs => setσ (σ.set i (some x)) is xs
  | _, _ => σ
theorem setAll_ok {P : Unit → Rho → Prop} {E : Nat → List PyData → Rho → Prop} : ∀ {is : List Nat} {vs : List (Bool × PyData)} {xs : List V} {σ : L2.St} {ρ : Rho}, RepS C H S σ ρ → Frm B H S σ ρ → InVL C H S σ ρ vs xs → (fresh vs xs).Nodup → (∀ t ∈ fresh vs xs, (B.H0 t = none ∨ B.R0 t) ∧ ¬ B.L t) → (B.io ≠ none → 0 ∉ is) → Res (setAll is vs ρ) P E →
    ∃ ρ', P () ρ' ∧ RepS C H S (setσ σ is xs) ρ' ∧ Frm B H S (setσ σ is xs) ρ' ∧ xs.length = is.length
  | [], [], [], σ, ρ, R, F, _, _, _, _, k => ⟨ρ, k.ok, R, F, rfl⟩
  | i :: is, v :: vs, x :: xs, σ, ρ, R, F, ⟨iv, ivl⟩, nd, nw, h0, k => by
    simp only [setAll, setNew] at k
    by_cases hi : i < ρ.length
    case neg => rw [if_neg hi] at k; exact k.elim
    rw [if_pos hi] at k
    have k := k.bind.ok
    obtain ⟨R', p⟩ := R.setSlot iv hi
    have F' := F.post p (fun a ⟨hb, e⟩ => nw a ((fresh_cons a).mpr (.inl ⟨hb, e⟩))) fun z q => h0 z (by rw [List.mem_singleton] at q; simp [q])
    have ivl' : InVL C H S (σ.set i (some x)) (ρ.set i (if v.1 then .my v.2 else .fz v.2)) vs xs := more ivl (fun t ht j o => by
      rcases p.ow j t o with ⟨j', o⟩ | ⟨hb, e⟩
      · exact .inl ⟨j', o⟩
      · obtain ⟨b, q⟩ := v
        simp only at hb
        subst hb e
        exact ((List.nodup_cons.mp nd).1 ht).elim)
    have nd' : (fresh vs xs).Nodup := by
      obtain ⟨b, q⟩ := v
      cases b
      · cases x <;> exact nd
      · cases x <;> first | exact nd | exact (List.nodup_cons.mp nd).2
    obtain ⟨ρ', h1, h2, h3, h4⟩ := setAll_ok R' F' ivl' nd' (fun t ht => nw t ((fresh_cons t).mpr (.inr ht))) (fun z q => h0 z (List.mem_cons_of_mem _ q)) k
    exact ⟨ρ', h1, h2, h3, by simp [h4]⟩
  | [], _ :: _, _, _, _, _, _, _, _, _, _, k => k.elim
  | _ :: _, [], _, _, _, _, _, _, _, _, _, k => k.elim
  | [], [], _ :: _, _, _, _, _, h, _, _, _, _ => h.elim
  | _ :: _, _ :: _, [], _, _, _, _, h, _, _, _, _ => h.elim
where
  more {σ σ' : L2.St} {ρ ρ' : Rho} : ∀ {vs : List (Bool × PyData)} {xs : List V}, InVL C H S σ ρ vs xs → (∀ t ∈ fresh vs xs, ∀ j, Own σ' ρ' j t → (∃ j', Own σ ρ j' t) ∨ False) → InVL C H S σ' ρ' vs xs
    | [], [], _, _ => trivial
    | v :: vs, x :: xs, ⟨iv, t⟩, h => by
      refine ⟨?_, more t fun t ht => h t ((fresh_cons t).mpr (.inr ht))⟩
      unfold InV at iv ⊢
      split at iv
      · rename_i hb
        rw [if_pos hb]
        obtain ⟨t, e, n1, n2, r⟩ := iv
        refine ⟨t, e, n1, fun j o => ?_, r⟩
        rcases h t ((fresh_cons t).mpr (.inl ⟨hb, e⟩)) j o with ⟨j', o⟩ | z
        · exact n2 j' o
        · exact z
      · rename_i hb
        rw [if_neg hb]
        exact iv
    | [], _ :: _, h, _ => h.elim
    | _ :: _, [], h, _ => h.elim
theorem tS.par {is : List Nat} {es : CEs} (h : tS C call W B io (.par is es) D σ H) (h0 : B.io ≠ none → 0 ∉ is) : tEs C call W es σ H fun xs H1 => xs.length = is.length ∧ ∀ H2, (∀ a o, H1 a = some o → H2 a = some o) → D.nx (setσ σ is xs) H2 := by
  obtain ⟨ρ, S, R, F, k⟩ := h
  simp only [evS] at k
  refine ⟨ρ, S, R, k.s.imp (fun vs ρ1 k xs H1 T R1 st1 b1 vl nd nw => ?_) fun _ _ _ z => ex_of F z⟩
  obtain ⟨Sk, Rk, Fk, ivl, _⟩ := keepAll_ok R1 (F.step st1) (pend_of R F R1 st1 vl nw)
  have nwB : ∀ t ∈ fresh vs xs, (B.H0 t = none ∨ B.R0 t) ∧ ¬ B.L t := fun t ht => ⟨F.none_ (nw t ht), fun l => by
    obtain ⟨o, q⟩ := F.ld t l
    obtain ⟨o', this⟩ := F.th t o q
    rw [nw t ht] at this; cases this⟩
  obtain ⟨ρ', h1, h2, h3, h4⟩ := setAll_ok (E := fun _ _ _ => False) Rk Fk ivl nd nwB h0 k.s.calm
  exact ⟨h4, fun H2 kp => h1 _ H2 _ (h2.ext kp) (h3.step (ms := []) (Stp.refl.ext kp))⟩
end
end PyC
end

section
set_option maxHeartbeats 200000
namespace PyC
open PySem PySem.Spec L2
theorem keyOk_some {k : PyData} (h : keyOk k = true) : ∃ q, keyD k = some q := by
  cases k <;> first | exact ⟨_, rfl⟩ | cases h
theorem keyEq_iff {a b : PyData} {p q : Key} (h1 : keyD a = some p) (h2 : keyD b = some q) : keyEq a b = decide (p = q) := by
  cases a <;> simp only [keyD] at h1 <;> cases h1 <;> cases b <;> simp only [keyD] at h2 <;> cases h2 <;> simp [keyEq] <;> rfl
theorem keysOk_kl : ∀ {kvs : List (PyData × PyData)} {ks : List (Key × V)}, KeyL kvs ks → keysOk kvs = true
  | [], _, _ => rfl
  | p :: r, [], h => by simp [KeyL] at h
  | p :: r, q :: s, h => by
    simp only [KeyL, List.map_cons, List.cons.injEq] at h
    have h2 := keysOk_kl (kvs := r) (ks := s) h.2
    obtain ⟨k, d⟩ := p
    cases k <;> simp [keyD] at h <;> simp [keysOk, keyOk, h2]
section
variable {K : KC} {H : Hp} {S : AS}
theorem rep_key {k : PyData} {q : Key} {y : V} (h : keyD k = some q) (r : AR K H S k y) : y = kV q := by
  cases k <;> simp only [keyD] at h <;> cases h <;> exact r
/-- a dict's datum with such keys is a dict -/
theorem AR.dct {kvs : List (PyData × PyData)} {v : V} (e : keysOk kvs = true) (h : AR K H S (.dict kvs) v) : ∃ a ks, v = .ref a ∧ Rd H a (.dK ks) ∧ KeyL kvs ks ∧ RepD K H S kvs (ks.map (·.2)) := by
  rcases h with h | h
  · exact h
  · rcases h with ⟨_, _, rfl, _⟩ | ⟨a, ks, h1, _, h2, h3, h4⟩ | ⟨f, js, _, _, _, _, rfl, _⟩ | ⟨_, _, ⟨f, r, _, _, _, _, _, rfl, _⟩ | ⟨f, f', r, _, _, _, _, _, rfl, _⟩⟩
    · simp [keysOk, keyOk] at e
    · exact ⟨a, ks, h1, h2, h3, h4⟩
    · simp [keysOk, keyOk] at e
    · simp [keysOk, keyOk] at e
    · simp [keysOk, keyOk] at e
theorem dGet_none {k : PyData} {q : Key} (hk : keyD k = some q) : ∀ {kvs : List (PyData × PyData)} {ks : List (Key × V)}, KeyL kvs ks → dGet k kvs = none → valV ks q = none
  | [], [], _, _ => rfl
  | [], _ :: _, h, _ => by simp [KeyL] at h
  | p :: r, [], h, _ => by simp [KeyL] at h
  | (kk, d) :: r, (kq, v) :: s, h, e => by
    simp only [KeyL, List.map_cons, List.cons.injEq] at h
    unfold dGet at e
    rw [keyEq_iff h.1 hk] at e
    by_cases hq : kq = q
    · simp [hq] at e
    · simp only [hq, decide_false, Bool.false_eq_true, if_false] at e
      rw [valV_neg hq]
      exact dGet_none hk h.2 e
theorem dGet_some {k d : PyData} {q : Key} (hk : keyD k = some q) : ∀ {kvs : List (PyData × PyData)} {ks : List (Key × V)}, KeyL kvs ks → RepD K H S kvs (ks.map (·.2)) → dGet k kvs = some d → ∃ v, valV ks q = some v ∧ Rep K H S d v
  | [], [], _, _, e => by cases e
  | [], _ :: _, h, _, _ => by simp [KeyL] at h
  | p :: r, [], h, _, _ => by simp [KeyL] at h
  | (kk, d') :: r, (kq, v) :: s, h, ⟨r1, r2⟩, e => by
    simp only [KeyL, List.map_cons, List.cons.injEq] at h
    unfold dGet at e
    rw [keyEq_iff h.1 hk] at e
    by_cases hq : kq = q
    · simp only [hq, decide_true, if_true, Option.some.injEq] at e
      subst e
      exact ⟨v, valV_pos hq, r1⟩
    · simp only [hq, decide_false, Bool.false_eq_true, if_false] at e
      rw [valV_neg hq]
      exact dGet_some hk h.2 r2 e
theorem dGet_isSome {k : PyData} {q : Key} (hk : keyD k = some q) {kvs : List (PyData × PyData)} {ks : List (Key × V)} (h : KeyL kvs ks) (r : RepD K H S kvs (ks.map (·.2))) : (valV ks q).isSome = (dGet k kvs).isSome := by
  cases e : dGet k kvs with
  | none => rw [dGet_none hk h e]; rfl
  | some d =>
    obtain ⟨v, e2, _⟩ := dGet_some hk h r e
    rw [e2]; rfl
theorem dRepl_rep {k d : PyData} {q : Key} {v : V} (hk : keyD k = some q) (rv : Rep K H S d v) : ∀ {kvs : List (PyData × PyData)} {ks : List (Key × V)}, KeyL kvs ks → RepD K H S kvs (ks.map (·.2)) →
    KeyL (dRepl k d kvs) (ks.map fun kv => if kv.1 = q then (kv.1, v) else kv) ∧ RepD K H S (dRepl k d kvs) ((ks.map fun kv => if kv.1 = q then (kv.1, v) else kv).map (·.2))
  | [], [], _, _ => ⟨rfl, trivial⟩
  | [], _ :: _, h, _ => by simp [KeyL] at h
  | p :: r, [], h, _ => by simp [KeyL] at h
  | (kk, d') :: r, (kq, w) :: s, h, ⟨r1, r2⟩ => by
    simp only [KeyL, List.map_cons, List.cons.injEq] at h
    obtain ⟨i1, i2⟩ := dRepl_rep hk rv (kvs := r) (ks := s) h.2 r2
    unfold dRepl
    rw [keyEq_iff h.1 hk]
    by_cases hq : kq = q
    · subst hq
      simp only [decide_true, if_true, List.map_cons]
      exact ⟨by simp only [KeyL, List.map_cons, List.cons.injEq]; exact ⟨h.1, i1⟩, rv, i2⟩
    · simp only [hq, decide_false, Bool.false_eq_true, if_false, List.map_cons]
      exact ⟨by simp only [KeyL, List.map_cons, List.cons.injEq]; exact ⟨h.1, i1⟩, r1, i2⟩
theorem RepD.app : ∀ {ds es : List (PyData × PyData)} {xs ys : List V}, RepD K H S ds xs → RepD K H S es ys → RepD K H S (ds ++ es) (xs ++ ys)
  | [], _, [], _, _, h => h
  | (_, _) :: _, _, _ :: _, _, ⟨h, t⟩, g => ⟨h, RepD.app t g⟩
  | [], _, _ :: _, _, h, _ => h.elim
  | _ :: _, _, [], _, h, _ => h.elim
theorem KeyL.len : ∀ {kvs : List (PyData × PyData)} {ks : List (Key × V)}, KeyL kvs ks → kvs.length = ks.length := fun {kvs ks} h => by simpa using congrArg List.length h
theorem dPut_rep {k d : PyData} {q : Key} {v : V} (hk : keyD k = some q) (rv : Rep K H S d v) {kvs : List (PyData × PyData)} {ks : List (Key × V)} (h : KeyL kvs ks) (r : RepD K H S kvs (ks.map (·.2))) :
    KeyL (dPut kvs k d) (putK ks q v) ∧ RepD K H S (dPut kvs k d) ((putK ks q v).map (·.2)) := by
  unfold dPut putK
  have e : (ks.any fun kv => decide (kv.1 = q)) = (dGet k kvs).isSome := by
    rw [valV_any, dGet_isSome hk h r]
  rw [e]
  by_cases hs : (dGet k kvs).isSome = true
  · rw [if_pos hs, if_pos hs]
    exact dRepl_rep hk rv h r
  · rw [if_neg hs, if_neg hs]
    refine ⟨?_, ?_⟩
    · unfold KeyL at h ⊢
      rw [List.map_append, List.map_append, h]
      simp [hk]
    · rw [List.map_append]
      exact RepD.app r ⟨rv, trivial⟩
end
def rDIn (neg : Bool) : R2 := fun y x H Q => ∃ a o, x = .ref a ∧ DGet H a y o ∧ Q (.bl (neg != o.isSome)) H
def rDIx : R2 := fun x y H Q => ∃ a v, x = .ref a ∧ DGet H a y (some v) ∧ Q v H
section
variable {K : KC}
theorem ov_din {o : Op} {neg : Bool} (ho : opSem o = semDIn neg) : OpV K o (two (rDIn neg)) := by
  intro H T ps xs res Q ha e k
  rw [ho] at e
  unfold semDIn at e
  split at e
  · obtain ⟨y, x, rfl, h1, h2⟩ := ARL.two ha
    split at e
    · rename_i hk
      rw [Bool.and_eq_true] at hk
      cases e
      obtain ⟨q, hq⟩ := keyOk_some hk.1
      obtain ⟨a, ks, rfl, rd, kl, rr⟩ := AR.dct hk.2 h2
      have := rep_key hq h1
      subst this
      refine ⟨_, _, rfl, a, _, rfl, .inl ⟨ks, q, rd, rfl, rfl⟩, ?_⟩
      rw [dGet_isSome hq kl rr]
      exact res_bl k
    · cases e
  · cases e
theorem ov_didx : OpV K .didx (two rDIx) := by
  intro H T ps xs res Q ha e k
  simp only [opSem] at e
  unfold semDIdx at e
  split at e
  · obtain ⟨x, y, rfl, h1, h2⟩ := ARL.two ha
    split at e
    · rename_i hk
      rw [Bool.and_eq_true] at hk
      obtain ⟨d, hd, rfl⟩ := Option.map_eq_some_iff.mp e
      obtain ⟨q, hq⟩ := keyOk_some hk.1
      obtain ⟨a, ks, rfl, rd, kl, rr⟩ := AR.dct hk.2 h1
      have := rep_key hq h2
      subst this
      obtain ⟨v, hv, rv⟩ := dGet_some hq kl rr hd
      exact ⟨_, _, rfl, a, v, rfl, .inl ⟨ks, q, rd, rfl, hv.symm⟩, res_flat k rv⟩
    · cases e
  · cases e
end
section
variable {C : RK} {call : CallT} {W : WX} {σ : L2.St} {H H1 : Hp} {S T : AS} {ρ ρ1 : Rho} {Q : VK}
theorem tE.dct0 (h : tE C call W .dct0 σ H Q) : tDNewK σ H Q := by
  obtain ⟨ρ, S, R, k⟩ := h
  simp only [evE] at k
  intro p hp
  have kp := keep_new (o := .dK []) hp
  have bd : Bd H (upd H p (.dK [])) S σ ρ (al .dct0) (fun _ => False) := .empty
  have vv : Val C.fr H (upd H p (.dK [])) (fun _ => False) (true, .dict []) (.ref p) := by
    unfold Val
    rw [if_pos rfl]
    exact ⟨p, rfl, hp, fun z => z, Root.mkD upd_same rfl trivial⟩
  exact k.ok (.ref p) _ _ (R.ext kp) (Stp.refl.ext kp) bd vv (opd_of rfl bd vv)
theorem val_key {k : Bool × PyData} {q : Key} {x : V} (h : keyD k.2 = some q) (r : Val C.fr H H1 T k x) : x = kV q := by
  unfold Val at r
  split at r
  · obtain ⟨t, _, _, _, r⟩ := r
    have e := r.flatF
    obtain ⟨b, p⟩ := k
    cases p <;> simp [keyD] at h <;> simp [flatD] at e
  · exact rep_key h r.ar
theorem tE.dct1 {k v : CE} (h : tE C call W (.dct1 k v) σ H Q) : tDisp [(tE C call W k, tE C call W v)] σ H Q := by
  obtain ⟨ρ, S, R, kk⟩ := h
  simp only [evE] at kk
  intro p hp
  have kp := keep_new (o := .dK []) hp
  have R0 := R.ext kp
  have st0 : Stp H (upd H p (.dK [])) σ ρ ρ [] := Stp.refl.ext kp
  refine ⟨ρ, S, R0, kk.bind.imp (fun x ρ1 kk xv H1 T1 R1 st1 b1 v1 _ => ?_) fun _ _ _ z => z.back R0 st0⟩
  split at kk
  · exact kk.elim
  rename_i hk
  simp only [Bool.not_eq_true', Bool.not_eq_false] at hk
  obtain ⟨q, hq⟩ := keyOk_some hk
  have xe := val_key hq v1
  have st01 := st0.trans st1
  refine ⟨ρ1, S, R1, kk.bind.imp (fun y ρ2 kk yv H2 T2 R2 st2 b2 v2 _ => ?_) fun _ _ _ z => z.back R1 st01⟩
  have nown : ∀ {ρ' : Rho} {ms : List Nat}, Chg ρ ρ' ms → ∀ i, ¬ Own σ ρ' i p := fun c i o => by
    obtain ⟨_, pp, r⟩ := R.own (c.own.mp o)
    obtain ⟨o', e, _⟩ := r.obj
    rw [hp] at e; cases e
  have nS : ¬ S p := fun z => by
    obtain ⟨o, e⟩ := R.dom p z
    rw [hp] at e; cases e
  have h1 : H1 p = some (.dK []) := st1.mv p _ upd_same (fun _ z => by cases z) fun ⟨i, _, o⟩ => nown st0.chg i o
  have h2 : H2 p = some (.dK []) := st2.mv p _ h1 (fun _ z => by cases z) fun ⟨i, _, o⟩ => nown st01.chg i o
  have st := st01.trans st2
  have bb : Bd H H2 S σ ρ (al v) T2 := b2.back R1 st01
  refine ⟨h2, [(q, yv)], by simp [xe], by simp, ?_⟩
  have em : mergeK [] [(q, yv)] = [(q, yv)] := rfl
  rw [em]
  have kpD : ∀ b o, H2 b = some o → ¬ b = p → upd H2 p (.dK [(q, yv)]) b = some o := fun b o e n => by rw [upd_ne n]; exact e
  have thD : ∀ b o, H2 b = some o → ∃ o', upd H2 p (.dK [(q, yv)]) b = some o' := fun b o e => if n : b = p then ⟨.dK [(q, yv)], by rw [n]; exact upd_same⟩ else ⟨o, kpD b o e n⟩
  let T' : AS := fun a => T2 a ∨ (y.1 = true ∧ yv = .ref a)
  have fy : y.1 = true → ∀ a, yv = .ref a → H1 a = none ∧ ∃ o, H2 a = some o := fun hb a e => by
    unfold Val at v2
    rw [if_pos hb] at v2
    obtain ⟨t, q1, q2, _, q3⟩ := v2
    rw [e] at q1; cases q1
    obtain ⟨o, q4, _⟩ := q3.obj
    exact ⟨q2, o, q4⟩
  have nT2 : ¬ T2 p := fun z => by
    rcases b2.bd p z with z | ⟨i, _, o⟩ | z
    · exact nS z
    · exact nown st01.chg i o
    · rw [h1] at z; cases z
  have nT : ∀ a, T' a → ¬ a = p := fun a z e => by
    subst e
    rcases z with z | ⟨hb, z⟩
    · exact nT2 z
    · rw [(fy hb _ z).1] at h1; cases h1
  have ry : Rep C.fr H2 T' y.2 yv := by
    have v2' := v2
    unfold Val at v2
    split at v2
    · rename_i hb
      obtain ⟨t, q1, q2, _, q3⟩ := v2
      subst q1
      exact q3.rep (fun _ z => .inl z) (.inr ⟨hb, rfl⟩)
    · exact v2.wk fun _ z => .inl z
  have ry' : Rep C.fr (upd H2 p (.dK [(q, yv)])) T' y.2 yv := ry.stay (fun a o e _ z => kpD a o e fun n => by
    rcases z with z | z
    · exact nT a z n
    · rw [n, h2] at e; cases e; exact z trivial) fun _ z => z
  have R' : RepS C (upd H2 p (.dK [(q, yv)])) S σ ρ2 := R2.keepBut (fs := fun b => b = p) (fun b o e _ n => kpD b o e n) thD (tabs_mv R2.tab fun b o e n => kpD b o e fun z => by rw [z, h2] at e; cases e; exact n trivial)
    (fun t z y => nS (z ▸ y)) (fun t i z o => nown st.chg i (z ▸ o)) (fun t o z e => by rw [z, h2] at e; cases e; trivial)
  have st' : Stp H (upd H2 p (.dK [(q, yv)])) σ ρ ρ2 (muts (.dct1 k v)) := by
    refine ⟨st.chg.mono (by simp [muts]), fun a o e t n => kpD a o (st.mvM a o e t fun w => n (w.mono (by simp [muts]))) fun z => ?_, fun a o e => let ⟨o', e'⟩ := st.th a o e; thD a o' e'⟩
    rw [z, hp] at e; cases e
  have bd : Bd H (upd H2 p (.dK [(q, yv)])) S σ ρ (al (.dct1 k v)) T' := by
    refine ⟨fun a z => ?_, fun a z => ?_⟩
    · rcases z with z | ⟨hb, z⟩
      · exact (bb.bd a z).imp id (Or.imp (fun w => w.mono (by simp [al]; exact fun i hi => .inr hi)) id)
      · exact .inr (.inr (st01.new R1 (fy hb a z).1))
    · have : ∃ o, H2 a = some o := by
        rcases z with z | ⟨hb, z⟩
        · exact b2.dm a z
        · exact (fy hb a z).2
      obtain ⟨o, e⟩ := this
      exact thD a o e
  have vv : Val C.fr H (upd H2 p (.dK [(q, yv)])) T' (true, .dict [(x.2, y.2)]) (.ref p) := by
    unfold Val
    rw [if_pos rfl]
    exact ⟨p, rfl, hp, fun z => nT p z rfl, Root.mkD upd_same (by simp [KeyL, hq]) ⟨ry', trivial⟩⟩
  exact kk.ok (.ref p) _ _ R' st' bd vv (opd_of rfl bd vv)
def rSetD : TSet := fun o i v H Q => ∃ a H', o = .ref a ∧ DPut H a i v H' ∧ Q H'
theorem isMyD_some {i : Nat} (h : ¬ (!isMyD ρ i) = true) : ∃ p, ρ[i]? = some (.my (.dict p)) := by
  unfold isMyD at h
  split at h
  · rename_i p e; exact ⟨p, e⟩
  · simp at h
theorem gT.dsub {i : Nat} {k : CE} {x : V} {K : L2.St → Hp → Prop} (h : gT C call (.dsub i k) x σ H K) : gSub (tVar i) (tE C call W k) rSetD x σ H K := by
  obtain ⟨ρ, S, v, R, iv, kk⟩ := h
  simp only [asgT] at kk
  split at kk
  · exact kk.elim
  rename_i hm
  obtain ⟨p0, e0⟩ := isMyD_some hm
  obtain ⟨a, ea, _, r0⟩ := R.my i _ _ e0 rfl rfl
  refine ⟨.ref a, ea, ρ, S, R, kk.bind.calm.imp (fun j ρ1 kk y H1 T R1 st1 b1 v1 _ => ?_) fun _ _ _ z => z⟩
  split at kk
  · rename_i kvs e1
    by_cases hc : (keyOk j.2 && keysOk kvs && decide (kvs.length < big)) = true
    case neg => rw [if_neg hc] at kk; exact kk.elim
    rw [if_pos hc] at kk
    simp only [Bool.and_eq_true, decide_eq_true_eq] at hc
    obtain ⟨⟨hc1, hc2⟩, hc3⟩ := hc
    obtain ⟨q, hq⟩ := keyOk_some hc1
    have ye := val_key hq v1
    obtain ⟨a', ea', _, rr⟩ := R1.my i _ _ e1 rfl rfl
    rw [ea] at ea'; cases ea'
    obtain ⟨ks, e3, kl, r⟩ := rr.invD
    have own1 : Own σ ρ1 i a := ⟨_, e1, rfl, ea⟩
    have own0 : Own σ ρ i a := st1.chg.own.mp own1
    refine ⟨a, upd H1 a (.dK (putK ks q x)), rfl, .inl ⟨ks, q, e3, ye, by rw [← kl.len]; exact Nat.lt_of_lt_of_le hc3 (big_line (Nat.le_refl _)), rfl⟩, ?_⟩
    have nl0 : ∀ b o, H b = some o → NT o → (∀ q, ¬ OwnM σ ρ q b) → H1 b = some o := fun b o e t q => st1.mvM b o e t fun ⟨q', _, z⟩ => q q' z
    have nl1 : ∀ b o, H b = some o → NT o → (∀ q, ¬ Own σ ρ q b) → H1 b = some o := fun b o e t q => nl0 b o e t fun i z => q i z.own
    have keepS : ∀ b o, H b = some o → NT o → (S b ∨ NL o) → H1 b = some o := fun b o e t z => nl1 b o e t fun q oq => by
      rcases z with z | z
      · exact (R.own oq).1 z
      · obtain ⟨_, p, _, zs, mo, e2, _⟩ := R.own oq
        rw [e] at e2; cases e2; exact z mo
    let S2 : AS := fun b => S b ∨ (v.1 = true ∧ x = .ref b)
    have xr : Rep C.fr H1 S2 v.2 x := by
      unfold InV at iv
      split at iv
      · rename_i hb
        obtain ⟨t, e4, n1, n2, rt⟩ := iv
        subst e4
        have rt1 : Root C.fr H1 S v.2 t := rt.stay (fun b o e t z => by
          rcases z with z | z
          · exact nl1 b o e t fun q => by rw [z]; exact n2 q
          · exact keepS b o e t z) fun _ z => z
        exact rt1.rep (fun _ z => .inl z) (.inr ⟨hb, rfl⟩)
      · exact iv.stay keepS fun _ z => .inl z
    have noown : ∀ b, S2 b → ∀ q, ¬ Own σ ρ1 q b := fun b z q oq => by
      have oq := st1.chg.own.mp oq
      rcases z with z | ⟨hb, e⟩
      · exact (R.own oq).1 z
      · unfold InV at iv
        rw [if_pos hb] at iv
        obtain ⟨t, e4, _, n2, _⟩ := iv
        rw [e] at e4; cases e4
        exact n2 q oq
    have R2 : RepS C H1 S2 σ ρ1 := R1.more (fun _ z => .inl z) noown fun b z => by
      rcases z with z | ⟨hb, e⟩
      · exact R1.dom b z
      · unfold InV at iv
        rw [if_pos hb] at iv
        obtain ⟨t, e4, _, n2, d, zs, mo, e5, _⟩ := iv
        rw [e] at e4; cases e4
        exact ⟨_, nl1 _ _ e5 mo.nt n2⟩
    have ns2 : ¬ S2 a := fun z => noown a z i own1
    have kp : ∀ b o, H1 b = some o → NT o → ¬ b = a → upd H1 a (.dK (putK ks q x)) b = some o := fun b o e _ q => by rw [upd_ne q]; exact e
    have kk2 : ∀ b o, H1 b = some o → NT o → (S2 b ∨ NL o) → upd H1 a (.dK (putK ks q x)) b = some o := fun b o e t z => kp b o e t fun q => by
      subst q
      rcases z with z | z
      · exact ns2 z
      · rw [e3] at e; cases e; exact z trivial
    obtain ⟨p1, p2⟩ := dPut_rep hq xr kl (r.wk fun _ z => .inl z)
    have R3 := R2.setBut (fs := fun b => b = a) (H' := upd H1 a (.dK (putK ks q x))) (p' := .dict (dPut kvs j.2 v.2)) e1 ea kp (fun b o e => if q' : b = a then ⟨.dK (putK ks q x), by rw [q']; exact upd_same⟩ else ⟨o, (upd_ne q').trans e⟩) (tabs_mv R2.tab fun b o e z => (upd_ne fun q => by rw [q, e3] at e; cases e; exact z trivial).trans e) (fun t z q => ns2 (z ▸ q)) (fun t j z _ => z) (fun t o z e => by
      rw [z, e3] at e; cases e
      trivial) (Root.mkD upd_same p1 (p2.stay kk2 fun _ z => z))
    refine kk.ok σ _ S2 R3 ⟨fun b o e t n => ?_, fun _ z => .inl z, fun _ z => z, fun j b o => .inl ⟨j, st1.chg.own.mp ((chg_set e1).own.mp o)⟩, fun _ _ => rfl, (fun z => by cases z), (fun z => by cases z), (fun z => by cases z), by rw [List.length_set, st1.chg.len], fun j b o => .inl ⟨j, st1.chg.ownM.mp ((chg_set e1).ownM.mp o)⟩, fun j p e => ?_, fun b o e => ?_⟩
    · exact kp b o (nl0 b o e t n) t fun z => n i ⟨_, e0, z ▸ ea⟩
    · rcases (st1.chg.trans (chg_set e1)).in_ j with h | ⟨_, _, _, h⟩
      · exact ⟨h ▸ e, rfl⟩
      · rw [h] at e; cases e
    · obtain ⟨o', e'⟩ := st1.th b o e
      exact if q' : b = a then ⟨.dK (putK ks q x), by rw [q']; exact upd_same⟩ else ⟨o', (upd_ne q').trans e'⟩
  · exact kk.elim
end
section
variable {X : Cx}
theorem set_dict (hu : X.A.units + 1 < cLine) : PSet X rSetD := by
  intro pins s σ H o i v ov iv u Q I ro ri rv h
  obtain ⟨a, H', rfl, g, q⟩ := h
  cases ro
  exact d_setItem hu I g ri rv fun s' I' => ⟨H', I', q⟩
end
end PyC
end

section
set_option maxHeartbeats 200000
namespace PyC
open PySem PySem.Spec L2
end PyC
namespace L2
open PySem PySem.Spec
theorem PE.imp {X : Cx} {e : Expr} {t t' : TE} (h : PE X e t) (m : ∀ σ H Q, t' σ H Q → t σ H Q) : PE X e t' := ⟨fun pins s σ H Q I q => h.run pins s σ H Q I (m σ H Q q)⟩
theorem PT.imp {X : Cx} {e : Expr} {t t' : TT} (h : PT X e t) (m : ∀ σ H Q, t' σ H Q → t σ H Q) : PT X e t' := ⟨fun pins s σ H Q I q => h.run pins s σ H Q I (m σ H Q q)⟩
theorem PA.imp {X : Cx} {e : List Expr} {t t' : TA} (h : PA X e t) (m : ∀ σ H Q, t' σ H Q → t σ H Q) : PA X e t' := ⟨fun pos pins s σ H Q I q => h.run pos pins s σ H Q I (m σ H Q q)⟩
theorem PS.imp {X : Cx} {e : Stmt} {t t' : TS} (h : PS X e t) (m : ∀ D σ H, t' D σ H → t D σ H) : PS X e t' := ⟨fun pins s σ H Q I q => h.run pins s σ H Q I (m Q σ H q)⟩
theorem PSs.imp {X : Cx} {e : List Stmt} {t t' : TS} (h : PSs X e t) (m : ∀ D σ H, t' D σ H → t D σ H) : PSs X e t' := ⟨fun pins s σ H Q I q => h.run pins s σ H Q I (m Q σ H q)⟩
end L2
namespace PyC
open PySem PySem.Spec L2
def noStar : Expr → Bool
  | .Starred _ _ => false | _ => true
theorem star_cons {e : Expr} {es : List Expr} {env : Env} (h : noStar e = true) : starEach (e :: es) env = (false, eval e env) :: starEach es env := by
  cases e <;> first | rfl | (simp [noStar] at h)
def noStars (es : List Expr) : Bool := es.all noStar
theorem star_any {env : Env} : ∀ {es : List Expr} {pos : Pos}, noStars es = true → (backTo pos (starEach es env)).any (·.1) = false
  | [], _, _ => rfl
  | e :: es, pos, h => by
    unfold noStars at h
    rw [List.all_cons, Bool.and_eq_true] at h
    rw [star_cons h.1]
    exact star_any (es := es) (pos := pos) h.2
/-- a def's promise, where no text of a container is under way -/
structure FnG (P : Program) (w : World) (K : PySem.W.Frag) (mg : Str → Option Value) (base : Heap) (CX : CXT) (k : Nat) (f : Addr) (fd : FuncData) (ps : List Str) (sp : Sp) : Prop where
  len : ∀ vs H Q E, sp vs H Q E → vs.length = ps.length
  run : ∀ (A : Around) (outer : List Env) (s : Shared) (H : Hp) (args : Args) (us : List Value) (vs : List V) (Q : VK) (E : XK), Room k A → A.guards = some [] → Env0 P w K mg base A outer s H → BindsTo s fd args (ps.zip us) → Vals vs us → sp vs H Q E →
    codeAny (model P w) A (.call (.ref f) args) (CR CX outer P w H s Q E) s
section
variable {X : Cx} {CX : CXT} {n : Nat} {f : Addr} {fd : FuncData} {ps : List Str} {sp : Sp} {E : St → XK} {y : Str} {q pos : Pos} {e : Expr} {es : List Expr} {t : TA}
theorem run_fnG {pins : List (Addr × Obj)} {σ : St} {H : Hp} {s : Shared} {Q : VK} {us : List Value} {vs : List V} (F : FnG X.prog X.w X.K X.mg X.base CX n f fd ps sp) (hr : Room n X.A) (gd : X.A.guards = some []) (hb : Binds X.K fd ps []) (hx : PassesAt CX X σ (E σ)) (I : Inv X pins σ H s) (r : Vals vs us) (h : sp vs H Q (E σ)) :
    wpAny (model X.prog X.w) X.A (PySem.call (.ref f) us) (EP X pins σ Q) X.xe s := by
  have hl : us.length = ps.length := r.length.symm.trans (F.len _ _ _ _ h)
  have b := hb s us I.kIn ((List.append_nil us).symm ▸ hl)
  rw [List.append_nil] at b
  refine wpAny_call (codeAny_mono (F.run X.A X.stack s H ⟨us, []⟩ us vs Q (E σ) hr gd I.env0 b r h) fun a s' hq => ?_)
  match a, hq with
  | .error e, hq => exact hx pins H s e s' I hq
  | .ok (.ret u), hq => exact I.after hq
  | .ok .next, hq => exact hq.elim
  | .ok .brk, hq => exact hq.elim
  | .ok .cont, hq => exact hq.elim
theorem pe_callG (F : FnG X.prog X.w X.K X.mg X.base CX n f fd ps sp) (hr : Room n X.A) (gd : X.A.guards = some []) (hg : Gl X y) (hm : X.mg y = some (.ref f)) (hk : PySem.W.keepIn X.K (.ref f) = true) (hb : Binds X.K fd ps []) (hx : ∀ σ, PassesAt CX X σ (E σ)) (ha : PA X (e :: es) t)
    (hdb : (y == ("__debug__" : Str)) = false) (he : starEach (e :: es) X.env = (false, eval e X.env) :: starEach es X.env) (hpl : (backTo pos (starEach es X.env)).any (·.1) = false) : PE X (.Call (.Name y q) (e :: es) [] pos) (tCallS sp E t) := by
  refine ⟨fun pins s σ H Q I h => wpAny_Call_Name_kw (ld_glob I hg hm ?_ hdb)⟩
  exact PySem.W.callWith_K (h₀ := X.base) I.ok.mod.kin hk (thn (ha.run pos pins s σ H _ I h) fun us s1 ⟨vs, H1, I1, r, z⟩ => ⟨I1.kIn, run_fnG F hr gd hb (hx σ) I1 r z⟩) he hpl
end
end PyC
end

section
set_option maxHeartbeats 200000
namespace PyC
open PySem PySem.Spec L2
open Classical in
/-- the things at D are known as they stand -/
noncomputable def trk (H : Hp) (D : Addr → Prop) (h : Heap) : Hp := fun b => if D b then (h.get? b).map (fun o => .frz o (HX b)) else H b
open Classical in
noncomputable def unt (H : Hp) (D : Addr → Prop) : Hp := fun b => if D b then none else H b
open Classical in
/-- what stood at D stands there again -/
noncomputable def back (H H' : Hp) (D : Addr → Prop) : Hp := fun b => if D b then H b else H' b
section
variable {H H' : Hp} {D : Addr → Prop} {h : Heap} {b : Addr} {o : HO} {ob : Obj}
theorem trk_no (n : ¬ D b) : trk H D h b = H b := if_neg n
theorem trk_at (d : D b) (e : h.get? b = some ob) : trk H D h b = some (.frz ob (HX b)) := by
  unfold trk; rw [if_pos d, e]; rfl
theorem unt_no (n : ¬ D b) : unt H D b = H b := if_neg n
theorem unt_at (d : D b) : unt H D b = none := if_pos d
theorem back_no (n : ¬ D b) : back H H' D b = H' b := if_neg n
theorem back_at (d : D b) : back H H' D b = H b := if_pos d
theorem hx_ok {P : Program} {w : World} (e : h.get? b = some ob) : ObjOk P w H h b (.frz ob (HX b)) := ⟨e, ⟨_, e⟩, ⟨_, e⟩, fun _ _ ⟨o, e⟩ k => ⟨o, k o e⟩⟩
theorem frz_of {P : Program} {w : World} {u : HO} (hok : HOk P w H h) (e : H b = some (.frz ob u)) : h.get? b = some ob := let ⟨z, _⟩ := hok b _ e; z
end
section
variable {P : Program} {w : World} {K : PySem.W.Frag} {mg : Str → Option Value} {base : Heap} {A : Around} {outer : List Env} {s s' : Shared} {H H1 : Hp} {D : Addr → Prop} {Q : VK} {E : XK} {u : Value}
theorem hok_trk (hok : HOk P w H s.heap) (fd : ∀ d, D d → H d = none ∧ ∃ o, s.heap.get? d = some o) : HOk P w (trk H D s.heap) s.heap := fun b o e => by
  by_cases d : D b
  · obtain ⟨ob, z⟩ := (fd b d).2
    rw [trk_at d z] at e
    cases e
    exact hx_ok z
  · rw [trk_no d] at e
    have st : ∀ c v, H c = some v → trk H D s.heap c = some v := fun c v q => by
      rw [trk_no fun z => by rw [(fd c z).1] at q; cases q]; exact q
    exact (hok b o e).stay (fun c v _ q => q) (fun c q => st c _ q) fun c xs q => st c _ q
theorem hok_unt {h : Heap} (hok : HOk P w H h) (fd : ∀ d, D d → H d = none ∨ ∃ o, H d = some (.frz o (HX d))) : HOk P w (unt H D) h := fun b o e => by
  by_cases d : D b
  · rw [unt_at d] at e; cases e
  · rw [unt_no d] at e
    have st : ∀ c v, H c = some v → (∀ o u, v ≠ .frz o u) → unt H D c = some v := fun c v q n => by
      rw [unt_no fun z => by
        rcases fd c z with y | ⟨o, y⟩
        · rw [y] at q; cases q
        · rw [y] at q; cases q; exact n _ _ rfl]
      exact q
    exact (hok b o e).stay (fun c v _ q => q) (fun c q => st c _ q (fun _ _ z => by cases z)) fun c xs q => st c _ q (fun _ _ z => by cases z)
theorem env0_trk (e0 : Env0 P w K mg base A outer s H) (fd : ∀ d, D d → H d = none ∧ (∃ o, s.heap.get? d = some o) ∧ base.get? d = none ∧ d ∉ frs outer) : Env0 P w K mg base A outer s (trk H D s.heap) :=
  ⟨e0.frames, e0.mod, fun b o e => ⟨(e0.bs b o e).1, by rw [trk_no fun z => by rw [(fd b z).2.2.1] at e; cases e]; exact (e0.bs b o e).2⟩, e0.bsz, e0.funs, fun b hb => by rw [trk_no fun z => (fd b z).2.2.2 hb]; exact e0.frf b hb, hok_trk e0.hok fun d z => ⟨(fd d z).1, (fd d z).2.1⟩, e0.bare⟩
theorem env0_unt (e0 : Env0 P w K mg base A outer s H) (fd : ∀ d, D d → ∃ o, H d = some (.frz o (HX d))) : Env0 P w K mg base A outer s (unt H D) :=
  ⟨e0.frames, e0.mod, fun b o e => ⟨(e0.bs b o e).1, by
    by_cases d : D b
    · exact unt_at d
    · rw [unt_no d]; exact (e0.bs b o e).2⟩, e0.bsz, e0.funs, fun b hb => by
    by_cases d : D b
    · exact unt_at d
    · rw [unt_no d]; exact e0.frf b hb, hok_unt e0.hok fun d z => .inr (fd d z), e0.bare⟩
/-- behind a call that found D known -/
theorem ce_unt (fd : ∀ d, D d → H d = none ∧ (∃ o, s.heap.get? d = some o) ∧ d ∉ frs outer) (h : L2.CE outer P w (trk H D s.heap) s (fun v H3 => Q v (unt H3 D)) u s') : L2.CE outer P w H s Q u s' := by
  obtain ⟨v, H3, os, bare, un, hok, rv, q⟩ := h
  have kn : ∀ d, D d → ∃ o, s.heap.get? d = some o ∧ H3 d = some (.frz o (HX d)) := fun d z => by
    obtain ⟨_, ⟨o, e⟩, _⟩ := fd d z
    exact ⟨o, e, un.frzs d o (HX d) (trk_at z e)⟩
  have nd : ∀ b o, H b = some o → ¬ D b := fun b o e z => by rw [(fd b z).1] at e; cases e
  refine ⟨v, unt H3 D, os, bare, ⟨fun b o e n hf hx => ?_, fun b o e n hf hx => ?_, fun b o e n hx => ?_, un.there, fun b xs e => ?_, fun b o z e => ?_, fun b ps e => ?_⟩, hok_unt hok fun d z => .inr (let ⟨o, _, e⟩ := kn d z; ⟨o, e⟩), rv, q⟩
  · by_cases d : D b
    · obtain ⟨o2, e2, k⟩ := kn b d
      rw [e] at e2; cases e2
      exact frz_of hok k
    · exact un.keep b o e (by rw [trk_no d]; exact n) hf hx
  · exact un.slot b o e (by rw [trk_no fun d => (fd b d).2.2 hf]; exact n) hf hx
  · by_cases d : D b
    · exact unt_at d
    · rw [unt_no d]; exact un.free b o e (by rw [trk_no d]; exact n) hx
  · rw [unt_no (nd b _ e)]; exact un.tups b xs (by rw [trk_no (nd b _ e)]; exact e)
  · rw [unt_no (nd b _ e)]; exact un.frzs b o z (by rw [trk_no (nd b _ e)]; exact e)
  · rw [unt_no (nd b _ e)]; exact un.tbls b ps (by rw [trk_no (nd b _ e)]; exact e)
/-- behind a call that found D free -/
theorem un_back {fs : List Addr} {h h' : Heap} {H3 : Hp} (hd : ∀ d, D d → ∃ o, H d = some (.frz o (HX d))) (nf : ∀ b ∈ fs, H b = none) (un : Un fs [] (unt H D) H3 h h') : Un fs [] H (back H H3 D) h h' := by
  have nd : ∀ b, H b = none → ¬ D b := fun b e z => by obtain ⟨o, q⟩ := hd b z; rw [e] at q; cases q
  have un0 : ∀ b, H b = none → unt H D b = none := fun b e => by rw [unt_no (nd b e)]; exact e
  refine ⟨fun b o e n hf hx => un.keep b o e (un0 b n) hf hx, fun b o e n hf hx => un.slot b o e (un0 b n) hf hx, fun b o e n hx => ?_, un.there, fun b xs e => ?_, fun b o z e => ?_, fun b ps e => ?_⟩
  · rw [back_no (nd b n)]; exact un.free b o e (un0 b n) hx
  · have n : ¬ D b := fun z => by obtain ⟨o, q⟩ := hd b z; rw [e] at q; cases q
    rw [back_no n]; exact un.tups b xs (by rw [unt_no n]; exact e)
  · by_cases d : D b
    · rw [back_at d]; exact e
    · rw [back_no d]; exact un.frzs b o z (by rw [unt_no d]; exact e)
  · have n : ¬ D b := fun z => by obtain ⟨o, q⟩ := hd b z; rw [e] at q; cases q
    rw [back_no n]; exact un.tbls b ps (by rw [unt_no n]; exact e)
theorem hok_back {h h' : Heap} {H3 : Hp} (hd : ∀ d, D d → ∃ o, H d = some (.frz o (HX d)) ∧ h'.get? d = some o) (hn : ∀ d, D d → H3 d = none) (hok : HOk P w H3 h') : HOk P w (back H H3 D) h' := fun b o e => by
  by_cases d : D b
  · obtain ⟨ob, e1, e2⟩ := hd b d
    rw [back_at d, e1] at e
    cases e
    exact hx_ok e2
  · rw [back_no d] at e
    have st : ∀ c v, H3 c = some v → back H H3 D c = some v := fun c v q => by
      rw [back_no fun z => by rw [hn c z] at q; cases q]; exact q
    exact (hok b o e).stay (fun c v _ q => q) (fun c q => st c _ q) fun c xs q => st c _ q
theorem ce_back (hok : HOk P w H s.heap) (hd : ∀ d, D d → ∃ o, H d = some (.frz o (HX d))) (nf : ∀ b ∈ frs outer, H b = none) (h : L2.CE outer P w (unt H D) s (fun v H3 => (∀ d, D d → H3 d = none) → Q v (back H H3 D)) u s') : L2.CE outer P w H s Q u s' := by
  obtain ⟨v, H3, os, bare, un, hok3, rv, q⟩ := h
  have g : ∀ d, D d → ∃ o, H d = some (.frz o (HX d)) ∧ s.heap.get? d = some o := fun d z => let ⟨o, e⟩ := hd d z; ⟨o, e, frz_of hok e⟩
  have n3 : ∀ d, D d → H3 d = none := fun d z => let ⟨o, _, e⟩ := g d z; un.free d o e (unt_at z) (by simp)
  refine ⟨v, back H H3 D, os, bare, un_back hd nf un, hok_back (h := s.heap) (fun d z => ?_) n3 hok3, rv, q n3⟩
  obtain ⟨o, e1, e2⟩ := g d z
  exact ⟨o, e1, un.keep d o e2 (unt_at z) (fun m => by rw [nf d m] at e1; cases e1) (by simp)⟩
theorem cx_back (hok : HOk P w H s.heap) (hd : ∀ d, D d → ∃ o, H d = some (.frz o (HX d))) (nf : ∀ b ∈ frs outer, H b = none) (h : L2N.CX P w outer (unt H D) s (fun c d H3 => (∀ d, D d → H3 d = none) → E c d (back H H3 D)) u s') : L2N.CX P w outer H s E u s' := by
  obtain ⟨a, B, H3, cls, d0, rfl, fl, hok3, ub, na, os, ag, q⟩ := h
  have g : ∀ d, D d → ∃ o, H d = some (.frz o (HX d)) ∧ s.heap.get? d = some o := fun d z => let ⟨o, e⟩ := hd d z; ⟨o, e, frz_of hok e⟩
  have n3 : ∀ d, D d → H3 d = none := fun d z => let ⟨o, _, e⟩ := g d z; ub.free d o e (unt_at z)
  have gB : ∀ d, D d → ∃ o, H d = some (.frz o (HX d)) ∧ B.get? d = some o := fun d z => by
    obtain ⟨o, e1, e2⟩ := g d z
    exact ⟨o, e1, ub.keep d o e2 (unt_at z) (fun m => by rw [nf d m] at e1; cases e1)⟩
  have nd : ∀ b, H b = none → ¬ D b := fun b e z => by obtain ⟨o, q⟩ := hd b z; rw [e] at q; cases q
  have un0 : ∀ b, H b = none → unt H D b = none := fun b e => by rw [unt_no (nd b e)]; exact e
  refine ⟨a, B, back H H3 D, cls, d0, rfl, fl, hok_back (h := s.heap) gB n3 hok3, ⟨fun b o e n hf => ub.keep b o e (un0 b n) hf, ub.slot, fun b o e n => ?_, ub.there, fun b xs e => ?_, fun b o z e => ?_, fun b ps e => ?_⟩, ?_, os, ag, q n3⟩
  · rw [back_no (nd b n)]; exact ub.free b o e (un0 b n)
  · have n : ¬ D b := fun z => by obtain ⟨o, q⟩ := hd b z; rw [e] at q; cases q
    rw [back_no n]; exact ub.tups b xs (by rw [unt_no n]; exact e)
  · by_cases d : D b
    · rw [back_at d]; exact e
    · rw [back_no d]; exact ub.frzs b o z (by rw [unt_no d]; exact e)
  · have n : ¬ D b := fun z => by obtain ⟨o, q⟩ := hd b z; rw [e] at q; cases q
    rw [back_no n]; exact ub.tbls b ps (by rw [unt_no n]; exact e)
  · rw [back_no fun z => ?_]
    · exact na
    · obtain ⟨o, _, e⟩ := gB a z
      rw [fl.2.1] at e; cases e
end
end PyC
end

section
set_option maxHeartbeats 200000
namespace PyC
open PySem PySem.Spec L2
section
variable {K K' : KC} {H H' : Hp} {S T T' : AS} {m : Bool}
theorem opn_of {kvs : List (PyData × PyData)} {v : V} (h : OpnR K H kvs v) : ∃ f js L cl a c, opnOf kvs = some (f, js) ∧ kvs = [(.list (.int f :: .none :: js), .none)] ∧ K.lam f.toNat L ∧ v = .ref a ∧ LamAt H L cl a c ∧ ClB L cl js.length ∧
    ∀ (i : Nat) (y : Str) (p : PyData), L.fv[i]? = some y → js[i]? = some p → ∃ d j, p = .int j ∧ cl.lookup y = some d ∧ K.cell j.toNat = some d := by
  obtain ⟨f, js, L, cl, a, c, rfl, h2, h3, h4, h5, h6⟩ := h
  exact ⟨f, js, L, cl, a, c, rfl, rfl, h2, h3, h4, h5, h6⟩
mutual
/-- in a frame whose own names have other cells -/
theorem Rep.cell (e1 : K'.fr = K.fr) (e2 : K'.lam = K.lam) (h : m = false → ∀ j d, K.cell j = some d → K'.cell j = some d) : ∀ {p : PyData} {v : V}, (m = true → noOp p = true) → Rep K H S p v → Rep K' H S p v
  | .none, _, _, r => r
  | .bool _, _, _, r => r
  | .int _, _, _, r => r
  | .str _, _, _, r => r
  | .list ds, _, n, ⟨a, xs, e, s, q, r⟩ => ⟨a, xs, e, s, q, RepL.cell e1 e2 h (fun z => by simpa [noOp] using n z) r⟩
  | .tuple ds, _, n, ⟨a, xs, e, q, r⟩ => ⟨a, xs, e, by rw [e1]; exact q, RepL.cell e1 e2 h (fun z => by simpa [noOp] using n z) r⟩
  | .dict _, _, _, .inl r => .inl (by rw [e1]; exact r)
  | .dict _, _, n, .inr (.inl ⟨a, ks, e1', s, q, e2', r⟩) => .inr (.inl ⟨a, ks, e1', s, q, e2', RepD.cell e1 e2 h (fun z => (by have := n z; simp only [noOp, Bool.and_eq_true] at this; exact this.2)) r⟩)
  | .dict kvs, _, n, .inr (.inr (.inl r)) => .inr (.inr (.inl (by
      obtain ⟨f, js, L, cl, a, c, q0, q1, q2, q3, q4, q5, q6⟩ := opn_of r
      cases hm : m with
      | true =>
        have := n hm
        simp only [noOp, Bool.and_eq_true, q0] at this
        cases this.1
      | false =>
        refine ⟨f, js, L, cl, a, c, q1, by rw [e2]; exact q2, q3, q4, q5, fun i y p y1 y2 => ?_⟩
        obtain ⟨d, j, z1, z2, z3⟩ := q6 i y p y1 y2
        exact ⟨d, j, z1, z2, h hm _ _ z3⟩)))
  | .dict _, _, n, .inr (.inr (.inr ⟨xs, r, .inl ⟨f, r', ys, L, cl, a, c, q1, q2, q3, q⟩⟩)) => .inr (.inr (.inr ⟨xs, RepD.cell e1 e2 h (fun z => (by have := n z; simp only [noOp, Bool.and_eq_true] at this; exact this.2)) r, .inl ⟨f, r', ys, L, cl, a, c, q1, q2, by rw [e2]; exact q3, q⟩⟩))
  | .dict _, _, n, .inr (.inr (.inr ⟨xs, r, .inr ⟨c, c', r', ys, Ca, ns, a, d, q1, q2, q3, q⟩⟩)) => .inr (.inr (.inr ⟨xs, RepD.cell e1 e2 h (fun z => (by have := n z; simp only [noOp, Bool.and_eq_true] at this; exact this.2)) r, .inr ⟨c, c', r', ys, Ca, ns, a, d, q1, q2, by rw [e2]; exact q3, q⟩⟩))
theorem RepL.cell (e1 : K'.fr = K.fr) (e2 : K'.lam = K.lam) (h : m = false → ∀ j d, K.cell j = some d → K'.cell j = some d) : ∀ {ds : List PyData} {xs : List V}, (m = true → noOpL ds = true) → RepL K H S ds xs → RepL K' H S ds xs
  | [], [], _, _ => trivial
  | d :: ds, _ :: _, n, ⟨r, t⟩ => ⟨Rep.cell e1 e2 h (fun z => (by have := n z; simp only [noOpL, Bool.and_eq_true] at this; exact this.1)) r, RepL.cell e1 e2 h (fun z => (by have := n z; simp only [noOpL, Bool.and_eq_true] at this; exact this.2)) t⟩
  | [], _ :: _, _, r => r.elim
  | _ :: _, [], _, r => r.elim
theorem RepD.cell (e1 : K'.fr = K.fr) (e2 : K'.lam = K.lam) (h : m = false → ∀ j d, K.cell j = some d → K'.cell j = some d) : ∀ {ds : List (PyData × PyData)} {xs : List V}, (m = true → noOpK ds = true) → RepD K H S ds xs → RepD K' H S ds xs
  | [], [], _, _ => trivial
  | (_, d) :: ds, _ :: _, n, ⟨r, t⟩ => ⟨Rep.cell e1 e2 h (fun z => (by have := n z; simp only [noOpK, Bool.and_eq_true] at this; exact this.1)) r, RepD.cell e1 e2 h (fun z => (by have := n z; simp only [noOpK, Bool.and_eq_true] at this; exact this.2)) t⟩
  | [], _ :: _, _, r => r.elim
  | _ :: _, [], _, r => r.elim
end
theorem Root.cell (e1 : K'.fr = K.fr) (e2 : K'.lam = K.lam) (h : m = false → ∀ j d, K.cell j = some d → K'.cell j = some d) {p : PyData} {a : Addr} (n : m = true → noOp p = true) (r : Root K H S p a) : Root K' H S p a := by
  cases p with
  | list ds => obtain ⟨xs, q, r⟩ := r.invL; exact Root.mkL q (r.cell e1 e2 h fun z => by simpa [noOp] using n z)
  | dict kvs => obtain ⟨ks, q, e, r⟩ := r.invD; exact Root.mkD q e (r.cell e1 e2 h fun z => (by have := n z; simp only [noOp, Bool.and_eq_true] at this; exact this.2))
  | _ => obtain ⟨_, o, _, _, r⟩ := r; exact r.elim
/-- nothing that is known for a while -/
def Kept (H H' : Hp) : Prop := ∀ a o, H a = some o → (∀ ob x, o ≠ .frz ob (.ext x)) → H' a = some o
mutual
/-- data without closures lean on no cell -/
theorem Rep.unt (k : Kept H H') : ∀ {p : PyData} {v : V}, noC p = true → Rep K H S p v → Rep K H' (fun a => S a ∧ ∃ o, H' a = some o) p v
  | .none, _, _, r => r
  | .bool _, _, _, r => r
  | .int _, _, _, r => r
  | .str _, _, _, r => r
  | .list ds, _, n, ⟨a, xs, e, s, q, r⟩ => by
    have q' : Rd H' a (.lst xs) := by
      rcases q with q | ⟨o, q⟩
      · exact .inl (k _ _ q fun _ _ z => by cases z)
      · exact .inr ⟨o, k _ _ q fun _ _ z => by cases z⟩
    refine ⟨a, xs, e, ⟨s, ?_⟩, q', RepL.unt k (by simpa [noC] using n) r⟩
    rcases q' with q | ⟨o, q⟩ <;> exact ⟨_, q⟩
  | .tuple ds, _, n, ⟨a, xs, e, q, r⟩ => ⟨a, xs, e, by
      rcases q with (q | ⟨o, q⟩) | q
      · exact .inl (.inl (k _ _ q fun _ _ z => by cases z))
      · exact .inl (.inr ⟨o, k _ _ q fun _ _ z => by cases z⟩)
      · exact .inr q, RepL.unt k (by simpa [noC] using n) r⟩
  | .dict _, _, n, .inl ⟨ns, a, e, _⟩ => by subst e; simp [noC, noCK, keyOk] at n
  | .dict _, _, n, .inr (.inl ⟨a, ks, e1', s, q, e2', r⟩) => by
    have q' : Rd H' a (.dK ks) := by
      rcases q with q | ⟨o, q⟩
      · exact .inl (k _ _ q fun _ _ z => by cases z)
      · exact .inr ⟨o, k _ _ q fun _ _ z => by cases z⟩
    refine .inr (.inl ⟨a, ks, e1', ⟨s, ?_⟩, q', e2', RepD.unt k (by simpa [noC] using n) r⟩)
    rcases q' with q | ⟨o, q⟩ <;> exact ⟨_, q⟩
  | .dict kvs, _, n, .inr (.inr (.inl ⟨f, js, _, _, _, _, e, _⟩)) => by subst e; simp [noC, noCK, keyOk] at n
  | .dict _, _, n, .inr (.inr (.inr ⟨xs, r, .inl ⟨f, r', ys, L, cl, a, c, e, _⟩⟩)) => by subst e; simp [noC, noCK, keyOk] at n
  | .dict _, _, n, .inr (.inr (.inr ⟨xs, r, .inr ⟨c, c', r', ys, Ca, ns, a, d, e, _⟩⟩)) => by subst e; simp [noC, noCK, keyOk] at n
theorem RepL.unt (k : Kept H H') : ∀ {ds : List PyData} {xs : List V}, noCL ds = true → RepL K H S ds xs → RepL K H' (fun a => S a ∧ ∃ o, H' a = some o) ds xs
  | [], [], _, _ => trivial
  | d :: ds, _ :: _, n, ⟨r, t⟩ => by
    simp only [noCL, Bool.and_eq_true] at n
    exact ⟨Rep.unt k n.1 r, RepL.unt k n.2 t⟩
  | [], _ :: _, _, r => r.elim
  | _ :: _, [], _, r => r.elim
theorem RepD.unt (k : Kept H H') : ∀ {ds : List (PyData × PyData)} {xs : List V}, noCK ds = true → RepD K H S ds xs → RepD K H' (fun a => S a ∧ ∃ o, H' a = some o) ds xs
  | [], [], _, _ => trivial
  | (_, d) :: ds, _ :: _, n, ⟨r, t⟩ => by
    simp only [noCK, Bool.and_eq_true] at n
    exact ⟨Rep.unt k n.1.2 r, RepD.unt k n.2 t⟩
  | [], _ :: _, _, r => r.elim
  | _ :: _, [], _, r => r.elim
end
theorem Root.unt (k : Kept H H') {p : PyData} {a : Addr} (n : noC p = true) (r : Root K H S p a) : Root K H' (fun a => S a ∧ ∃ o, H' a = some o) p a := by
  cases p with
  | list ds => obtain ⟨xs, q, r⟩ := r.invL; exact Root.mkL (k _ _ q fun _ _ z => by cases z) (r.unt k (by simpa [noC] using n))
  | dict kvs => obtain ⟨ks, q, e, r⟩ := r.invD; exact Root.mkD (k _ _ q fun _ _ z => by cases z) e (r.unt k (by simpa [noC] using n))
  | _ => obtain ⟨_, o, _, _, r⟩ := r; exact r.elim
end
/-! sealing -/
section
variable {K K' : KC} {H H' : Hp} {T T' : AS} {ρ : Rho}
theorem RepL.none_ : ∀ {ps : List PyData} {ys : List V}, RepL K H T ps ys → RepD K H T (ps.map fun p => (.none, p)) ys
  | [], [], _ => trivial
  | _ :: _, _ :: _, ⟨h, t⟩ => ⟨h, RepL.none_ t⟩
  | [], _ :: _, h => h.elim
  | _ :: _, [], h => h.elim
/-- where the cells of a frame's kept names stand -/
def CelR (K K' : KC) (H' : Hp) (T' : AS) (ρ : Rho) : Prop := ∀ (j : Nat) (d : Addr) (p : PyData), K.cell j = some d → ρ[j]? = some (.fz p) → noOp p = true → ∃ x, CellR H' d x ∧ T' d ∧ Rep K' H' T' p x
theorem caps_ok (hc : CelR K K' H' T' ρ) {cl : List (Str × Addr)} : ∀ {js : List PyData} {fv : List Str} {ps : List PyData}, capsOf ρ js = some ps → fv.length = js.length →
    (∀ (i : Nat) (y : Str) (p : PyData), fv[i]? = some y → js[i]? = some p → ∃ d j, p = .int j ∧ cl.lookup y = some d ∧ K.cell j.toNat = some d) →
    ∃ ys, ys.length = js.length ∧ RepL K' H' T' ps ys ∧ ∀ (i : Nat) (y : Str) (x : V), fv[i]? = some y → ys[i]? = some x → ∃ d, cl.lookup y = some d ∧ T' d ∧ CellR H' d x
  | [], [], ps, h, _, _ => by
    cases h
    exact ⟨[], rfl, trivial, fun i y x e => by simp at e⟩
  | q :: js, y :: fv, ps, h, l, c => by
    obtain ⟨d, j, rfl, c2, c3⟩ := c 0 y q rfl rfl
    unfold capsOf at h
    split at h
    · rename_i p r h1 h2
      split at h
      · rename_i hn
        cases h
        obtain ⟨x, x1, x2, x3⟩ := hc _ _ _ c3 h1 hn
        obtain ⟨ys, y1, y2, y3⟩ := caps_ok hc (js := js) (fv := fv) h2 (by simpa using l) fun i z w e1 e2 => c (i + 1) z w (by simpa using e1) (by simpa using e2)
        refine ⟨x :: ys, by simp [y1], ⟨x3, y2⟩, fun i z w e1 e2 => ?_⟩
        cases i with
        | zero => simp at e1 e2; subst e1 e2; exact ⟨d, c2, x2, x1⟩
        | succ i => exact y3 i z w (by simpa using e1) (by simpa using e2)
      · cases h
    · cases h
  | [], _ :: _, _, _, l, _ => by simp at l
  | _ :: _, [], _, _, l, _ => by simp at l
theorem opn_none {kvs : List (PyData × PyData)} {ks : List (Key × V)} (h : KeyL kvs ks) : opnOf kvs = none := by
  unfold opnOf
  split
  · exact (keyL_head h).elim
  · rfl
mutual
theorem Rep.seal (e1 : K'.fr = K.fr) (e2 : K'.lam = K.lam) (k : ∀ a o, H a = some o → NT o → H' a = some o) (mo : ∀ a, T a → T' a) (hc : CelR K K' H' T' ρ) : ∀ {p q : PyData} {v : V}, sealD ρ p = some q → Rep K H T p v → Rep K' H' T' q v
  | .none, _, _, h, r => by cases h; exact r
  | .bool _, _, _, h, r => by cases h; exact r
  | .int _, _, _, h, r => by cases h; exact r
  | .str _, _, _, h, r => by cases h; exact r
  | .list ds, _, _, h, ⟨a, xs, e, s, q, r⟩ => by
    unfold sealD at h
    obtain ⟨qs, h1, rfl⟩ := Option.map_eq_some_iff.mp h
    exact ⟨a, xs, e, mo a s, SqL.stay q (k a), RepL.seal e1 e2 k mo hc h1 r⟩
  | .tuple ds, _, _, h, ⟨a, xs, e, q, r⟩ => by
    unfold sealD at h
    obtain ⟨qs, h1, rfl⟩ := Option.map_eq_some_iff.mp h
    exact ⟨a, xs, e, by rw [e1]; exact SqT.stay q fun o e t _ => k a o e t, RepL.seal e1 e2 k mo hc h1 r⟩
  | .dict kvs, q, v, h, r => by
    unfold sealD at h
    cases ho : opnOf kvs with
    | none =>
      simp only [ho] at h
      split at h
      · rename_i hn
        cases h
        have r2 : Rep K' H T (.dict kvs) v := Rep.cell (m := true) e1 e2 (fun z => by cases z) (fun _ => by simp [noOp, ho, hn]) r
        exact r2.stay (fun a o e t _ => k a o e t) mo
      · cases h
    | some fj =>
      obtain ⟨f, js⟩ := fj
      simp only [ho] at h
      obtain ⟨ps, h1, rfl⟩ := Option.map_eq_some_iff.mp h
      rcases r with ⟨ns, a, e, _⟩ | ⟨a, ks, _, _, _, e, _⟩ | r | ⟨xs, _, ⟨f', r', _, _, _, _, _, e, _⟩ | ⟨c', c'', r', _, _, _, _, _, e, _⟩⟩
      · subst e; cases ho
      · rw [opn_none e] at ho; cases ho
      · obtain ⟨f', js', L, cl, a, c, q0, q1, q2, q3, q4, q5, q6⟩ := opn_of r
        rw [ho] at q0
        cases q0
        obtain ⟨ys, y1, y2, y3⟩ := caps_ok hc h1 q5.len q6
        refine .inr (.inr (.inr ⟨.non :: ys, ⟨rfl, y2.none_⟩, .inl ⟨f, _, ys, L, cl, a, c, rfl, rfl, by rw [e2]; exact q2, q3, q4.stay fun a o e t _ => k a o e t, by rw [y1]; exact q5, y3⟩⟩))
      · subst e
        cases r' <;> cases ho
      · subst e
        cases r' <;> cases ho
theorem RepL.seal (e1 : K'.fr = K.fr) (e2 : K'.lam = K.lam) (k : ∀ a o, H a = some o → NT o → H' a = some o) (mo : ∀ a, T a → T' a) (hc : CelR K K' H' T' ρ) : ∀ {ds qs : List PyData} {xs : List V}, sealL ρ ds = some qs → RepL K H T ds xs → RepL K' H' T' qs xs
  | [], _, [], h, _ => by cases h; trivial
  | d :: ds, _, _ :: _, h, ⟨r, t⟩ => by
    unfold sealL at h
    split at h
    · rename_i h1 h2
      cases h
      exact ⟨Rep.seal e1 e2 k mo hc h1 r, RepL.seal e1 e2 k mo hc h2 t⟩
    · cases h
  | [], _, _ :: _, _, r => r.elim
  | _ :: _, _, [], _, r => r.elim
end
theorem Root.seal (e1 : K'.fr = K.fr) (e2 : K'.lam = K.lam) (k : ∀ a o, H a = some o → NT o → H' a = some o) (mo : ∀ a, T a → T' a) (hc : CelR K K' H' T' ρ) {p q : PyData} {a : Addr} (h : sealD ρ p = some q) (r : Root K H T p a) : Root K' H' T' q a := by
  cases p with
  | list ds =>
    unfold sealD at h
    obtain ⟨qs, h1, rfl⟩ := Option.map_eq_some_iff.mp h
    obtain ⟨xs, z, r⟩ := r.invL
    exact Root.mkL (k _ _ z fun ps y => by cases y) (r.seal e1 e2 k mo hc h1)
  | dict kvs =>
    obtain ⟨ks, z, e, r⟩ := r.invD
    unfold sealD at h
    rw [opn_none e] at h
    simp only at h
    split at h
    · rename_i hn
      cases h
      exact Root.mkD (k _ _ z fun ps y => by cases y) e ((RepD.cell (m := true) e1 e2 (fun z => by cases z) (fun _ => hn) r).stay (fun a o e t _ => k a o e t) mo)
    · cases h
  | _ => obtain ⟨_, o, _, _, r⟩ := r; exact r.elim
mutual
theorem seal_id : ∀ {p : PyData}, noOp p = true → sealD ρ p = some p
  | .none, _ => rfl
  | .bool _, _ => rfl
  | .int _, _ => rfl
  | .str _, _ => rfl
  | .list ds, n => by unfold sealD; rw [sealL_id (by simpa [noOp] using n)]; rfl
  | .tuple ds, n => by unfold sealD; rw [sealL_id (by simpa [noOp] using n)]; rfl
  | .dict kvs, n => by
    simp only [noOp, Bool.and_eq_true, Option.isNone_iff_eq_none] at n
    unfold sealD
    rw [n.1]
    simp [n.2]
theorem sealL_id : ∀ {ds : List PyData}, noOpL ds = true → sealL ρ ds = some ds
  | [], _ => rfl
  | d :: ds, n => by
    simp only [noOpL, Bool.and_eq_true] at n
    unfold sealL
    rw [seal_id n.1, sealL_id n.2]
end
theorem sealA_at : ∀ {vs ws : List (Bool × PyData)}, sealA ρ vs = some ws → ws.length = vs.length ∧ ∀ (i : Nat) (w : Bool × PyData), ws[i]? = some w → ∃ v, vs[i]? = some v ∧ w.1 = v.1 ∧ sealD ρ v.2 = some w.2
  | [], _, h => by cases h; exact ⟨rfl, fun i w e => by simp at e⟩
  | v :: vs, _, h => by
    unfold sealA at h
    split at h
    · rename_i p ps h1 h2
      cases h
      obtain ⟨l, q⟩ := sealA_at h2
      refine ⟨by simp [l], fun i w e => ?_⟩
      cases i with
      | zero => simp at e; subst e; exact ⟨v, rfl, rfl, h1⟩
      | succ i => exact q i w (by simpa using e)
    · cases h
theorem sealA_id : ∀ {vs : List (Bool × PyData)}, vs.all (fun v => noOp v.2) = true → sealA ρ vs = some vs
  | [], _ => rfl
  | v :: vs, h => by
    rw [List.all_cons, Bool.and_eq_true] at h
    unfold sealA
    rw [seal_id h.1, sealA_id h.2]
end
end PyC
end

section
set_option maxHeartbeats 200000
namespace PyC
open PySem PySem.Spec L2
abbrev F0 : XK := fun _ _ _ => False
structure CelH (C : RK) (σ : L2.St) (H : Hp) (D : Addr → Prop) (h : Heap) : Prop where
  fd : ∀ d, D d → H d = none ∧ ∃ o, h.get? d = some o
  val : ∀ j d v, C.fr.cell j = some d → σ[j]? = some (some v) → D d ∧ ∃ o u, h.get? d = some o ∧ o.data = .cell (some u) ∧ RelV v u
section
variable {K K' : KC} {H H' : Hp} {T T' : AS} {ρ : Rho} {m : Bool}
theorem ArgL.cell (e1 : K'.fr = K.fr) (e2 : K'.lam = K.lam) {args : List (Bool × PyData)} {vs : List V} (n : args.all (fun v => noOp v.2) = true) (a : ArgL K H T args vs) : ArgL K' H T args vs :=
  ⟨a.len, fun i w x h1 h2 => by
    have q := a.at_ i w x h1 h2
    have hn : noOp w.2 = true := List.all_eq_true.mp n w (List.mem_of_getElem? h1)
    unfold ArgV at q ⊢
    split
    · rename_i hb
      rw [if_pos hb] at q
      obtain ⟨t, e, r⟩ := q
      exact ⟨t, e, r.cell (m := true) e1 e2 (fun z => by cases z) fun _ => hn⟩
    · rename_i hb
      rw [if_neg hb] at q
      exact q.cell (m := true) e1 e2 (fun z => by cases z) fun _ => hn⟩
theorem ArgL.seal (e1 : K'.fr = K.fr) (e2 : K'.lam = K.lam) (k : ∀ a o, H a = some o → NT o → H' a = some o) (mo : ∀ a, T a → T' a) (hc : CelR K K' H' T' ρ) {args ws : List (Bool × PyData)} {vs : List V} (h : sealA ρ args = some ws) (a : ArgL K H T args vs) : ArgL K' H' T' ws vs := by
  obtain ⟨l, at_⟩ := sealA_at h
  refine ⟨l.trans a.len, fun i w x h1 h2 => ?_⟩
  obtain ⟨v, h3, h4, h5⟩ := at_ i w h1
  have q := a.at_ i v x h3 h2
  unfold ArgV at q ⊢
  rw [h4]
  split
  · rename_i hb
    rw [if_pos hb] at q
    obtain ⟨t, e, r⟩ := q
    exact ⟨t, e, r.seal e1 e2 k mo hc h5⟩
  · rename_i hb
    rw [if_neg hb] at q
    exact q.seal e1 e2 k mo hc h5
theorem frat_seal {args ws : List (Bool × PyData)} {vs : List V} (h : sealA ρ args = some ws) {t : Addr} (z : FrAt ws vs t) : FrAt args vs t := by
  obtain ⟨i, p, h1, h2⟩ := z
  obtain ⟨v, h3, h4, _⟩ := (sealA_at h).2 i _ h1
  obtain ⟨b, q⟩ := v
  cases h4
  exact ⟨i, q, h3, h2⟩
theorem RetV.cell {fs : Addr → Prop} (e1 : K'.fr = K.fr) (e2 : K'.lam = K.lam) (h : ∀ j d, K.cell j = some d → K'.cell j = some d) {fr : Bool} {p : PyData} {x : V} (r : RetV K H H' fs T fr p x) : RetV K' H H' fs T fr p x := by
  unfold RetV at r ⊢
  split
  · rename_i hb
    rw [if_pos hb] at r
    obtain ⟨t, h1, h2, h3, h4⟩ := r
    exact ⟨t, h1, h2, h3, h4.cell (m := false) e1 e2 (fun _ => h) fun z => by cases z⟩
  · rename_i hb
    rw [if_neg hb] at r
    exact r.cell (m := false) e1 e2 (fun _ => h) fun z => by cases z
end
section
variable {C : RK} {call : CallT} {W : WX} {σ : L2.St} {H : Hp} {S T : AS} {ρ : Rho} {Q : VK}
theorem tabs_unt {T : List (Addr × Str)} {H : Hp} {D : Addr → Prop} (t : LamX.Tabs T H) (kn : ∀ d, D d → ∃ o, H d = some (.frz o (HX d))) : LamX.Tabs T (unt H D) := fun p hp => by
  have k : ∀ b o, H b = some o → (∀ ob u, o ≠ .frz ob u) → unt H D b = some o := fun b o e n => by
    rw [unt_no fun z => by obtain ⟨ob, q⟩ := kn b z; rw [e] at q; cases q; exact n _ _ rfl]
    exact e
  obtain ⟨ps, h1, h2, h3⟩ := t p hp
  refine ⟨ps, k _ _ h1 (fun _ _ z => by cases z), h2, fun pos cv hc => ?_⟩
  obtain ⟨c, e1, e2⟩ := h3 pos cv hc
  exact ⟨c, e1, k _ _ e2 (fun _ _ z => by unfold LamX.CodeO at z; cases z)⟩
theorem tE.callC {f : Nat} {es : CEs} (h : tE C call W (.callC f es) σ H Q) :
    tEs C call W es σ H fun xs H1 => spF C.base call f xs H1 Q F0 ∨ ∀ D hp, CelH C σ H1 D hp → spF C.base call f xs (trk H1 D hp) (fun v H3 => Q v (unt H3 D)) F0 := by
  obtain ⟨ρ, S, R, k⟩ := h
  simp only [evE] at k
  refine ⟨ρ, S, R, k.bind.imp (fun vs ρ1 k xs H1 T R1 st1 b1 vl nd nw => ?_) fun _ _ _ z => z⟩
  have nw' : ∀ t, FrAt vs xs t → H t = none := fun t ht => nw t (fresh_at ht)
  have ls' : ∀ t, FrAt vs xs t → ∃ o, H1 t = some o ∧ MO o := fun t ht => vl.lists t (fresh_at ht)
  have al : ArgL C.fr H1 (fun a => S a ∨ T a) vs xs := vl.arg_l fun a z => .inr z
  have nST : ∀ t, FrAt vs xs t → ¬ (S t ∨ T t) := fun t ht z => by
    rcases z with z | z
    · obtain ⟨o, e⟩ := R.dom t z
      rw [nw' t ht] at e; cases e
    · exact ValL.notT vl t (fresh_at ht) z
  have dm : ∀ a, S a ∨ T a → ∃ o, H1 a = some o := fun a z => z.elim (R1.dom a) (b1.dm a)
  cases hs : sealA ρ1 vs with
  | none => rw [hs] at k; exact k.elim
  | some ws =>
    rw [hs] at k
    simp only at k
    by_cases hn : vs.all (fun v => noOp v.2) = true
    · left
      have : ws = vs := by rw [sealA_id hn] at hs; exact (Option.some.inj hs).symm
      subst this
      refine ⟨fun a => S a ∨ T a, ws, dm, ArgL.cell (K := C.fr) (K' := C.fr.base) rfl rfl hn al, fresh_one nd, nST, R1.tab, ?_⟩
      split
      · rename_i e; rw [e] at k; exact k.elim
      · rename_i fr p io e
        rw [e] at k
        simp only [hn, Bool.true_or, if_true] at k
        intro x H' T' l tb r _
        obtain ⟨R2, st2, b2⟩ := after_call R R1 st1 b1 nw' ls' l tb
        have vv := ret_val (C := C) R1 st1 nw' (RetV.cell (K := C.fr.base) (K' := C.fr) rfl rfl (fun _ _ z => by cases z) r)
        exact k x H' T' R2 st2 b2 vv (opd_of rfl b2 vv)
      · rename_i c ps e
        rw [e] at k; exact k.elim
    · right
      intro D hp ch
      have nD : ∀ a o, H1 a = some o → ¬ D a := fun a o e z => by rw [(ch.fd a z).1] at e; cases e
      have ext : ∀ a o, H1 a = some o → trk H1 D hp a = some o := fun a o e => by rw [trk_no (nD a o e)]; exact e
      have cel : CelR C.fr C.fr.base (trk H1 D hp) (fun a => (S a ∨ T a) ∨ D a) ρ1 := fun j d p h1 h2 h3 => by
        obtain ⟨v, e1, r⟩ := R1.fz j p h2
        obtain ⟨dd, o, u, e2, e3, e4⟩ := ch.val j d v h1 e1
        exact ⟨v, ⟨o, u, trk_at dd e2, e3, e4⟩, .inr dd, (Rep.cell (K := C.fr) (K' := C.fr.base) (m := true) rfl rfl (fun z => by cases z) (fun _ => h3) r).stay (fun a o e _ _ => ext a o e) fun a z => .inl (.inl z)⟩
      refine ⟨fun a => (S a ∨ T a) ∨ D a, ws, fun a z => ?_, ArgL.seal (K := C.fr) (K' := C.fr.base) rfl rfl (fun a o e _ => ext a o e) (fun _ z => .inl z) cel hs al, ?_, fun t ht z => ?_, R1.tab.ext ext, ?_⟩
      · rcases z with z | z
        · obtain ⟨o, e⟩ := dm a z
          exact ⟨o, ext a o e⟩
        · obtain ⟨o, e⟩ := (ch.fd a z).2
          exact ⟨_, trk_at z e⟩
      · intro i j p q t h1 h2 h3 h4
        obtain ⟨v, e1, e2, _⟩ := (sealA_at hs).2 i _ h1
        obtain ⟨w, e3, e4, _⟩ := (sealA_at hs).2 j _ h3
        obtain ⟨b, p2⟩ := v
        obtain ⟨b', q2⟩ := w
        cases e2
        cases e4
        exact fresh_one nd i j p2 q2 t e1 h2 e3 h4
      · rcases z with z | z
        · exact nST t (frat_seal hs ht) z
        · obtain ⟨o, e, _⟩ := ls' t (frat_seal hs ht)
          exact nD t o e z
      · split
        · rename_i e; rw [e] at k; exact k.elim
        · rename_i fr p io e
          rw [e] at k
          simp only [hn, Bool.false_or] at k
          split at k
          case isFalse => exact k.elim
          rename_i hc
          intro x H3 T3 l tb r _
          have kn : ∀ d, D d → ∃ o, H3 d = some (.frz o (HX d)) := fun d z => by
            obtain ⟨o, e2⟩ := (ch.fd d z).2
            refine ⟨o, l.kept d _ (trk_at z e2) (fun ps y => by cases y) fun f => ?_⟩
            obtain ⟨o', e3, _⟩ := ls' d (frat_seal hs f)
            exact nD d o' e3 z
          have kp : Kept H3 (unt H3 D) := fun a o e2 n => by
            rw [unt_no fun z => by obtain ⟨ob, q⟩ := kn a z; rw [e2] at q; cases q; exact n _ _ rfl]
            exact e2
          have noD : ∀ a o, unt H3 D a = some o → ¬ D a := fun a o e2 z => by rw [unt_at z] at e2; cases e2
          have l2 : Left H1 (unt H3 D) (fun a => S a ∨ T a) (FrAt vs xs) (fun a => T3 a ∧ ∃ o, unt H3 D a = some o) := by
            refine ⟨fun a o e2 t n => ?_, fun a o e2 => ?_, fun a z => ?_, fun a z => z.2⟩
            · rw [unt_no (nD a o e2)]
              exact l.kept a o (ext a o e2) t fun f => n (frat_seal hs f)
            · rw [unt_no (nD a o e2)]
              exact l.th a o (ext a o e2)
            · obtain ⟨z, o, e2⟩ := z
              rcases l.bd a z with (z | z) | z | z
              · exact .inl z
              · exact (noD a o e2 z).elim
              · rw [trk_no (noD a o e2)] at z; exact .inr (.inl z)
              · exact .inr (.inr (frat_seal hs z))
          have r2 : RetV C.fr H1 (unt H3 D) (FrAt vs xs) (fun a => T3 a ∧ ∃ o, unt H3 D a = some o) fr p x := by
            unfold RetV at r ⊢
            split
            · rename_i hb
              rw [if_pos hb] at r
              obtain ⟨t, h1, h2, h3, h4⟩ := r
              have rt := Root.cell (K := C.fr.base) (K' := C.fr) (m := false) rfl rfl (fun _ _ _ z => by cases z) (fun z => by cases z) (h4.unt kp hc)
              refine ⟨t, h1, ?_, fun z => h3 z.1, rt⟩
              rcases h2 with h2 | h2
              · obtain ⟨o, e2, _⟩ := rt.obj
                rw [trk_no (noD t o e2)] at h2
                exact .inl h2
              · exact .inr (frat_seal hs h2)
            · rename_i hb
              rw [if_neg hb] at r
              exact Rep.cell (K := C.fr.base) (K' := C.fr) (m := false) rfl rfl (fun _ _ _ z => by cases z) (fun z => by cases z) (r.unt kp hc)
          obtain ⟨R2, st2, b2⟩ := after_call R R1 st1 b1 nw' ls' l2 (tabs_unt tb kn)
          have vv := ret_val (C := C) R1 st1 nw' r2
          exact k x (unt H3 D) _ R2 st2 b2 vv (opd_of rfl b2 vv)
        · rename_i c ps e
          rw [e] at k; exact k.elim
end
/-! the call itself -/
section
variable {X : Cx} {C : RK} {call : CallT}
/-- which slot's name has which cell -/
def celOf (X : Cx) : Nat → Option Addr := fun j => match X.N[j]? with
  | some y => if X.env.kindOf y = some .cell then X.env.cells.lookup y else none
  | none => none
def Dcel (X : Cx) (d : Addr) : Prop := ∃ y, X.env.cells.lookup y = some d
theorem celH_of {pins : List (Addr × Obj)} {σ : L2.St} {H : Hp} {s : Shared} (I : Inv X pins σ H s) (hc : C.fr.cell = celOf X) : CelH C σ H (Dcel X) s.heap := by
  refine ⟨fun d ⟨y, e⟩ => ?_, fun j d v h1 h2 => ?_⟩
  · obtain ⟨v, o, ho, _⟩ := I.cell y d e
    exact ⟨I.freeC y d e, o, ho⟩
  · rw [hc] at h1
    unfold celOf at h1
    split at h1
    · rename_i y hy
      split at h1
      · rename_i hk
        obtain ⟨m, _, hl⟩ := I.loc
        have hv : Vis X.env.scope y := .inr (.inl hk)
        obtain ⟨u, ru, lk⟩ := hl j y v hy h2 hv
        rcases lk with ⟨hk2, _⟩ | ⟨_, c, hcl, o, ho, hd⟩
        · rw [hk] at hk2; cases hk2
        · rw [h1] at hcl; cases hcl
          exact ⟨⟨y, h1⟩, o, u, ho, hd, ru⟩
      · cases h1
    · cases h1
theorem dcel_fr {pins : List (Addr × Obj)} {σ : L2.St} {H : Hp} {s : Shared} (I : Inv X pins σ H s) (hf : X.fn = fun _ => true) : ∀ d, Dcel X d → H d = none ∧ (∃ o, s.heap.get? d = some o) ∧ X.base.get? d = none ∧ d ∉ frs X.stack := fun d ⟨y, e⟩ => by
  obtain ⟨v, o, ho, _⟩ := I.cell y d e
  have ab : X.s_0.heap.objs.size ≤ d := I.ok.cab y d (by rw [hf]) e
  refine ⟨I.freeC y d e, ⟨o, ho⟩, Heap.get?_none_of_le (Nat.le_trans I.ok.bsz ab), fun m => ?_⟩
  rcases List.mem_cons.mp (I.stkSub d m) with z | z
  · exact I.cne y d e z
  · obtain ⟨_, o', ho', _⟩ := I.ok.funs.mem z
    exact absurd (Nat.lt_of_lt_of_le (Heap.lt_size ho') ab) (Nat.lt_irrefl _)
theorem pe_callC {n : Nat} {f : Nat} {fa : Addr} {fd : FuncData} {ps : List Str} {y : Str} {q pos : Pos} {e : Expr} {es : List Expr} {t : TA} (F : FnG X.prog X.w X.K X.mg X.base (L2N.CX X.prog X.w) n fa fd ps (spF C.base call f)) (hr : Room n X.A) (gd : X.A.guards = some []) (hg : Gl X y) (hm : X.mg y = some (.ref fa)) (hk : PySem.W.keepIn X.K (.ref fa) = true) (hb : Binds X.K fd ps [])
    (hc : C.fr.cell = celOf X) (hf : X.fn = fun _ => true) (ha : PA X (e :: es) t) (hdb : (y == ("__debug__" : Str)) = false) (he : starEach (e :: es) X.env = (false, eval e X.env) :: starEach es X.env) (hpl : (backTo pos (starEach es X.env)).any (·.1) = false) :
    PE X (.Call (.Name y q) (e :: es) [] pos) (fun σ H Q => t σ H fun xs H1 => spF C.base call f xs H1 Q F0 ∨ ∀ D hp, CelH C σ H1 D hp → spF C.base call f xs (trk H1 D hp) (fun v H3 => Q v (unt H3 D)) F0) := by
  refine ⟨fun pins s σ H Q I h => wpAny_Call_Name_kw (ld_glob I hg hm ?_ hdb)⟩
  refine PySem.W.callWith_K (h₀ := X.base) I.ok.mod.kin hk (thn (ha.run pos pins s σ H _ I h) fun us s1 ⟨xs, H1, I1, r, z⟩ => ⟨I1.kIn, ?_⟩) he hpl
  have nox : ∀ {Hq : Hp} {er : Value} {s' : Shared}, L2N.CX X.prog X.w X.stack Hq s1 F0 er s' → False := fun w => by
    obtain ⟨_, _, _, _, _, _, _, _, _, _, _, _, w⟩ := w
    exact w
  rcases z with z | z
  · exact run_fnG (E := fun _ => F0) F hr gd hb (fun _ _ _ _ _ _ c => (nox' c).elim) I1 r z
  · have fd' := dcel_fr I1 hf
    have sp := z (Dcel X) s1.heap (celH_of I1 hc)
    have hl : us.length = ps.length := r.length.symm.trans (F.len _ _ _ _ sp)
    have b := hb s1 us I1.kIn ((List.append_nil us).symm ▸ hl)
    rw [List.append_nil] at b
    refine wpAny_call (codeAny_mono (F.run X.A X.stack s1 _ ⟨us, []⟩ us xs _ F0 hr gd (env0_trk I1.env0 fd') b r sp) fun a s' hq => ?_)
    match a, hq with
    | .error er, hq => exact (nox hq).elim
    | .ok (.ret u), hq => exact I1.after (ce_unt (fun d w => ⟨(fd' d w).1, (fd' d w).2.1, (fd' d w).2.2.2⟩) hq)
    | .ok .next, hq => exact hq.elim
    | .ok .brk, hq => exact hq.elim
    | .ok .cont, hq => exact hq.elim
where
  nox' {P : Program} {w : World} {o : List Env} {Hq : Hp} {s1 : Shared} {er : Value} {s' : Shared} (h : L2N.CX P w o Hq s1 F0 er s') : False := by
    obtain ⟨_, _, _, _, _, _, _, _, _, _, _, _, w⟩ := h
    exact w
end
end PyC
end

section
set_option maxHeartbeats 200000
namespace PyC
open PySem PySem.Spec L2
/-- the reading: what was there stays, but tables grow; the new function stands at f -/
def tLamR (T : List (Addr × Str)) (L : Lam) (cl : List (Str × Addr)) : TE := fun σ H Q => LamX.Tabs T H ∧ ∀ (f c' : Addr) (H1 : Hp), (∀ b o, H b = some o → NT o → H1 b = some o) → (∀ b o, H b = some o → ∃ o', H1 b = some o') → LamX.Tabs T H1 → LamAt H1 L cl f c' → Q (.ref f) H1
section
variable {X : Cx}
theorem pe_lam {T : List (Addr × Str)} {c P : Addr} {params : Arguments} {body : Expr} {scope : Scope} {pos : Pos} {fv : List Str} (TB : LamX.TabB X.base X.mg c P) (hcode : X.env.code = .ref c) (hm : (P, X.env.qual ++ "<lambda>") ∈ T)
    (hu : ∀ p ∈ T, p.1 = P → p.2 = X.env.qual ++ "<lambda>") (hdef : defaultsOf params X.env = ([], [])) (hfree : X.Ok → ∀ y ∈ scope.names, y.2 = .free → ∃ c, X.env.cells.lookup y.1 = some c) :
    PE X (.Lambda params body scope pos) (tLamR T ⟨X.env.qual ++ "<lambda>", params, body, scope, fv⟩ (cloFrom X.env.cells scope.names [])) := by
  refine ⟨fun pins s σ H Q I ⟨hT, h⟩ => ?_⟩
  obtain ⟨tb, atP, trip, told⟩ := hT _ hm
  refine PySem.W.kla_eval hdef ?_
  have bP : s.heap.BuiltinsAt X.mg P := TB.bm.keeps I.bk
  have oP : s.heap.get? P = some { cls := .none, data := .fields tb } := I.hok P _ atP
  cases found : codeAmong pos tb.toList with
  | none =>
    refine PySem.W.kla_makeFunction (mg := X.mg) (c := c) (P := P) (ps := tb) (closure_ok (hfree I.ok)) I.ok.glob (I.mod.glob.keeps I.bk) hcode (TB.code.keeps I.bk) oP trip found TB.gP bP fun cc ct hp tk but above below rec grown => ?_
    obtain ⟨c2, oc, fs, t, e2, hoc, hd, hv⟩ := rec
    cases e2
    have nC : H cc = none := I.hok.fresh above
    have J := LamX.inv_table (t' := tk) (more := #[rawInt pos.line, rawInt pos.col, .ref cc]) (h' := hp) I atP (fun b o nb e => but b o nb e) grown above ⟨oc, fs, t, hoc, hd, hv⟩
    have kept : ∀ b o, H b = some o → NT o → upd (upd H P (.tbl (tb ++ #[rawInt pos.line, rawInt pos.col, .ref cc]))) cc (LamX.CodeO cc (X.env.qual ++ "<lambda>")) b = some o := fun b o e n => by
      rw [upd_ne (ne_of_none e nC), upd_ne fun z => n tb (by rw [z, atP] at e; exact (Option.some.inj e).symm)]
      exact e
    have nF := J.hok.fresh (Nat.le_refl _)
    let ob : Obj := lamObj ⟨X.env.qual ++ "<lambda>", params, body, scope, fv⟩ (cloFrom X.env.cells scope.names []) ((X.mg "__name__").getD .none) cc ct
    have J2 := J.laid (t' := tk) (a := hp.objs.size) (o := .frz ob (HX hp.objs.size)) (h' := hp.push ob) (fun b o e => Heap.get?_push_of_some _ e) (Nat.le_refl _) (hx_ok (Heap.get?_push_size _ rfl))
    have mv : ∀ b o, upd (upd H P (.tbl (tb ++ #[rawInt pos.line, rawInt pos.col, .ref cc]))) cc (LamX.CodeO cc (X.env.qual ++ "<lambda>")) b = some o → upd (upd (upd H P (.tbl (tb ++ #[rawInt pos.line, rawInt pos.col, .ref cc]))) cc (LamX.CodeO cc (X.env.qual ++ "<lambda>"))) hp.objs.size (.frz ob (HX hp.objs.size)) b = some o := keep_new nF
    have eL : (tb ++ #[rawInt pos.line, rawInt pos.col, .ref cc]).toList = tb.toList ++ [rawInt pos.line, rawInt pos.col, .ref cc] := by simp
    have atC : upd (upd H P (.tbl (tb ++ #[rawInt pos.line, rawInt pos.col, .ref cc]))) cc (LamX.CodeO cc (X.env.qual ++ "<lambda>")) cc = some (LamX.CodeO cc (X.env.qual ++ "<lambda>")) := upd_same
    have cN : ∀ c0, NT (LamX.CodeO c0 (X.env.qual ++ "<lambda>")) := fun c0 ps z => LamX.codeO_ne ps z
    have tabs1 : LamX.Tabs T (upd (upd H P (.tbl (tb ++ #[rawInt pos.line, rawInt pos.col, .ref cc]))) cc (LamX.CodeO cc (X.env.qual ++ "<lambda>"))) := fun p hp' => by
      by_cases hb : p.1 = P
      · rw [hu p hp' hb, hb]
        refine ⟨_, by rw [upd_ne (ne_of_none atP nC), upd_same], by rw [eL]; exact PySem.TriplesOk_snoc _ _ _ _ trip, fun q cv hcv => ?_⟩
        rw [eL] at hcv
        rcases LamX.among_app _ trip hcv with z | z
        · obtain ⟨c0, e1, e2⟩ := told q cv z
          exact ⟨c0, e1, kept _ _ e2 (cN c0)⟩
        · exact ⟨cc, z, atC⟩
      · obtain ⟨tb', a1, a2, a3⟩ := hT p hp'
        refine ⟨tb', by rw [upd_ne (ne_of_none a1 nC), upd_ne hb]; exact a1, a2, fun q cv hcv => ?_⟩
        obtain ⟨c0, e1, e2⟩ := a3 q cv hcv
        exact ⟨c0, e1, kept _ _ e2 fun ps z => LamX.codeO_ne ps z⟩
    refine ⟨.ref hp.objs.size, _, J2, rfl, h hp.objs.size cc _ (fun b o e n => mv _ _ (kept b o e n)) (fun b o e => ?_) (tabs1.ext mv) ⟨_, ct, upd_same, mv _ _ atC⟩⟩
    by_cases hb : b = P
    · exact ⟨_, mv _ _ (by rw [hb, upd_ne (ne_of_none atP nC), upd_same])⟩
    · exact ⟨o, mv _ _ (by rw [upd_ne (ne_of_none e nC), upd_ne hb]; exact e)⟩
  | some cv =>
    obtain ⟨cc, e, hco⟩ := told pos cv found
    subst e
    refine PySem.W.kla_makeFunctionHit (mg := X.mg) (c := c) (P := P) (ps := tb) (closure_ok (hfree I.ok)) I.ok.glob (I.mod.glob.keeps I.bk) hcode (TB.code.keeps I.bk) oP trip found bP fun ct hp tk hx hsz => ?_
    have J : Inv X pins σ H { s with heap := hp, toks := tk } := I.kept hx
    have nF := J.hok.fresh (Nat.le_refl _)
    let ob : Obj := lamObj ⟨X.env.qual ++ "<lambda>", params, body, scope, fv⟩ (cloFrom X.env.cells scope.names []) ((X.mg "__name__").getD .none) cc ct
    have J2 := J.laid (t' := tk) (a := hp.objs.size) (o := .frz ob (HX hp.objs.size)) (h' := hp.push ob) (fun b o e => Heap.get?_push_of_some _ e) (Nat.le_refl _) (hx_ok (Heap.get?_push_size _ rfl))
    have mv : ∀ b o, H b = some o → upd H hp.objs.size (.frz ob (HX hp.objs.size)) b = some o := keep_new nF
    exact ⟨.ref hp.objs.size, _, J2, rfl, h hp.objs.size cc _ (fun b o e _ => mv b o e) (fun b o e => ⟨o, mv b o e⟩) (hT.ext mv) ⟨_, ct, upd_same, mv _ _ hco⟩⟩
end
section
variable {C : RK} {call : CallT} {W : WX} {σ : L2.St} {H : Hp} {Q : VK}
theorem tE.lam {f : Nat} {js : List Nat} {L : Lam} {cl : List (Str × Addr)} (h : tE C call W (.lam f js) σ H Q) (hL : C.fr.lam f L) (cb : ClB L cl js.length) (hc : ∀ (i : Nat) (y : Str) (j : Nat), L.fv[i]? = some y → js[i]? = some j → ∃ d, cl.lookup y = some d ∧ C.fr.cell j = some d) :
    tLamR C.fr.tabs L cl σ H Q := by
  obtain ⟨ρ, S, R, k⟩ := h
  simp only [evE] at k
  refine ⟨R.tab, fun fa cc H1 k1 k2 tb la => ?_⟩
  have R1 : RepS C H1 S σ ρ := R.keepBut (fs := fun _ => False) (fun a o e t _ => k1 a o e t) k2 tb (fun _ z => z.elim) (fun _ _ z => z.elim) fun _ _ z => z.elim
  have st : Stp H H1 σ ρ ρ (muts (.lam f js)) := ⟨.refl _ _, fun a o e t _ => k1 a o e t, k2⟩
  have op : OpnR C.fr H1 [(.list (.int (f : Nat) :: .none :: js.map fun j => .int (j : Nat)), .none)] (.ref fa) := by
    refine ⟨f, js.map fun j => .int (j : Nat), L, cl, fa, cc, rfl, hL, rfl, la, by rw [List.length_map]; exact cb, fun i y p e1 e2 => ?_⟩
    rw [List.getElem?_map] at e2
    obtain ⟨j, e3, rfl⟩ := Option.map_eq_some_iff.mp e2
    obtain ⟨d, z1, z2⟩ := hc i y j e1 e3
    exact ⟨d, j, rfl, z1, z2⟩
  have rp : Rep C.fr H1 (fun _ => False) (opn f js) (.ref fa) := .inr (.inr (.inl op))
  exact k (.ref fa) H1 (fun _ => False) R1 st .empty (by unfold Val; rw [if_neg (by simp)]; exact rp) ⟨fun _ => False, .empty, rp.ar⟩
end
end PyC
end

section
set_option maxHeartbeats 200000
namespace PyC
open PySem PySem.Spec L2
def noPs : Arguments := ⟨[], [], none, [], [], none, []⟩
theorem bind_noPs {q : Str} {body : Expr} {sc : Scope} {cl : List (Str × Addr)} {pm cv ct : Value} : bindArgs (PySem.W.kla_fn "<lambda>" q noPs body sc cl pm cv ct) ⟨[], []⟩ = pure [] := by rfl
/-- a lambda without parameters and names of its own -/
structure LamW (L : Lam) : Prop where
  kind : L.sc.kind = .function
  co : L.sc.isCoroutine = false
  gen : L.sc.isGenerator = false
  own : ∀ y ∈ L.sc.names, y.2 ≠ .local ∧ y.2 ≠ .cell
  fre : ∀ y ∈ L.sc.names, y.2 = .free → y.1 ∈ L.fv
  nd : L.fv.Nodup
  ps : L.ps = noPs
abbrev envL (L : Lam) (cl : List (Str × Addr)) (a c l : Addr) : Env := PySem.W.envX L.q L.sc l a (.ref c) cl
/-- the context of a lambda's body -/
def cxL (CX : CXT) (P : Program) (w : World) (K : PySem.W.Frag) (mg : Str → Option Value) (base : Heap) (L : Lam) (cl : List (Str × Addr)) (a c : Addr) (A : Around) (outer : List Env) (s : Shared) (H : Hp) (E : XK) : Cx where
  prog := P
  w := w
  K := K
  mg := mg
  base := base
  A := A.deeper (envL L cl a c s.heap.objs.size)
  N := L.fv
  s_0 := s
  H_0 := H
  env := envL L cl a c s.heap.objs.size
  outer := outer
  stack := envL L cl a c s.heap.objs.size :: outer
  ex := []
  fn := fun _ => false
  calm := true
  pn := []
  xe := fun e s' => wpAny (model P w) (A.deeper (envL L cl a c s.heap.objs.size)) (leaving (envL L cl a c s.heap.objs.size) e) (fun _ s'' => CX outer H s E e s'') (fun e' s'' => CX outer H s E e' s'') s'
/-- where the values of the captured names stand -/
def CapsAt (L : Lam) (cl : List (Str × Addr)) (h : Heap) (vs : List V) : Prop := ∀ (i : Nat) (y : Str) (x : V), L.fv[i]? = some y → vs[i]? = some x → ∃ d o u, cl.lookup y = some d ∧ h.get? d = some o ∧ o.data = .cell (some u) ∧ RelV x u
theorem CapsAt.all {L : Lam} {cl : List (Str × Addr)} {h : Heap} {vs : List V} (c : CapsAt L cl h vs) (b : ClB L cl vs.length) {y : Str} (hy : y ∈ L.fv) : ∃ d o u, cl.lookup y = some d ∧ h.get? d = some o ∧ o.data = .cell (some u) := by
  obtain ⟨i, hi⟩ := List.getElem?_of_mem hy
  have hl : i < vs.length := by rw [← b.len]; exact (List.getElem?_eq_some_iff.mp hi).1
  obtain ⟨d, o, u, h1, h2, h3, _⟩ := c i y _ hi (List.getElem?_eq_getElem hl)
  exact ⟨d, o, u, h1, h2, h3⟩
theorem inv_lam {CX : CXT} {P : Program} {w : World} {K : PySem.W.Frag} {mg : Str → Option Value} {base : Heap} {L : Lam} {cl : List (Str × Addr)} {a c : Addr} {A : Around} {outer : List Env} {s : Shared} {H : Hp} {E : XK} {vs : List V} {hp : Heap} {tk : Nat} (wf : LamW L) (e0 : Env0 P w K mg base A outer s H) (hd : A.handled = none) (cb : ClB L cl vs.length)
    (ca : CapsAt L cl s.heap vs) (fr : ∀ y d, cl.lookup y = some d → H d = none) (hns : hp.Ns s.heap.objs.size fun y => ([] : List (Str × Value)).reverse.lookup y) (kp : ∀ b o, s.heap.get? b = some o → hp.get? b = some o) :
    Inv (cxL CX P w K mg base L cl a c A outer s H E) [] (vs.map some) H { s with heap := hp, toks := tk } := by
  have noA : ∀ b : Addr, b ∉ (cxL CX P w K mg base L cl a c A outer s H E).ex := fun b z => nomatch (show b ∈ ([] : List Addr) from z)
  have atC : ∀ y d, cl.lookup y = some d → ∃ o u, hp.get? d = some o ∧ o.data = .cell (some u) := fun y d z => by
    obtain ⟨d', o, u, h1, h2, h3⟩ := ca.all cb (cb.sub y d z)
    rw [z] at h1; cases h1
    exact ⟨o, u, kp _ _ h2, h3⟩
  have noc : ∀ {y}, L.sc.names.lookup y = some .cell → False := fun {y} z => (wf.own _ (PySem.mem_of_lookup z)).2 rfl
  have nol : ∀ {y}, L.sc.names.lookup y = some .local → False := fun {y} z => (wf.own _ (PySem.mem_of_lookup z)).1 rfl
  refine ⟨⟨e0.mod, wf.kind, rfl, rfl, Nat.le_refl _, fun y z d e1 e2 => cb.inj y z d e1 e2, fun y hy => ?_, fun y d z _ => Bool.noConfusion (show false = true from z), fun _ => hd, Around.frames_deeper e0.frames, .inr ⟨rfl, rfl⟩, fun b z => absurd z (noA b), e0.bs, e0.bsz, fun b _ _ => noA b,
      fun b z => absurd z (noA b), e0.funs, e0.frf⟩, rfl, e0.bare, Un.kept kp, ⟨_, hns, fun i y v e1 e2 e3 => ?_⟩, fun y d z => ?_, e0.hok.fresh (Nat.le_refl _), fun y d z => fr y d z, (fun q hq => nomatch (show q ∈ ([] : List (Addr × Obj)) from hq)), e0.hok.kept kp, ?_⟩
  · have hy : L.sc.names.lookup y = some .cell ∨ L.sc.names.lookup y = some .free := hy
    rcases hy with hy | hy
    · exact (noc hy).elim
    · obtain ⟨d, _, _, h1, _⟩ := ca.all cb (wf.fre _ (PySem.mem_of_lookup hy) rfl)
      exact ⟨d, h1⟩
  · have e2 : (vs.map some)[i]? = some (some v) := e2
    rw [List.getElem?_map] at e2
    obtain ⟨x, e4, e5⟩ := Option.map_eq_some_iff.mp e2
    cases e5
    obtain ⟨d, o, u, h1, h2, h3, h4⟩ := ca i y _ e1 e4
    have e3 : L.sc.names.lookup y = some .local ∨ L.sc.names.lookup y = some .cell ∨ L.sc.names.lookup y = some .free := e3
    rcases e3 with k | k | k
    · exact (nol k).elim
    · exact (noc k).elim
    · exact ⟨u, h4, .inr ⟨.inr k, d, h1, o, kp _ _ h2, h3⟩⟩
  · obtain ⟨o, u, h1, h2⟩ := atC y d z
    exact ⟨_, o, h1, h2⟩
  · show (vs.map some).length = L.fv.length
    rw [List.length_map, cb.len]
/-- a lambda's promise -/
structure CloG (P : Program) (w : World) (K : PySem.W.Frag) (mg : Str → Option Value) (base : Heap) (CX : CXT) (k : Nat) (L : Lam) (sp : Sp) : Prop where
  run : ∀ (A : Around) (outer : List Env) (s : Shared) (H : Hp) (cl : List (Str × Addr)) (a c : Addr) (pm ct : Value) (vs : List V) (Q : VK) (E : XK), Room k A → A.guards = some [] → Env0 P w K mg base A outer s H → s.heap.get? a = some (lamObj L cl pm c ct) → s.heap.CodeRec (.ref c) L.q →
    ClB L cl vs.length → CapsAt L cl s.heap vs → (∀ y d, cl.lookup y = some d → H d = none) → sp vs H Q E → codeAny (model P w) A (.call (.ref a) ⟨[], []⟩) (CR CX outer P w H s Q E) s
theorem clo_of {P : Program} {w : World} {K : PySem.W.Frag} {mg : Str → Option Value} {base : Heap} {CX : CXT} {k : Nat} {L : Lam} {sp : Sp} (wf : LamW L)
    (hbody : ∀ (cl : List (Str × Addr)) (a c : Addr) (A : Around) (outer : List Env) (s : Shared) (H : Hp) (vs : List V) (Q : VK) (E : XK), Room k (A.deeper (envL L cl a c s.heap.objs.size)) → A.guards = some [] → vs.length = L.fv.length → sp vs H Q E →
      ∃ t, PE (cxL CX P w K mg base L cl a c A outer s H E) L.body t ∧ t (vs.map some) H Q) : CloG P w K mg base CX (k + 1) L sp := by
  refine ⟨fun A outer s H cl a c pm ct vs Q E hr gd e0 ho hcd cb ca fr h => ?_⟩
  obtain ⟨c', oc, fs, t, e1, hoc, hd, hv⟩ := hcd
  cases e1
  have lim : s.heap.NoLimit := e0.mod.nolimit.keeps fun b o e => (e0.bs b o e).1
  refine PySem.W.kla_callFunE hr.depth ho rfl wf.co wf.gen rfl ⟨c, oc, fs, t, rfl, hoc, hd, hv⟩ ?_
  rw [show bindArgs (PySem.W.kla_fn "<lambda>" L.q L.ps L.body L.sc cl pm (.ref c) ct) ⟨[], []⟩ = pure [] from by rw [wf.ps]; exact bind_noPs]
  refine wpAny_pure (wpAny_newFunctionEnv (fun y hy => (wf.own y hy).2) (fun y hy => absurd hy (by simp)) (fun hp hns hsb => ⟨lim.fresh _ hsb, ?_⟩) wf.kind)
  show codeAny _ _ (.expr L.body (envL L cl a c s.heap.objs.size)) _ _
  have kp : ∀ b o, s.heap.get? b = some o → hp.get? b = some o := fun b o e => hsb.extBut b o (Nat.ne_of_lt (Heap.lt_size e)) (Heap.get?_push_of_some _ e)
  obtain ⟨t, pb, ht⟩ := hbody cl a c A outer s H vs Q E (hr.deeper _) gd cb.len.symm h
  have J : Inv (cxL CX P w K mg base L cl a c A outer s H E) [] (vs.map some) H { s with heap := hp, toks := s.toks + ([] : List (Str × Value)).length } := inv_lam wf e0 hr.hd cb ca fr hns kp
  refine PySem.W.kla_codeExpr (wpAny_mono (pb.run [] _ _ H Q J ht) (fun v s' hq => ?_) fun e s' hq => hq)
  obtain ⟨x, H', J', rv, q⟩ := hq
  exact ⟨x, H', J'.os, J'.bare, J'.base, J'.hok, rv, q⟩
/-- the cells that a closure leans on -/
def Dcl (cl : List (Str × Addr)) (d : Addr) : Prop := ∃ y, cl.lookup y = some d
def CloAt (lam : Nat → Lam → Prop) (H : Hp) (a : Addr) (f : Nat) (L : Lam) (cl : List (Str × Addr)) (ys : List V) : Prop := ∃ c, lam f L ∧ LamAt H L cl a c ∧ ClB L cl ys.length ∧ ∀ (i : Nat) (y : Str) (x : V), L.fv[i]? = some y → ys[i]? = some x → ∃ d, cl.lookup y = some d ∧ CellR H d x
theorem CloAt.dcl {lam : Nat → Lam → Prop} {H : Hp} {a : Addr} {f : Nat} {L : Lam} {cl : List (Str × Addr)} {ys : List V} (h : CloAt lam H a f L cl ys) : ∀ d, Dcl cl d → ∃ o, H d = some (.frz o (HX d)) := fun d ⟨y, e⟩ => by
  obtain ⟨c, _, _, cb, ca⟩ := h
  obtain ⟨i, hi⟩ := List.getElem?_of_mem (cb.sub y d e)
  have hl : i < ys.length := by rw [← cb.len]; exact (List.getElem?_eq_some_iff.mp hi).1
  obtain ⟨d', h1, o, u, h2, _⟩ := ca i y _ hi (List.getElem?_eq_getElem hl)
  rw [e] at h1; cases h1
  exact ⟨o, h2⟩
/-- the reading of x() -/
def tCV (C : RK) (call : CallT) (W : WX) (i : Nat) : TE := fun σ H Q => ∃ (a : Addr) (f : Nat) (L : Lam) (cl : List (Str × Addr)) (ys : List V), σ[i]? = some (some (.ref a)) ∧ CloAt C.fr.lam H a f L cl ys ∧
  spF C call f ys (unt H (Dcl cl)) (fun v H3 => (∀ d, Dcl cl d → H3 d = none) → Q v (back H H3 (Dcl cl))) (fun c d H3 => (∀ d, Dcl cl d → H3 d = none) → W c d σ (back H H3 (Dcl cl)))
section
variable {X : Cx} {C : RK} {call : CallT} {W : WX}
theorem pe_callV {n : Nat} {i : Nat} {x : Str} {p pos : Pos} (F : ∀ f L, C.fr.lam f L → CloG X.prog X.w X.K X.mg X.base (L2N.CX X.prog X.w) n L (spF C call f)) (hr : Room n X.A) (gd : X.A.guards = some []) (tk : L2N.Takes X W) (hv : PE X (.Name x p) (tVar i)) : PE X (.Call (.Name x p) [] [] pos) (tCV C call W i) := by
  refine ⟨fun pins s σ H Q I ⟨a, f, L, cl, ys, hs, ca, sp⟩ => ?_⟩
  refine wpAny_Call_Name_kw (thn (hv.run pins s σ H (fun v H1 => v = .ref a ∧ H1 = H) I ⟨.ref a, hs, rfl, rfl⟩) fun u s1 ⟨v, H1, I1, r1, e1, e2⟩ => ?_)
  subst e1 e2
  obtain rfl : u = Value.ref a := r1
  obtain ⟨c, hL, la, cb, cc⟩ := id ca
  obtain ⟨pm, ct, l1, l2⟩ := la
  have of1 := frz_of I1.hok l1
  have e0 := I1.env0
  have hd := ca.dcl
  refine PySem.W.callWith_F0 ⟨_, _, _, _, of1⟩ ?_
  have caps : CapsAt L cl s1.heap ys := fun j y z q1 q2 => by
    obtain ⟨d, h1, o, u, h2, h3, h4⟩ := cc j y z q1 q2
    exact ⟨d, o, u, h1, frz_of I1.hok h2, h3, h4⟩
  refine wpAny_call (codeAny_mono ((F f L hL).run X.A X.stack s1 _ cl a c pm ct ys _ _ hr gd (env0_unt e0 hd) of1 (NdefX.codeO_at I1.hok l2) cb caps (fun y d z => unt_at ⟨y, z⟩) sp) fun r s' hq => ?_)
  match r, hq with
  | .error e, hq => exact L2N.passAt tk σ pins H1 s1 e s' I1 (cx_back I1.hok hd e0.frf hq)
  | .ok (.ret u), hq => exact I1.after (ce_back I1.hok hd e0.frf hq)
  | .ok .next, hq => exact hq.elim
  | .ok .brk, hq => exact hq.elim
  | .ok .cont, hq => exact hq.elim
theorem tE.callV {i : Nat} {σ : L2.St} {H : Hp} {Q : VK} (h : tE C call W (.callV i) σ H Q) : tCV C call W i σ H Q := by
  obtain ⟨ρ, S, R, k⟩ := h
  simp only [evE, rd] at k
  cases e : ρ[i]? with
  | none => rw [e] at k; exact k.elim
  | some sl =>
    rw [e] at k
    simp only at k
    cases hv : sl.val? with
    | none => rw [hv] at k; exact k.elim
    | some p =>
      rw [hv] at k
      cases p with
      | dict kvs =>
        simp only at k
        cases hc : cloOf kvs with
        | none => rw [hc] at k; exact k.elim
        | some fr =>
          obtain ⟨f, r⟩ := fr
          rw [hc] at k
          simp only at k
          have hk : kvs = (.list [.int f], .none) :: r := by
            unfold cloOf at hc
            split at hc
            · cases hc; rfl
            · cases hc
          subst hk
          split at k
          case isFalse => exact k.elim
          rename_i hn
          have fz : ∃ v, σ[i]? = some (some v) ∧ Rep C.fr H S (.dict ((.list [.int f], .none) :: r)) v := by
            cases sl with
            | un => cases hv
            | ex c ps => cases hv
            | fz p => cases hv; exact R.fz i _ e
            | my p =>
              cases hv
              obtain ⟨a, _, _, h3⟩ := R.my i _ _ e rfl rfl
              obtain ⟨ks, _, z, _⟩ := h3.invD
              exact (keyL_head z).elim
            | lk p =>
              cases hv
              obtain ⟨a, _, _, h3⟩ := R.my i _ _ e rfl rfl
              obtain ⟨ks, _, z, _⟩ := h3.invD
              exact (keyL_head z).elim
          obtain ⟨v, hσ, rp⟩ := fz
          rcases rp with ⟨ns, a, z, _⟩ | ⟨a, ks, _, _, _, z, _⟩ | ⟨f', js, _, _, _, _, z, _⟩ | ⟨xs, rd, ex⟩
          · cases z
          · exact (keyL_head z).elim
          · cases z
          · rcases ex with ex | ⟨_, _, _, _, _, _, _, _, z, _⟩
            rotate_left
            · cases z
            obtain ⟨f', r', ys, L, cl, a, c, q1, q2, q3, q4, q5, q6, q7⟩ := ex
            cases q1
            subst q2
            subst q4
            obtain ⟨_, rys⟩ := rd
            have ca : CloAt C.fr.lam H a f.toNat L cl ys := ⟨c, q3, q5, q6, fun j y x z1 z2 => let ⟨d, w1, _, w3⟩ := q7 j y x z1 z2; ⟨d, w1, w3⟩⟩
            have hd := ca.dcl
            have kp : Kept H (unt H (Dcl cl)) := fun b o e2 n => by
              rw [unt_no fun z => by obtain ⟨ob, q⟩ := hd b z; rw [e2] at q; cases q; exact n _ _ rfl]
              exact e2
            refine ⟨a, f.toNat, L, cl, ys, hσ, ca, fun b => S b ∧ ∃ o, unt H (Dcl cl) b = some o, r.map fun p => (false, p.2), fun b z => z.2, args_of kp r ys hn rys, fun j l p q t z => ?_, fun t ⟨j, p, z, _⟩ => ?_, tabs_unt R.tab hd, ?_⟩
            · obtain ⟨_, _, z2⟩ := List.mem_map.mp (List.mem_of_getElem? z); cases z2
            · obtain ⟨_, _, z2⟩ := List.mem_map.mp (List.mem_of_getElem? z); cases z2
            have noF : ∀ t, ¬ FrAt (r.map fun p => (false, p.2)) ys t := fun t ⟨j, p, z, _⟩ => by
              obtain ⟨_, _, z2⟩ := List.mem_map.mp (List.mem_of_getElem? z); cases z2
            have fin : ∀ {H3 : Hp} {T3 : AS}, Left (unt H (Dcl cl)) H3 (fun b => S b ∧ ∃ o, unt H (Dcl cl) b = some o) (FrAt (r.map fun p => (false, p.2)) ys) T3 → LamX.Tabs C.fr.tabs H3 → (∀ d, Dcl cl d → H3 d = none) →
                (∀ b o, H3 b = some o → back H H3 (Dcl cl) b = some o) ∧ RepS C (back H H3 (Dcl cl)) S σ ρ ∧ Stp H (back H H3 (Dcl cl)) σ ρ ρ (muts (.callV i)) ∧ Bd H (back H H3 (Dcl cl)) S σ ρ (al (.callV i)) T3 := fun {H3 T3} l tb n3 => by
              have ex : ∀ b o, H3 b = some o → back H H3 (Dcl cl) b = some o := fun b o e2 => by
                rw [back_no fun z => by rw [n3 b z] at e2; cases e2]; exact e2
              have kk : ∀ b o, H b = some o → NT o → back H H3 (Dcl cl) b = some o := fun b o e2 t => by
                by_cases z : Dcl cl b
                · rw [back_at z]; exact e2
                · rw [back_no z]; exact l.kept b o (by rw [unt_no z]; exact e2) t (noF b)
              have th : ∀ b o, H b = some o → ∃ o', back H H3 (Dcl cl) b = some o' := fun b o e2 => by
                by_cases z : Dcl cl b
                · rw [back_at z]; exact ⟨o, e2⟩
                · rw [back_no z]; exact l.th b o (by rw [unt_no z]; exact e2)
              refine ⟨ex, R.keepBut (fs := fun _ => False) (fun b o e2 t _ => kk b o e2 t) th (tb.ext ex) (fun _ z => z.elim) (fun _ _ z => z.elim) fun _ _ z => z.elim, ⟨.refl _ _, fun b o e2 t _ => kk b o e2 t, th⟩, ⟨fun b z => ?_, fun b z => let ⟨o, e2⟩ := l.dm b z; ⟨o, ex b o e2⟩⟩⟩
              obtain ⟨o, e2⟩ := l.dm b z
              have nz : ¬ Dcl cl b := fun w => by rw [n3 b w] at e2; cases e2
              rcases l.bd b z with w | w | w
              · exact .inl w.1
              · rw [unt_no nz] at w; exact .inr (.inr w)
              · exact (noF b w).elim
            split
            · rename_i e2; rw [e2] at k; exact k.elim
            · rename_i fr p io e2
              rw [e2] at k
              intro x H3 T3 l tb rv _ n3
              obtain ⟨ex, R2, st2, b2⟩ := fin l tb n3
              have vv : Val C.fr H (back H H3 (Dcl cl)) T3 (fr, p) x := by
                unfold RetV at rv
                unfold Val
                split at rv
                · rename_i hb
                  rw [if_pos hb]
                  obtain ⟨t, w1, w2, w3, w4⟩ := rv
                  refine ⟨t, w1, ?_, w3, w4.stay (fun b o e3 _ _ => ex b o e3) fun _ z => z⟩
                  obtain ⟨o, e3, _⟩ := w4.obj
                  rcases w2 with w2 | w2
                  · rw [unt_no fun w => by rw [n3 t w] at e3; cases e3] at w2; exact w2
                  · exact (noF t w2).elim
                · rename_i hb
                  rw [if_neg hb]
                  exact rv.stay (fun b o e3 _ _ => ex b o e3) fun _ z => z
              exact k x _ T3 R2 st2 b2 vv (opd_of rfl b2 vv)
            · rename_i c2 ps e2
              rw [e2] at k
              intro cls d H3 T3 l tb py n3
              obtain ⟨ex, R2, st2, b2⟩ := fin l tb n3
              exact k cls d _ T3 _ _ R2 st2 b2 (py.stay (fun b o e3 _ _ => ex b o e3) fun _ z => z)
      | _ => exact k.elim
where
  args_of {K : KC} {H H' : Hp} {S : AS} (kp : Kept H H') : ∀ (r : List (PyData × PyData)) (ys : List V), noCL (r.map (·.2)) = true → RepD K H S r ys → ArgL K H' (fun b => S b ∧ ∃ o, H' b = some o) (r.map fun p => (false, p.2)) ys
  | [], [], _, _ => ⟨rfl, fun i a x z => by simp at z⟩
  | (a, p) :: r, y :: ys, n, ⟨h, t⟩ => by
    simp only [List.map_cons, noCL, Bool.and_eq_true] at n
    have q := args_of kp r ys n.2 t
    refine ⟨by simp [q.len], fun i b x z1 z2 => ?_⟩
    cases i with
    | zero =>
      simp at z1 z2
      subst z1 z2
      unfold ArgV
      rw [if_neg (by simp)]
      exact h.unt kp n.1
    | succ i => exact q.at_ i b x (by simpa using z1) (by simpa using z2)
  | [], _ :: _, _, h => h.elim
  | _ :: _, [], _, h => h.elim
end
end PyC
end

section
set_option maxHeartbeats 1000000
namespace PyC
open PySem PySem.Spec L2 PyProof.Rows
abbrev tailA : List Value := [.type "ArithmeticError", .type "Exception", .type "BaseException", .type "object"]
/-- classes of one's own, behind them ArithmeticError and what is above it -/
def mroA : List Value → Bool
  | .ref _ :: r => mroA r
  | l => l == tailA
theorem mroA_cases (l : List Value) (h : mroA l = true) : (∃ c r, l = .ref c :: r ∧ mroA r = true) ∨ l = tailA := by
  cases l with
  | nil => exact .inr (beq_iff_eq.mp h)
  | cons v r => cases v <;> first | exact .inl ⟨_, r, rfl, h⟩ | exact .inr (beq_iff_eq.mp h)
theorem tailA_pass (self : Value) : refuseLoop self "__setattr__" tailA = pure () := by kernel_rfl
theorem mroA_pass (self : Value) : ∀ l : List Value, mroA l = true → refuseLoop self "__setattr__" l = pure () := by
  intro l
  induction l with
  | nil => exact fun h => absurd h (by decide)
  | cons v r ih =>
    intro h
    rcases mroA_cases _ h with ⟨c, q, e, z⟩ | e
    · injection e with e1 e2
      subst e1 e2
      rw [refuseLoop_ref]
      exact ih z
    · rw [e, tailA_pass]
theorem mroA_has (T : String) : ∀ l : List Value, mroA l = true → l.contains (.type T) = tailA.contains (.type T) := by
  intro l
  induction l with
  | nil => exact fun h => absurd h (by decide)
  | cons v r ih =>
    intro h
    rcases mroA_cases _ h with ⟨c, q, e, z⟩ | e
    · injection e with e1 e2
      subst e1 e2
      rw [List.contains_cons, ih z]
      rfl
    · rw [e]
structure OexA (K : PySem.W.Frag) (D : Addr) : Prop where
  made : ∃ nm q N bs bm sn sub ab col dd k0 k1 k2 k3 k5, K.lookup D = some (excClassObj nm q D N bs bm true sn sub ab col dd k0 k1 k2 k3 k5 "ArithmeticError.__new__") ∧ mroA bm = true
  store : PySem.W.findIn K (.ref D) "__setattr__" = some (some (.builtin "object.__setattr__"))
  base : PySem.W.subIn K (.ref D) (.type "BaseException") = some true
  ty : PySem.W.typeIn K (.ref D) = some (.type "type")
  kept : PySem.W.keepIn K (.ref D) = true
/-! ### a field is stored -/
section
variable {prog : Program} {w : World} {A : Around} {R : Result → Shared → Prop} {hp : Heap} {g : Array GenState} {d : Drawn} {t : Nat} {os : OsState}
open Builtin Builtin.ObjectAttr in
theorem osaA_new {K : PySem.W.Frag} {name : Str} {tk : Tok} {v : Value} {x D : Addr} {fv : Array Value} {cd : ClassData}
    (X : K.In hp) (hx : hp.get? x = some { cls := .ref D, data := .fields fv }) (hcd : PySem.W.clsIn K D = some cd) (hm : mroA cd.mro = true) (hh : cd.hasDict = true) (ha : PySem.W.findIn K (.ref D) name = some none)
    (hq : ∀ h' tk' dx, (∀ b o, b ≠ x → hp.get? b = some o → h'.get? b = some o) → hp.objs.size ≤ dx → dx ≠ x → h'.get? x = some { cls := .ref D, dict := some dx, data := .fields fv } →
      h'.Ns1 dx (fun y => if y = name then some v else none) → R (.ok (.ret .none)) ⟨h', g, d, tk', os⟩) :
    codeAny (model prog w) A (.call (.builtin "object.__setattr__") ⟨[.ref x, .str name tk, v], []⟩) R ⟨hp, g, d, t, os⟩ := by
  have IA : PySem.W.InstAt hp x { cls := .ref D, data := .fields fv } D none := ⟨hx, rfl, rfl, trivial⟩
  have SO := F.store_object
  have ne : cd.mro.isEmpty = false := by
    cases e : cd.mro with
    | nil => rw [e] at hm; exact absurd hm (by decide)
    | cons _ _ => rfl
  have obj : cd.mro.contains (.type "object") = true := (mroA_has "object" _ hm).trans (by decide +kernel)
  have hxs : x ≠ hp.objs.size := Nat.ne_of_lt (Heap.lt_size hx)
  have isO : PySem.W.Looks (model prog w) hp (isInstance (.ref x) (.type "object")) true := IA.type.andThen (PySem.W.looks_mroIn X (by unfold PySem.W.mroIn; rw [hcd, Option.bind_some, if_neg (by rw [ne]; decide), obj]))
  refine codeAny_call_builtin SO.slot.plain SO.entry (@PySem.W.check_slot (model prog w) _ _ ⟨hp, g, d, t, os⟩ "object.__setattr__" "object" "__setattr__" (.ref x) [.str name tk, v] [] _ SO.kind SO.split isO (SO.args (.ref x) (.str name tk) v) ?_)
  have m1 : PySem.W.Looks (model prog w) hp (mroOf (.ref D)) cd.mro := (PySem.W.looks_clsIn X hcd).andThen .now
  have m2 : PySem.W.Looks (model prog w) hp (storeTaker? none) none := .now
  have m3 : PySem.W.Looks (model prog w) hp (classData D) cd := PySem.W.looks_clsIn X hcd
  rw [PySem.W.osa_eq, refuse_eq]
  refine wpAny_bind (wpAny_bind (IA.type.at (wpAny_bind (m1.at ?_))))
  rw [mroA_pass _ _ hm]
  refine wpAny_pure (wpAny_bind (IA.type.at (wpAny_bind ((PySem.W.looks_findIn X ha).at (wpAny_bind (m2.at ?_))))))
  show wpAny _ _ (storeInOwnDict (.ref x) (.ref D) (.str name tk) name v false) _ _ _
  obtain ⟨nm, bs, mro, ns, qn, hd, sn, sb, ab, col, de⟩ := cd
  dsimp only at hh
  subst hh
  unfold storeInOwnDict ownDictForStores
  repeat (first | with_reducible refine PySem.HandSPX.store_in_new ?_ ?_ | with_reducible refine wpAny_loadPart_at hx ?_ | with_reducible refine m3.at ?_ | wp_step)
  · exact ⟨_, #[], _, (Heap.get?_update_ne _ _ _ _ hxs.symm).trans (Heap.get?_push_at rfl rfl), rfl, fun e he => absurd he (by simp), fun _ => rfl⟩
  · intro h' tk' ns1 same
    have px : (hp.push { cls := .type "dict", data := .dict #[] }).get? x = some { cls := .ref D, data := .fields fv } := Heap.get?_push_of_some _ hx
    refine hq h' tk' hp.objs.size (fun b o hb ho => ?_) (Nat.le_refl _) hxs.symm ?_ ns1
    · exact (same.2 b (Nat.ne_of_lt (Heap.lt_size ho))).trans ((Heap.get?_update_ne _ _ _ _ hb).trans (Heap.get?_push_of_some _ ho))
    · exact (same.2 x hxs).trans (Heap.get?_update_self _ px rfl)
open Builtin Builtin.ObjectAttr in
theorem osaA_old {K : PySem.W.Frag} {name : Str} {tk : Tok} {v : Value} {x D dx : Addr} {fv : Array Value} {cd : ClassData} {m0 : Str → Option Value} {nl : List Str}
    (X : K.In hp) (hx : hp.get? x = some { cls := .ref D, dict := some dx, data := .fields fv }) (hns : hp.Ns1 dx m0) (hw : Within m0 nl) (hz : nl.length ≤ 1000) (hcd : PySem.W.clsIn K D = some cd) (hm : mroA cd.mro = true) (hh : cd.hasDict = true)
    (ha : PySem.W.findIn K (.ref D) name = some none)
    (hq : ∀ h' tk', (∀ b o, b ≠ dx → hp.get? b = some o → h'.get? b = some o) → h'.Ns1 dx (fun y => if y = name then some v else m0 y) → R (.ok (.ret .none)) ⟨h', g, d, tk', os⟩) :
    codeAny (model prog w) A (.call (.builtin "object.__setattr__") ⟨[.ref x, .str name tk, v], []⟩) R ⟨hp, g, d, t, os⟩ := by
  obtain ⟨oD, _, _, hoD, _, _⟩ := hns.count hw
  have IA : PySem.W.InstAt hp x { cls := .ref D, dict := some dx, data := .fields fv } D (some oD) := ⟨hx, rfl, rfl, hoD⟩
  have SO := F.store_object
  have ne : cd.mro.isEmpty = false := by
    cases e : cd.mro with
    | nil => rw [e] at hm; exact absurd hm (by decide)
    | cons _ _ => rfl
  have obj : cd.mro.contains (.type "object") = true := (mroA_has "object" _ hm).trans (by decide +kernel)
  have isO : PySem.W.Looks (model prog w) hp (isInstance (.ref x) (.type "object")) true := IA.type.andThen (PySem.W.looks_mroIn X (by unfold PySem.W.mroIn; rw [hcd, Option.bind_some, if_neg (by rw [ne]; decide), obj]))
  refine codeAny_call_builtin SO.slot.plain SO.entry (@PySem.W.check_slot (model prog w) _ _ ⟨hp, g, d, t, os⟩ "object.__setattr__" "object" "__setattr__" (.ref x) [.str name tk, v] [] _ SO.kind SO.split isO (SO.args (.ref x) (.str name tk) v) ?_)
  have m1 : PySem.W.Looks (model prog w) hp (mroOf (.ref D)) cd.mro := (PySem.W.looks_clsIn X hcd).andThen .now
  have m2 : PySem.W.Looks (model prog w) hp (storeTaker? none) none := .now
  have m3 : PySem.W.Looks (model prog w) hp (classData D) cd := PySem.W.looks_clsIn X hcd
  rw [PySem.W.osa_eq, refuse_eq]
  refine wpAny_bind (wpAny_bind (IA.type.at (wpAny_bind (m1.at ?_))))
  rw [mroA_pass _ _ hm]
  refine wpAny_pure (wpAny_bind (IA.type.at (wpAny_bind ((PySem.W.looks_findIn X ha).at (wpAny_bind (m2.at ?_))))))
  show wpAny _ _ (storeInOwnDict (.ref x) (.ref D) (.str name tk) name v false) _ _ _
  obtain ⟨nm, bs, mro, ns, qn, hd, sn, sb, ab, col, de⟩ := cd
  dsimp only at hh
  subst hh
  unfold storeInOwnDict ownDictForStores
  repeat (first | with_reducible refine PySem.OEX.store_in_old hns hw hz ?_ | with_reducible refine wpAny_loadPart_at hx ?_ | with_reducible refine m3.at ?_ | wp_step)
  intro h' tk' ns1 same
  exact hq h' tk' (fun b o hb ho => (same.2 b hb).trans ho) ns1
end
section
variable {X : Cx} {pins : List (Addr × Obj)} {σ : L2.St} {H : Hp} {s : Shared} {a D dx : Addr} {f : Str} {y : V} {u : Value} {fs : List (Str × V)} {Q : Unit → Shared → Prop} {E : Value → Shared → Prop} {A : Around}
/-- the first field -/
theorem fldA_new (T : OexA X.K D) (I : Inv X pins σ H s) (e : H a = some (exo a D none)) (hno : PySem.W.findIn X.K (.ref D) f = some none) (ry : RelV y u)
    (h : ∀ dx s', H dx = none → dx ≠ a → Inv X pins σ (upd (upd H dx (exd dx [(f, y)])) a (exo a D (some dx))) s' → Q () s') : wpAny (model X.prog X.w) A (setAttr (.ref a) f u) Q E s := by
  obtain ⟨nm, q, N, bs, bm, sn, sub, ab, col, dd, k0, k1, k2, k3, k5, look, tl⟩ := T.made
  have hcl : PySem.W.clsIn X.K D = some ⟨nm, bs, .ref D :: bm, N, q, true, sn, sub, ab, col, false⟩ := by unfold PySem.W.clsIn; rw [look] <;> rfl
  obtain ⟨t1, ho⟩ := exo_at I.hok e
  obtain ⟨hp, g, d, t, os⟩ := s
  refine PySem.W.set_plain I.kIn (ox := ⟨.ref D, none, .fields #[.ref t1, .none, .none, .none, .bool false, .none], #[]⟩) (od := none) ⟨ho, rfl, rfl, trivial⟩ T.store ?_
  refine osaA_new I.kIn ho hcl (show mroA (.ref D :: bm) = true from tl) rfl hno (fun h' tk' dx k dn dne hx hn => ?_)
  have hnd : H dx = none := I.hok.fresh dn
  have nd : ∀ {b : Addr} {o : Obj}, hp.get? b = some o → b ≠ dx := fun {b o} z => Nat.ne_of_lt (Nat.lt_of_lt_of_le (Heap.lt_size z) dn)
  have na : ∀ {b : Addr}, H b = none → b ≠ a := fun {b} n z => by rw [z, e] at n; cases n
  have un : Un X.fs [] H (upd (upd H dx (exd dx [(f, y)])) a (exo a D (some dx))) hp h' := by
    refine ⟨fun b o z n _ _ => k b o (na n) z, fun b o z n _ _ => ⟨o.slots, k b o (na n) z⟩, fun b o z n _ => ?_, fun b o z _ => ?_, fun b xs z => ?_, fun b o v z => ?_, fun b ps z => ⟨#[], ?_⟩⟩
    · rw [upd_ne (na n), upd_ne (nd z)]; exact n
    · by_cases hb : b = a
      · exact ⟨_, by rw [hb]; exact hx⟩
      · exact ⟨o, k b o hb z⟩
    · rw [upd_ne (at_ne e z exo_tup), upd_ne (ne_of_none z hnd)]; exact z
    · rw [upd_ne (at_ne e z exo_frz), upd_ne (ne_of_none z hnd)]; exact z
    · rw [upd_ne (at_ne e z exo_tbl), upd_ne (ne_of_none z hnd), z]; simp
  refine h dx _ hnd dne (I.un (t' := tk') un fun b o z => ?_)
  by_cases hb : b = a
  · subst hb
    rw [upd_same] at z
    cases z
    exact exo_ok hx
  · rw [upd_ne hb] at z
    by_cases hd : b = dx
    · subst hd
      rw [upd_same] at z
      cases z
      exact exd_ok hn (relO_put (fs := []) ry fun _ => True.intro)
    · rw [upd_ne hd] at z
      refine (I.hok b o z).stay (fun c v hc q => k c v (hc.elim (fun e2 => by rw [e2]; exact hb) fun e2 => at_ne e e2 exo_own) q) (fun c hc => ?_) fun c xs hc => ?_
      · rw [upd_ne (at_ne e hc exo_own), upd_ne (ne_of_none hc hnd)]; exact hc
      · rw [upd_ne (at_ne e hc exo_tup), upd_ne (ne_of_none hc hnd)]; exact hc
/-- a further one -/
theorem fldA_old (T : OexA X.K D) (I : Inv X pins σ H s) (e : H a = some (exo a D (some dx))) (ed : H dx = some (exd dx fs)) (hl : fs.length ≤ 900) (hno : PySem.W.findIn X.K (.ref D) f = some none) (ry : RelV y u)
    (h : ∀ s', Inv X pins σ (upd H dx (exd dx ((f, y) :: fs))) s' → Q () s') : wpAny (model X.prog X.w) A (setAttr (.ref a) f u) Q E s := by
  obtain ⟨nm, q, N, bs, bm, sn, sub, ab, col, dd, k0, k1, k2, k3, k5, look, tl⟩ := T.made
  have hcl : PySem.W.clsIn X.K D = some ⟨nm, bs, .ref D :: bm, N, q, true, sn, sub, ab, col, false⟩ := by unfold PySem.W.clsIn; rw [look] <;> rfl
  obtain ⟨t1, ho⟩ := exo_at I.hok e
  obtain ⟨mA, hns, rel⟩ := exd_at I.hok ed
  have hw := within_of rel
  obtain ⟨hp, g, d, t, os⟩ := s
  obtain ⟨oD, _, _, hoD, _, _⟩ := hns.count hw
  refine PySem.W.set_plain I.kIn (ox := ⟨.ref D, some dx, .fields #[.ref t1, .none, .none, .none, .bool false, .none], #[]⟩) (od := some oD) ⟨ho, rfl, rfl, hoD⟩ T.store ?_
  refine osaA_old I.kIn ho hns hw (by rw [List.length_map]; omega) hcl (show mroA (.ref D :: bm) = true from tl) rfl hno (fun h' tk' k hn => ?_)
  refine h _ (I.write (t' := tk') (x := dx) (e := dx) (o := exd dx ((f, y) :: fs)) (by rw [ed]; exact True.intro) (.inl rfl) k ?_ (exd_ok hn (relO_put ry rel)))
  obtain ⟨o, _, _, e', _⟩ := hn
  exact ⟨o, e'⟩
end
/-- self.f = e -/
def tFldA (K : PySem.W.Frag) (f : Str) (to te : TE) : TS := fun D σ H => te σ H fun y H1 => to σ H1 fun x H2 => ∃ a C : Addr, x = .ref a ∧ OexA K C ∧ PySem.W.findIn K (.ref C) f = some none ∧
  ((H2 a = some (exo a C none) ∧ ∀ dx, H2 dx = none → dx ≠ a → D.nx σ (upd (upd H2 dx (exd dx [(f, y)])) a (exo a C (some dx)))) ∨
    ∃ (dx : Addr) (fs : List (Str × V)), H2 a = some (exo a C (some dx)) ∧ H2 dx = some (exd dx fs) ∧ fs.length ≤ 900 ∧ D.nx σ (upd H2 dx (exd dx ((f, y) :: fs))))
theorem ps_fldA {X : Cx} {o e : Expr} {to te : TE} {f : Str} {p' pos : Pos} (ho : PE X o to) (he : PE X e te) (hs : swapsWith e (some (.Attribute o f p')) pos.line X.env = pure false := by rfl) : PS X (.Assign [.Attribute o f p'] e pos) (tFldA X.K f to te) := by
  refine ⟨fun pins s σ H D I h => plainObj_wpAny_Assign_Attribute (thn (he.run pins s σ H _ I h) fun v s1 ⟨y, H1, I1, r1, q1⟩ => thn (ho.run pins s1 σ H1 _ I1 q1) fun u s2 ⟨x, H2, I2, r2, a, C, ex, T, hno, q⟩ => ?_) hs⟩
  subst ex
  obtain rfl : u = Value.ref a := r2
  rcases q with ⟨ea, q⟩ | ⟨dx, fs, ea, ed, hl, q⟩
  · exact fldA_new T I2 ea hno r1 fun dx s' n ne J => ⟨σ, _, J, q dx n ne⟩
  · exact fldA_old T I2 ea ed hl hno r1 fun s' J => ⟨σ, _, J, q⟩
/-! ### raised -/
section
variable {X : Cx} {e : Expr} {es : List Expr} {ta : TA} {p pos : Pos}
/-- such a class is called: an exception that no other one led to -/
theorem mk_ownA {XT : CXT} {x : Str} {Kl ini : Addr} {n : Nat} {fd : FuncData} {ps : List Str} {sp : Sp} (O : OexA X.K Kl) (hi : PySem.W.findIn X.K (.ref Kl) "__init__" = some (some (.ref ini))) (ht : PySem.W.typeIn X.K (.ref ini) = some (.type "function"))
    (FI : FnOk X.prog X.w X.K X.mg X.base XT n ini fd ps sp) (room : Room (n + 1) X.A) (bi : Binds X.K fd ps []) (nox : Passes XT X (fun _ _ _ => False)) (hg : Gl X x) (hm : X.mg x = some (.ref Kl)) (ha : PA X (e :: es) ta)
    (hdb : (x == ("__debug__" : Str)) = false) (hst : starEach (e :: es) X.env = (false, eval e X.env) :: starEach es X.env) (hno : (backTo pos (starEach es X.env)).any (·.1) = false) :
    L2N.PMk X (.Call (.Name x p) (e :: es) [] pos) (tMkO Kl sp [] ta) := by
  intro pins s σ H Q I h
  obtain ⟨_, _, _, _, bm, _, _, _, _, _, _, _, _, _, _, lookK, refsOk⟩ := O.made
  refine wpAny_Call_Name_kw (ld_glob I hg hm ?_ hdb)
  refine PySem.W.callWith_K (h₀ := X.base) I.ok.mod.kin O.kept (thn (ha.run pos pins s σ H _ I h) fun ws s1 ⟨ys, Ha, Ia, ry, few, go⟩ => ⟨Ia.kIn, ?_⟩) hst hno
  show wpAny _ _ (call (.ref Kl) ws) _ _ _
  obtain ⟨hp, gens, drw, tk, os⟩ := s1
  let ad : Addr := hp.objs.size + 1
  let hp2 : Heap := (hp.push (PySem.W.kdv_tup ws)).push (PySem.HandSPX.excO Kl hp.objs.size)
  have above : hp.objs.size ≤ ad := Nat.le_succ _
  have gone : Ha ad = none := Ia.hok.fresh above
  have promise := go ad gone
  have stays : ∀ b o, hp.get? b = some o → hp2.get? b = some o := fun b o z => Heap.get?_push_of_some _ (Heap.get?_push_of_some _ z)
  have there : hp2.get? ad = some (PySem.HandSPX.excO Kl hp.objs.size) := by
    show ((hp.push _).push _).get? (hp.objs.size + 1) = _
    heap_get
  have Ib : Inv X pins σ (upd Ha ad (exo ad Kl none)) ⟨hp2, gens, drw, tk, os⟩ := Ia.laid (t' := tk) (a := ad) (o := exo ad Kl none) (h' := hp2) stays above (exo_ok there)
  rw [List.append_nil] at promise
  have rb : Vals (V.ref ad :: ys) (Value.ref ad :: ws) := .cons rfl ry
  have cnt : ((Value.ref ad :: ws) ++ []).length = ps.length := by
    rw [List.append_nil, ← rb.length]
    exact FI.len _ _ _ _ promise
  have small : ws.length ≤ sizeLine := by
    have q := Paired.length ry
    rw [sizeLine_eq]
    omega
  have bound := bi ⟨hp2, gens, drw, tk, os⟩ (Value.ref ad :: ws) Ib.kIn (by rw [List.append_nil] at cnt ⊢; exact cnt)
  rw [List.append_nil] at bound
  have body := FI.run _ X.stack _ _ ⟨Value.ref ad :: ws, []⟩ (Value.ref ad :: ws) _ _ (fun _ _ _ => False) (room.make Kl ws []) (Ib.env0.make Kl ws []) bound rb promise
  refine wpAny_call (PySem.HandSPX.call_own F.excBase_ArithmeticError (fun Y => mroA_has Y bm refsOk) (Ia.kIn _ _ lookK) (PySem.W.looks_findIn Ia.kIn hi) (fun self => PySem.W.bind_fn Ia.kIn self ht) small (codeAny_mono body fun r s' out => ?_))
  match r, out with
  | .error er, out => exact nox pins σ _ _ er s' Ib out
  | .ok .next, out => exact out.elim
  | .ok .brk, out => exact out.elim
  | .ok .cont, out => exact out.elim
  | .ok (.ret u), out =>
    obtain ⟨v, Hb, os2, bare2, un2, hok2, rv, ev, d, fs, ea, ed, hd1, q2⟩ := out
    subst ev
    obtain ⟨h2, g2, d2, t2, os'⟩ := s'
    obtain ⟨t0, G, J, kG, ge, hoe, na⟩ := mk_end0 (d2 := d2) (t2 := t2) Ia above stays un2 hok2 os2 bare2 ea ed hd1
    exact ⟨rv, ad, _, _, ⟨G, g2, d2, t2, os'⟩, _, .ref Kl, some d, rfl, J, kG, ge, hoe, ⟨rfl, rfl, fun vs hv => by cases hv; rfl⟩, rfl, rfl, na, rfl, bare2, raises_own O.base O.ty, q2⟩
/-- X(), X a class of one's own without an __init__ of its own -/
theorem mk_own0 {C : Addr} {bmB : List Value} {B newId initId : String} {x : Str} (F : ExcBaseFacts B newId initId bmB) (q : PySem.W.excIn X.K C bmB newId = true) (gC : X.mg x = some (.ref C)) (kC : PySem.W.keepIn X.K (.ref C) = true) (r : Raises X (.ref C)) (hg : Gl X x)
    (hdb : (x == ("__debug__" : Str)) = false) : L2N.PMk X (.Call (.Name x p) [] [] pos) (fun _ H Q => Q (.ref C) none H) := by
  intro pins s σ H Q I h
  refine wpAny_Call_Name_kw (ld_glob I hg gC ?_ hdb)
  refine PySem.W.callWith_K0 I.kIn kC ?_
  show wpAny _ _ (call (.ref C) []) _ _ _
  obtain ⟨bm, N, nm, qn, bs, hdct, sn, sub, ab, col, dd, k0, k1, k2, k3, k5, mN, hC, hN, hni, T⟩ := exc_obj I.kIn q
  exact wpAny_call_exc_subT F T hC hN hni (fun h' e hm => L2N.mk_of I hm r h (I.hok.gone hm.new)) (by show 0 ≤ sizeLine; omega)
end
end PyC
end

section
set_option maxHeartbeats 200000
namespace PyC
open PySem PySem.Spec L2
/-! ### what is known of names -/
structure Ck where
  N : List Str
  sc : Scope
  fn : Str → Bool
  ct : Str → Option PyData
  fns : Str → Option (Nat × List Str)
  kws : Str → List (List Str × List Nat)
  bl : List Str
  /-- exception classes that may be raised; of which classes an except clause's name is above; in a suite; not in one -/
  exc : Str → Option Nat
  exs : Str → Option (List Nat)
  hot : Bool
  cm : Bool
  /-- calls of defs and of closures; in a frame that makes closures; their name; what lambda a core term stands for -/
  pl : Bool
  mkl : Bool
  q : Str
  lam : Nat → Lam → Bool
  /-- exception classes without a field, with two, that may be raised -/
  exm : Str → Option (Nat × Nat)
def visB (k : Ck) (x : Str) : Bool := match k.sc.names.lookup x with
  | some .local => true
  | some .cell => true
  | some .free => true
  | _ => false
def locB (k : Ck) (x : Str) : Bool := match k.sc.names.lookup x with
  | some .local => true
  | some .cell => true
  | _ => false
def glB (k : Ck) (x : Str) : Bool := match k.sc.names.lookup x with
  | some .globalImplicit => true
  | _ => false
def plainN (x : Str) : Bool := !(x == ("__debug__" : Str)) && !(x == ("__classdict__" : Str)) && !decide (x = ("__name__" : Str))
/-- the promise of an exception's __init__ with one field -/
def spI (K : PySem.W.Frag) : Sp := fun vs H Q _ => ∃ (a Ca : Addr) (v : V), vs = [.ref a, v] ∧ H a = some (exo a Ca none) ∧ OexC K Ca ∧ PySem.W.findIn K (.ref Ca) "value" = some none ∧
  ∀ dx, H dx = none → dx ≠ a → Q .non (upd (upd H dx (exd dx [("value", v)])) a (exo a Ca (some dx)))
/-- what isinstance asks of an own exception class -/
structure IsF (K : PySem.W.Frag) (D : Addr) : Prop where
  hcl : (PySem.W.clsIn K D).isSome = true
  ha : PySem.W.findIn K (.ref D) "__class__" = some (some (.builtin "object.__class__"))
  hn : PySem.W.specialIn K (.builtin "object.__class__") "__get__" = some (some (.builtin "getset_descriptor.__get__"))
  ht : PySem.W.takesIn K (.builtin "object.__class__") = some true
  hm : PySem.W.mroIn K D (.type "object") = some true
/-- the promise of an __init__ with two fields -/
def spI2 (K : PySem.W.Frag) : Sp := fun vs H Q _ => ∃ (a Ca : Addr) (v u : V), vs = [.ref a, v, u] ∧ H a = some (exo a Ca none) ∧ OexA K Ca ∧ PySem.W.findIn K (.ref Ca) "what" = some none ∧ PySem.W.findIn K (.ref Ca) "limit" = some none ∧
  ∀ dx, H dx = none → dx ≠ a → Q .non (upd (upd H dx (exd dx [("limit", u), ("what", v)])) a (exo a Ca (some dx)))
/-- an exception class without a field, with two -/
def RaiseM (P : Program) (w : World) (K : PySem.W.Frag) (mg : Str → Option Value) (base : Heap) (C : RK) (c n : Nat) (Ca : Addr) : Prop :=
  (n = 0 ∧ C.ct c = some (Value.ref Ca, []) ∧ PySem.W.subIn K (.ref Ca) (.type "BaseException") = some true ∧ PySem.W.typeIn K (.ref Ca) = some (.type "type") ∧ PySem.W.keepIn K (.ref Ca) = true ∧ ∃ B newId initId bmB, ExcBaseFacts B newId initId bmB ∧ PySem.W.excIn K Ca bmB newId = true) ∨
  (n = 2 ∧ C.ct c = some (Value.ref Ca, [("what" : Str), "limit"]) ∧ OexA K Ca ∧ PySem.W.findIn K (.ref Ca) "what" = some none ∧ PySem.W.findIn K (.ref Ca) "limit" = some none ∧ ∃ (fI : Addr) (fdI : FuncData), PySem.W.findIn K (.ref Ca) "__init__" = some (some (.ref fI)) ∧ PySem.W.typeIn K (.ref fI) = some (.type "function") ∧
    FnOk P w K mg base (L2N.CX P w) 1 fI fdI ["self", "what", "limit"] (spI2 K) ∧ Binds K fdI ["self", "what", "limit"] [])
structure XOk (X : Cx) (k : Ck) (C : RK) (call : CallT) (W : WX) : Prop where
  N : X.N = k.N
  nd : k.N.Nodup
  sc : X.env.scope = k.sc
  kind : k.sc.kind = .function
  fn : X.fn = k.fn
  calm : k.cm = true → X.calm = true
  un : X.A.units + 130 < cLine
  gd : X.A.guards = some []
  fr : X.K = C.fr.fr
  free : ∀ x, x ∈ k.bl → X.mg x = none
  ct : ∀ x p, k.ct x = some p → ∃ v u, X.mg x = some u ∧ RelV v u ∧ ∀ H, Rep C.fr H (fun _ => False) p v
  fns : ∀ x f ps, k.fns x = some (f, ps) → ∃ (a : Addr) (fd : FuncData) (n : Nat), X.mg x = some (.ref a) ∧ PySem.W.keepIn X.K (.ref a) = true ∧ FnG X.prog X.w X.K X.mg X.base (L2N.CX X.prog X.w) n a fd ps (spF C.base call f) ∧ Room n X.A ∧ Binds X.K fd ps [] ∧
    (∀ ks pm, (ks, pm) ∈ k.kws x → ∃ g gV, KBn X.K fd ps 0 ks g gV ∧ ∀ zs : List V, zs.length = ks.length → permV zs pm = some (gV [] zs))
  tk : L2N.Takes X W
  raises : ∀ x c, k.exc x = some c → ∃ (Ca fI : Addr) (fdI : FuncData), X.mg x = some (.ref Ca) ∧ C.ct c = some (Value.ref Ca, [("value" : Str)]) ∧ OexC X.K Ca ∧ PySem.W.findIn X.K (.ref Ca) "value" = some none ∧ PySem.W.findIn X.K (.ref Ca) "__init__" = some (some (.ref fI)) ∧ PySem.W.typeIn X.K (.ref fI) = some (.type "function") ∧
    FnOk X.prog X.w X.K X.mg X.base (L2N.CX X.prog X.w) 1 fI fdI ["self", "value"] (spI X.K) ∧ Binds X.K fdI ["self", "value"] [] ∧ (k.cm = true → Room 2 X.A) ∧ KBn X.K fdI ["self", "value"] 1 [("value" : Str)] (fun us ws => us ++ ws) (fun us ws => us ++ ws)
  names : ∀ x cs, k.exs x = some cs → ∃ (cv : Value) (v : V), (X.mg x = some cv ∨ (X.mg x = none ∧ bootBuiltins x = some cv ∧ x ≠ "__name__")) ∧ ClsV v cv ∧ RelV v cv ∧ ∀ c cls ns, C.ct c = some (cls, ns) → PySem.W.exmOne X.K cls cv = some (cs.contains c) ∧ PySem.W.kitOne X.K cls cv = some (cs.contains c)
  cls : ∀ c cl ns, C.ct c = some (cl, ns) → ∃ Ca, cl = .ref Ca ∧ XfC X.K Ca ∧ ((ns = [] ∨ (ns = [("value" : Str)] ∨ ns = [("what" : Str), "limit"])) ∧ ∀ n ∈ ns, PySem.W.findIn X.K (.ref Ca) n = some none) ∧ IsF X.K Ca
  hots : k.hot = true → ∃ (X0 : Cx) (a : Addr) (oe : Obj) (pn : List (Addr × Obj)), X = X0.suite a ((a, oe) :: pn) ∧ C.xa = a ∧ L2N.Zn C.xc C.xd oe ∧ ∃ vs, oe.data = .fields vs
  lams : k.pl = true → C.base = C ∧ ∃ n, Room n X.A ∧ ∀ f L, C.fr.lam f L → CloG X.prog X.w X.K X.mg X.base (L2N.CX X.prog X.w) n L (spF C call f)
  mks : k.mkl = true → ∃ c P, X.env.code = .ref c ∧ LamX.TabB X.base X.mg c P ∧ (P, k.q) ∈ C.fr.tabs ∧ (∀ p ∈ C.fr.tabs, p.1 = P → p.2 = k.q) ∧ X.env.qual ++ "<lambda>" = k.q ∧ C.fr.cell = celOf X ∧ X.fn = fun _ => true
  lamk : ∀ f L, k.lam f L = true → C.fr.lam f L
  sm : ∃ o, X.K.lookup sysModules = some o ∧ o.cls = .type "dict"
  raiseM : ∀ x c n, k.exm x = some (c, n) → ∃ Ca, X.mg x = some (.ref Ca) ∧ RaiseM X.prog X.w X.K X.mg X.base C c n Ca ∧ (k.cm = true → Room 2 X.A)
section
variable {X : Cx} {k : Ck} {C : RK} {call : CallT} {W : WX}
theorem visB_ok (x : XOk X k C call W) {n : Str} (h : visB k n = true) : Vis X.env.scope n := by
  unfold visB at h
  unfold Vis
  rw [x.sc]
  split at h <;> first | exact .inl (by assumption) | exact .inr (.inl (by assumption)) | exact .inr (.inr (by assumption)) | cases h
theorem locB_ok (x : XOk X k C call W) {n : Str} (h : locB k n = true) : L2.Loc X.env.scope n := by
  unfold locB at h
  unfold L2.Loc
  rw [x.sc]
  split at h <;> first | exact .inl (by assumption) | exact .inr (by assumption) | cases h
theorem glB_ok (x : XOk X k C call W) {n : Str} (h : glB k n = true) : Gl X n := by
  unfold glB at h
  show X.env.scope.names.lookup n = some .globalImplicit
  rw [x.sc]
  split at h <;> first | assumption | cases h
theorem plainN_ok {n : Str} (h : plainN n = true) : (n == ("__debug__" : Str)) = false ∧ (n == ("__classdict__" : Str)) = false ∧ n ≠ ("__name__" : Str) := by
  unfold plainN at h
  simp only [Bool.and_eq_true, Bool.not_eq_true', decide_eq_false_iff_not] at h
  exact ⟨h.1.1, h.1.2, h.2⟩
/-! ### lists of expressions beside core terms -/
/-- each expression keeps its core term's reading -/
def PEL (X : Cx) (C : RK) (call : CallT) (W : WX) : List Expr → CEs → Prop
  | [], .nil => True
  | e :: es, .cons c cs => PE X e (tE C call W c) ∧ PEL X C call W es cs
  | _, _ => False
theorem PEL.pa : ∀ {es : List Expr} {cs : CEs}, PEL X C call W es cs → noStars es = true → PA X es (tEs C call W cs)
  | [], .nil, _, _ => pa_nil.imp fun σ H Q h => h.nil
  | e :: es, .cons c cs, ⟨h, t⟩, n => by
    unfold noStars at n
    rw [List.all_cons, Bool.and_eq_true] at n
    exact (pa_cons h (PEL.pa t n.2) (star_cons n.1)).imp fun σ H Q h => h.cons
  | [], .cons _ _, h, _ => h.elim
  | _ :: _, .nil, h, _ => h.elim
theorem PEL.one_ {e : Expr} {cs : CEs} (h : PEL X C call W [e] cs) : ∃ c, cs = .cons c .nil ∧ PE X e (tE C call W c) := by
  match cs, h with
  | .cons c .nil, ⟨h, _⟩ => exact ⟨c, rfl, h⟩
  | .nil, h => exact h.elim
  | .cons _ (.cons _ _), ⟨_, h⟩ => exact h.elim
theorem PEL.two_ {e d : Expr} {cs : CEs} (h : PEL X C call W [e, d] cs) : ∃ c b, cs = .cons c (.cons b .nil) ∧ PE X e (tE C call W c) ∧ PE X d (tE C call W b) := by
  match cs, h with
  | .cons c (.cons b .nil), ⟨h, h2, _⟩ => exact ⟨c, b, rfl, h, h2⟩
  | .nil, h => exact h.elim
  | .cons _ .nil, ⟨_, h⟩ => exact h.elim
  | .cons _ (.cons _ (.cons _ _)), ⟨_, _, h⟩ => exact h.elim
theorem PEL.three_ {e d f : Expr} {cs : CEs} (h : PEL X C call W [e, d, f] cs) : ∃ c b a, cs = .cons c (.cons b (.cons a .nil)) ∧ PE X e (tE C call W c) ∧ PE X d (tE C call W b) ∧ PE X f (tE C call W a) := by
  match cs, h with
  | .cons c (.cons b (.cons a .nil)), ⟨h, h2, h3, _⟩ => exact ⟨c, b, a, rfl, h, h2, h3⟩
  | .nil, h => exact h.elim
  | .cons _ .nil, ⟨_, h⟩ => exact h.elim
  | .cons _ (.cons _ .nil), ⟨_, _, h⟩ => exact h.elim
  | .cons _ (.cons _ (.cons _ (.cons _ _))), ⟨_, _, _, h⟩ => exact h.elim
/-! ### operations of the text -/
def binOf (o : Operator) : Expr → Option (List Expr)
  | .BinOp a p b _ => if decide (p = o) then some [a, b] else none
  | _ => none
def cmpOf (o : CmpOp) : Expr → Option (List Expr)
  | .Compare a [p] [b] _ => if decide (p = o) && !behindInMarks p b then some [a, b] else none
  | _ => none
theorem binOf_ok {o : Operator} {e : Expr} {l : List Expr} (h : binOf o e = some l) : ∃ a b pos, e = .BinOp a o b pos ∧ l = [a, b] := by
  unfold binOf at h
  split at h
  · rename_i a p b pos
    split at h
    · rename_i hp
      have := of_decide_eq_true hp
      subst this
      exact ⟨a, b, pos, rfl, (Option.some.inj h).symm⟩
    · cases h
  · cases h
theorem cmpOf_ok {o : CmpOp} {e : Expr} {l : List Expr} (h : cmpOf o e = some l) : ∃ a b pos, e = .Compare a [o] [b] pos ∧ behindInMarks o b = false ∧ l = [a, b] := by
  unfold cmpOf at h
  split at h
  · rename_i a p b pos
    split at h
    · rename_i hp
      rw [Bool.and_eq_true, Bool.not_eq_true'] at hp
      have := of_decide_eq_true hp.1
      subst this
      exact ⟨a, b, pos, rfl, hp.2, (Option.some.inj h).symm⟩
    · cases h
  · cases h
theorem pe_bin {o : Operator} {op : Op} {r : R2} {e : Expr} {l : List Expr} {cs : CEs} (x : XOk X k C call W) (h : binOf o e = some l) (p : PEL X C call W l cs) (ho : OpR X (binaryOp o) r) (hv : OpV C.fr op (two r)) : PE X e (tE C call W (.op op cs)) := by
  obtain ⟨a, b, pos, rfl, rfl⟩ := binOf_ok h
  obtain ⟨c, d, rfl, h1, h2⟩ := p.two_
  exact (pe_op ho h1 h2).imp fun σ H Q h => h.op2 hv
theorem pe_cmp2 {o : CmpOp} {op : Op} {r : R2} {e : Expr} {l : List Expr} {cs : CEs} (x : XOk X k C call W) (h : cmpOf o e = some l) (p : PEL X C call W l cs) (ho : OpR X (compareOp o) r) (hv : OpV C.fr op (two r)) : PE X e (tE C call W (.op op cs)) := by
  obtain ⟨a, b, pos, rfl, hm, rfl⟩ := cmpOf_ok h
  obtain ⟨c, d, rfl, h1, h2⟩ := p.two_
  exact (pe_cmpR ho h1 h2 hm).imp fun σ H Q h => h.op2 hv
/-- x is None and its like: the right side is a constant -/
def cmpC (o : CmpOp) (q : Const) : Expr → Option (List Expr)
  | .Compare a [p] [.Constant c _ _] _ => if decide (p = o) && decide (c = q) then some [a] else none
  | _ => none
theorem cmpC_ok {o : CmpOp} {q : Const} {e : Expr} {l : List Expr} (h : cmpC o q e = some l) : ∃ a j p1 pos, e = .Compare a [o] [.Constant q j p1] pos ∧ l = [a] := by
  unfold cmpC at h
  split at h
  · rename_i a p c j p1 pos
    split at h
    · rename_i hp
      rw [Bool.and_eq_true] at hp
      have h1 := of_decide_eq_true hp.1
      have h2 := of_decide_eq_true hp.2
      subst h1 h2
      exact ⟨a, j, p1, pos, rfl, (Option.some.inj h).symm⟩
    · cases h
  · cases h
theorem pe_cmpK {o : CmpOp} {q : Const} {u : V} {op : Op} {r : R2} {r1 : V → Hp → VK → Prop} {e : Expr} {l : List Expr} {cs : CEs} (x : XOk X k C call W) (h : cmpC o q e = some l) (p : PEL X C call W l cs) (ho : OpR X (compareOp o) r) (hq : ∀ j pos, PE X (.Constant q j pos) (tC u)) (hv : OpV C.fr op (one r1))
    (hr : ∀ x H Q, r1 x H Q → r x u H Q) : PE X e (tE C call W (.op op cs)) := by
  obtain ⟨a, j, p1, pos, rfl, rfl⟩ := cmpC_ok h
  obtain ⟨c, rfl, h1⟩ := p.one_
  exact (pe_cmpR ho h1 (hq j p1) rfl).imp fun σ H Q h => (h.op1 hv).mono fun x H1 z => hr x H1 Q z
/-! ### calls of built-in things -/
def callOf (k : Ck) (n : Str) : Expr → Option (List Expr)
  | .Call (.Name x _) (a :: as) [] _ => if decide (x = n) && (k.bl.contains n && (glB k n && (plainN n && noStars (a :: as)))) then some (a :: as) else none
  | _ => none
theorem callOf_ok {n : Str} {e : Expr} {l : List Expr} (h : callOf k n e = some l) : ∃ p a as pos, e = .Call (.Name n p) (a :: as) [] pos ∧ n ∈ k.bl ∧ glB k n = true ∧ plainN n = true ∧ noStars (a :: as) = true ∧ l = a :: as := by
  unfold callOf at h
  split at h
  · rename_i x p a as pos
    split at h
    · rename_i hp
      simp only [Bool.and_eq_true] at hp
      have h1 := of_decide_eq_true hp.1
      subst h1
      exact ⟨p, a, as, pos, rfl, List.contains_iff_mem.mp hp.2.1, hp.2.2.1, hp.2.2.2.1, hp.2.2.2.2, (Option.some.inj h).symm⟩
    · cases h
  · cases h
theorem pe_blt {n : Str} {id : String} {op : Op} {r : List V → Hp → VK → Prop} {e : Expr} {l : List Expr} {cs : CEs} (x : XOk X k C call W) (h : callOf k n e = some l) (p : PEL X C call W l cs) (hc : CallR X (.builtin id) r) (hb : bootBuiltins n = some (.builtin id)) (hv : OpV C.fr op r) : PE X e (tE C call W (.op op cs)) := by
  obtain ⟨p1, a, as, pos, rfl, h1, h2, h3, h4, rfl⟩ := callOf_ok h
  have hp := plainN_ok h3
  have hs : noStar a = true ∧ noStars as = true := by unfold noStars at h4; rwa [List.all_cons, Bool.and_eq_true] at h4
  exact (pe_callB hc (glB_ok x h2) (x.free _ h1) hb (p.pa h4) hp.2.2 hp.1 (star_cons hs.1) (star_any hs.2)).imp fun σ H Q h => h.op hv
theorem pe_bty {n : Str} {id : String} {op : Op} {r : List V → Hp → VK → Prop} {e : Expr} {l : List Expr} {cs : CEs} (x : XOk X k C call W) (h : callOf k n e = some l) (p : PEL X C call W l cs) (hc : CallR X (.type id) r) (hb : bootBuiltins n = some (.type id)) (hv : OpV C.fr op r) : PE X e (tE C call W (.op op cs)) := by
  obtain ⟨p1, a, as, pos, rfl, h1, h2, h3, h4, rfl⟩ := callOf_ok h
  have hp := plainN_ok h3
  have hs : noStar a = true ∧ noStars as = true := by unfold noStars at h4; rwa [List.all_cons, Bool.and_eq_true] at h4
  exact (pe_callTy hc (glB_ok x h2) (x.free _ h1) hb (p.pa h4) hp.2.2 hp.1 (star_cons hs.1) (star_any hs.2)).imp fun σ H Q h => h.op hv
/-! ### keywords -/
theorem pe_callKS {CX : CXT} {n : Nat} {f : Addr} {fd : FuncData} {ps ks : List Str} {sp : Sp} {E : St → XK} {x : Str} {p pos : Pos} {kws : List Keyword} {tk : TA} {g : List Value → List Value → List Value} {gV : List V → List V → List V}
    (F : FnG X.prog X.w X.K X.mg X.base CX n f fd ps sp) (hr : Room n X.A) (gd : X.A.guards = some []) (hg : Gl X x) (hm : X.mg x = some (.ref f)) (hk : PySem.W.keepIn X.K (.ref f) = true) (hb : KBn X.K fd ps 0 ks g gV) (hx : ∀ σ, PassesAt CX X σ (E σ)) (hkw : PK X kws tk)
    (hall : (backToKw pos (keywordEach kws X.env)).all (·.1.isSome) = true) (hks : (backToKw pos (keywordEach kws X.env)).filterMap (·.1) = ks) (hdb : (x == ("__debug__" : Str)) = false) (hpl : ((backTo pos (starEach [] X.env)).any (·.1) || (backToKw pos (keywordEach kws X.env)).any (·.1.isNone)) = false) :
    PE X (.Call (.Name x p) [] kws pos) (fun σ H Q => tk σ H fun zs H1 => zs.length = ks.length ∧ sp (gV [] zs) H1 Q (E σ)) := by
  refine ⟨fun pins s σ H Q I h => wpAny_Call_Name_kw (ld_glob I hg hm ?_ hdb)⟩
  refine PySem.W.callWith_KW0 (h₀ := X.base) I.ok.mod.kin hk hall (thn (hkw.run pos pins s σ H _ I h) fun ws s2 ⟨zs, H2, I2, rz, l2, q2⟩ => ⟨I2.kIn, ?_⟩) hpl
  rw [hks]
  have r2 := hb.rel (vs := []) (us := []) .nil rz
  refine wpAny_call (codeAny_mono (F.run X.A X.stack s2 H2 ⟨[], ks.zip ws⟩ (g [] ws) (gV [] zs) Q (E σ) hr gd I2.env0 (hb.to s2 [] ws I2.kIn rfl (rz.length.symm.trans l2)) r2 q2) fun r s' hq => ?_)
  cases r with
  | error e => exact hx σ pins H2 s2 e s' I2 hq
  | ok fl =>
    cases fl with
    | ret u => exact I2.after hq
    | next => exact False.elim hq
    | brk => exact False.elim hq
    | cont => exact False.elim hq
/-- the words and the values of keywords, all of them named -/
def kwOf : List Keyword → Option (List Str × List Expr)
  | [] => some ([], [])
  | ⟨some n, e, _⟩ :: r => match kwOf r with
    | some (ns, es) => some (n :: ns, e :: es)
    | none => none
  | _ => none
theorem kwOf_ok : ∀ {kws : List Keyword} {ns : List Str} {es : List Expr} {cs : CEs} {pos : Pos}, kwOf kws = some (ns, es) → PEL X C call W es cs → PK X kws (tEs C call W cs) ∧ (backToKw pos (keywordEach kws X.env)).all (·.1.isSome) = true ∧ (backToKw pos (keywordEach kws X.env)).filterMap (·.1) = ns ∧ (backToKw pos (keywordEach kws X.env)).any (·.1.isNone) = false
  | [], ns, es, cs, pos, h, p => by
    cases h
    cases cs with
    | nil => exact ⟨⟨fun pos pins s σ H Q I q => pk_nil.run pos pins s σ H Q I q.nil⟩, rfl, rfl, rfl⟩
    | cons _ _ => exact p.elim
  | ⟨some n, e, kp⟩ :: r, ns, es, cs, pos, h, p => by
    unfold kwOf at h
    split at h
    · rename_i ns' es' hr
      cases h
      cases cs with
      | nil => exact p.elim
      | cons c cs =>
        obtain ⟨h1, h2⟩ := p
        obtain ⟨i1, i2, i3, i4⟩ := kwOf_ok (pos := pos) hr h2
        refine ⟨⟨fun pos pins s σ H Q I q => (pk_cons h1 i1).run pos pins s σ H Q I q.cons⟩, i2, ?_, i4⟩
        rw [← i3]; rfl
    · cases h
  | ⟨none, e, kp⟩ :: r, ns, es, cs, pos, h, p => by cases h
end
end PyC
end

section
set_option maxHeartbeats 1000000
namespace PyC
open PySem PySem.Spec L2 PyProof.Rows
section
open PySem.HandSPX
variable {M : Model} {A : Around} {E : Value → Shared → Prop} {h : Heap} {g : Array GenState} {d : Drawn} {t : Nat} {os : OsState}
variable {nm q : Str} {C N : Addr} {bs bm bmB : List Value} {hdct : Bool} {sn : List Str} {sub : List Value} {ab : Bool} {col : Option Bool} {dd : Option Addr} {k0 k1 k2 k3 k5 : Option Value} {B newId initId : String} {prog : Program} {w : World} {R : Result → Shared → Prop}
theorem chk_newK (F : ExcBaseFacts B newId initId bmB) (has : ∀ T : String, bm.contains (.type T) = bmB.contains (.type T)) {kw : List (Str × Value)} {us : List Value} {Q : Unit → Shared → Prop}
    (here : h.get? C = some (excClassObj nm q C N bs bm hdct sn sub ab col dd k0 k1 k2 k3 k5 newId)) (z : Q () ⟨h, g, d, t, os⟩) : wpAny M A (checkBuiltinCall newId ⟨.ref C :: us, kw⟩) Q E ⟨h, g, d, t, os⟩ := by
  have inB : (Value.ref C :: bm).contains (.type B) = true := by rw [List.contains_cons, has, F.hasB, Bool.or_true]
  have star := F.noStar
  simp only [checkBuiltinCall, F.newKind, F.newSplit, F.newRow]
  repeat (first | refine wpAny_loadPart_at here ?_ | (refine wpAny_isSubtype_exc here ?_; rw [inB]) | refine wpAny_staticBase_exc here ?_ | refine wpAny_madeBy_exc here ?_ | simp only [bne_self_eq_false, Bool.false_eq_true, if_false] | wp_step)
  all_goals exact z
theorem newK (F : ExcBaseFacts B newId initId bmB) (has : ∀ T : String, bm.contains (.type T) = bmB.contains (.type T)) {kw : List (Str × Value)} {us : List Value}
    (here : h.get? C = some (excClassObj nm q C N bs bm hdct sn sub ab col dd k0 k1 k2 k3 k5 newId)) (few : us.length ≤ sizeLine)
    (z : R (.ok (.ret (.ref (h.objs.size + 1)))) ⟨(h.push (PySem.W.kdv_tup us)).push (excO C h.objs.size), g, d, t, os⟩) :
    codeAny (model prog w) A (.builtin newId ⟨.ref C :: us, kw⟩) R ⟨h, g, d, t, os⟩ := by
  have ends := F.ends
  have inB : (Value.ref C :: bm).contains (.type B) = true := by rw [List.contains_cons, has, F.hasB, Bool.or_true]
  have noA : (Value.ref C :: bm).contains (.type "AttributeError") = false := by rw [List.contains_cons, has, F.noAttr]; rfl
  have noN : (Value.ref C :: bm).contains (.type "NameError") = false := by rw [List.contains_cons, has, F.noName]; rfl
  refine codeAny_builtinAt F.entry ?_
  unfold Builtin.«BaseException.__new__»
  refine PySem.wpAt_bind ?_
  show PySem.wpAt _ _ _ (stack >>= _) _ _ _
  refine PySem.wpAt_bind (PySem.wpAt_stack fun p below => PySem.wpAt_of_wpAny ?_)
  wp_walk
  refine PySem.wpAt_of_wpAny ?_
  rw [F.owner]
  repeat (first | with_reducible refine wpAny_madeHere_exc F.canon here ?_ | with_reducible refine wpAny_loadPart_at here ?_ | (with_reducible refine wpAny_isSubtype_exc here ?_; first | rw [inB] | rw [noA] | rw [noN]) | wp_step)
  show R _ _
  rw [Heap.size_push]
  exact z
theorem typeK (F : ExcBaseFacts B newId initId bmB) (has : ∀ T : String, bm.contains (.type T) = bmB.contains (.type T)) {kw : List (Str × Value)} {us : List Value} {fI : Addr} {Q : Fin → Shared → Prop}
    (here : h.get? C = some (excClassObj nm q C N bs bm hdct sn sub ab col dd k0 k1 k2 k3 k5 newId))
    (hi : PySem.W.Looks (model prog w) h (typeLookup (.ref C) "__init__") (some (.ref fI))) (hb : ∀ self, PySem.W.Looks (model prog w) h (bindSpecial (.ref fI) self) (.ref fI, [self])) (few : us.length ≤ sizeLine)
    (z : codeAny (model prog w) A (.call (.ref fI) ⟨.ref (h.objs.size + 1) :: us, kw⟩)
      (fun r s' => match r with | .ok (.ret v) => v = .none ∧ Q (.done (.ret (.ref (h.objs.size + 1)))) s' | .ok _ => False | .error e => E e s')
      ⟨(h.push (PySem.W.kdv_tup us)).push (excO C h.objs.size), g, d, t, os⟩) :
    wpAny (model prog w) A (Builtin.«type.__call__» ⟨.ref C :: us, kw⟩) Q E ⟨h, g, d, t, os⟩ := by
  repeat (first | with_reducible refine wpAny_loadPart_at here ?_ | with_reducible refine wpAny_madeBy_exc here ?_ | wp_step)
  refine codeAny_call_builtin_code (Code.quiet_builtin _ F.quiet) (chk_newK F has here ?_)
  refine newK F has here few ?_
  show wpAny _ _ _ _ _ _
  have k : ∀ b o, h.get? b = some o → ((h.push (PySem.W.kdv_tup us)).push (excO C h.objs.size)).get? b = some o := fun b o e => Heap.get?_push_of_some _ (Heap.get?_push_of_some _ e)
  have here2 := k _ _ here
  have mine : ((h.push (PySem.W.kdv_tup us)).push (excO C h.objs.size)).get? (h.objs.size + 1) = some (excO C h.objs.size) := by heap_get
  have self : (Value.ref C :: bm).contains (.ref C) = true := by simp
  have i1 := hi.keeps k
  have b1 := (hb (.ref (h.objs.size + 1))).keeps k
  unfold isInstance
  repeat (first | with_reducible refine wpAny_loadPart_at mine ?_ | (with_reducible refine wpAny_isSubtype_exc here2 ?_; rw [self]) | wp_step)
  show wpAny _ _ (typeLookup (.ref C) _) _ _ _
  refine i1.at (wpAny_holding (wpAny_bind (b1.at ?_)))
  refine wpAny_bind (wpAny_call (codeAny_mono z fun r s' y => ?_))
  rcases r with e | (v | _ | _ | _) <;> first | exact y | exact y.elim | skip
  obtain ⟨rfl, y⟩ := y
  first
    | exact wpAny_pure (wpAny_pure y)
    | (wp_walk; exact y)
theorem callK_own (F : ExcBaseFacts B newId initId bmB) (has : ∀ T : String, bm.contains (.type T) = bmB.contains (.type T)) {kw : List (Str × Value)} {us : List Value} {fI : Addr}
    (here : h.get? C = some (excClassObj nm q C N bs bm hdct sn sub ab col dd k0 k1 k2 k3 k5 newId))
    (hi : PySem.W.Looks (model prog w) h (typeLookup (.ref C) "__init__") (some (.ref fI))) (hb : ∀ self, PySem.W.Looks (model prog w) h (bindSpecial (.ref fI) self) (.ref fI, [self])) (few : us.length ≤ sizeLine)
    (z : codeAny (model prog w) (A.under (.builtin "type.__call__" ⟨.ref C :: us, kw⟩)) (.call (.ref fI) ⟨.ref (h.objs.size + 1) :: us, kw⟩) (PySem.W.InitBack (h.objs.size + 1) R)
      ⟨(h.push (PySem.W.kdv_tup us)).push (excO C h.objs.size), g, d, t, os⟩) :
    codeAny (model prog w) A (.call (.ref C) ⟨us, kw⟩) R ⟨h, g, d, t, os⟩ := by
  have f1 := tc_lookup
  have f2 := tc_bind (.ref C)
  have isT : (⟨h, g, d, t, os⟩ : Shared).TypeIs (.ref C) "type" := ⟨_, here, rfl⟩
  have ty : PySem.W.Looks (model prog w) h (isInstance (.ref C) (.type "type")) true := by
    intro A' Q' E' s' k' q'
    have here' := k' _ _ here
    unfold isInstance
    repeat (first | with_reducible refine wpAny_loadPart_at here' ?_ | wp_step)
    rw [tc_sub]
    exact wpAny_pure q'
  refine codeAny_of_tree ?_
  show wpAny _ _ (callAny (.ref C) _) _ _ _
  repeat (any_goals (first | assumption | with_reducible refine wpAny_loadPart_at here ?_ | wp_step))
  refine ⟨rfl, ?_⟩
  refine codeAny_call_builtin_at (Code.quiet_builtin _ (by decide +kernel)) entry_typeCall (PySem.W.check_slot tc_kind tc_split ty (PySem.W.tc_args _ _ _) (typeK F has here hi hb few ?_))
  refine codeAny_mono z fun r s' y => ?_
  rcases r with e | (v | _ | _ | _) <;> exact y
end
/-! ### made as a value -/
/-- Kl(e), Kl(f=e): a new exception object, its __init__ keeping sp -/
def tMkV (Kl : Addr) (sp : Sp) (ta : TA) : TE := fun σ H Q => ta σ H fun vs H1 => vs.length ≤ 1000 ∧ ∀ a, H1 a = none → sp (.ref a :: vs) (upd H1 a (exo a Kl none)) (fun v H2 => v = .non ∧ Q (.ref a) H2) (fun _ _ _ => False)
section
variable {X : Cx} {XT : CXT} {x : Str} {Kl ini : Addr} {n : Nat} {fd : FuncData} {ps : List Str} {sp : Sp} {p pos : Pos} {ta : TA}
theorem run_exv {pins : List (Addr × Obj)} {σ : L2.St} {H : Hp} {s : Shared} {Q : VK} {us : List Value} {kw : List (Str × Value)} {vs : List V} {ws : List Value} (O : OexC X.K Kl) (hi : PySem.W.findIn X.K (.ref Kl) "__init__" = some (some (.ref ini))) (ht : PySem.W.typeIn X.K (.ref ini) = some (.type "function"))
    (FI : FnOk X.prog X.w X.K X.mg X.base XT n ini fd ps sp) (room : Room (n + 1) X.A) (nox : Passes XT X (fun _ _ _ => False)) (I : Inv X pins σ H s) (few : us.length ≤ sizeLine) (r : Vals vs ws)
    (bi : ∀ (s2 : Shared) (a : Addr), X.K.In s2.heap → BindsTo s2 fd ⟨.ref a :: us, kw⟩ (ps.zip (.ref a :: ws)))
    (h : ∀ a, H a = none → sp (.ref a :: vs) (upd H a (exo a Kl none)) (fun v H2 => v = .non ∧ Q (.ref a) H2) (fun _ _ _ => False)) : wpAny (model X.prog X.w) X.A (call (.ref Kl) us kw) (EP X pins σ Q) X.xe s := by
  obtain ⟨_, _, _, _, bm, _, _, _, _, _, _, _, _, _, _, lookK, refsOk⟩ := O.cls
  obtain ⟨hp, gens, drw, tk, os⟩ := s
  let ad : Addr := hp.objs.size + 1
  let hp2 : Heap := (hp.push (PySem.W.kdv_tup us)).push (PySem.HandSPX.excO Kl hp.objs.size)
  have above : hp.objs.size ≤ ad := Nat.le_succ _
  have promise := h ad (I.hok.fresh above)
  have stays : ∀ b o, hp.get? b = some o → hp2.get? b = some o := fun b o z => Heap.get?_push_of_some _ (Heap.get?_push_of_some _ z)
  have there : hp2.get? ad = some (PySem.HandSPX.excO Kl hp.objs.size) := by
    show ((hp.push _).push _).get? (hp.objs.size + 1) = _
    heap_get
  have Ib : Inv X pins σ (upd H ad (exo ad Kl none)) ⟨hp2, gens, drw, tk, os⟩ := I.laid (t' := tk) (a := ad) (o := exo ad Kl none) (h' := hp2) stays above (exo_ok there)
  have body := FI.run _ X.stack _ _ ⟨Value.ref ad :: us, kw⟩ (Value.ref ad :: ws) _ _ (fun _ _ _ => False) (room.make Kl us kw) (Ib.env0.make Kl us kw) (bi _ ad Ib.kIn) (show Vals (V.ref ad :: vs) (Value.ref ad :: ws) from .cons rfl r) promise
  refine wpAny_call (callK_own F.excBase_ValueError (fun Y => PySem.HandSPX.refsVE_contains Y bm refsOk) (I.kIn _ _ lookK) (PySem.W.looks_findIn I.kIn hi) (fun self => PySem.W.bind_fn I.kIn self ht) few (codeAny_mono body fun r s' out => ?_))
  match r, out with
  | .error er, out => exact nox pins σ _ _ er s' Ib out
  | .ok .next, out => exact out.elim
  | .ok .brk, out => exact out.elim
  | .ok .cont, out => exact out.elim
  | .ok (.ret u), out =>
    obtain ⟨v, Hb, Ic, rv, ev, q2⟩ := Ib.after out
    subst ev
    exact ⟨rv, V.ref ad, Hb, Ic, rfl, q2⟩
theorem pe_exv {e : Expr} (O : OexC X.K Kl) (hi : PySem.W.findIn X.K (.ref Kl) "__init__" = some (some (.ref ini))) (ht : PySem.W.typeIn X.K (.ref ini) = some (.type "function"))
    (FI : FnOk X.prog X.w X.K X.mg X.base XT n ini fd ps sp) (room : Room (n + 1) X.A) (bi : Binds X.K fd ps []) (nox : Passes XT X (fun _ _ _ => False)) (hg : Gl X x) (hm : X.mg x = some (.ref Kl)) (ha : PA X [e] ta)
    (hdb : (x == ("__debug__" : Str)) = false) (hst : starEach [e] X.env = (false, eval e X.env) :: starEach [] X.env) (hno : (backTo pos (starEach [] X.env)).any (·.1) = false) :
    PE X (.Call (.Name x p) [e] [] pos) (tMkV Kl sp ta) := by
  refine ⟨fun pins s σ H Q I h => wpAny_Call_Name_kw (ld_glob I hg hm ?_ hdb)⟩
  refine PySem.W.callWith_K (h₀ := X.base) I.ok.mod.kin O.kC (thn (ha.run pos pins s σ H _ I h) fun ws s1 ⟨ys, Ha, Ia, ry, few, go⟩ => ⟨Ia.kIn, ?_⟩) hst hno
  refine run_exv O hi ht FI room nox Ia (by show ws.length ≤ sizeLine; rw [← Paired.length ry, sizeLine_eq]; omega) ry (fun s2 a kin => ?_) go
  have cnt : ((Value.ref a :: ws) ++ []).length = ps.length := by
    have := FI.len _ _ _ _ (go (s1.heap.objs.size + 1) (Ia.hok.fresh (Nat.le_succ _)))
    rw [List.append_nil, List.length_cons, ← Paired.length ry, ← this, List.length_cons]
  have bound := bi s2 (Value.ref a :: ws) kin cnt
  rwa [List.append_nil] at bound
theorem pe_exvK {kws : List Keyword} {ks : List Str} (O : OexC X.K Kl) (hi : PySem.W.findIn X.K (.ref Kl) "__init__" = some (some (.ref ini))) (ht : PySem.W.typeIn X.K (.ref ini) = some (.type "function"))
    (FI : FnOk X.prog X.w X.K X.mg X.base XT n ini fd ps sp) (room : Room (n + 1) X.A) (bi : KBn X.K fd ps 1 ks (fun us ws => us ++ ws) (fun us ws => us ++ ws)) (nox : Passes XT X (fun _ _ _ => False)) (hg : Gl X x) (hm : X.mg x = some (.ref Kl)) (hkw : PK X kws ta)
    (hall : (backToKw pos (keywordEach kws X.env)).all (·.1.isSome) = true) (hks : (backToKw pos (keywordEach kws X.env)).filterMap (·.1) = ks) (hdb : (x == ("__debug__" : Str)) = false) (hpl : ((backTo pos (starEach [] X.env)).any (·.1) || (backToKw pos (keywordEach kws X.env)).any (·.1.isNone)) = false) :
    PE X (.Call (.Name x p) [] kws pos) (fun σ H Q => tMkV Kl sp (fun σ H Q => ta σ H fun vs H1 => vs.length = ks.length ∧ Q vs H1) σ H Q) := by
  refine ⟨fun pins s σ H Q I h => wpAny_Call_Name_kw (ld_glob I hg hm ?_ hdb)⟩
  refine PySem.W.callWith_KW0 (h₀ := X.base) I.ok.mod.kin O.kC hall (thn (hkw.run pos pins s σ H _ I h) fun ws s1 ⟨ys, Ha, Ia, ry, l2, few, go⟩ => ⟨Ia.kIn, ?_⟩) hpl
  rw [hks]
  exact run_exv (us := []) O hi ht FI room nox Ia (Nat.zero_le _) ry (fun s2 a kin => bi.to s2 [.ref a] ws kin rfl ((Paired.length ry).symm.trans l2)) go
/-- X(), X a class of one's own without an __init__ of its own -/
theorem pe_exv0 {C : Addr} {bmB : List Value} {B newId initId : String} (F : ExcBaseFacts B newId initId bmB) (q : PySem.W.excIn X.K C bmB newId = true) (gC : X.mg x = some (.ref C)) (kC : PySem.W.keepIn X.K (.ref C) = true) (hg : Gl X x)
    (hdb : (x == ("__debug__" : Str)) = false) : PE X (.Call (.Name x p) [] [] pos) (fun _ H Q => ∀ a, H a = none → Q (.ref a) (upd H a (exo a C none))) := by
  refine ⟨fun pins s σ H Q I h => wpAny_Call_Name_kw (ld_glob I hg gC ?_ hdb)⟩
  refine PySem.W.callWith_K0 I.kIn kC ?_
  show wpAny _ _ (call (.ref C) []) _ _ _
  obtain ⟨bm, N, nm, qn, bs, hdct, sn, sub, ab, col, dd, k0, k1, k2, k3, k5, mN, hC, hN, hni, T⟩ := exc_obj I.kIn q
  refine wpAny_call_exc_subT F T hC hN hni (fun h' a hm => ?_) (by show 0 ≤ sizeLine; omega)
  have gone := I.hok.gone hm.new
  obtain ⟨t, ht, _, _⟩ := hm.there
  exact ⟨.ref a, upd H a (exo a C none), I.laidN hm.keeps hm.new gone (exo_ok ht), rfl, h a gone⟩
/-! ### a field of it, isinstance -/
theorem exo_inst {pins : List (Addr × Obj)} {σ : L2.St} {H : Hp} {s : Shared} {a C : Addr} {d : Option Addr} (I : Inv X pins σ H s) (e : H a = some (exo a C d)) (hd : d = none ∨ ∃ dx fs, d = some dx ∧ H dx = some (exd dx fs)) : ∃ ox od, PySem.W.InstAt s.heap a ox C od := by
  obtain ⟨t1, ho⟩ := exo_at I.hok e
  rcases hd with rfl | ⟨dx, fs, rfl, ed⟩
  · exact ⟨_, none, ho, rfl, rfl, trivial⟩
  · obtain ⟨mA, hns, _⟩ := exd_at I.hok ed
    obtain ⟨od, ho2, _⟩ := lookIn_ns hns
    exact ⟨_, some od, ho, rfl, rfl, ho2⟩
theorem pe_exf {e : Expr} {te : TE} {f : Str} (he : PE X e te) (hb : attributeBase e f X.env (eval e X.env) = eval e X.env := by rfl) :
    PE X (.Attribute e f pos) (fun σ H Q => te σ H fun v H1 => ∃ (a C dx : Addr) (fs : List (Str × V)) (y : V), v = .ref a ∧ XfC X.K C ∧ PySem.W.findIn X.K (.ref C) f = some none ∧ H1 a = some (exo a C (some dx)) ∧ H1 dx = some (exd dx fs) ∧ fs.lookup f = some y ∧ Q y H1) := by
  refine ⟨fun pins s σ H Q I h => attr_of hb (thn (he.run pins s σ H _ I h) fun u s1 hh => ?_)⟩
  obtain ⟨v, H1, I1, rv, a, C, dx, fs, y, ev, T, hno, ea, ed, l, q⟩ := hh
  subst ev
  obtain rfl : u = Value.ref a := rv
  obtain ⟨t1, ho⟩ := exo_at I1.hok ea
  obtain ⟨mA, hns, rel⟩ := exd_at I1.hok ed
  obtain ⟨od, ho2, hl⟩ := lookIn_ns hns
  obtain ⟨u, hu, ru⟩ := RelO.some_of (v := y) (o := mA f) (by rw [← l]; exact rel f)
  have J : PySem.W.InstAt s1.heap a ⟨.ref C, some dx, .fields #[.ref t1, .none, .none, .none, .bool false, .none], #[]⟩ C (some od) := ⟨ho, rfl, rfl, ho2⟩
  exact PySem.HandSPX.exc_get I1.kIn J T.ga T.gg T.exC (PySem.W.findObj_own T.hdC hno rfl (by rw [hl, hu])) (handed_of ru) ⟨y, H1, I1.tok _, ru, q⟩
end
end PyC
end

section
set_option maxHeartbeats 200000
namespace PyC
open PySem PySem.Spec L2
section
variable {C : RK} {call : CallT} {W : WX} {σ : L2.St} {H : Hp} {Q : VK} {S T : AS} {ρ : Rho}
theorem excOf_eq {kvs r : List (PyData × PyData)} {c : Nat} (h : excOf kvs = some (c, r)) : ∃ c0 c1 : Int, kvs = (.list [.int c0, .int c1], .none) :: r ∧ c = c0.toNat := by
  unfold excOf at h
  split at h
  · cases h; exact ⟨_, _, rfl, rfl⟩
  · cases h
theorem Rep.exc {K : KC} {c0 c1 : Int} {r : List (PyData × PyData)} {v : V} (h : Rep K H S (.dict ((.list [.int c0, .int c1], .none) :: r)) v) : ∃ (ys : List V) (Ca : Addr) (ns : List Str) (a : Addr) (d : Option Addr), RepD K H S r ys ∧ K.lam.x c0.toNat = some (.ref Ca, ns) ∧ v = .ref a ∧ H a = some (exo a Ca d) ∧
    ((d = none ∧ ys = []) ∨ ∃ dx fs, d = some dx ∧ H dx = some (exd dx fs) ∧ ns.map (fun n => fs.lookup n) = ys.map some) := by
  rcases h with ⟨_, _, z, _⟩ | ⟨_, _, _, _, _, z, _⟩ | ⟨_, _, _, _, _, _, z, _⟩ | ⟨xs, rd, ⟨_, _, _, _, _, _, _, z, _⟩ | ⟨c, c', r', ys, Ca, ns, a, d, z, h2, h3, h4, h5, h6⟩⟩
  · cases z
  · exact (keyL_head z).elim
  · cases z
  · cases z
  · cases z
    subst h2
    exact ⟨ys, Ca, ns, a, d, rd.2, h3, h4, h5, h6⟩
theorem AR.exc {K : KC} {c0 c1 : Int} {r : List (PyData × PyData)} {v : V} (h : AR K H S (.dict ((.list [.int c0, .int c1], .none) :: r)) v) : Rep K H S (.dict ((.list [.int c0, .int c1], .none) :: r)) v := by
  rcases h with ⟨_, _, _, _, z, _⟩ | h
  · exact (keyL_head z).elim
  · exact h
theorem RepD.repl {K : KC} : ∀ {r : List (PyData × PyData)} {ys : List V}, RepD K H S r ys → RepL K H S (r.map (·.2)) ys
  | [], [], _ => trivial
  | (_, _) :: _, _ :: _, ⟨h, t⟩ => ⟨h, RepD.repl t⟩
  | [], _ :: _, h => h.elim
  | _ :: _, [], h => h.elim
theorem upd2_keep {H : Hp} {a dx : Addr} {o u : HO} (ha : H a = none) (hd : H dx = none) (b : Addr) (v : HO) (e : H b = some v) : upd (upd H dx o) a u b = some v := by
  rw [upd_ne (ne_of_none e ha), upd_ne (ne_of_none e hd)]; exact e
theorem upd_twice {H : Hp} {a dx : Addr} {o u w : HO} (n : dx ≠ a) : upd (upd (upd H a w) dx o) a u = upd (upd H dx o) a u := by
  funext b
  by_cases e : b = a
  · subst e; rw [upd_same, upd_same]
  · rw [upd_ne e, upd_ne e]
    by_cases e2 : b = dx
    · subst e2; rw [upd_same, upd_same]
    · rw [upd_ne e2, upd_ne e2, upd_ne e]
theorem tE.mkE1 {c : Nat} {e : CE} {Kl : Addr} (h : tE C call W (.mkE c (.cons e .nil)) σ H Q) (hct : C.ct c = some (.ref Kl, [("value" : Str)])) (O : OexC C.fr.fr Kl) (hno : PySem.W.findIn C.fr.fr (.ref Kl) "value" = some none) :
    tMkV Kl (spI C.fr.fr) (fun σ H Q => tEs C call W (.cons e .nil) σ H fun vs H1 => vs.length = 1 ∧ Q vs H1) σ H Q := by
  obtain ⟨ρ, S, R, k⟩ := h
  simp only [evE] at k
  refine ⟨ρ, S, R, k.bind.imp (fun vs ρ' k xs H1 T R1 st1 b1 vl nd nw => ?_) fun _ _ _ z => z⟩
  have hl := vl.len.1
  match xs, hl with
  | [v], _ =>
    refine ⟨rfl, by simp, fun a ha => ⟨a, Kl, v, rfl, upd_same, O, hno, fun dx hdx nd2 => ⟨rfl, ?_⟩⟩⟩
    rw [upd_ne nd2] at hdx
    rw [upd_twice nd2]
    have kp := upd2_keep (o := exd dx [("value", v)]) (u := exo a Kl (some dx)) ha hdx
    have bd := (bd_fresh b1 vl nw).ext kp
    refine k _ _ (fun a => T a ∨ a ∈ fresh vs [v]) (R1.ext kp) (st1.ext kp) bd ?_ ?_
    rotate_left
    · refine opd_of rfl bd ?_
      unfold Val
      rw [if_neg (by simp)]
      exact .inr (.inr (.inr ⟨.non :: [v], ⟨rfl, (vl.repl.stay (fun b o e _ _ => kp b o e) fun _ z => z).none_⟩, .inr ⟨(c : Nat), 0, _, [v], Kl, [("value" : Str)], a, some dx, rfl, rfl, by rw [Int.toNat_natCast]; exact hct, rfl, upd_same, .inr ⟨dx, [("value", v)], rfl, by rw [upd_ne nd2]; exact upd_same, rfl⟩⟩⟩))
    · unfold Val
      rw [if_neg (by simp)]
      exact .inr (.inr (.inr ⟨.non :: [v], ⟨rfl, (vl.repl.stay (fun b o e _ _ => kp b o e) fun _ z => z).none_⟩, .inr ⟨(c : Nat), 0, _, [v], Kl, [("value" : Str)], a, some dx, rfl, rfl, by rw [Int.toNat_natCast]; exact hct, rfl, upd_same, .inr ⟨dx, [("value", v)], rfl, by rw [upd_ne nd2]; exact upd_same, rfl⟩⟩⟩))
theorem tE.mkE0 {c : Nat} {Kl : Addr} {ns : List Str} (h : tE C call W (.mkE c .nil) σ H Q) (hct : C.ct c = some (.ref Kl, ns)) (a : Addr) (ha : H a = none) : Q (.ref a) (upd H a (exo a Kl none)) := by
  obtain ⟨ρ, S, R, k⟩ := h
  simp only [evE, evEs, Out.bind] at k
  have kp : ∀ b o, H b = some o → upd H a (exo a Kl none) b = some o := keep_new ha
  have vv : Val C.fr H (upd H a (exo a Kl none)) (fun _ => False) (false, excD c []) (.ref a) := by
    unfold Val
    rw [if_neg (by simp)]
    exact .inr (.inr (.inr ⟨[.non], ⟨rfl, trivial⟩, .inr ⟨(c : Nat), 0, [], [], Kl, ns, a, none, rfl, rfl, by rw [Int.toNat_natCast]; exact hct, rfl, upd_same, .inl ⟨rfl, rfl⟩⟩⟩))
  have bd : Bd H (upd H a (exo a Kl none)) S σ ρ (al (.mkE c .nil)) (fun _ => False) := .empty
  exact k _ _ _ (R.ext kp) (Stp.refl.ext kp) bd vv (opd_of rfl bd vv)
theorem tE.isX {e : CE} {cs : List Nat} (h : tE C call W (.isX e cs) σ H Q) : tE C call W e σ H fun x H1 => ∃ c ns a Ca d, x = .ref a ∧ C.ct c = some (.ref Ca, ns) ∧ H1 a = some (exo a Ca d) ∧ (d = none ∨ ∃ dx fs, d = some dx ∧ H1 dx = some (exd dx fs)) ∧ ∀ H', (∀ a o, H1 a = some o → H' a = some o) → Q (.bl (cs.contains c)) H' := by
  obtain ⟨ρ, S, R, k⟩ := h
  simp only [evE] at k
  refine ⟨ρ, S, R, k.bind.imp (fun v ρ1 k x H1 T1 R1 st1 b1 v1 x1 => ?_) fun _ _ _ z => z⟩
  obtain ⟨fr, p⟩ := v
  cases p with
  | dict kvs =>
    simp only at k
    cases hx : excOf kvs with
    | none => rw [hx] at k; exact k.elim
    | some cr =>
      obtain ⟨c, r⟩ := cr
      rw [hx] at k
      obtain ⟨c0, c1, rfl, rfl⟩ := excOf_eq hx
      obtain ⟨T0, b0, ar⟩ := x1
      obtain ⟨ys, Ca, ns, a, d, rd, e1, e2, e3, e4⟩ := ar.exc.exc
      exact ⟨_, ns, a, Ca, d, e2, e1, e3, e4.imp (·.1) fun ⟨dx, fs, q1, q2, _⟩ => ⟨dx, fs, q1, q2⟩, fun H' k' => k _ H' _ (R1.ext k') (st1.ext k') .empty val_bl opd_bl⟩
  | _ => exact k.elim
theorem tE.atX {e : CE} {j : Nat} (h : tE C call W (.atX e j) σ H Q) : tE C call W e σ H fun x H1 => ∃ c ns a Ca dx fs n y, x = .ref a ∧ C.ct c = some (.ref Ca, ns) ∧ H1 a = some (exo a Ca (some dx)) ∧ H1 dx = some (exd dx fs) ∧ FldK j ns n ∧ fs.lookup n = some y ∧ Q y H1 := by
  obtain ⟨ρ, S, R, k⟩ := h
  simp only [evE] at k
  refine ⟨ρ, S, R, k.bind.imp (fun v ρ1 k x H1 T1 R1 st1 b1 v1 x1 => ?_) fun _ _ _ z => z⟩
  obtain ⟨fr, p⟩ := v
  cases p with
  | dict kvs =>
    simp only at k
    cases hx : excOf kvs with
    | none => rw [hx] at k; exact k.elim
    | some cr =>
      obtain ⟨c, r⟩ := cr
      rw [hx] at k
      simp only at k
      obtain ⟨c0, c1, rfl, rfl⟩ := excOf_eq hx
      cases hf : fldAt (r.map (·.2)) j with
      | none => rw [hf] at k; exact k.elim
      | some p =>
        rw [hf] at k
        obtain ⟨T0, b0, ar⟩ := x1
        obtain ⟨ys, Ca, ns, a, d, rd, e1, e2, e3, e4⟩ := ar.exc.exc
        obtain ⟨i, hi, fk⟩ := fldAt_get hf
        have rl := rd.repl
        obtain ⟨y, hy, ry⟩ := rl.get hi
        rcases e4 with ⟨_, rfl⟩ | ⟨dx, fs, rfl, q2, q3⟩
        · simp at hy
        have hk := congrArg (fun l : List (Option V) => l[i]?) q3
        have hlen : ns.length = (r.map (·.2)).length := by
          have := congrArg List.length q3
          rw [List.length_map, List.length_map] at this
          rw [this, rl.length]
        simp only [List.getElem?_map, hy, Option.map_some] at hk
        cases hn : ns[i]? with
        | none => rw [hn] at hk; cases hk
        | some n =>
          rw [hn] at hk
          simp only [Option.map_some, Option.some.injEq] at hk
          have vv : Val C.fr H H1 T0 (false, p) y := by unfold Val; rw [if_neg (by simp)]; exact ry
          have b2 : Bd H H1 S σ ρ (al (.atX e j)) T0 := b0
          exact ⟨_, ns, a, Ca, dx, fs, n, y, e2, e1, e3, q2, ⟨i, hlen ▸ fk, hn⟩, hk, k _ H1 T0 R1 st1 b2 vv (opd_of rfl b2 vv)⟩
  | _ => exact k.elim
end
end PyC
end

section
set_option maxHeartbeats 2000000
namespace PyC
open PySem PySem.Spec L2 PyProof.Rows
abbrev Suite := Addr → Value → Option Addr → TS
def endAs (D : Ends) (i : Nat) : Ends := { nx := fun σ H => D.nx (σ.set i none) H, rt := D.rt, bk := fun σ H => D.bk (σ.set i none) H, ct := fun σ H => D.ct (σ.set i none) H }
/-- what the clauses make of an exception of the body -/
def wCl (K : PySem.W.Frag) (Wout : WX) (D : Ends) : List (Value × Option Nat × Suite) → WX
  | [] => Wout
  | (c, j, t) :: r => fun cls d σ H => ∃ b, PySem.W.exmOne K cls c = some b ∧ (b = true → ∀ a, H a = none → match j with
      | some i => t a cls d (endAs D i) (σ.set i (some (.ref a))) H
      | none => t a cls d D σ H) ∧ (b = false → wCl K Wout D r cls d σ H)
inductive Clauses (X : Cx) : List ExceptHandler → List (Value × Option Nat × Suite) → Prop
  | nil : Clauses X [] []
  | as {x n : Str} {c : Value} {i : Nat} {t : Suite} {b0 : Stmt} {su : List Stmt} {np pp : Pos} {hds : List ExceptHandler} {l : List (Value × Option Nat × Suite)} (hc : Names X x c) (hi : X.N[i]? = some n) (hl : X.env.kindOf n = some .local)
      (hs : ∀ (a : Addr) (oe : Obj) (cls : Value) (d : Option Addr) (pn : List (Addr × Obj)), L2N.Zn cls d oe → (∃ vs, oe.data = .fields vs) → PSs (X.suite a ((a, oe) :: pn)) (b0 :: su) (t a cls d)) (r : Clauses X hds l) :
      Clauses X (.ExceptHandler (some (.Name x np)) (some n) (b0 :: su) pp :: hds) ((c, some i, t) :: l)
  | no {x : Str} {c : Value} {t : Suite} {b0 : Stmt} {su : List Stmt} {np pp : Pos} {hds : List ExceptHandler} {l : List (Value × Option Nat × Suite)} (hc : Names X x c)
      (hs : ∀ (a : Addr) (oe : Obj) (cls : Value) (d : Option Addr) (pn : List (Addr × Obj)), L2N.Zn cls d oe → (∃ vs, oe.data = .fields vs) → PSs (X.suite a ((a, oe) :: pn)) (b0 :: su) (t a cls d)) (r : Clauses X hds l) :
      Clauses X (.ExceptHandler (some (.Name x np)) none (b0 :: su) pp :: hds) ((c, none, t) :: l)
section
variable {X : Cx} {body : List Stmt} {h0 : ExceptHandler} {hds : List ExceptHandler} {l : List (Value × Option Nat × Suite)} {pos : Pos} {tb : WX → TS} {Wout : WX}
theorem ps_try_cl (hs : X.stack = X.env :: X.outer) (hf : X.env.frame = some X.env.locals) (hN : X.N.Nodup) (tk : L2N.Takes X Wout)
    (hb : ∀ (W : WX) (pn : List (Addr × Obj)) (xe : Value → Shared → Prop), L2N.Takes (X.tr pn xe) W → PassesOwn (model X.prog X.w) X.A X.env xe → PSs (X.tr pn xe) body (tb W))
    (hh : Clauses X (h0 :: hds) l) : PS X (.Try body (h0 :: hds) [] [] pos) (fun D σ H => tb (wCl X.K Wout D l) D σ H) := by
  constructor
  intro pins s σ H D I h
  have okX := I.ok
  have frA : X.A.frames = some (X.env :: X.outer) := okX.frames.trans (congrArg some hs)
  refine wpAny_Try_except (wpAny_mono ((hb (wCl X.K Wout D l) (X.pn ++ pins) (fun e sa => wpAny (model X.prog X.w) X.A (noteFrame e X.env) (fun _ sb => wpAny (model X.prog X.w) X.A (setFlight e none) (fun _ sc =>
    wpAny (model X.prog X.w) X.A (handleBy e X.env (h0 :: hds)) (SP X pins D) X.xe sc) X.xe sb) X.xe sa) (fun u s' xx => ?_) PassesOwn.looking).run [] s σ H D (I.toTry _) h) (fun f s1 hsp => ?_) (fun e s1 he => he))
  · obtain ⟨a, B, sI, pins', σx, Hx, cls, d, rfl, Jt, nb, up, sky, na, os, ag, w⟩ := xx
    have J : Inv X pins σx Hx sI := Jt.ofTry okX
    have skyX : Sky B (X.env :: X.outer) a (L2N.Zn cls d) X.env.locals s'.heap := hs ▸ sky
    show wpAny (model X.prog X.w) X.A (noteFrame (.ref a) X.env) _ _ _
    refine L2N.Sky.land L2N.Zn.steady frA hf skyX fun hp1 fly1 up1 => ?_
    have J1 : Inv X pins σx Hx { s' with heap := hp1 } := J.landed nb fly1.1 (up.trans up1) os ag
    obtain ⟨oe1, vs1, get1, zc1, dat1⟩ := fly1.there
    have off : ∀ {hq : Heap} {o : Obj} {vs : Array Value}, hq.FunFrames B (X.env :: X.outer) → hq.get? a = some o → o.data = .fields vs → a ∉ frs (X.env :: X.outer) := fun {hq o vs} ff e dd hm => by
      obtain ⟨_, o2, e2, nf⟩ := ff.mem hm
      cases e.symm.trans e2
      exact nf _ dd
    have aOff := off fly1.2.2.1 get1 dat1
    have aL : a ≠ X.env.locals := fun z => aOff (List.mem_filterMap.mpr ⟨X.env, List.mem_cons_self, hf.trans (congrArg some z.symm)⟩)
    have aF : a ∉ X.fs := fun hm => by
      obtain ⟨e, he, q⟩ := List.mem_filterMap.mp hm
      exact aOff (List.mem_filterMap.mpr ⟨e, List.mem_cons_of_mem _ he, q⟩)
    have S1 := J1.suite get1 dat1 na aL aF
    have LT : PySem.W.Looks (model X.prog X.w) hp1 (typeOf (.ref a)) cls := fun A Q E s k q => wpAny_typeOf_ref (k _ _ get1) (by rw [zc1.1]; exact q)
    have look : ∀ {x : Str} {c : Value} {np : Pos} {Q E : Value → Shared → Prop}, Names X x c → Q c { s' with heap := hp1 } → wpAny (model X.prog X.w) (X.A.mark (some (.ref a))) (eval (.Name x np) X.env) Q E { s' with heap := hp1 } := fun {x c np Q E} hc q => by
      obtain ⟨hg, hdbg, hm | ⟨hm, hv, hnn⟩⟩ := hc
      · exact ld_glob (X := X.suite a ((a, oe1) :: (X.pn ++ pins))) S1 hg hm q hdbg
      · exact ld_blt (X := X.suite a ((a, oe1) :: (X.pn ++ pins))) S1 hg hm hv q hnn hdbg
    have go : ∀ {hds' : List ExceptHandler} {l' : List (Value × Option Nat × Suite)}, Clauses X hds' l' → wCl X.K Wout D l' cls d σx Hx →
        wpAny (model X.prog X.w) X.A (handleBy (.ref a) X.env hds') (SP X pins D) X.xe { s' with heap := hp1 } := by
      intro hds' l' hk
      induction hk with
      | nil =>
        intro w
        refine wpAny_handleBy_nil ?_
        obtain ⟨_, _, _, oeN, vsN, T, oT, tsN, heN, _, hdN, h1N, _⟩ := id fly1
        unfold PySem.passOn
        refine wpAny_bind (wpAny_field heN hdN h1N ?_)
        rw [if_neg (show ¬ ((Value.ref T == Value.none) = true) from by simp)]
        have out : wpAny (model X.prog X.w) X.A (setFlight (.ref a) X.env.frame) (fun _ s4 => wpAny (model X.prog X.w) X.A (throw (.ref a) : Sem Flow) (SP X pins D) X.xe s4) X.xe { s' with heap := hp1 } := by
          rw [hf]
          refine HandSPX.setFlight_upZ fly1 fun hp2 held2 up2 => wpAny_throw (tk _ _ ?_)
          exact ⟨a, B, sI, pins, σx, Hx, cls, d, rfl, J, nb, (up.trans up1).trans up2, .inr (.inr (by rw [hs]; exact held2)), na, os, ag, w⟩
        first
          | exact wpAny_bind (wpAny_pure (wpAny_bind out))
          | exact wpAny_bind out
      | @as x n c i t b0 su np pp hds2 l2 hc hi hl hsu r ih =>
        intro w
        obtain ⟨b, hb1, yes, no⟩ := w
        refine wpAny_handleBy_cons (codeAny_handlers_test ?_) (by intro q; cases q)
        refine look hc ((PySem.W.exm_one (M := model X.prog X.w) (J1.kIn) LT hb1).here ?_)
        cases b with
        | false => exact ih (no rfl)
        | true =>
          refine codeAny_handlers_suite_as (HandSPX.lands_againZ fly1 fun hp2 fly2 up2 => ?_)
          have J2 : Inv X pins σx Hx { s' with heap := hp2 } := J.landed nb fly2.1 ((up.trans up1).trans up2) os ag
          obtain ⟨oe2, vs2, get2, zc2, dat2⟩ := fly2.there
          have S2 := J2.suite get2 dat2 na aL aF
          refine store_ok (X := X.suite a ((a, oe2) :: (X.pn ++ pins))) (v := .ref a) S2 hN hi (.inl hl) rfl (fun s5 S5 => ?_) (.inr hl)
          refine wpAny_mono ((hsu a oe2 cls d (X.pn ++ pins) zc2 ⟨_, dat2⟩).run [] s5 _ Hx _ S5 (yes rfl a na)) (fun f s6 hsp => ?_) (fun _ _ z => False.elim z)
          have fin : ∀ {σ6 : L2.St} {H6 : Hp} {Q : Shared → Prop}, Inv (X.suite a ((a, oe2) :: (X.pn ++ pins))) [] σ6 H6 s6 → (∀ s7, Inv X pins (σ6.set i none) H6 s7 → Q s7) →
              wpAny (model X.prog X.w) X.A (do bindName X.env n .none; unbindBehindTheSuite X.env n pp) (fun _ s7 => Q s7) X.xe s6 := fun {σ6 H6 Q} S6 hq => gone_ok (S6.unsuite okX) hN hi hl hq
          match f, hsp with
          | .next, ⟨_, _, S6, q6⟩ => exact fin S6 fun s7 J7 => ⟨_, _, J7, q6⟩
          | .brk, ⟨_, _, S6, q6⟩ => exact fin S6 fun s7 J7 => ⟨_, _, J7, q6⟩
          | .cont, ⟨_, _, S6, q6⟩ => exact fin S6 fun s7 J7 => ⟨_, _, J7, q6⟩
          | .ret u, ⟨v6, _, _, S6, r6, q6⟩ => exact fin S6 fun s7 J7 => ⟨_, _, _, J7, r6, q6⟩
      | @no x c t b0 su np pp hds2 l2 hc hsu r ih =>
        intro w
        obtain ⟨b, hb1, yes, no⟩ := w
        refine wpAny_handleBy_cons (codeAny_handlers_test ?_) (by intro q; cases q)
        refine look hc ((PySem.W.exm_one (M := model X.prog X.w) (J1.kIn) LT hb1).here ?_)
        cases b with
        | false => exact ih (no rfl)
        | true =>
          refine codeAny_handlers_suite (HandSPX.lands_againZ fly1 fun hp2 fly2 up2 => ?_)
          have J2 : Inv X pins σx Hx { s' with heap := hp2 } := J.landed nb fly2.1 ((up.trans up1).trans up2) os ag
          obtain ⟨oe2, vs2, get2, zc2, dat2⟩ := fly2.there
          have S2 := J2.suite get2 dat2 na aL aF
          refine wpAny_mono ((hsu a oe2 cls d (X.pn ++ pins) zc2 ⟨_, dat2⟩).run [] _ _ Hx _ S2 (yes rfl a na)) (fun f s6 hsp => ?_) (fun _ _ z => False.elim z)
          match f, hsp with
          | .next, ⟨_, _, S6, q6⟩ => exact ⟨_, _, S6.unsuite okX, q6⟩
          | .brk, ⟨_, _, S6, q6⟩ => exact ⟨_, _, S6.unsuite okX, q6⟩
          | .cont, ⟨_, _, S6, q6⟩ => exact ⟨_, _, S6.unsuite okX, q6⟩
          | .ret u, ⟨v6, _, _, S6, r6, q6⟩ => exact ⟨_, _, _, S6.unsuite okX, r6, q6⟩
    exact go hh w
  · match f, hsp with
    | .next, ⟨_, _, J, q⟩ => exact wpAny_execs_nil ⟨_, _, J.ofTry okX, q⟩
    | .brk, ⟨_, _, J, q⟩ => exact ⟨_, _, J.ofTry okX, q⟩
    | .cont, ⟨_, _, J, q⟩ => exact ⟨_, _, J.ofTry okX, q⟩
    | .ret u, ⟨_, _, _, J, r, q⟩ => exact ⟨_, _, _, J.ofTry okX, r, q⟩
end
end PyC
end

section
set_option maxHeartbeats 200000
namespace PyC
open PySem PySem.Spec L2
section
variable {C : RK} {call : CallT} {W : WX} {B : Bse} {io : Bool} {σ : L2.St} {H : Hp} {S T : AS} {ρ : Rho} {D : Ends}
theorem tS.raise {c : Nat} {e : CE} {cl : Value} (h : tS C call W B io (.raise c (.cons e .nil)) D σ H) (hc : C.ct c = some (cl, [("value" : Str)])) :
    tEs C call W (.cons e .nil) σ H fun vs H1 => ∃ v, vs = [v] ∧ ∀ dx, H1 dx = none → W cl (some dx) σ (upd H1 dx (.xd [("value", v)])) := by
  obtain ⟨ρ, S, R, F, k⟩ := h
  simp only [evS] at k
  refine ⟨ρ, S, R, k.s.imp (fun vs ρ1 k xs H1 T R1 st1 b1 vl nd nw => ?_) fun _ _ _ z => ex_of F z⟩
  have hl := vl.len.1
  match xs, hl with
  | [v], _ =>
    refine ⟨v, rfl, fun dx hdx => ?_⟩
    have kk : ∀ b o, H1 b = some o → upd H1 dx (.xd [("value", v)]) b = some o := keep_new hdx
    have st2 := st1.ext kk
    refine k cl (some dx) σ _ S (fun a => T a ∨ a ∈ fresh vs [v]) (R1.ext kk) (F.step st2) (fun a z => ?_) (fun a z => ?_) ⟨_, [v], hc, (vl.repl).stay (fun a o e _ _ => kk a o e) fun _ z => z, .inr ⟨dx, _, rfl, upd_same, rfl⟩⟩
    · rcases z with z | z
      · exact F.bd b1 a z
      · exact .inr (F.none_ (nw a z))
    · rcases z with z | z
      · obtain ⟨o, e⟩ := b1.dm a z
        exact ⟨o, kk a o e⟩
      · obtain ⟨o, e⟩ := vl.there a z
        exact ⟨o, kk a o e⟩
theorem tS.raise0 {c : Nat} {cl : Value} (h : tS C call W B io (.raise c .nil) D σ H) (hc : C.ct c = some (cl, [])) : W cl none σ H := by
  obtain ⟨ρ, S, R, F, k⟩ := h
  simp only [evS, evEs, Out.s] at k
  exact k cl none σ H S S R F F.sb R.dom ⟨[], [], hc, trivial, .inl ⟨rfl, rfl, rfl⟩⟩
theorem tS.raise2 {c : Nat} {e1 e2 : CE} {cl : Value} {f g : Str} (hfg : f ≠ g) (h : tS C call W B io (.raise c (.cons e1 (.cons e2 .nil))) D σ H) (hc : C.ct c = some (cl, [f, g])) :
    tEs C call W (.cons e1 (.cons e2 .nil)) σ H fun vs H1 => ∃ v u, vs = [v, u] ∧ ∀ dx, H1 dx = none → W cl (some dx) σ (upd H1 dx (.xd [(g, u), (f, v)])) := by
  obtain ⟨ρ, S, R, F, k⟩ := h
  simp only [evS] at k
  refine ⟨ρ, S, R, k.s.imp (fun vs ρ1 k xs H1 T R1 st1 b1 vl nd nw => ?_) fun _ _ _ z => ex_of F z⟩
  have hl := vl.len.1
  match xs, hl with
  | [v, u], _ =>
    refine ⟨v, u, rfl, fun dx hdx => ?_⟩
    have kk : ∀ b o, H1 b = some o → upd H1 dx (.xd [(g, u), (f, v)]) b = some o := keep_new hdx
    have st2 := st1.ext kk
    have hlk : [f, g].map (fun n => List.lookup n [(g, u), (f, v)]) = [v, u].map some := by
      have n1 : (f == g) = false := by simpa using hfg
      simp [List.lookup, n1]
    refine k cl (some dx) σ _ S (fun a => T a ∨ a ∈ fresh vs [v, u]) (R1.ext kk) (F.step st2) (fun a z => ?_) (fun a z => ?_) ⟨_, [v, u], hc, (vl.repl).stay (fun a o e _ _ => kk a o e) fun _ z => z, .inr ⟨dx, _, rfl, upd_same, hlk⟩⟩
    · rcases z with z | z
      · exact F.bd b1 a z
      · exact .inr (F.none_ (nw a z))
    · rcases z with z | z
      · obtain ⟨o, e⟩ := b1.dm a z
        exact ⟨o, kk a o e⟩
      · obtain ⟨o, e⟩ := vl.there a z
        exact ⟨o, kk a o e⟩
/-! what a clause finds -/
theorem frm_get (ρ : Rho) (i : Nat) : (freezeMine ρ)[i]? = if i ∈ List.range ρ.length then ρ[i]?.map Slot.freeze else ρ[i]? := by
  unfold freezeMine
  rw [List.getElem?_map]
  split
  · rfl
  · rename_i h
    have : ρ.length ≤ i := by simpa using h
    rw [List.getElem?_eq_none this]
    rfl
theorem freezeMine_ok (R : RepS C H S σ ρ) (F : Frm B H S σ ρ) (t1 : ∀ a, T a → B.In a) (t2 : ∀ a, T a → ∃ o, H a = some o) :
    ∃ S', RepS C H S' σ (freezeMine ρ) ∧ Frm B H S' σ (freezeMine ρ) ∧ (∀ a, S a → S' a) ∧ ∀ a, T a → S' a := by
  have hl : (freezeMine ρ).length = ρ.length := by unfold freezeMine; rw [List.length_map]
  let S' : AS := fun a => S a ∨ (Owns σ ρ (List.range ρ.length) a ∨ T a)
  have noown : ∀ i a, i ∉ List.range ρ.length → Own σ ρ i a → False := fun i a hi ⟨s, h1, _, _⟩ => hi (List.mem_range.mpr (List.getElem?_eq_some_iff.mp h1).1)
  obtain ⟨Rk, ow⟩ := R.freeze (Sk := S') hl (frm_get ρ) (fun _ z => .inl z) (fun _ z => .inr (.inl z)) (fun i a hi o => (noown i a hi o).elim) fun a z => by
    rcases z with z | ⟨i, _, z⟩ | z
    · exact R.dom a z
    · obtain ⟨_, p, _, zs, _, q, _⟩ := R.own z
      exact ⟨_, q⟩
    · exact t2 a z
  have no : ∀ i a, ¬ Own σ (freezeMine ρ) i a := fun i a o => noown i a (ow i a o).1 (ow i a o).2
  refine ⟨S', Rk, ⟨F.kept, F.th, fun a z => ?_, fun i a o => (no i a o).elim, F.io, F.ld, F.pl, fun i a o => (no i a o.own).elim, fun i p e => ?_, fun a z => .inl (F.s0 a z)⟩, fun _ z => .inl z, fun _ z => .inr (.inr z)⟩
  · rcases z with z | ⟨i, _, z⟩ | z
    · exact F.sb a z
    · exact .inr (F.ow i a z)
    · exact t1 a z
  · have q := frm_get ρ i
    rw [e] at q
    split at q
    · cases q2 : ρ[i]? with
      | none => rw [q2] at q; cases q
      | some s => rw [q2] at q; cases s <;> cases q
    · rename_i hi
      exact (hi (List.mem_range.mpr (List.getElem?_eq_some_iff.mp q.symm).1)).elim
/-- some of the frame's own objects are kept from now on -/
theorem tS.frz {is : List Nat} {b : CS} (h : tS C call W B io (.seq (.frz is) b) D σ H) : tS C call W B io b D σ H := by
  obtain ⟨ρ, S, R, F, k⟩ := h
  simp only [evS, SOut.thn] at k
  let S' : AS := fun a => S a ∨ Owns σ ρ is a
  obtain ⟨Rk, ow⟩ := R.freeze (Sk := S') (as := is) freezeAll_len (fun i => freezeAll_get) (fun _ z => .inl z) (fun _ z => .inr z) (fun i a hi o z => by
    rcases z with z | ⟨j, hj, z⟩
    · exact (R.own o).1 z
    · exact hi (R.sep j i a z o ▸ hj)) fun a z => by
    rcases z with z | ⟨i, _, z⟩
    · exact R.dom a z
    · obtain ⟨_, p, _, zs, _, q, _⟩ := R.own z
      exact ⟨_, q⟩
  have at_ : ∀ (i : Nat) (s : Slot), (freezeAll ρ is)[i]? = some s → (∀ p, s ≠ .fz p) → s ≠ .un → (∀ c ps, s ≠ .ex c ps) → ρ[i]? = some s := fun i s e n1 n2 n3 => by
    rw [freezeAll_get] at e
    split at e
    · cases q : ρ[i]? with
      | none => rw [q] at e; cases e
      | some s0 =>
        rw [q] at e
        cases e
        cases s0 with
        | un => exact (n2 rfl).elim
        | ex c ps => exact (n3 c ps rfl).elim
        | fz p => exact (n1 p rfl).elim
        | my p => exact (n1 p rfl).elim
        | lk p => exact (n1 p rfl).elim
    · exact e
  refine ⟨freezeAll ρ is, S', Rk, ⟨F.kept, F.th, fun a z => ?_, fun i a o => F.ow i a (ow i a o).2, F.io, F.ld, F.pl, fun i a ⟨p, e1, e2⟩ => F.nl i a ⟨p, at_ i _ e1 (fun _ z => by cases z) (fun z => by cases z) (fun _ _ z => by cases z), e2⟩, fun i p e => F.lks i p (at_ i _ e (fun _ z => by cases z) (fun z => by cases z) (fun _ _ z => by cases z)), fun a z => .inl (F.s0 a z)⟩, k⟩
  rcases z with z | ⟨i, _, z⟩
  · exact F.sb a z
  · exact .inr (F.ow i a z)
/-- in an except suite -/
abbrev RK.at_ (C : RK) (a : Addr) (cls : Value) (d : Option Addr) : RK := { C with xa := a, xc := cls, xd := d }
abbrev WF : WX := fun _ _ _ _ => False
def hsL (C : RK) (call : CallT) (B : Bse) (io : Bool) : CHs → List Value → List (Value × Option Nat × Suite)
  | .cons _ i h hs, cv :: cvs => (cv, i, fun a cls d => tS (C.at_ a cls d) call WF B io h) :: hsL C call B io hs cvs
  | _, _ => []
def HsM (C : RK) : CHs → List Value → Prop
  | .nil, [] => True
  | .cons cs _ _ hs, cv :: cvs => (∀ c cls ns, C.ct c = some (cls, ns) → PySem.W.exmOne C.fr.fr cls cv = some (cs.contains c)) ∧ HsM C hs cvs
  | _, _ => False
theorem noEx_no {ρ : Rho} (h : noEx ρ = true) {i c : Nat} {ps : List PyData} (e : ρ[i]? = some (.ex c ps)) : False := by
  unfold noEx at h
  have := List.all_eq_true.mp h _ (List.mem_of_getElem? e)
  cases this
/-- from one context to another: no exception is held -/
theorem RepS.cls {C' : RK} (R : RepS C H S σ ρ) (e : C'.fr = C.fr) (n : noEx ρ = true) : RepS C' H S σ ρ :=
  ⟨R.len, fun i p h => by rw [e]; exact R.fz i p h, fun i s p h1 h2 h3 => by rw [e]; exact R.my i s p h1 h2 h3, R.sep, R.dom, by rw [e]; exact R.tab, fun i c ps h => (noEx_no n h).elim⟩
theorem set_get {α : Type} {l : List α} {i j : Nat} {x : α} {y : α} (h : (l.set i x)[j]? = some y) : (i = j ∧ x = y) ∨ (i ≠ j ∧ l[j]? = some y) := by
  by_cases e : i = j
  · subst e
    rw [List.getElem?_set] at h
    split at h
    · split at h
      · exact .inl ⟨rfl, Option.some.inj h⟩
      · cases h
    · rename_i n; exact (n rfl).elim
  · rw [List.getElem?_set_ne e] at h
    exact .inr ⟨e, h⟩
theorem own_set {σ σ' : L2.St} {ρ : Rho} {i j : Nat} {s : Slot} {a : Addr} (hs : s.mine = false) (hσ : ∀ j, j ≠ i → σ'[j]? = σ[j]?) (o : Own σ' (ρ.set i s) j a) : j ≠ i ∧ Own σ ρ j a := by
  obtain ⟨t, h1, h2, h3⟩ := o
  rcases set_get h1 with ⟨e, e2⟩ | ⟨e, e2⟩
  · rw [← e2, hs] at h2; cases h2
  · exact ⟨Ne.symm e, t, e2, h2, by rw [← hσ j (Ne.symm e)]; exact h3⟩
/-- the exception's name -/
theorem setEx_ok {a : Addr} {cls : Value} {d : Option Addr} {c i : Nat} {ps : List PyData} (R : RepS C H S σ ρ) (F : Frm B H S σ ρ) (hio : B.io = none) (hn : noEx ρ = true) (py : Pay C H S c ps cls d) (hi : i < ρ.length) :
    RepS (C.at_ a cls d) H S (σ.set i (some (.ref a))) (ρ.set i (.ex c ps)) ∧ Frm B H S (σ.set i (some (.ref a))) (ρ.set i (.ex c ps)) := by
  have hσ : ∀ j, j ≠ i → (σ.set i (some (V.ref a)))[j]? = σ[j]? := fun j h => List.getElem?_set_ne (Ne.symm h)
  refine ⟨⟨by rw [List.length_set, List.length_set]; exact R.len, fun j p e => ?_, fun j s p e m v => ?_, fun j l b h1 h2 => ?_, R.dom, R.tab, fun j c2 ps2 e => ?_⟩, ⟨F.kept, F.th, F.sb, fun j b o => F.ow j b (own_set rfl hσ o).2, fun t e => (by rw [hio] at e; cases e), F.ld, F.pl, fun j b o => ?_, fun j p e => ?_, F.s0⟩⟩
  · rcases set_get e with ⟨_, e2⟩ | ⟨n, e2⟩
    · cases e2
    · rw [hσ j (Ne.symm n)]; exact R.fz j p e2
  · rcases set_get e with ⟨_, e2⟩ | ⟨n, e2⟩
    · rw [← e2] at m; cases m
    · rw [hσ j (Ne.symm n)]; exact R.my j s p e2 m v
  · exact R.sep j l b (own_set rfl hσ h1).2 (own_set rfl hσ h2).2
  · rcases set_get e with ⟨e1, e2⟩ | ⟨n, e2⟩
    · subst e1
      cases e2
      refine ⟨?_, py⟩
      rw [List.getElem?_set, if_pos rfl, if_pos (by rw [R.len]; exact hi)]
    · exact (noEx_no hn e2).elim
  · obtain ⟨p, h1, h2⟩ := o
    rcases set_get h1 with ⟨_, e2⟩ | ⟨n, e2⟩
    · cases e2
    · rw [hσ j (Ne.symm n)] at h2
      exact F.nl j b ⟨p, e2, h2⟩
  · rcases set_get e with ⟨_, e2⟩ | ⟨n, e2⟩
    · cases e2
    · rw [hσ j (Ne.symm n)]; exact F.lks j p e2
theorem unEx_ok {a : Addr} {cls : Value} {d : Option Addr} {i : Nat} (R : RepS (C.at_ a cls d) H S σ ρ) (F : Frm B H S σ ρ) (hio : B.io = none) (hn : noEx (ρ.set i .un) = true) :
    RepS C H S (σ.set i none) (ρ.set i .un) ∧ Frm B H S (σ.set i none) (ρ.set i .un) := by
  have hσ : ∀ j, j ≠ i → (σ.set i none)[j]? = σ[j]? := fun j h => List.getElem?_set_ne (Ne.symm h)
  refine ⟨⟨by rw [List.length_set, List.length_set]; exact R.len, fun j p e => ?_, fun j s p e m v => ?_, fun j l b h1 h2 => ?_, R.dom, R.tab, fun j c2 ps2 e => (noEx_no hn e).elim⟩, ⟨F.kept, F.th, F.sb, fun j b o => F.ow j b (own_set rfl hσ o).2, fun t e => (by rw [hio] at e; cases e), F.ld, F.pl, fun j b o => ?_, fun j p e => ?_, F.s0⟩⟩
  · rcases set_get e with ⟨_, e2⟩ | ⟨n, e2⟩
    · cases e2
    · rw [hσ j (Ne.symm n)]; exact R.fz j p e2
  · rcases set_get e with ⟨_, e2⟩ | ⟨n, e2⟩
    · rw [← e2] at m; cases m
    · rw [hσ j (Ne.symm n)]; exact R.my j s p e2 m v
  · exact R.sep j l b (own_set rfl hσ h1).2 (own_set rfl hσ h2).2
  · obtain ⟨p, h1, h2⟩ := o
    rcases set_get h1 with ⟨_, e2⟩ | ⟨n, e2⟩
    · cases e2
    · rw [hσ j (Ne.symm n)] at h2
      exact F.nl j b ⟨p, e2, h2⟩
  · rcases set_get e with ⟨_, e2⟩ | ⟨n, e2⟩
    · cases e2
    · rw [hσ j (Ne.symm n)]; exact F.lks j p e2
/-- the clauses -/
theorem hs_ok (hio : B.io = none) {c : Nat} {ps : List PyData} {cls : Value} {d : Option Addr} (R : RepS C H S σ ρ) (F : Frm B H S σ ρ) (py : Pay C H S c ps cls d) :
    ∀ {hs : CHs} {cvs : List Value}, HsM C hs cvs → SRes (evH call io hs c ps ρ) (kS C W B D) → wCl C.fr.fr W D (hsL C call B io hs cvs) cls d σ H
  | .nil, [], _, k => by
    simp only [evH] at k
    exact k cls d σ H S S R F F.sb R.dom py
  | .cons cs i h hs, cv :: cvs, ⟨m, ms⟩, k => by
    simp only [evH] at k
    obtain ⟨ns, vs, e1, _⟩ := id py
    refine ⟨cs.contains c, m c cls ns e1, fun hb a na => ?_, fun hb => ?_⟩
    · rw [if_pos hb] at k
      by_cases hf : (isFree ρ i && noEx ρ) = true
      case neg => rw [if_neg hf] at k; exact k.elim
      rw [if_pos hf, ] at k
      rw [Bool.and_eq_true] at hf
      obtain ⟨h1, h2⟩ := hf
      cases i with
      | some i =>
        have hi : i < ρ.length := by
          unfold isFree at h1
          dsimp only at h1
          split at h1
          · rename_i q; exact (List.getElem?_eq_some_iff.mp q).1
          · cases h1
        obtain ⟨R2, F2⟩ := setEx_ok (a := a) R F hio h2 py hi
        refine ⟨_, S, R2, F2, ?_⟩
        change SRes ((evS call io h (ρ.set i (.ex c ps))).suite (some i)) (kS C W B D) at k
        cases e : evS call io h (ρ.set i (.ex c ps)) with
        | nx ρ2 =>
          rw [e] at k
          simp only [SOut.suite] at k
          split at k
          · rename_i hn
            intro σ' H' S' R' F'
            obtain ⟨R3, F3⟩ := unEx_ok R' F' hio hn
            exact k _ _ _ R3 F3
          · exact k.elim
        | rt fr p ρ2 => rw [e] at k; exact k
        | stuck => rw [e] at k; exact k.elim
        | bk ρ2 => rw [e] at k; exact k.elim
        | ex c2 ps2 ρ2 => rw [e] at k; exact k.elim
      | none =>
        refine ⟨_, S, R.cls rfl h2, F, ?_⟩
        change SRes ((evS call io h ρ).suite none) (kS C W B D) at k
        cases e : evS call io h ρ with
        | nx ρ2 =>
          rw [e] at k
          simp only [SOut.suite] at k
          split at k
          · rename_i hn
            intro σ' H' S' R' F'
            exact k _ _ _ (R'.cls rfl hn) F'
          · exact k.elim
        | rt fr p ρ2 => rw [e] at k; exact k
        | stuck => rw [e] at k; exact k.elim
        | bk ρ2 => rw [e] at k; exact k.elim
        | ex c2 ps2 ρ2 => rw [e] at k; exact k.elim
    · rw [if_neg (by rw [hb]; simp)] at k
      exact hs_ok hio R F py ms k
  | .nil, _ :: _, m, _ => m.elim
  | .cons _ _ _ _, [], m, _ => m.elim
theorem tS.tryS {b : CS} {hs : CHs} {cvs : List Value} (h : tS C call W B io (.tryS b hs) D σ H) (hio : B.io = none) (m : HsM C hs cvs) : tS C call (wCl C.fr.fr W D (hsL C call B io hs cvs)) B io b D σ H := by
  obtain ⟨ρ, S, R, F, k⟩ := h
  simp only [evS] at k
  refine ⟨ρ, S, R, F, ?_⟩
  cases e : evS call io b ρ with
  | nx ρ2 => rw [e] at k; exact k
  | rt fr p ρ2 => rw [e] at k; exact k
  | stuck => rw [e] at k; exact k.elim
  | bk ρ2 => rw [e] at k; exact k
  | ex c ps ρ2 =>
    rw [e] at k
    intro cls d σ' H' S' T R' F' t1 t2 py
    obtain ⟨S2, R2, F2, s1, s2⟩ := freezeMine_ok R' F' t1 t2
    exact hs_ok hio R2 F2 (py.stay (fun _ _ e _ _ => e) s2) m k
end
end PyC
end

section
set_option maxHeartbeats 200000
namespace PyC
open PySem PySem.Spec L2 PyProof.Rows
section
variable {X : Cx} {e : Expr} {es : List Expr} {ta : TA} {p pos : Pos}
/-- a class of one's own is called: an exception that no other one led to -/
theorem mk_own {XT : CXT} {x : Str} {Kl ini : Addr} {n : Nat} {fd : FuncData} {ps : List Str} {sp : Sp} (O : OexC X.K Kl) (hi : PySem.W.findIn X.K (.ref Kl) "__init__" = some (some (.ref ini))) (ht : PySem.W.typeIn X.K (.ref ini) = some (.type "function"))
    (FI : FnOk X.prog X.w X.K X.mg X.base XT n ini fd ps sp) (room : Room (n + 1) X.A) (bi : Binds X.K fd ps []) (nox : Passes XT X (fun _ _ _ => False)) (hg : Gl X x) (hm : X.mg x = some (.ref Kl)) (ha : PA X (e :: es) ta)
    (hdb : (x == ("__debug__" : Str)) = false) (hst : starEach (e :: es) X.env = (false, eval e X.env) :: starEach es X.env) (hno : (backTo pos (starEach es X.env)).any (·.1) = false) :
    L2N.PMk X (.Call (.Name x p) (e :: es) [] pos) (tMkO Kl sp [] ta) := by
  intro pins s σ H Q I h
  obtain ⟨_, _, _, _, bm, _, _, _, _, _, _, _, _, _, _, lookK, refsOk⟩ := O.cls
  refine wpAny_Call_Name_kw (ld_glob I hg hm ?_ hdb)
  refine PySem.W.callWith_K (h₀ := X.base) I.ok.mod.kin O.kC (thn (ha.run pos pins s σ H _ I h) fun ws s1 ⟨ys, Ha, Ia, ry, few, go⟩ => ⟨Ia.kIn, ?_⟩) hst hno
  show wpAny _ _ (call (.ref Kl) ws) _ _ _
  obtain ⟨hp, gens, drw, tk, os⟩ := s1
  let ad : Addr := hp.objs.size + 1
  let hp2 : Heap := (hp.push (PySem.W.kdv_tup ws)).push (PySem.HandSPX.excO Kl hp.objs.size)
  have above : hp.objs.size ≤ ad := Nat.le_succ _
  have gone : Ha ad = none := Ia.hok.fresh above
  have promise := go ad gone
  have stays : ∀ b o, hp.get? b = some o → hp2.get? b = some o := fun b o z => Heap.get?_push_of_some _ (Heap.get?_push_of_some _ z)
  have there : hp2.get? ad = some (PySem.HandSPX.excO Kl hp.objs.size) := by
    show ((hp.push _).push _).get? (hp.objs.size + 1) = _
    heap_get
  have Ib : Inv X pins σ (upd Ha ad (exo ad Kl none)) ⟨hp2, gens, drw, tk, os⟩ := Ia.laid (t' := tk) (a := ad) (o := exo ad Kl none) (h' := hp2) stays above (exo_ok there)
  rw [List.append_nil] at promise
  have rb : Vals (V.ref ad :: ys) (Value.ref ad :: ws) := .cons rfl ry
  have cnt : ((Value.ref ad :: ws) ++ []).length = ps.length := by
    rw [List.append_nil, ← rb.length]
    exact FI.len _ _ _ _ promise
  have small : ws.length ≤ sizeLine := by
    have q := Paired.length ry
    rw [sizeLine_eq]
    omega
  have bound := bi ⟨hp2, gens, drw, tk, os⟩ (Value.ref ad :: ws) Ib.kIn (by rw [List.append_nil] at cnt ⊢; exact cnt)
  rw [List.append_nil] at bound
  have body := FI.run _ X.stack _ _ ⟨Value.ref ad :: ws, []⟩ (Value.ref ad :: ws) _ _ (fun _ _ _ => False) (room.make Kl ws []) (Ib.env0.make Kl ws []) bound rb promise
  refine wpAny_call (PySem.HandSPX.call_own F.excBase_ValueError (fun Y => PySem.HandSPX.refsVE_contains Y bm refsOk) (Ia.kIn _ _ lookK) (PySem.W.looks_findIn Ia.kIn hi) (fun self => PySem.W.bind_fn Ia.kIn self ht) small (codeAny_mono body fun r s' out => ?_))
  match r, out with
  | .error er, out => exact nox pins σ _ _ er s' Ib out
  | .ok .next, out => exact out.elim
  | .ok .brk, out => exact out.elim
  | .ok .cont, out => exact out.elim
  | .ok (.ret u), out =>
    obtain ⟨v, Hb, os2, bare2, un2, hok2, rv, ev, d, fs, ea, ed, hd1, q2⟩ := out
    subst ev
    obtain ⟨h2, g2, d2, t2, os'⟩ := s'
    obtain ⟨t0, G, J, kG, ge, hoe, na⟩ := mk_end0 (d2 := d2) (t2 := t2) Ia above stays un2 hok2 os2 bare2 ea ed hd1
    exact ⟨rv, ad, _, _, ⟨G, g2, d2, t2, os'⟩, _, .ref Kl, some d, rfl, J, kG, ge, hoe, ⟨rfl, rfl, fun vs hv => by cases hv; rfl⟩, rfl, rfl, na, rfl, bare2, raises_own O.exC O.tyC, q2⟩
end
/-! ### a tuple taken apart while an exception is handled -/
section
variable {prog : Program} {w : World} {A : Around} {E : Value → Shared → Prop} {s : Shared}
theorem tup_end_hot {it t x1 : Addr} {i : Nat} {items : Array Value} {Q : Option Value → Shared → Prop} (hot : HotX.HotAt A x1 s.heap) (ne : x1 ≠ it) (hit : IsTupIter s.heap it t i) (hl : IsTup s.heap t items) (hx : items[i]? = none)
    (hQ : ∀ h', Heap.ExtBut it s.heap h' → Q none { s with heap := h' }) : wpAny (model prog w) A (pyNext (.ref it)) Q E s := by
  obtain ⟨hh, o1, vs1, g1, d1, c1⟩ := hot
  obtain ⟨ol, hol, hcl, n0, hdl⟩ := hl
  have hit0 := hit
  obtain ⟨o, ho, hc, hd⟩ := hit
  unfold pyNext
  refine wpAny_bind (wpAny_attempt (wpAny_callSpecial?_slot (name := Str.ofString "__next__") hit0.typeIs slot_tupleiter_next (wpAny_call_entry slot_tupleiter_next hit0.typeIs entry_tupleiter_next ?_ (args_tupleiter_next _))))
  show wpAny _ _ (field (.ref it) 0 >>= _) _ _ s
  refine wpAny_bind (wpAny_field ho hd (x := .ref t) rfl ?_)
  show wpAny _ _ (if (Value.ref t == Value.none) = true then _ else _) _ _ s
  rw [if_neg (show ¬ ((Value.ref t == Value.none) = true) from Bool.false_ne_true)]
  show wpAny _ _ (field (.ref it) 1 >>= _) _ _ s
  refine wpAny_bind (wpAny_field ho hd (x := .int i 0) rfl ?_)
  show wpAny _ _ (seqItems? (.ref t) >>= _) _ _ s
  refine wpAny_bind (wpAny_seqItems hol hdl ?_)
  simp only [Int.toNat_natCast, hx]
  refine wpAny_bind (wpAny_rule (wpAny_bind (wpAny_setField ho hd (by simp) ?_)))
  show wpAny _ _ (newExc (.type "StopIteration") [] >>= _) _ _ _
  refine wpAny_bind ?_
  simp only [newExc, newTuple]
  refine wpAny_bind (wpAny_newObj_type ?_ (by size_fits))
  refine wpAny_bind (m := firstArgMember _ _) (wpAny_of_eq (a := Value.none) (by first | rfl | (simp only [firstArgMember]; rfl)) ?_)
  refine wpAny_newObj_type ?_ (by size_fits)
  refine HotX.raiseNew_hot ⟨hh, o1, vs1, Heap.get?_push_of_some _ (Heap.get?_push_of_some _ ((Heap.get?_update_other _ _ (Ne.symm ne)).trans g1)), d1, c1⟩ (Nat.ne_of_lt (Heap.lt_size (Heap.get?_push_of_some _ ((Heap.get?_update_other _ _ (Ne.symm ne)).trans g1)))) (Heap.get?_push_size _ rfl) rfl (by first | (simp; done) | (simp; omega) | (simp only [Array.size_append]; simp; omega)) ?_
  refine wpAny_bind (wpAny_isInstance (T := "StopIteration") (b := true) ⟨_, Heap.get?_update_self _ (Heap.get?_push_size _ rfl) rfl, rfl⟩ isSubtype_stop ?_)
  refine wpAny_pure (hQ _ fun b o hb z => ?_)
  have z2 := (Heap.get?_update_other s.heap (Obj.mapFields (·.setIfInBounds 0 .none)) (Ne.symm hb)).trans z
  rw [Heap.get?_update_other _ _ (Nat.ne_of_gt (Heap.lt_size (Heap.get?_push_of_some _ z2)))]
  exact Heap.get?_push_of_some _ (Heap.get?_push_of_some _ z2)
theorem unpack_hot {t x1 : Addr} {items : Array Value} {Q : List Value → Shared → Prop} (hot : HotX.HotAt A x1 s.heap) (ht : IsTup s.heap t items)
    (hQ : ∀ h', Heap.ExtBut s.heap.objs.size s.heap h' → Q items.toList { s with heap := h' }) : wpAny (model prog w) A (unpackItems (.ref t) items.size none) Q E s := by
  have lt : t ≠ s.heap.objs.size := let ⟨_, z, _⟩ := ht; Nat.ne_of_lt (Heap.lt_size z)
  obtain ⟨hh, o1, vs1, g1, d1, c1⟩ := hot
  have lx : x1 ≠ s.heap.objs.size := Nat.ne_of_lt (Heap.lt_size g1)
  unfold unpackItems
  refine wpAny_bind ?_
  · unfold notIterableAtAll
    refine wpAny_bind (wpAny_specialOf ht.typeIs slot_tuple_iter.lookup ?_)
    refine wpAny_pure ?_
    simp only [Bool.false_eq_true, if_false]
    refine wpAny_bind (wpAny_holding (iter_tuple ht ?_))
    refine wpAny_bind (wpAny_holding (draw_tuple lt items.size 0 _ _ ⟨_, Heap.get?_push_size _ rfl, rfl, rfl⟩ (ht.push _) (by omega) fun ha ita sa => ?_))
    have whole : List.take items.size (List.drop 0 items.toList) = items.toList := by
      rw [List.drop_zero]; exact List.take_of_length_le (by simp)
    rw [whole]
    rw [if_neg (by simp)]
    have ta : IsTup ha t items := (ht.push _).extBut sa.extBut lt
    refine wpAny_bind (wpAny_holding (tup_end_hot ⟨hh, o1, vs1, sa.extBut x1 o1 lx (Heap.get?_push_of_some _ g1), d1, c1⟩ lx ita ta (by simp) fun hb eb => ?_))
    simp only [Option.isSome_none, Bool.false_eq_true, if_false]
    exact wpAny_pure (hQ hb fun b o nb z => eb b o nb (sa.extBut b o nb (Heap.get?_push_of_some _ z)))
end
theorem vals_3 {v1 v2 v3 : V} : ∀ {us : List Value}, Vals [v1, v2, v3] us → ∃ u1 u2 u3, us = [u1, u2, u3] ∧ RelV v1 u1 ∧ RelV v2 u2 ∧ RelV v3 u3
  | _, .cons r1 (.cons r2 (.cons r3 .nil)) => ⟨_, _, _, rfl, r1, r2, r3⟩
/-- x, y, z = a, b, c, the stores swapped, in a suite -/
theorem ps_par3H {X : Cx} {i j l : Nat} {x y z : Str} {a b c : Expr} {ta : TA} {px py pz pt pos : Pos} {kt k2 pt2} (hot : L2H.HotC X) (hN : X.N.Nodup) (hi : X.N[i]? = some x) (hj : X.N[j]? = some y) (hl : X.N[l]? = some z) (hij : i ≠ j) (hil : i ≠ l) (hjl : j ≠ l)
    (hx : X.env.scope.names.lookup x = some .local) (hy : X.env.scope.names.lookup y = some .local) (hz : X.env.scope.names.lookup z = some .local) (ha : PA X [a, b, c] ta)
    (hw : swappedStores [.Tuple [.Name x px, .Name y py, .Name z pz] kt pt] (.Tuple [a, b, c] k2 pt2) X.env = pure (some [x, y, z]))
    (hs : swapsWithSole [.Tuple [.Name x px, .Name y py, .Name z pz] kt pt] (.Tuple [a, b, c] k2 pt2) pos.line X.env = pure false := by rfl) :
    PS X (.Assign [.Tuple [.Name x px, .Name y py, .Name z pz] kt pt] (.Tuple [a, b, c] k2 pt2) pos) (tPar3 i j l ta) := by
  constructor
  intro pins s σ H D I h
  rw [exec_Assign_arm]
  refine wpAny_bind (wpAny_standAt ?_)
  rw [hs]
  refine wpAny_bind (wpAny_pure ?_)
  rw [if_neg (by decide)]
  refine wpAny_bind (Tuple_ (thn (ha.run _ pins s σ H _ I h) fun us sA ⟨vs, HA, IA, rA, v1, v2, v3, eA, qA⟩ => ?_))
  subst eA
  obtain ⟨u1, u2, u3, rfl, r1, r2, r3⟩ := vals_3 rA
  refine wpAny_newObj_type ?_ (by show 3 ≤ sizeLine; decide)
  have IB : Inv X pins σ HA { sA with heap := sA.heap.push { cls := .type "tuple", data := .seq [u1, u2, u3].toArray } } := IA.kept (t' := sA.toks) fun _ _ z => Heap.get?_push_of_some _ z
  rw [hw]
  refine wpAny_bind (wpAny_pure ?_)
  show wpAny (model X.prog X.w) X.A (do rule "assign.swapped-stores"; let items ← unpackItems (.ref sA.heap.objs.size) 3 none; assignInOrder [fun v => bindName X.env z v, fun v => bindName X.env y v, fun v => bindName X.env x v] items.reverse; pure Flow.next) _ _ _
  obtain ⟨x1, hot1⟩ := hot.at IB
  have hT : IsTup (sA.heap.push { cls := .type "tuple", data := .seq [u1, u2, u3].toArray }) sA.heap.objs.size #[u1, u2, u3] := IsTup.new sA.heap _
  generalize sA.heap.push { cls := .type "tuple", data := .seq [u1, u2, u3].toArray } = hP at IB hot1 hT ⊢
  refine wpAny_bind (wpAny_rule (wpAny_bind (unpack_hot (items := #[u1, u2, u3]) hot1 hT fun h' hx' => ?_)))
  have IC := IB.kept (h' := h') (t' := sA.toks) fun b o q => hx' b o (Nat.ne_of_lt (Heap.lt_size q)) q
  show wpAny _ _ (assignInOrder [fun v => bindName X.env z v, fun v => bindName X.env y v, fun v => bindName X.env x v] [u3, u2, u1] >>= fun _ => pure Flow.next) _ _ _
  refine wpAny_bind (assignInOrder_cons (wpAny_bindName (store_ok IC hN hl (.inl hz) r3 (fun sD ID => ?_) (.inr hz))))
  refine assignInOrder_cons (wpAny_bindName (store_ok ID hN hj (.inl hy) r2 (fun sE IE => ?_) (.inr hy)))
  refine assignInOrder_cons (wpAny_bindName (store_ok IE hN hi (.inl hx) r1 (fun sF IF => assignInOrder_nil (wpAny_pure ?_)) (.inr hx)))
  rw [List.set_comm _ _ (Ne.symm hjl), List.set_comm _ _ (Ne.symm hil), List.set_comm _ _ (Ne.symm hij)] at IF
  exact ⟨_, HA, IF, qA⟩
end PyC
end

section
set_option maxHeartbeats 200000
namespace PyC
open PySem PySem.Spec L2
theorem ty_dct {K : KC} {H : Hp} {T : AS} {kvs : List (PyData × PyData)} {x : V} (e : keysOk kvs = true) (h : AR K H T (.dict kvs) x) : TyX K.fr H x (.type "dict") := by
  obtain ⟨a, ks, rfl, rd, _⟩ := AR.dct e h
  rcases rd with q | ⟨o, q⟩
  · exact .base (.dK q)
  · exact .fDict q
section
variable {K : KC}
theorem isI_parts {ts : List Ty} {p : PyData} {res : Bool × PyData} (e : semIsI ts [p] = some res) : res = (false, .bool (ts.any fun t => isTy t p)) ∧ ∀ {H : Hp} {T : AS} {x : V}, AR K H T p x → TyX K.fr H x (.type (datN p)) := by
  unfold semIsI at e
  split at e
  · rename_i kvs he
    cases he
    split at e
    · rename_i hk
      cases e
      refine ⟨?_, fun h => ty_dct hk h⟩
      have : (ts.any fun t => isTy t (.dict kvs)) = false := by
        rw [List.any_eq_false]; intro t _; cases t <;> simp [isTy]
      rw [this]
    · cases e
  · rename_i x hn he
    cases he
    cases e
    exact ⟨rfl, fun h => ty_of (fun kvs z => hn kvs (by rw [z])) h⟩
  · cases e
theorem ov_isI1 {t : Ty} : OpV K (.isI [t]) (one fun x H Q => rIsi K.fr [x, .ty (tyN t)] H Q) := by
  intro H T ps xs res Q ha e k
  simp only [opSem] at e
  match ps, ha with
  | [p], ha =>
    obtain ⟨x, rfl, h1⟩ := ARL.one ha
    obtain ⟨rfl, ty⟩ := isI_parts (K := K) e
    refine ⟨x, rfl, x, _, _, _, _, rfl, .ty _, ty h1, kit_all, ?_⟩
    simpa using res_bl k
  | [], _ => simp [semIsI] at e
  | _ :: _ :: _, _ => simp [semIsI] at e
theorem ty_pair {ts : List Ty} : Paired ClsV (ts.map fun t => V.ty (tyN t)) (ts.map fun t => Value.type (tyN t)) := by
  induction ts with
  | nil => exact .nil
  | cons t ts ih => exact .cons (.ty _) ih
theorem ov_isIT {ts : List Ty} : OpV K (.isI ts) (one fun x H Q => ∀ p, H p = none → rIsiT K.fr [x, .ref p] (upd H p (.tup (ts.map fun t => .ty (tyN t)))) Q) := by
  intro H T ps xs res Q ha e k
  simp only [opSem] at e
  match ps, ha with
  | [p], ha =>
    obtain ⟨x, rfl, h1⟩ := ARL.one ha
    obtain ⟨rfl, ty⟩ := isI_parts (K := K) e
    refine ⟨x, rfl, fun q hq => ⟨x, q, _, _, _, _, rfl, upd_same, ty_pair, ty (h1.stay (fun a o e _ => keep_new hq a o e) fun _ z => z), kit_any, ?_⟩⟩
    exact k _ _ ⟨keep_new hq, rfl⟩
  | [], _ => simp [semIsI] at e
  | _ :: _ :: _, _ => simp [semIsI] at e
end
def tyS : Ty → Str
  | .int => "int" | .bool => "bool" | .str => "str" | .list => "list" | .tuple => "tuple"
def tyNm (k : Ck) (t : Ty) : Expr → Bool
  | .Name x _ => decide (x = tyS t) && (k.bl.contains x && glB k x)
  | _ => false
def tyNms (k : Ck) : List Ty → List Expr → Bool
  | [], [] => true
  | t :: ts, e :: es => tyNm k t e && tyNms k ts es
  | _, _ => false
def isiC (k : Ck) (ts : List Ty) (c : Expr) : Bool := match ts, c with
  | [t], .Name _ _ => tyNm k t c
  | _, .Tuple es _ _ => tyNms k ts es && decide (ts.length ≤ 20)
  | _, _ => false
/-- isinstance(a, T), isinstance(a, (T, ..)) -/
def isiOf (k : Ck) (ts : List Ty) : Expr → Option (List Expr)
  | .Call (.Name x _) [a, c] [] _ => if decide (x = "isinstance") && (k.bl.contains x && (glB k x && (noStars [a, c] && isiC k ts c))) then some [a] else none
  | _ => none
section
variable {X : Cx} {k : Ck} {C : RK} {call : CallT} {W : WX}
theorem tyNm_ok (x : XOk X k C call W) {t : Ty} {e : Expr} (h : tyNm k t e = true) : PE X e (tC (.ty (tyN t))) ∧ noStar e = true := by
  unfold tyNm at h
  split at h
  · simp only [Bool.and_eq_true, decide_eq_true_eq] at h
    obtain ⟨rfl, h2, h3⟩ := h
    refine ⟨pe_bltn (glB_ok x h3) (x.free _ (List.contains_iff_mem.mp h2)) (u := .type (tyN t)) (by cases t <;> decide +kernel) rfl (by cases t <;> decide) (by cases t <;> decide), rfl⟩
  · cases h
theorem tyNms_ok (x : XOk X k C call W) : ∀ {ts : List Ty} {es : List Expr}, tyNms k ts es = true → PA X es (fun σ H Q => Q (ts.map fun t => .ty (tyN t)) H)
  | [], [], _ => pa_nil.imp fun σ H Q h => h
  | t :: ts, e :: es, h => by
    simp only [tyNms, Bool.and_eq_true] at h
    obtain ⟨h1, h2⟩ := tyNm_ok x h.1
    exact (pa_cons h1 (tyNms_ok x h.2) (star_cons h2)).imp fun σ H Q h => h
  | [], _ :: _, h => by simp [tyNms] at h
  | _ :: _, [], h => by simp [tyNms] at h
theorem isI_pe (x : XOk X k C call W) {ts : List Ty} {e : Expr} {l : List Expr} {cs : CEs} (h : isiOf k ts e = some l) (p : PEL X C call W l cs) : PE X e (tE C call W (.op (.isI ts) cs)) ∧ ∃ f as pos, e = .Call f as [] pos := by
  unfold isiOf at h
  split at h
  · rename_i n p1 a c pos
    split at h
    · rename_i hp
      cases h
      simp only [Bool.and_eq_true, decide_eq_true_eq] at hp
      obtain ⟨rfl, h2, h3, h4, h5⟩ := hp
      have h2 := List.contains_iff_mem.mp h2
      obtain ⟨ca, rfl, pa⟩ := p.one_
      have hs : noStar a = true ∧ noStar c = true := by simpa [noStars] using h4
      refine ⟨?_, _, _, _, rfl⟩
      unfold isiC at h5
      split at h5
      · rename_i t n2 p2
        obtain ⟨q, _⟩ := tyNm_ok x h5
        have hA : PA X [a, .Name n2 p2] (tCons (tE C call W ca) (tCons (tC (.ty (tyN t))) tNil)) := pa_cons pa (pa_cons q pa_nil (star_cons hs.2)) (star_cons hs.1)
        refine (pe_callB call_isi (glB_ok x h3) (x.free _ h2) (by decide +kernel) hA (by decide) (by decide) (star_cons hs.1) (star_any (by simpa [noStars] using hs.2))).imp fun σ H Q h => ?_
        have h' := tE.op1 h (x.fr ▸ ov_isI1)
        exact h'
      · rename_i es kk p2
        rw [Bool.and_eq_true] at h5
        have q := tyNms_ok x h5.1
        have hA : PA X [a, .Tuple es kk p2] (tCons (tE C call W ca) (tCons (tTup (fun σ H Q => Q (ts.map fun t => .ty (tyN t)) H)) tNil)) := pa_cons pa (pa_cons (pe_tup q) pa_nil (star_cons hs.2)) (star_cons hs.1)
        refine (pe_callB call_isiT (glB_ok x h3) (x.free _ h2) (by decide +kernel) hA (by decide) (by decide) (star_cons hs.1) (star_any (by simpa [noStars] using hs.2))).imp fun σ H Q h => ?_
        have h' := tE.op1 h (x.fr ▸ ov_isIT)
        have hl := of_decide_eq_true h5.2
        exact tE.mono h' fun y H1 z => ⟨by rw [List.length_map]; exact Nat.le_trans hl (by decide), z⟩
      · cases h5
    · cases h
  · cases h
end
end PyC
end

section
set_option maxHeartbeats 200000
namespace PySem.SeqAt
open PySem PySem.Calls PyProof.Rows PySem.W
section
variable {A : Around} {s : Shared}
theorem pyc_tupLt {prog : Program} {w : World} {E : Value → Shared → Prop} {Q : Value → Shared → Prop} {p q : Addr} {us vs : Array Value} {e r : Nat → Bool} (hp : s.heap.IsTuple p us) (hq : s.heap.IsTuple q vs)
    (he : ∀ j (h1 : j < us.size) (h2 : j < vs.size), EqAt A.in1 s us[j] vs[j] (e j)) (hr : ∀ j (h1 : j < us.size) (h2 : j < vs.size), e j = false → RcLt A.in1 s us[j] vs[j] (r j))
    (h : Q (.bool (firstLt e r (decide (us.size < vs.size)) (List.range (min us.size vs.size)))) s) : wpAny (model prog w) A (call (.builtin "tuple.__lt__") [.ref p, .ref q]) Q E s := by
  obtain ⟨⟨c1, d1, dt1, sl1⟩, o1, hc1, n1, hd1⟩ := id hp
  obtain ⟨⟨c2, d2, dt2, sl2⟩, o2, hc2, n2, hd2⟩ := id hq
  simp only at hc1 hd1 hc2 hd2
  subst hc1 hd1 hc2 hd2
  exact call_meets F.slot_tuple_lt ⟨_, o1, rfl⟩ F.entry_tuple_lt (F.args_tuple_lt_2 _ _) (tuple_ltAt p q us vs n1 n2 d1 d2 sl1 sl2 e r) ⟨o1, o2, he, hr, h⟩
end
section
variable {prog : Program} {w : World} {A : Around} {E : Value → Shared → Prop} {s : Shared}
theorem pyc_oneTup {xs ys : List PyData} {a b : Value} {as bs : List Addr} {Q : Bool → Shared → Prop} (ra : Reads s.heap a (.tuple xs) as) (rb : Reads s.heap b (.tuple ys) bs) (hal : alikeAll xs ys = true)
    (hu : A.units + min (PyData.tuple xs).depth (PyData.tuple ys).depth < cLine) (hq : Q (dataLt (.tuple xs) (.tuple ys)) s) : wpAny (model prog w) A (oneLt' true a b) Q E s := by
  cases ra with
  | @tuple l o vs n _ as₁ h1 h2 h3 h4 =>
    cases rb with
    | @tuple l' o' vs' n' _ bs₁ k1 k2 k3 k4 =>
      have z1 : vs.size = xs.length := by simpa using ReadsAll.length _ _ _ h4
      have z2 : vs'.size = ys.length := by simpa using ReadsAll.length _ _ _ k4
      rw [dataLt_tuple, ← firstLt_toks xs ys hal, ← z1, ← z2] at hq
      rw [oneLt'_eq]
      simp only [if_true]
      refine wpAny_bind (wpAny_cRoomFor (room_here hu) ?_)
      refine wpAny_bind (wpAny_callSpecialIfBound?_slot (T := "tuple") ⟨_, h1, h2⟩ F.slot_tuple_lt (pyc_tupLt (e := pairEq xs ys) (r := fun j => dataLt (xs.getD j .none) (ys.getD j .none)) ⟨_, h1, h2, _, h3⟩ ⟨_, k1, k2, _, k3⟩ (fun j j1 j2 => ?_) (fun j j1 j2 hj => ?_) ?_))
      · have z := eqAt_alikeAll xs ys A.in1 s vs.toList vs'.toList _ _ h4 k4 hal (room_in hu) j (by simpa using j1) (by simpa using j2)
        simpa using z
      · have z := rcLt_alikeAll xs ys A.in1 s vs.toList vs'.toList _ _ h4 k4 hal (room_in hu) j (by simpa using j1) (by simpa using j2) hj
        simpa using z
      · exact wpAny_truthy_bool hq
end
end PySem.SeqAt
namespace PySem.W
open PySem PySem.Calls PyProof.Rows PySem.SeqAt
section
variable {M : Model} {A : Around} {E : Value → Shared → Prop} {s : Shared}
theorem pyc_firsts : ∀ (vs : List Value) (ds : List PyData) {Q : List (Option Value) → Shared → Prop}, EachIs (fun v d => ∃ as, Reads s.heap v d as) vs ds → (∀ d ∈ ds, ∃ xs, d = .tuple xs) → (∀ fs : List (Option Value), fs.length = vs.length → (ds.head? = some (.tuple []) → fs.head? = some none) → Q fs s) → wpAny M A (vs.mapM firstOfTuple') Q E s
  | [], _, Q, .nil, _, h => by rw [List.mapM_nil]; exact wpAny_pure (h [] rfl fun z => by cases z)
  | v :: vs, d :: ds, Q, .cons ⟨as, r⟩ t, ht, h => by
    obtain ⟨xs, rfl⟩ := ht d (List.mem_cons_self ..)
    cases r with
    | @tuple a o us n _ _ ho hc hd hr =>
      rw [List.mapM_cons]
      refine wpAny_bind ?_
      rw [kas_first_eq]
      refine wpAny_bind (Looks.here (show Looks M s.heap (typeOf (.ref a)) o.cls from (Looks.ld ho).andThen .now) ?_)
      rw [hc, if_neg (by first | decide | simp)]
      refine wpAny_bind (listItems_at ho hd (wpAny_pure ?_))
      refine wpAny_bind (pyc_firsts vs ds (Q := fun fs s' => wpAny M A (pure (us[0]? :: fs)) Q E s') t (fun d hd => ht d (List.mem_cons_of_mem _ hd)) fun fs l _ => wpAny_pure (h _ (by simp [l]) fun z => ?_))
      have z : PyData.tuple xs = .tuple [] := Option.some.inj z
      cases z
      have n0 := SeqAt.ReadsAll.length _ _ _ hr
      have : us.size = 0 := by simpa using n0
      show some us[0]? = some none
      rw [Array.getElem?_eq_none (by omega)]
theorem pyc_kind {vs : List Value} {ds : List PyData} {Q : SortKind → Shared → Prop} (e : EachIs (fun v d => ∃ as, Reads s.heap v d as) vs ds) (ht : ∀ d ∈ ds, ∃ xs, d = .tuple xs) (h0 : ds.head? = some (.tuple [])) (h : Q oneType' s) : wpAny M A (keyKind' vs.toArray) Q E s := by
  rw [kat_kind_eq, List.mapM_toArray, map_eq_pure_bind]
  refine wpAny_bind (wpAny_bind (pyc_firsts vs ds e ht fun fs hl hf => wpAny_pure ?_))
  have hf := hf h0
  match fs, hf with
  | f :: fs, hf =>
    have hf : f = none := Option.some.inj hf
    subst hf
    rw [if_neg (by simp), if_neg (by simp)]
    match vs, e with
    | [], e => cases e; cases h0
    | v :: vs, e =>
      have hT : ∀ u ∈ v :: vs, Looks M s.heap (typeOf u) (.type "tuple") := fun u hu => by
        obtain ⟨d, hd, as, r⟩ := e.left u hu
        obtain ⟨xs, rfl⟩ := ht d hd
        exact looks_reads r
      rw [oneTypeOnly'_eq, List.mapM_toArray, map_eq_pure_bind]
      refine wpAny_bind (wpAny_bind (wpAny_bind (kas_mapM (r := Value.type "tuple") _ (fun u hu Q' hq => (hT u hu).here hq) (wpAny_pure ?_))))
      have all1 : ((List.map (fun _ => Value.type "tuple") (v :: vs)).toArray.all fun x => x == Value.type "tuple") = true := by
        simp only [List.all_toArray, List.all_map, List.all_eq_true]
        intro _ _
        exact beq_self_eq_true _
      have at0 : (List.map (fun _ => Value.type "tuple") (v :: vs)).toArray[0]? = some (Value.type "tuple") := by simp
      rw [at0]
      simp only [all1, if_true]
      exact wpAny_pure (wpAny_pure h)
end
theorem pyc_sorts {prog : Program} {w : World} {A : Around} {s : Shared} {vs : List Value} {ds : List PyData} (e : EachIs (fun v d => ∃ as, Reads s.heap v d as) vs ds) (hal : AllAlike ds) (ht : ∀ d ∈ ds, ∃ xs, d = .tuple xs) (h0 : ds.head? = some (.tuple [])) (hu : ∀ d, d ∈ ds → A.units + d.depth < cLine) :
    SortsAt prog w A s (dataKind s.heap ds) vs := by
  refine ⟨fun v hv => ?_, oneType', ?_, fun _ E Q hq => pyc_kind e ht h0 hq⟩
  · obtain ⟨d, hd, as, r⟩ := e.left v hv
    exact ⟨_, dataKind_some hal hd r⟩
  · intro E x y a b Q ha hb hq
    obtain ⟨d, as, hd, ra, rfl⟩ := dataKind_inv ha
    obtain ⟨d', as', hd', rb, rfl⟩ := dataKind_inv hb
    obtain ⟨xs, rfl⟩ := ht d hd
    obtain ⟨ys, rfl⟩ := ht d' hd'
    rw [keyLt'_oneType]
    exact pyc_oneTup ra rb (by simpa [alike] using hal _ hd _ hd') (Nat.lt_of_le_of_lt (Nat.add_le_add_left (Nat.min_le_left _ _) _) (hu _ hd)) hq
end PySem.W
end

section
set_option maxHeartbeats 200000
namespace PyC
open PySem PySem.Spec L2
theorem leD_trans (a b c : PyData) (h1 : leD a b = true) (h2 : leD b c = true) : leD a c = true := (PySem.W.sortLe_total (PyProof.Rows.listOrd PyProof.Rows.itemOrd) false fun b : PyData => PySem.W.keyToks b).trans a b c h1 h2
theorem leD_total (a b : PyData) : (leD a b || leD b a) = true := by
  have h := (PySem.W.sortLe_total (PyProof.Rows.listOrd PyProof.Rows.itemOrd) false fun b : PyData => PySem.W.keyToks b).total a b
  rw [Bool.or_eq_true]; exact h
theorem insD_at {x : PyData} : ∀ {l1 l2 : List PyData}, (∀ b ∈ l1, leD x b = false) → (∀ b ∈ l2, leD x b = true) → insD x (l1 ++ l2) = l1 ++ x :: l2
  | [], [], _, _ => rfl
  | [], b :: l2, _, h => by
    show (if leD x b = true then _ else _) = _
    rw [if_pos (h b (List.mem_cons_self ..))]; rfl
  | b :: l1, l2, h1, h2 => by
    show (if leD x b = true then _ else _) = _
    rw [if_neg (by rw [h1 b (List.mem_cons_self ..)]; simp)]
    exact congrArg (b :: ·) (insD_at (fun c hc => h1 c (List.mem_cons_of_mem _ hc)) h2)
theorem sortD_eq : ∀ ds : List PyData, sortD ds = ds.mergeSort leD
  | [] => by simp [sortD]
  | x :: xs => by
    obtain ⟨l1, l2, e1, e2, h⟩ := List.mergeSort_cons leD_trans leD_total x xs
    unfold sortD
    rw [sortD_eq xs, e2, e1]
    refine insD_at (fun b hb => by simpa using h b hb) fun b hb => ?_
    have p := List.pairwise_mergeSort leD_trans leD_total (x :: xs)
    rw [e1, List.pairwise_append] at p
    exact (List.pairwise_cons.mp p.2.1).1 b hb
def leP (x y : PyData × V) : Bool := leD x.1 y.1
def SortsD (ds : List PyData) : Prop := PySem.W.Sortable ds ∨ ((∀ d ∈ ds, ∃ xs, d = .tuple xs) ∧ ds.head? = some (.tuple []))
def rSortedD (K : PySem.W.Frag) (u : Nat) : V → Hp → VK → Prop := fun x H Q => ∃ (a : Addr) (bs : List (PyData × V)), x = .ref a ∧ SqL K H a (bs.map (·.2)) ∧ (∀ b ∈ bs, Dp K H b.2 b.1) ∧ PySem.W.AllAlike (bs.map (·.1)) ∧ SortsD (bs.map (·.1)) ∧ bs.length ≤ sizeLine ∧
  (∀ b ∈ bs, b.1.depth ≤ 40) ∧ ∀ p, H p = none → Q (.ref p) (upd H p (.lst ((bs.mergeSort leP).map (·.2))))
theorem each_of {R : Value → PyData × V → Prop} {X : Cx} {pins : List (Addr × Obj)} {σ : L2.St} {H : Hp} {s : Shared} (hR : ∀ v b, RelV b.2 v → R v b) : ∀ {bs : List (PyData × V)} {us : List Value}, Vals (bs.map (·.2)) us → PySem.W.EachIs R us bs
  | [], [], _ => .nil
  | b :: bs, u :: us, h => by
    cases h with
    | cons r t => exact .cons (hR u b r) (each_of (X := X) (pins := pins) (σ := σ) (H := H) (s := s) hR t)
  | [], _ :: _, h => by cases h
  | _ :: _, [], h => by cases h
theorem vals_of {bs : List (PyData × V)} {us : List Value} (h : PySem.W.EachIs (fun v b => RelV b.2 v) us bs) : Vals (bs.map (·.2)) us := by
  induction h with
  | nil => exact .nil
  | cons r _ ih => exact .cons r ih
theorem cr_sortedD {X : Cx} (hu : X.A.units + 50 < cLine) : CallR X (.builtin "sorted") (one (rSortedD X.K X.A.units)) := by
  intro pins s σ H xs us Q I r h
  obtain ⟨x, rfl, a, bs, rfl, hs, dp, al, sb, hl, hd, q⟩ := h
  obtain ⟨u, rfl, ru⟩ := vals1 r
  obtain rfl : u = Value.ref a := ru
  obtain ⟨its, rv, ll, _⟩ := I.list hs
  have er : PySem.W.EachIs (fun v b => ∃ as, Reads s.heap v b.1 as) its bs := by
    have : ∀ {bs' : List (PyData × V)} {us : List Value}, (∀ b ∈ bs', Dp X.K H b.2 b.1) → Vals (bs'.map (·.2)) us → PySem.W.EachIs (fun v b => ∃ as, Reads s.heap v b.1 as) us bs' := by
      intro bs'
      induction bs' with
      | nil => intro us _ h; cases h; exact .nil
      | cons b bs' ih =>
        intro us h1 h2
        cases h2 with
        | cons r t => exact .cons (Dp.reads I _ _ _ (h1 b (List.mem_cons_self ..)) r) (ih (fun c hc => h1 c (List.mem_cons_of_mem _ hc)) t)
    exact this dp rv
  have rv' := each_of (X := X) (pins := pins) (σ := σ) (H := H) (s := s) (R := fun v b => RelV b.2 v) (fun _ _ z => z) rv
  have room : ∀ d, d ∈ bs.map (fun b => b.1) → X.A.in1.in1.units + d.depth < cLine := fun d hd' => by
    obtain ⟨b, hb, rfl⟩ := List.mem_map.mp hd'
    have h1 := hd b hb
    show X.A.units + 1 + 1 + _ < cLine
    omega
  have er2 : PySem.W.EachIs (fun v b => ∃ as, Reads (PySem.W.sortingHeap (PySem.W.copyHeap s.heap its) (s.heap.objs.size + 1) its) v b.1 as) its bs := er.mono fun _ _ ⟨as, r⟩ => ⟨as, PyProof.Rows.Reads.keeps (fun _ _ => PySem.W.sorting_copy_old) r⟩
  have eM := PySem.W.each_map (R := fun v d => ∃ as, Reads (PySem.W.sortingHeap (PySem.W.copyHeap s.heap its) (s.heap.objs.size + 1) its) v d as) (fun b : PyData × V => b.1) er2
  have S : PySem.W.SortsAt X.prog X.w X.A.in1.in1 { s with heap := PySem.W.sortingHeap (PySem.W.copyHeap s.heap its) (s.heap.objs.size + 1) its } (PySem.W.dataKind (PySem.W.sortingHeap (PySem.W.copyHeap s.heap its) (s.heap.objs.size + 1) its) (bs.map fun b => b.1)) its := by
    rcases sb with sb | ⟨sb1, sb2⟩
    · exact PySem.W.SortsAt.data (s := { s with heap := PySem.W.sortingHeap (PySem.W.copyHeap s.heap its) (s.heap.objs.size + 1) its }) eM al sb room
    · exact PySem.W.pyc_sorts (s := { s with heap := PySem.W.sortingHeap (PySem.W.copyHeap s.heap its) (s.heap.objs.size + 1) its }) eM al sb1 sb2 room
  refine PySem.W.sorted_vals ll.isList S (by rw [rv'.length]; exact hl) ?_
  have eo := PySem.W.sortVals_data false rv' er2 al
  have lo : (PySem.W.sortVals (PySem.W.dataKind (PySem.W.sortingHeap (PySem.W.copyHeap s.heap its) (s.heap.objs.size + 1) its) (bs.map fun b => b.1)) false its its).length = bs.length := by rw [PySem.W.sortVals_length false rfl]; exact rv'.length
  generalize PySem.W.sortVals (PySem.W.dataKind (PySem.W.sortingHeap (PySem.W.copyHeap s.heap its) (s.heap.objs.size + 1) its) (bs.map fun b => b.1)) false its its = out at eo lo ⊢
  · obtain ⟨e, he⟩ := PyProof.Rows.sortedAll_at s.heap its out.toArray
    have hf : H (s.heap.objs.size + 1) = none := I.hok.fresh (Nat.le_succ _)
    refine ⟨.ref (s.heap.objs.size + 1), _, I.laid (t' := s.toks) (a := s.heap.objs.size + 1) (o := .lst ((bs.mergeSort leP).map (·.2))) (fun b o z => PyProof.Rows.sortedAll_old z) (Nat.le_succ _) ⟨?_, out, e, vals_of eo, he⟩, rfl, q _ hf⟩
    rw [List.length_map, List.length_mergeSort]; exact hl
section
variable {K : KC}
theorem allAlike_ok {ds : List PyData} (h : allAlike ds = true) : PySem.W.AllAlike ds := fun d hd d' hd' => by
  unfold allAlike at h
  exact List.all_eq_true.mp (List.all_eq_true.mp h d hd) d' hd'
theorem depthOk_ok : ∀ {ds : List PyData}, depthOk ds = true → ∀ d ∈ ds, d.depth ≤ 40
  | d :: ds, h, e, he => by
    simp only [depthOk, Bool.and_eq_true, decide_eq_true_eq] at h
    rcases List.mem_cons.mp he with rfl | he
    · exact h.1
    · exact depthOk_ok h.2 e he
theorem sortable_ok {ds : List PyData} (h : sortable ds = true) : SortsD ds ∧ (∀ d ∈ ds, d.depth ≤ 40) ∧ noDL ds = true := by
  unfold sortable at h
  simp only [Bool.and_eq_true, Bool.or_eq_true] at h
  refine ⟨?_, depthOk_ok h.2.1, h.2.2⟩
  rcases h.1 with h1 | h1
  case inr =>
    right
    unfold tupE at h1
    split at h1
    · rename_i r
      refine ⟨fun d hd => ?_, rfl⟩
      rcases List.mem_cons.mp hd with rfl | hd
      · exact ⟨_, rfl⟩
      · have := List.all_eq_true.mp h1 d hd
        unfold isTupD at this
        split at this
        · exact ⟨_, rfl⟩
        · cases this
    · cases h1
  left
  refine h1.imp (fun z d hd => ?_) fun z d hd => ?_
  · have := List.all_eq_true.mp z d hd
    unfold headTup at this
    split at this
    · exact ⟨_, _, rfl⟩
    · cases this
  · have := List.all_eq_true.mp z d hd
    unfold noTup at this
    exact ⟨fun e => (by rw [e] at this; cases this), fun xs e => (by rw [e] at this; cases this)⟩
theorem zip_fst : ∀ {ds : List PyData} {vs : List V}, ds.length = vs.length → (ds.zip vs).map (·.1) = ds ∧ (ds.zip vs).map (·.2) = vs
  | [], [], _ => ⟨rfl, rfl⟩
  | d :: ds, v :: vs, h => by
    obtain ⟨a, b⟩ := zip_fst (ds := ds) (vs := vs) (by simpa using h)
    exact ⟨by simp [a], by simp [b]⟩
  | [], _ :: _, h => by simp at h
  | _ :: _, [], h => by simp at h
theorem repl_zip {H : Hp} {T : AS} : ∀ {ds : List PyData} {vs : List V}, RepL K H T ds vs → ∀ b ∈ ds.zip vs, Rep K H T b.1 b.2
  | [], [], _, b, hb => by simp at hb
  | d :: ds, v :: vs, ⟨h, t⟩, b, hb => by
    rw [List.zip_cons_cons] at hb
    rcases List.mem_cons.mp hb with rfl | hb
    · exact h
    · exact repl_zip t b hb
  | [], _ :: _, h, _, _ => h.elim
  | _ :: _, [], h, _, _ => h.elim
theorem zip_repl {H : Hp} {T : AS} : ∀ {bs : List (PyData × V)}, (∀ b ∈ bs, Rep K H T b.1 b.2) → RepL K H T (bs.map (·.1)) (bs.map (·.2))
  | [], _ => trivial
  | b :: bs, h => ⟨h b (List.mem_cons_self ..), zip_repl fun c hc => h c (List.mem_cons_of_mem _ hc)⟩
theorem noDL_at : ∀ {ds : List PyData}, noDL ds = true → ∀ d ∈ ds, noD d = true
  | d :: ds, h, e, he => by
    simp only [noDL, Bool.and_eq_true] at h
    rcases List.mem_cons.mp he with rfl | he
    · exact h.1
    · exact noDL_at h.2 e he
theorem ov_sorted {u : Nat} : OpV K .sorted (one (rSortedD K.fr u)) := by
  intro H T ps xs res Q ha e k
  simp only [opSem] at e
  unfold semSorted at e
  split at e
  · rename_i ds
    obtain ⟨x, rfl, a, vs, rfl, q1, r1⟩ := ARL.one ha
    split at e
    · rename_i hc
      cases e
      simp only [Bool.and_eq_true, decide_eq_true_eq] at hc
      obtain ⟨h1, h2, h3⟩ := hc
      obtain ⟨s1, s2, s3⟩ := sortable_ok h2
      obtain ⟨z1, z2⟩ := zip_fst r1.length
      have zr := repl_zip r1
      refine ⟨_, rfl, a, ds.zip vs, rfl, by rw [z2]; exact .inl q1, fun b hb => ?_, by rw [z1]; exact allAlike_ok h1, by rw [z1]; exact s1, ?_, fun b hb => ?_, ?_⟩
      · exact Rep.dp (noDL_at s3 _ (List.of_mem_zip (a := b.1) (b := b.2) hb).1) (zr b hb)
      · rw [List.length_zip, ← r1.length, Nat.min_self]; exact big_line h3
      · exact s2 _ (List.of_mem_zip (a := b.1) (b := b.2) hb).1
      · have em : ((ds.zip vs).mergeSort leP).map (·.1) = sortD ds := by
          rw [sortD_eq, List.map_mergeSort (r := leP) (s := leD) (f := fun b : PyData × V => b.1) (fun a _ b _ => rfl), z1]
        rw [← em] at k
        exact res_lst k (zip_repl fun b hb => zr b (List.mem_mergeSort.mp hb))
    · cases e
  · cases e
end
end PyC
end

section
set_option maxHeartbeats 200000
namespace PyC
open PySem PySem.Spec L2
section
variable {X : Cx} {K : KC} {pins : List (Addr × Obj)} {σ : L2.St} {H : Hp} {s : Shared} {S : AS}
mutual
theorem Rep.reads (I : Inv X pins σ H s) (hK : X.K = K.fr) (sm : ∃ o, X.K.lookup sysModules = some o ∧ o.cls = .type "dict") : ∀ {d : PyData} {v : V} {u : Value}, noE d = true → Rep K H S d v → RelV v u → ∃ as, Reads s.heap u d as ∧ sysModules ∉ as
  | .none, _, _, _, h, r => by cases h; cases r; exact ⟨_, .none, by simp⟩
  | .bool b, _, _, _, h, r => by cases h; cases r; exact ⟨_, .bool b, by simp⟩
  | .int i, _, _, _, h, r => by cases h; obtain ⟨t, rfl⟩ := r; exact ⟨_, .int i t, by simp⟩
  | .str x, _, _, _, h, r => by cases h; obtain ⟨t, rfl⟩ := r; exact ⟨_, .str x t, by simp⟩
  | .list ds, _, u, n, ⟨a, xs, e, _, q, h⟩, r => by
    subst e
    obtain rfl : u = Value.ref a := r
    exact lst_reads I hK sm (by simpa [noE] using n) q h
  | .tuple ds, _, u, n, ⟨a, xs, e, q, h⟩, r => by
    subst e
    obtain rfl : u = Value.ref a := r
    obtain ⟨its, rv, tp, _⟩ := I.tuple (hK ▸ q)
    obtain ⟨o, ho, hc, k, hd⟩ := id tp
    obtain ⟨as, h1, h2⟩ := RepL.reads I hK sm (by simpa [noE] using n) h rv
    exact ⟨as, .tuple ho hc hd (by simpa using h1), h2⟩
  | .dict kvs, _, u, n, h, r => by
    cases kvs with
    | nil =>
      obtain ⟨a, ks, rfl, q, kl, _⟩ := AR.dct (kvs := []) rfl (.inr h)
      have : ks = [] := by cases ks <;> simp [KeyL] at kl; rfl
      subst this
      obtain rfl : u = Value.ref a := r
      exact dct_reads I q
    | cons _ _ => simp [noE] at n
theorem RepL.reads (I : Inv X pins σ H s) (hK : X.K = K.fr) (sm : ∃ o, X.K.lookup sysModules = some o ∧ o.cls = .type "dict") : ∀ {ds : List PyData} {vs : List V} {us : List Value}, noEL ds = true → RepL K H S ds vs → Vals vs us → ∃ as, ReadsAll s.heap us ds as ∧ sysModules ∉ as
  | [], [], _, _, _, r => by cases r; exact ⟨_, .nil, by simp⟩
  | d :: ds, v :: vs, _, n, ⟨h, t⟩, r => by
    simp only [noEL, Bool.and_eq_true] at n
    cases r with
    | cons r1 r2 =>
      obtain ⟨as, q1, n1⟩ := Rep.reads I hK sm n.1 h r1
      obtain ⟨bs, q2, n2⟩ := RepL.reads I hK sm n.2 t r2
      exact ⟨_, .cons q1 q2, by rw [List.mem_append, not_or]; exact ⟨n1, n2⟩⟩
  | [], _ :: _, _, _, h, _ => h.elim
  | _ :: _, [], _, _, h, _ => h.elim
theorem lst_reads (I : Inv X pins σ H s) (hK : X.K = K.fr) (sm : ∃ o, X.K.lookup sysModules = some o ∧ o.cls = .type "dict") {ds : List PyData} {a : Addr} {xs : List V} (n : noEL ds = true) (q : Rd H a (.lst xs)) (h : RepL K H S ds xs) : ∃ as, Reads s.heap (.ref a) (.list ds) as ∧ sysModules ∉ as := by
  obtain ⟨its, rv, ⟨o, k, ho, hc, _, hd⟩, _⟩ := I.list (.inl q)
  obtain ⟨as, h1, h2⟩ := RepL.reads I hK sm n h rv
  refine ⟨_, .list ho hc hd (by simpa using h1), ?_⟩
  rw [List.mem_cons, not_or]
  refine ⟨fun e => ?_, h2⟩
  obtain ⟨om, hm, hcm⟩ := sm
  have := I.kIn _ _ hm
  rw [e, ho] at this
  cases this
  rw [hc] at hcm
  exact absurd hcm (by decide)
theorem dct_reads (I : Inv X pins σ H s) {a : Addr} (q : Rd H a (.dK [])) : ∃ as, Reads s.heap (.ref a) (.dict []) as ∧ sysModules ∉ as := by
  obtain ⟨z, ha, vs, rel, o, es, ep, e1, e2, e3, e4⟩ := dk_rd I.hok q
  cases rel
  have e5 : es.toList = [] := by
    have pr := e4.2.1
    cases h : es.toList with
    | nil => rfl
    | cons _ _ => rw [h] at pr; cases pr
  have rr : Reads s.heap (.ref a) (.dict []) (a :: [] ++ []) := .dict e1 e2.1 e3 (by rw [e5]; exact .nil) (by rw [e5]; exact .nil)
  refine ⟨_, rr, fun hm => ?_⟩
  simp at hm
  subst hm
  simp at ha
end
end
def rRepr (K : KC) : V → Hp → VK → Prop := fun x H Q => ∃ (d : PyData) (S : AS), d.showable = true ∧ d.depth ≤ 40 ∧ d.shown.length ≤ sizeLine ∧ Q (.str d.shown) H ∧ noE d = true ∧ AR K H S d x
theorem call_reprD {X : Cx} {K : KC} (hK : X.K = K.fr) (sm : ∃ o, X.K.lookup sysModules = some o ∧ o.cls = .type "dict") (hu : X.A.units + 50 < cLine) (gd : X.A.guards = some []) : CallR X (.builtin "repr") (one (rRepr K)) := by
  intro pins s σ H xs us Q I r h
  obtain ⟨x, rfl, d, S, h1, h2, h3, q, h4, h5⟩ := h
  obtain ⟨u, rfl, ru⟩ := vals1 r
  have fin : ∀ (h' : Heap) (t : Tok) (tk : Nat), (∀ b o, s.heap.get? b = some o → h'.get? b = some o) → EP X pins σ Q (.str d.shown t) { s with heap := h', toks := tk } := fun h' t tk k => ⟨.str d.shown, H, I.kept k, ⟨t, rfl⟩, q⟩
  have key : (∃ as, Reads s.heap u d as ∧ sysModules ∉ as) → (∃ a, u = Value.ref a) → wpAny (model X.prog X.w) X.A (call (.builtin "repr") [u]) (EP X pins σ Q) X.xe s := fun ⟨as, rr, nm⟩ ⟨a, e⟩ => by
    subst e
    exact repr_of_reads' rr h1 (fun _ => nm) gd (by omega) (fun _ _ e => e) (fun h' t tk k => fin h' t tk k) h3
  cases d with
  | none => cases h5; cases ru; exact PySem.P.repr_of_none (fin s.heap _ _ fun _ _ e => e)
  | bool b => cases h5; cases ru; cases b <;> exact PySem.P.repr_of_bool (fin s.heap _ _ fun _ _ e => e)
  | int i =>
    cases h5
    obtain ⟨t, rfl⟩ := ru
    exact PySem.P.repr_of_int (of_decide_eq_true (by simpa [PyData.showable] using h1)) (fin s.heap _ _ fun _ _ e => e)
  | str y =>
    cases h5
    obtain ⟨t, rfl⟩ := ru
    exact PySem.P.repr_of_str (fin s.heap _ _ fun _ _ e => e) h3
  | list ds =>
    obtain ⟨a, xs, rfl, q5, r5⟩ := h5
    obtain rfl : u = Value.ref a := ru
    exact key (lst_reads I hK sm (by simpa [noE] using h4) q5 r5) ⟨a, rfl⟩
  | tuple ds =>
    have h5 : Rep K H S (.tuple ds) x := h5
    obtain ⟨a, xs, e, _⟩ := id h5
    subst e
    obtain rfl : u = Value.ref a := ru
    exact key (Rep.reads I hK sm h4 h5 rfl) ⟨a, rfl⟩
  | dict kvs =>
    cases kvs with
    | nil =>
      obtain ⟨a, ks, rfl, q5, kl, _⟩ := AR.dct (kvs := []) rfl h5
      have : ks = [] := by cases ks <;> simp [KeyL] at kl; rfl
      subst this
      obtain rfl : u = Value.ref a := ru
      exact key (dct_reads (K := K) (S := S) I q5) ⟨a, rfl⟩
    | cons _ _ => simp [noE] at h4
theorem ov_repr {K : KC} : OpV K .repr (one (rRepr K)) := by
  intro H T ps xs res Q ha e k
  simp only [opSem] at e
  unfold semRepr at e
  simp only [shown_eq, shown_len] at e
  split at e
  · rename_i d
    obtain ⟨x, rfl, h1⟩ := ARL.one ha
    split at e
    · rename_i hc
      cases e
      simp only [Bool.and_eq_true, decide_eq_true_eq] at hc
      obtain ⟨⟨⟨hd, h2⟩, h3⟩, h4⟩ := hc
      exact ⟨x, rfl, d, T, h2, h3, big_line h4, res_flat k rfl, hd, h1⟩
    · cases e
  · cases e
end PyC
end

section
set_option maxHeartbeats 200000
namespace PyC
open PySem PySem.Spec L2 PyProof.Rows
/-! ### ranges -/
def RgA (xs : List V) (i j : Int) : Prop := (xs = [.int j] ∧ i = 0) ∨ xs = [.int i, .int j]
def rRg (f : List V → HO) : List V → Hp → VK → Prop := fun xs H Q => ∃ i j, RgA xs i j ∧ RgOk i j ∧ ∀ q, H q = none → Q (.ref q) (upd H q (f (rgV i j)))
theorem rng_rep {K : KC} {H : Hp} {T : AS} (a : Int) : ∀ l : List Nat, RepL K H T (l.map fun i => PyData.int (a + (i : Nat))) (l.map fun i => V.int (a + (i : Nat)))
  | [] => trivial
  | _ :: l => ⟨rfl, rng_rep a l⟩
section
variable {K : KC} {H : Hp} {T : AS}
theorem rg_args {ps : List PyData} {xs : List V} {q : Int × Int} (ha : ARL K H T ps xs) (e : rgEnds ps = some q) : RgA xs q.1 q.2 ∧ RgOk q.1 q.2 := by
  unfold rgEnds at e
  split at e
  · split at e
    · rename_i h
      cases e
      obtain ⟨x, rfl, h1⟩ := ARL.one ha
      cases h1
      simp only [Bool.and_eq_true, decide_eq_true_eq] at h
      have := small_of h.1
      have h2 := h.2
      unfold big at h2
      exact ⟨.inl ⟨rfl, rfl⟩, by dsimp only; omega, by dsimp only; omega, by dsimp only; omega, by dsimp only; omega, by dsimp only; omega⟩
    · cases e
  · split at e
    · rename_i h
      cases e
      obtain ⟨x, y, rfl, h1, h2⟩ := ARL.two ha
      cases h1; cases h2
      simp only [Bool.and_eq_true, decide_eq_true_eq] at h
      have s1 := small_of h.1.1
      have s2 := small_of h.1.2
      have h2 := h.2
      unfold big at h2
      exact ⟨.inr rfl, by dsimp only; omega, by dsimp only; omega, by dsimp only; omega, by dsimp only; omega, by dsimp only; omega⟩
    · cases e
  · cases e
theorem ov_tupR : OpV K .tupR (rRg .tup) := by
  intro H T ps xs res Q ha e k
  simp only [opSem] at e
  unfold semTupR at e
  obtain ⟨q, hq, rfl⟩ := Option.map_eq_some_iff.mp e
  obtain ⟨h1, h2⟩ := rg_args ha hq
  exact ⟨_, _, h1, h2, res_tup k (rng_rep _ _)⟩
theorem ov_listR : OpV K .listR (rRg .lst) := by
  intro H T ps xs res Q ha e k
  simp only [opSem] at e
  unfold semListR at e
  obtain ⟨q, hq, rfl⟩ := Option.map_eq_some_iff.mp e
  obtain ⟨h1, h2⟩ := rg_args ha hq
  exact ⟨_, _, h1, h2, res_lst k (rng_rep _ _)⟩
end
/-- tuple(range(..)), list(range(..)) -/
def rgOf (k : Ck) (n : Str) : Expr → Option (List Expr)
  | .Call (.Name x _) [.Call (.Name y _) args [] _] [] _ => if decide (x = n) && (decide (y = "range") && ((k.bl.contains x && glB k x) && ((k.bl.contains y && glB k y) && (noStars args && (k.cm && decide (args.length ≤ 2)))))) then some args else none
  | _ => none
section
variable {X : Cx} {k : Ck} {C : RK} {call : CallT} {W : WX}
theorem rg_pe (x : XOk X k C call W) {n : Str} {e : Expr} {l : List Expr} {cs : CEs} (h : rgOf k n e = some l) (p : PEL X C call W l cs) : ∃ p1 a pos, e = .Call (.Name n p1) [a] [] pos ∧ n ∈ k.bl ∧ glB k n = true ∧ k.cm = true ∧ noStar a = true ∧
    PRg X a fun σ H Q => tEs C call W cs σ H fun xs H1 => ∃ i j, RgA xs i j ∧ Q i j H1 := by
  unfold rgOf at h
  split at h
  · rename_i xn p1 yn p2 args p3 pos
    split at h
    · rename_i hp
      cases h
      simp only [Bool.and_eq_true, decide_eq_true_eq] at hp
      obtain ⟨rfl, rfl, ⟨h1, h2⟩, ⟨h3, h4⟩, h5, h6, h7⟩ := hp
      have gl := glB_ok x h4
      have fr := x.free _ (List.contains_iff_mem.mp h3)
      refine ⟨p1, _, pos, rfl, List.contains_iff_mem.mp h1, h2, h6, rfl, ?_⟩
      match l, cs, p, h5, h7 with
      | [], .nil, _, _, _ =>
        intro pins s σ H Q I q
        obtain ⟨i, j, r, _⟩ := q.nil
        rcases r with ⟨r, _⟩ | r <;> cases r
      | [a], .cons c .nil, ⟨ha, _⟩, h5, _ =>
        have hs : noStar a = true := by simpa [noStars] using h5
        intro pins s σ H Q I q
        refine prg_1 gl fr ha (star_cons hs) pins s σ H Q I (tE.mono q.cons fun x1 H1 z => ?_)
        obtain ⟨i, j, r, z⟩ := z.nil
        rcases r with ⟨r, e⟩ | r
        · cases r; subst e; exact ⟨j, rfl, z⟩
        · cases r
      | [a, b], .cons c (.cons d .nil), ⟨ha, hb, _⟩, h5, _ =>
        have hs : noStar a = true ∧ noStar b = true := by simpa [noStars] using h5
        intro pins s σ H Q I q
        refine prg_2 gl fr ha hb (star_cons hs.1) (star_cons hs.2) (star_any (by simpa [noStars] using hs.2)) pins s σ H Q I (tE.mono q.cons fun x1 H1 z => tE.mono z.cons fun x2 H2 z2 => ?_)
        obtain ⟨i, j, r, w⟩ := z2.nil
        rcases r with ⟨r, e⟩ | r
        · cases r
        · injection r with e1 r
          injection r with e2 _
          exact ⟨i, j, e1, e2, w⟩
      | _ :: _ :: _ :: _, _, _, _, h7 => simp at h7
      | [], .cons _ _, p, _, _ => exact p.elim
      | [_], .nil, p, _, _ => exact p.elim
      | [_], .cons _ (.cons _ _), ⟨_, p⟩, _, _ => exact p.elim
      | [_, _], .nil, p, _, _ => exact p.elim
      | [_, _], .cons _ .nil, ⟨_, p⟩, _, _ => exact p.elim
      | [_, _], .cons _ (.cons _ (.cons _ _)), ⟨_, _, p⟩, _, _ => exact p.elim
    · cases h
  · cases h
theorem tupR_pe (x : XOk X k C call W) {e : Expr} {l : List Expr} {cs : CEs} (h : rgOf k "tuple" e = some l) (p : PEL X C call W l cs) : PE X e (tE C call W (.op .tupR cs)) := by
  obtain ⟨p1, a, pos, rfl, h1, h2, h3, h4, h5⟩ := rg_pe x h p
  refine (pe_tupRg (x.calm h3) (glB_ok x h2) (x.free _ h1) h5 (star_cons h4)).imp fun σ H Q z => tEs.mono (z.op ov_tupR) fun xs H1 ⟨i, j, r, ok, q⟩ => ⟨i, j, r, ok, q⟩
theorem listR_pe (x : XOk X k C call W) {e : Expr} {l : List Expr} {cs : CEs} (h : rgOf k "list" e = some l) (p : PEL X C call W l cs) : PE X e (tE C call W (.op .listR cs)) := by
  obtain ⟨p1, a, pos, rfl, h1, h2, h3, h4, h5⟩ := rg_pe x h p
  refine (pe_listRg (x.calm h3) (glB_ok x h2) (x.free _ h1) h5 (star_cons h4)).imp fun σ H Q z => tEs.mono (z.op ov_listR) fun xs H1 ⟨i, j, r, ok, q⟩ => ⟨i, j, r, ok, q⟩
theorem rg_call {n : Str} {e : Expr} {l : List Expr} (h : rgOf k n e = some l) : ∃ f as pos, e = .Call f as [] pos := by
  unfold rgOf at h
  split at h
  · exact ⟨_, _, _, rfl⟩
  · cases h
end
/-! ### len(set(xs)), of ints -/
theorem nub_fold : ∀ (l acc : List Int), nubI acc l = l.foldl step_dedup acc
  | [], _ => rfl
  | n :: r, acc => by
    unfold nubI
    rw [List.foldl_cons, ← nub_fold r]
    unfold step_dedup
    split <;> rfl
theorem getD_range : ∀ ns : List Int, (List.range ns.length).map (fun i => ns.getD i 0) = ns := fun ns => by
  apply List.ext_getElem
  · simp
  · intro i h1 h2
    simp [List.getD_eq_getElem?_getD, List.getElem?_eq_getElem h2]
theorem nub_met (ns : List Int) : firstMet (fun i => ns.getD i 0) ns.length = nubI [] ns := by
  unfold firstMet
  rw [getD_range, nub_fold]
theorem nub_len (ns : List Int) : (nubI [] ns).length ≤ ns.length := by
  rw [← nub_met]
  exact firstMet_length_le _ _
def rLenSet (K : PySem.W.Frag) : V → Hp → VK → Prop := fun x H Q => ∃ (l : Addr) (ns : List Int), x = .ref l ∧ SqL K H l (ns.map V.int) ∧ ns.length ≤ 4000 ∧ Q (.int ((nubI [] ns).length : Nat)) H
section
variable {X : Cx} {k : Ck} {C : RK} {call : CallT} {W : WX}
theorem pe_lenSet {a : Expr} {ta : TE} {p p2 q pos : Pos} (hc : X.calm = true) (g1 : Gl X "len") (m1 : X.mg "len" = none) (g2 : Gl X "set") (m2 : X.mg "set" = none) (ha : PE X a ta) (na : starEach [a] X.env = (false, eval a X.env) :: starEach [] X.env) :
    PE X (.Call (.Name "len" p) [.Call (.Name "set" p2) [a] [] q] [] pos) (fun σ H Q => ta σ H fun x H1 => rLenSet X.K x H1 Q) := ⟨fun pins s σ H Q I h => by
  refine Call_ (ld_blt I g1 m1 boot_len (callWith_builtin1 (args_cons (Call_ (ld_blt I g2 m2 boot_set (callWith_type1 (args_cons (thn (ha.run pins s σ H _ I h) ?_) na) na rfl))) rfl) rfl rfl))
  rintro v s1 ⟨x, H1, I1, r1, l, ns, rfl, hq, hl, q1⟩
  apply args_nil
  cases r1
  obtain ⟨its, r, pl, hz⟩ := I1.list hq
  have e : its.toArray.size = ns.length := by
    have := r.length
    simp at this ⊢
    omega
  apply call_set_list (I1.ok.hd hc) pl.isList (ns := ns) (by simpa using r.ints) (by unfold scanBound; omega)
  intro h' tk hS hk
  apply args_nil
  rw [e, nub_met] at hS
  obtain ⟨o, es, ep, t, ho, hex, hd, _, _, _, hf, hn⟩ := hS
  have I2 : Inv X pins σ H1 { s1 with heap := h', toks := tk } := I1.kept fun b o e => hk b o (Heap.lt_size e) e
  have := nub_len ns
  exact call_len_set ho hex hd hf (by rw [hn]; omega) ⟨.int (nubI [] ns).length, H1, I2.tok _, ⟨_, by rw [hn]⟩, q1⟩⟩
theorem ov_lenSet {K : KC} : OpV K .lenSet (one (rLenSet K.fr)) := by
  intro H T ps xs res Q ha e k
  simp only [opSem] at e
  unfold semLenSet at e
  split at e
  · split at e
    · rename_i ns hn
      split at e
      · rename_i hl
        cases e
        obtain ⟨x, rfl, a, us, rfl, q1, r1⟩ := ARL.one ha
        have := r1.intsOf hn
        subst this
        exact ⟨_, rfl, a, ns, rfl, .inl q1, hl, res_int k⟩
      · cases e
    · cases e
  · cases e
def lsOf (k : Ck) : Expr → Option (List Expr)
  | .Call (.Name x _) [.Call (.Name y _) [a] [] _] [] _ => if decide (x = "len") && (decide (y = "set") && ((k.bl.contains x && glB k x) && ((k.bl.contains y && glB k y) && (noStar a && k.cm)))) then some [a] else none
  | _ => none
theorem lenSet_pe (x : XOk X k C call W) {e : Expr} {l : List Expr} {cs : CEs} (h : lsOf k e = some l) (p : PEL X C call W l cs) : PE X e (tE C call W (.op .lenSet cs)) := by
  unfold lsOf at h
  split at h
  · split at h
    · rename_i hp
      cases h
      simp only [Bool.and_eq_true, decide_eq_true_eq] at hp
      obtain ⟨rfl, rfl, ⟨h1, h2⟩, ⟨h3, h4⟩, h5, h6⟩ := hp
      obtain ⟨c, rfl, ha⟩ := p.one_
      exact (pe_lenSet (x.calm h6) (glB_ok x h2) (x.free _ (List.contains_iff_mem.mp h1)) (glB_ok x h4) (x.free _ (List.contains_iff_mem.mp h3)) ha (star_cons h5)).imp fun σ H Q z => tE.mono (z.op1 ov_lenSet) fun y H1 z => x.fr ▸ z
    · cases h
  · cases h
theorem ls_call {e : Expr} {l : List Expr} (h : lsOf k e = some l) : ∃ f as pos, e = .Call f as [] pos := by
  unfold lsOf at h
  split at h
  · exact ⟨_, _, _, rfl⟩
  · cases h
end
/-! ### methods -/
theorem idxOf_ok {d : PyData} : ∀ {ds : List PyData} {j : Nat}, idxOf d ds = some j → ∃ z, ds[j]? = some z ∧ PyData.eqv z d = true ∧ ∀ (m : Nat) (z' : PyData), m < j → ds[m]? = some z' → PyData.eqv z' d = false
  | [], _, h => by cases h
  | z :: r, j, h => by
    unfold idxOf at h
    rw [eqvD_eq] at h
    by_cases hz : PyData.eqv z d = true
    · rw [if_pos hz] at h
      cases h
      exact ⟨z, rfl, hz, fun m z' hm => by omega⟩
    · rw [if_neg hz] at h
      obtain ⟨i, hi, rfl⟩ := Option.map_eq_some_iff.mp h
      obtain ⟨y, h1, h2, h3⟩ := idxOf_ok hi
      refine ⟨y, by simpa using h1, h2, fun m z' hm e => ?_⟩
      cases m with
      | zero =>
        simp at e
        subst e
        simpa using hz
      | succ m => exact h3 m z' (by omega) (by simpa using e)
def rIx (K : PySem.W.Frag) : List V → Hp → VK → Prop := fun xs H Q => ∃ x y, xs = [x, y] ∧ rIndexD K x [y] H Q
theorem ov_index {K : KC} : OpV K .index (rIx K.fr) := by
  intro H T ps xs res Q ha e k
  simp only [opSem] at e
  unfold semIndex at e
  split at e
  · rename_i ds d
    split at e
    · rename_i hs
      obtain ⟨j, hj, rfl⟩ := Option.map_eq_some_iff.mp e
      obtain ⟨x, y, rfl, h1, h2⟩ := ARL.two ha
      rw [Bool.and_eq_true] at hs
      unfold shp at hs
      simp only [Bool.and_eq_true] at hs
      obtain ⟨z, e1, e2, e3⟩ := idxOf_ok hj
      have q1 := h1.dp hs.2.2
      have q2 := h2.dp hs.1.2
      obtain ⟨a, us, rfl, _, _⟩ := h1
      exact ⟨_, y, rfl, a, y, d, ds, j, z, rfl, rfl, q1, q2, hs.2.1, hs.1.1, e1, e2, e3, res_int k⟩
    · cases e
  · cases e
def rDG : List V → Hp → VK → Prop := fun xs H Q => (∃ a y o, xs = [.ref a, y] ∧ DGet H a y o ∧ Q (o.getD .non) H) ∨ ∃ a y z o, xs = [.ref a, y, z] ∧ DGet H a y o ∧ Q (o.getD z) H
theorem ar_rep {K : KC} {H : Hp} {T : AS} {d : PyData} {z : V} (n : listD d = false) (h : AR K H T d z) : Rep K H T d z := by
  cases d <;> first | exact h | cases n
theorem dget_get {K : KC} {H : Hp} {T : AS} {k : PyData} {q : Key} {kvs : List (PyData × PyData)} {ks : List (Key × V)} {d : PyData} {z : V} (hq : keyD k = some q) (kl : KeyL kvs ks) (rr : RepD K H T kvs (ks.map (·.2))) (hz : Rep K H T d z) : Rep K H T ((dGet k kvs).getD d) ((valV ks q).getD z) := by
  cases e : dGet k kvs with
  | none => rw [dGet_none hq kl e]; exact hz
  | some d' =>
    obtain ⟨v, e2, r⟩ := dGet_some hq kl rr e
    rw [e2]; exact r
theorem ov_dget {K : KC} : OpV K .dget rDG := by
  intro H T ps xs res Q ha e k
  simp only [opSem] at e
  unfold semDGet at e
  split at e
  · split at e
    · rename_i hk
      cases e
      rw [Bool.and_eq_true] at hk
      obtain ⟨x, y, rfl, h1, h2⟩ := ARL.two ha
      obtain ⟨q, hq⟩ := keyOk_some hk.1
      obtain ⟨a, ks, rfl, rd, kl, rr⟩ := AR.dct hk.2 h1
      have := rep_key hq h2
      subst this
      exact .inl ⟨a, _, valV ks q, rfl, .inl ⟨ks, q, rd, rfl, rfl⟩, res_flat k (dget_get hq kl rr rfl)⟩
    · cases e
  · split at e
    · rename_i hk
      cases e
      simp only [Bool.and_eq_true, Bool.not_eq_true'] at hk
      obtain ⟨x, y, z, rfl, h1, h2, h3⟩ := ARL.three ha
      obtain ⟨q, hq⟩ := keyOk_some hk.1.1
      obtain ⟨a, ks, rfl, rd, kl, rr⟩ := AR.dct hk.1.2 h1
      have := rep_key hq h2
      subst this
      exact .inr ⟨a, _, z, valV ks q, rfl, .inl ⟨ks, q, rd, rfl, rfl⟩, res_flat k (dget_get hq kl rr (ar_rep hk.2 h3))⟩
    · cases e
  · cases e
def baseB : Expr → Bool
  | .Call _ [] _ _ => false
  | _ => true
theorem base_ok {o : Expr} (h : baseB o = true) (m : Str) (env : Env) (w : Sem Value) : attributeBase o m env w = w := by
  cases o with
  | Call f as kws p =>
    cases as with
    | nil => cases h
    | cons a r => cases f <;> rfl
  | _ => rfl
def methX (m : Str) : Expr → Option (Expr × List Expr)
  | .Call (.Attribute x n ap) es [] cp => if decide (n = m) && (baseB x && (ap.endLine == cp.line && (noStars es && (decide (1 ≤ es.length) && decide (es.length ≤ 2))))) then some (x, es) else none
  | _ => none
def methN : Op → Option (Str × Nat)
  | .index => some ("index", 1)
  | .dget => some ("get", 2)
  | _ => none
/-- a method's receiver and arguments -/
def methP (o : Op) (e : Expr) : Option (Expr × List Expr) := match methN o with
  | some (m, n) => (match methX m e with
    | some (x, l) => if l.length ≤ n then some (x, l) else none
    | none => none)
  | none => none
section
variable {X : Cx} {k : Ck} {C : RK} {call : CallT} {W : WX}
theorem backTo_one {a : Expr} {pos : Pos} {env : Env} (h : noStar a = true) : backTo pos (starEach [a] env) = [(false, eval a env)] := by
  rw [star_cons h]; rfl
theorem backTo_two {a b : Expr} {pos : Pos} {env : Env} (h : noStar a = true) (h2 : noStar b = true) : backTo pos (starEach [a, b] env) = [(false, eval a env), (false, eval b env)] := by
  rw [star_cons h, star_cons h2]; rfl
theorem meth_pe (x : XOk X k C call W) {o : Op} {e u : Expr} {l : List Expr} {a : CE} {cs : CEs} (h : methP o e = some (u, l)) (hu : PE X u (tE C call W a)) (p : PEL X C call W l cs) : PE X e (tE C call W (.meth o a cs)) ∧ ∃ f as pos, e = .Call f as [] pos := by
  have hun : X.A.units + 65 < cLine := by have := x.un; omega
  unfold methP at h
  split at h
  case h_2 => cases h
  rename_i m n hm
  split at h
  case h_2 => cases h
  rename_i u' l' hx
  split at h
  case isFalse => cases h
  rename_i hl
  cases h
  unfold methX at hx
  split at hx
  case h_2 => cases hx
  rename_i x1 n1 ap es cp
  split at hx
  case isFalse => cases hx
  rename_i hp
  cases hx
  simp only [Bool.and_eq_true, decide_eq_true_eq] at hp
  obtain ⟨rfl, hb, hline, hst, h1, h2⟩ := hp
  refine ⟨?_, _, _, _, rfl⟩
  unfold methN at hm
  split at hm
  · cases hm
    match l, cs, p, h1, hl, hst with
    | [b], .cons c .nil, ⟨pb, _⟩, _, _, hst =>
      have hs : noStar b = true := by simpa [noStars] using hst
      have hA : PA X [b] (tEs C call W (.cons c .nil)) := (show PEL X C call W [b] (.cons c .nil) from ⟨pb, trivial⟩).pa hst
      refine (pe_bm PySem.F.plainAttrs_list PySem.F.slot_list_index PySem.F.type_list_index (mt_indexD hun) hu hA (base_ok hb _ _ _) (by rw [backTo_one hs]; rfl) hline (star_cons hs) rfl).imp fun σ H Q z => ?_
      refine tE.mono (z.meth ov_index (P := fun y H1 => ∃ b us, y = .ref b ∧ Rd H1 b (.lst us)) fun H1 T p y hr ha => ?_) fun y H1 ⟨⟨b1, us, e1, q1⟩, z⟩ => ⟨?_, tEs.mono z fun xs H2 ⟨y1, y2, e2, q2⟩ => ?_⟩
      · cases p <;> simp only [recvOk] at hr <;> first | (cases hr; done) | skip
        obtain ⟨b1, us, rfl, q1, _⟩ := ha
        exact ⟨b1, us, rfl, q1⟩
      · subst e1
        exact .inl ⟨rfl, us, .inl q1⟩
      · cases e2
        rw [x.fr]
        exact q2
    | [], _, _, h1, _, _ => simp at h1
    | _ :: _ :: _, _, _, _, hl, _ => simp at hl
    | [_], .nil, p, _, _, _ => exact p.elim
    | [_], .cons _ (.cons _ _), ⟨_, p⟩, _, _, _ => exact p.elim
  · cases hm
    have hP : ∀ (H : Hp) (T : AS) (p : PyData) (y : V), recvOk .dget p = true → AR C.fr H T p y → ∃ b, y = .ref b ∧ IsD H b := fun H1 T p y hr ha => by
      cases p <;> simp only [recvOk] at hr <;> first | (cases hr; done) | skip
      obtain ⟨b1, ks, rfl, q1, _⟩ := AR.dct hr ha
      exact ⟨b1, rfl, .inl ⟨ks, q1⟩⟩
    match l, cs, p, h1, hl, hst with
    | [b], .cons c .nil, ⟨pb, _⟩, _, _, hst =>
      have hs : noStar b = true := by simpa [noStars] using hst
      refine (pe_dget1 (by omega) hu pb ⟨base_ok hb _ _ _, by rw [backTo_one hs]; rfl, hline, backTo_one hs⟩).imp fun σ H Q z => ?_
      refine tE.mono (z.meth ov_dget hP) fun y H1 ⟨⟨b1, e1, q1⟩, z⟩ => ⟨b1, e1, q1, tE.mono z.cons fun y2 H2 z => ?_⟩
      subst e1
      rcases z.nil with ⟨a, y', o, e2, q2, q3⟩ | ⟨a, y', z', o, e2, _⟩
      · cases e2; exact ⟨o, q2, q3⟩
      · cases e2
    | [b, b2], .cons c (.cons c2 .nil), ⟨pb, pb2, _⟩, _, _, hst =>
      have hs : noStar b = true ∧ noStar b2 = true := by simpa [noStars] using hst
      refine (pe_dget2 (by omega) hu pb pb2 ⟨base_ok hb _ _ _, by rw [backTo_two hs.1 hs.2]; rfl, hline, backTo_two hs.1 hs.2⟩).imp fun σ H Q z => ?_
      refine tE.mono (z.meth ov_dget hP) fun y H1 ⟨⟨b1, e1, q1⟩, z⟩ => ⟨b1, e1, q1, tE.mono z.cons fun y2 H2 z => tE.mono z.cons fun y3 H3 z => ?_⟩
      subst e1
      rcases z.nil with ⟨a, y', o, e2, _⟩ | ⟨a, y', z', o, e2, q2, q3⟩
      · cases e2
      · cases e2; exact ⟨o, q2, q3⟩
    | [], _, _, h1, _, _ => simp at h1
    | _ :: _ :: _ :: _, _, _, _, hl, _ => simp at hl
    | [_], .nil, p, _, _, _ => exact p.elim
    | [_], .cons _ (.cons _ _), ⟨_, p⟩, _, _, _ => exact p.elim
    | [_, _], .nil, p, _, _, _ => exact p.elim
    | [_, _], .cons _ .nil, ⟨_, p⟩, _, _, _ => exact p.elim
    | [_, _], .cons _ (.cons _ (.cons _ _)), ⟨_, _, p⟩, _, _, _ => exact p.elim
  · cases hm
end
end PyC
end

section
set_option maxHeartbeats 200000
namespace PyC
open PySem PySem.Spec L2
def plainB : Expr → Bool
  | .Slice _ _ _ _ => false
  | _ => true
theorem plainB_ok {b : Expr} (h : plainB b = true) : PlainIx b := by
  intro o i
  cases b <;> first | rfl | (simp [plainB] at h)
def ixOf : Expr → Option (List Expr)
  | .Subscript a b _ => if plainB b then some [a, b] else none
  | _ => none
def slOf (lo hi : Bool) : Expr → Option (List Expr)
  | .Subscript e (.Slice (some a) none none _) _ => if lo && !hi then some [e, a] else none
  | .Subscript e (.Slice none (some b) none _) _ => if !lo && hi then some [e, b] else none
  | .Subscript e (.Slice (some a) (some b) none _) _ => if lo && hi then some [e, a, b] else none
  | _ => none
def revOf : Expr → Option (List Expr)
  | .Subscript e (.Slice none none (some (.UnaryOp .USub (.Constant (.int 1) _ _) _)) _) _ => some [e]
  | _ => none
def unOf : Expr → Option (List Expr)
  | .UnaryOp .USub a _ => some [a]
  | _ => none
def callC (k : Ck) (n : Str) (e : Expr) : Option (List Expr) := if k.cm then callOf k n e else none
theorem callC_ok {k : Ck} {n : Str} {e : Expr} {l : List Expr} (h : callC k n e = some l) : k.cm = true ∧ callOf k n e = some l := by
  unfold callC at h
  split at h
  · exact ⟨by assumption, h⟩
  · cases h
/-- an operation's operands -/
def opParts (k : Ck) : Op → Expr → Option (List Expr)
  | .add => binOf .Add | .sub => binOf .Sub | .mul => binOf .Mult | .fdiv => binOf .FloorDiv | .mod => binOf .Mod | .pow => binOf .Pow
  | .neg => unOf
  | .eq => cmpOf .Eq | .ne => cmpOf .NotEq | .lt => cmpOf .Lt | .le => cmpOf .LtE | .gt => cmpOf .Gt | .ge => cmpOf .GtE
  | .inn => cmpOf .In | .nin => cmpOf .NotIn
  | .din => cmpOf .In | .dnin => cmpOf .NotIn | .didx => ixOf
  | .isN => cmpC .Is .none | .isNotN => cmpC .IsNot .none
  | .isB b => cmpC .Is (.bool b) | .isNotB b => cmpC .IsNot (.bool b)
  | .idx => ixOf
  | .slLo => slOf true false | .slHi => slOf false true | .slRev => revOf
  | .len => callOf k "len" | .tuple => callOf k "tuple" | .list => callOf k "list"
  | .sum => callC k "sum" | .max1 => callC k "max" | .min1 => callC k "min" | .max2 => callC k "max" | .min2 => callC k "min"
  | .isI ts => isiOf k ts
  | .tupR => rgOf k "tuple" | .listR => rgOf k "list" | .lenSet => lsOf k
  | .sorted => callOf k "sorted" | .repr => callOf k "repr"
  | .all => callC k "all" | .any => callC k "any" | .abs => callOf k "abs" | .int => callOf k "int" | .divmod => callOf k "divmod"
  | _ => fun _ => none
section
variable {X : Cx} {k : Ck} {C : RK} {call : CallT} {W : WX}
theorem op_sound (x : XOk X k C call W) {o : Op} {e : Expr} {l : List Expr} {cs : CEs} (h : opParts k o e = some l) (p : PEL X C call W l cs) : PE X e (tE C call W (.op o cs)) := by
  have hu1 : X.A.units + 64 < cLine := by have := x.un; omega
  have hu2 : X.A.units + 65 < cLine := by have := x.un; omega
  cases o with
  | add => exact pe_bin x h p or_add (x.fr ▸ ov_add)
  | sub => exact pe_bin x h p op_sub ov_sub
  | mul => exact pe_bin x h p or_mul (x.fr ▸ ov_mul)
  | fdiv => exact pe_bin x h p op_fdiv ov_fdiv
  | mod => exact pe_bin x h p op_mod ov_mod
  | pow => exact pe_bin x h p op_pow ov_pow
  | neg =>
    simp only [opParts, unOf] at h
    split at h
    · cases h
      obtain ⟨c, rfl, h1⟩ := p.one_
      exact (pe_un un_neg h1).imp fun σ H Q h => h.op1 ov_neg
    · cases h
  | eq => exact pe_cmp2 x h p (op_eqD hu1) (x.fr ▸ ov_eq)
  | ne => exact pe_cmp2 x h p (op_neD hu1) (x.fr ▸ ov_ne)
  | lt => exact pe_cmp2 x h p op_lt ov_lt
  | le => exact pe_cmp2 x h p op_le ov_le
  | gt => exact pe_cmp2 x h p op_gt ov_gt
  | ge => exact pe_cmp2 x h p op_ge ov_ge
  | inn => exact pe_cmp2 x h p (op_inA hu2) (x.fr ▸ ov_inA rfl)
  | nin => exact pe_cmp2 x h p (op_notInA hu2) (x.fr ▸ ov_inA rfl)
  | isN => exact pe_cmpK x h p op_isN (fun j pos => pe_non) ov_isN fun x H Q z => ⟨rfl, z⟩
  | isNotN => exact pe_cmpK x h p op_notN (fun j pos => pe_non) ov_notN fun x H Q z => ⟨rfl, z⟩
  | isB b => exact pe_cmpK x h p op_isBl (fun j pos => pe_bl) ov_isB fun x H Q z => z
  | isNotB b => exact pe_cmpK x h p op_notBl (fun j pos => pe_bl) ov_isNotB fun x H Q z => z
  | idx =>
    simp only [opParts, ixOf] at h
    split at h
    · split at h
      · rename_i hp
        cases h
        obtain ⟨c, d, rfl, h1, h2⟩ := p.two_
        exact (pe_ix ix_seq h1 h2 (plainB_ok hp)).imp fun σ H Q h => h.op2 (x.fr ▸ ov_idx)
      · cases h
    · cases h
  | slLo =>
    simp only [opParts, slOf] at h
    split at h
    · cases h
      obtain ⟨c, d, rfl, h1, h2⟩ := p.two_
      exact (pe_slice sl_any h1 (po_some h2) po_none).imp fun σ H Q h => tE.mono (h.op2 ov_slLo) fun y H1 z => tE.mono z fun y2 H2 ⟨i, e, q⟩ => ⟨i, e, x.fr ▸ q⟩
    · cases h
    · cases h
    · cases h
  | slHi =>
    simp only [opParts, slOf] at h
    split at h
    · cases h
    · cases h
      obtain ⟨c, d, rfl, h1, h2⟩ := p.two_
      exact (pe_slice sl_any h1 po_none (po_some h2)).imp fun σ H Q h => tE.mono (h.op2 ov_slHi) fun y H1 z => tE.mono z fun y2 H2 ⟨i, e, q⟩ => ⟨i, e, x.fr ▸ q⟩
    · cases h
    · cases h
  | slRev =>
    simp only [opParts, revOf] at h
    split at h
    · cases h
      obtain ⟨c, rfl, h1⟩ := p.one_
      exact (pe_revA h1).imp fun σ H Q h => tE.mono (h.op1 ov_revA) fun y H1 z => x.fr ▸ z
    · cases h
  | len => exact pe_blt x h p call_len_seq (by decide +kernel) (x.fr ▸ ov_len)
  | tuple => exact pe_bty x h p call_tuple_of (by decide +kernel) (x.fr ▸ ov_tuple)
  | list => exact pe_bty x h p call_list_of (by decide +kernel) (x.fr ▸ ov_list)
  | sum =>
    have h := callC_ok h
    exact pe_blt x h.2 p (cr_sumA (x.calm h.1)) (by decide +kernel) (x.fr ▸ ov_sumA)
  | max1 =>
    have h := callC_ok h
    exact pe_blt x h.2 p (cr_maxA (x.calm h.1)) (by decide +kernel) (x.fr ▸ ov_maxA)
  | min1 =>
    have h := callC_ok h
    exact pe_blt x h.2 p (cr_minA (x.calm h.1)) (by decide +kernel) (x.fr ▸ ov_minA)
  | max2 =>
    have h := callC_ok h
    exact pe_blt x h.2 p (call_max2 (x.calm h.1)) (by decide +kernel) ov_max2
  | min2 =>
    have h := callC_ok h
    exact pe_blt x h.2 p (call_min2 (x.calm h.1)) (by decide +kernel) ov_min2
  | all =>
    have h := callC_ok h
    exact pe_blt x h.2 p (cr_all (x.calm h.1)) (by decide +kernel) (x.fr ▸ ov_all)
  | any =>
    have h := callC_ok h
    exact pe_blt x h.2 p (cr_any (x.calm h.1)) (by decide +kernel) (x.fr ▸ ov_any)
  | abs => exact pe_blt x h p call_abs (by decide +kernel) ov_abs
  | int => exact pe_bty x h p call_int1 (by decide +kernel) ov_intc
  | divmod => exact pe_blt x h p call_divmod (by decide +kernel) ov_divmod
  | listR => exact listR_pe x h p
  | sorted => exact pe_blt x h p (cr_sortedD (by omega)) (by decide +kernel) (x.fr ▸ ov_sorted)
  | isI ts => exact (isI_pe x h p).1
  | repr => exact pe_blt x h p (call_reprD (K := C.fr) x.fr x.sm (by omega) x.gd) (by decide +kernel) ov_repr
  | index => cases h
  | sortedSet => cases h
  | lenSet => exact lenSet_pe x h p
  | count => cases h
  | din =>
    obtain ⟨a, b, pos, rfl, hm, rfl⟩ := cmpOf_ok h
    obtain ⟨c, d, rfl, h1, h2⟩ := p.two_
    exact (pe_cmp (pc_din (by omega) h1 h2) hm).imp fun σ H Q h => tE.mono (h.op2 (ov_din rfl)) fun y H1 z => tE.mono z fun x H2 ⟨a, o, e, g, q⟩ => ⟨a, o, e, g, by simpa using q⟩
  | dnin =>
    obtain ⟨a, b, pos, rfl, hm, rfl⟩ := cmpOf_ok h
    obtain ⟨c, d, rfl, h1, h2⟩ := p.two_
    exact (pe_cmp (pc_dnotin (by omega) h1 h2) hm).imp fun σ H Q h => tE.mono (h.op2 (ov_din rfl)) fun y H1 z => tE.mono z fun x H2 ⟨a, o, e, g, q⟩ => ⟨a, o, e, g, by simpa using q⟩
  | didx =>
    simp only [opParts, ixOf] at h
    split at h
    · split at h
      · rename_i hp
        cases h
        obtain ⟨c, d, rfl, h1, h2⟩ := p.two_
        exact (pe_dget (by omega) h1 h2 (plainB_ok hp)).imp fun σ H Q h => h.op2 ov_didx
      · cases h
    · cases h
  | dget => cases h
  | tupR => exact tupR_pe x h p
end
end PyC
end

section
set_option maxHeartbeats 200000
namespace PyC
open PySem PySem.Spec L2
/-- the context of a block -/
def Ck.blk (k : Ck) (scope : Scope) : Ck := { k with sc := relS scope k.sc, fn := fun x => scope.names.lookup x == some .cell, hot := false, mkl := false }
def nameOf : Expr → Option Str
  | .Name x _ => some x
  | _ => none
/-- the name x stands at slot i -/
def slotB (k : Ck) (i : Nat) (x : Str) : Bool := decide (k.N[i]? = some x) && (visB k x && plainN x)
def cstB (k : Ck) : PyData → Expr → Bool
  | .none, .Constant .none _ _ => true
  | .bool b, .Constant (.bool c) _ _ => b == c
  | .int i, .Constant (.int j) _ _ => decide (i = j)
  | .str s, .Constant (.str t) _ _ => decide (s = t)
  | p, .Name x _ => glB k x && (plainN x && match k.ct x, p with
    | some (.int i), .int j => decide (i = j)
    | some (.str i), .str j => decide (i = j)
    | _, _ => false)
  | _, _ => false
/-- the parts of «a and b and ..» -/
def boolOf (o : BoolOp) : Expr → Option (Expr × Expr × List Expr × Pos)
  | .BoolOp p (a :: b :: r) pos => if decide (p = o) then some (a, b, r, pos) else none
  | _ => none
/-- the rest of them -/
def restB (o : BoolOp) (b : Expr) (r : List Expr) (pos : Pos) : Expr := match r with
  | [] => b
  | _ => .BoolOp o (b :: r) pos
def notOf : Expr → Option Expr
  | .UnaryOp .Not a _ => some a
  | _ => none
def ifOf : Expr → Option (Expr × Expr × Expr)
  | .IfExp c a b _ => some (c, a, b)
  | _ => none
/-- operations that compare: their words -/
def cmpW : Op → Option CmpOp
  | .eq => some .Eq | .ne => some .NotEq | .lt => some .Lt | .le => some .LtE | .gt => some .Gt | .ge => some .GtE | _ => none
def chnOf (o p : CmpOp) : Expr → Option (Expr × Expr × Expr)
  | .Compare a [q, r] [b, c] _ => if decide (q = o) && (decide (r = p) && !lastMarks [q, r] [b, c]) then some (a, b, c) else none
  | _ => none
/-- x(..) of a def of the text -/
def fnOf0 (k : Ck) (f : Nat) : Expr → Option (List Expr)
  | .Call (.Name x _) (a :: as) [] _ => match k.fns x with
    | some (g, _) => if decide (g = f) && (glB k x && (plainN x && noStars (a :: as))) then some (a :: as) else none
    | none => none
  | _ => none
def fnOf (k : Ck) (f : Nat) (e : Expr) : Option (List Expr) := if k.pl then fnOf0 k f e else none
def fnOfC (k : Ck) (f : Nat) (e : Expr) : Option (List Expr) := if k.mkl then fnOf0 k f e else none
/-- the names of slots -/
def namesAt (N : List Str) : List Nat → Option (List Str)
  | [] => some []
  | j :: js => match N[j]?, namesAt N js with
    | some y, some ys => some (y :: ys)
    | _, _ => none
def noPsB : Arguments → Bool
  | ⟨[], [], none, [], [], none, []⟩ => true
  | _ => false
def isFr : NameKind → Bool
  | .free => true
  | _ => false
def isCel : Option NameKind → Bool
  | some .cell => true
  | _ => false
def lamB (k : Ck) (f : Nat) (js : List Nat) : Expr → Bool
  | .Lambda ps body sc _ => k.mkl && (noPsB ps && (match namesAt k.N js with
    | some fv => fv.all (fun y => isCel (k.sc.names.lookup y)) && (fv.all (fun y => sc.names.any fun z => z.1 == y && isFr z.2) && (sc.names.all (fun z => !isFr z.2 || fv.contains z.1) && k.lam f ⟨k.q, ps, body, sc, fv⟩))
    | none => false))
  | _ => false
/-- x() -/
def cvB (k : Ck) (i : Nat) : Expr → Bool
  | .Call (.Name x _) [] [] _ => k.pl && slotB k i x
  | _ => false
def fnKOf (k : Ck) (f : Nat) (pm : List Nat) : Expr → Option (List Expr)
  | .Call (.Name x _) [] kws _ => match k.fns x, kwOf kws with
    | some (g, _), some (ns, es) => if decide (g = f) && (k.pl && glB k x && (plainN x && ((k.kws x).contains (ns, pm) && decide pm.Nodup))) then some es else none
    | _, _ => none
  | _ => none
/-- x.m(..) of a name -/
def methOf (m : Str) : Expr → Option (Str × List Expr)
  | .Call (.Attribute (.Name x _) n ap) es [] cp => if decide (n = m) && (ap.endLine == cp.line && (noStars es && decide (es.length < 20))) then some (x, es) else none
  | _ => none
def itOf (k : Ck) (n : Str) : Expr → Option (List Expr)
  | .Call (.Name x _) es [] _ => if decide (x = n) && (k.bl.contains x && (glB k x && (plainN x && noStars es))) then some es else none
  | _ => none
def isTup : Expr → Bool
  | .Tuple _ _ _ => true
  | _ => false
def notSet : Expr → Bool
  | .Set _ _ _ => false
  | _ => true
def tupOf : Expr → Option (List Expr)
  | .Tuple es _ _ => if noStars es then some es else none
  | _ => none
def lstOf : Expr → Option (List Expr)
  | .List es _ => if noStars es then some es else none
  | _ => none
def ownP (k : Ck) (own : List Nat) : List (Str × Nat) := own.filterMap fun i => (k.N[i]?).map fun x => (x, i)
/-- the classes that an isinstance's second part names, as numbers of those below -/
def exsOf (k : Ck) : Expr → Option (List Nat)
  | .Name x _ => if glB k x && plainN x then k.exs x else none
  | _ => none
def exsAll (k : Ck) : List Expr → Option (List Nat)
  | [] => some []
  | e :: es => match exsOf k e, exsAll k es with
    | some a, some b => some (a ++ b)
    | _, _ => none
def exsE (k : Ck) (cs : List Nat) : Expr → Bool
  | .Tuple es _ _ => decide (exsAll k es = some cs) && decide (es.length ≤ 20)
  | e => decide (exsOf k e = some cs)
/-- an exception of one's own is made as a value -/
def mkOf (k : Ck) (c n : Nat) : Expr → Option (List Expr)
  | .Call (.Name x _) [a] [] _ => if decide (n = 1) && (k.cm && (decide (k.exc x = some c) && (glB k x && (plainN x && noStar a)))) then some [a] else none
  | .Call (.Name x _) [] [] _ => if decide (n = 0) && (decide (k.exm x = some (c, 0)) && (glB k x && plainN x)) then some [] else none
  | .Call (.Name x _) [] kws _ => match kwOf kws with
    | some (ns, es) => if decide (n = 1) && (k.cm && (decide (k.exc x = some c) && (glB k x && (plainN x && decide (ns = [("value" : Str)]))))) then some es else none
    | none => none
  | _ => none
def isXOf (k : Ck) (cs : List Nat) : Expr → Option Expr
  | .Call (.Name n _) [y, c] [] _ => if decide (n = "isinstance") && (k.bl.contains n && (glB k n && (noStar y && (noStar c && exsE k cs c)))) then some y else none
  | _ => none
def atOf (j : Nat) : Expr → Option Expr
  | .Attribute (.Name x p) f _ => if f = fldOf j then some (.Name x p) else none
  | _ => none
/-- e.value -/
def attrB (k : Ck) (i j : Nat) : Expr → Bool
  | .Attribute (.Name x _) f _ => k.hot && (slotB k i x && decide (f = fldOf j))
  | _ => false
/-- isinstance(e, C), isinstance(e, (C, ..)) of a caught exception -/
def isEB (k : Ck) (i : Nat) (cs : List Nat) : Expr → Bool
  | .Call (.Name n _) [.Name x _, c] [] _ => decide (n = "isinstance") && (k.hot && (slotB k i x && (k.bl.contains n && (glB k n && (noStar c && exsE k cs c)))))
  | _ => false
mutual
def okE : CE → Ck → Expr → Bool
  | .var i, k, e => match nameOf e with
    | some x => slotB k i x
    | none => false
  | .cst p, k, e => cstB k p e
  | .tup es, k, e => match tupOf e with
    | some l => decide (clen es ≤ big) && okEs es k l
    | none => false
  | .lst es, k, e => match lstOf e with
    | some l => decide (clen es ≤ big) && okEs es k l
    | none => false
  | .op o es, k, e => match opParts k o e with
    | some l => okEs es k l
    | none => false
  | .andE a b, k, e => match boolOf .And e with
    | some (x, y, r, pos) => okE a k x && okE b k (restB .And y r pos)
    | none => false
  | .orE a b, k, e => match boolOf .Or e with
    | some (x, y, r, pos) => okE a k x && okE b k (restB .Or y r pos)
    | none => false
  | .notE a, k, e => match notOf e with
    | some x => okE a k x
    | none => false
  | .ifE c a b, k, e => match ifOf e with
    | some (x, y, z) => okT c k x && (okE a k y && okE b k z)
    | none => false
  | .chn o p a b c, k, e => match cmpW o, cmpW p with
    | some o', some p' => match chnOf o' p' e with
      | some (x, y, z) => okE a k x && (okE b k y && okE c k z)
      | none => false
    | _, _ => false
  | .call f es, k, e => match fnOf k f e with
    | some l => okEs es k l
    | none => false
  | .callK f pm es, k, e => match fnKOf k f pm e with
    | some l => okEs es k l
    | none => false
  | .callIO f i es, k, e => match fnOf k f e with
    | some (x :: l) => (match nameOf x with
      | some n => slotB k i n
      | none => false) && okEs es k l
    | _ => false
  | .pop i, k, e => match methOf "pop" e with
    | some (x, []) => slotB k i x
    | _ => false
  | .popAt i j, k, e => match methOf "pop" e with
    | some (x, [a]) => slotB k i x && okE j k a
    | _ => false
  | .comp e tg it ifs own, k, ex => match ex with
    | .ListComp elt [⟨t, i, fs, 0⟩] scope _ => k.cm && (blkC k.N k.sc scope (ownP k own) && (decide ((ownP k own).map (·.2) = own) && (plainT tg && ((tgs tg).all own.contains && (notSet i && (okTg tg (k.blk scope) t && (okIT it k t i && (okIfs ifs (k.blk scope) fs && okE e (k.blk scope) elt))))))))
    | _ => false
  | .attr i j, k, e => attrB k i j e
  | .isE i cs, k, e => isEB k i cs e
  | .bad, _, _ => true
  | .sl3 c a b, k, e => match e with
    | .Subscript x (.Slice (some y) (some z) none _) _ => okE c k x && (okE a k y && okE b k z)
    | _ => false
  | .dct0, k, e => match e with
    | .Dict [] [] _ => true
    | _ => false
  | .dct1 a b, k, e => match e with
    | .Dict [some x] [y] _ => okE a k x && okE b k y
    | _ => false
  | .lam f js, k, e => lamB k f js e
  | .callV i, k, e => cvB k i e
  | .callC f es, k, e => match fnOfC k f e with
    | some l => okEs es k l
    | none => false
  | .callKC _ _ _, _, _ => false
  | .meth o a es, k, e => match methP o e with
    | some (u, l) => okE a k u && okEs es k l
    | none => false
  | .callIOC f i es, k, e => match fnOfC k f e with
    | some (x :: l) => (match nameOf x with
      | some n => slotB k i n
      | none => false) && okEs es k l
    | _ => false
  | .mkE c es, k, e => match mkOf k c (clen es) e with
    | some l => okEs es k l
    | none => false
  | .isX a cs, k, e => match isXOf k cs e with
    | some y => okE a k y
    | none => false
  | .atX a j, k, e => match atOf j e with
    | some y => okE a k y
    | none => false
/-- a test -/
def okT : CE → Ck → Expr → Bool
  | .notE a, k, e => match notOf e with
    | some x => okT a k x
    | none => false
  | .andE a b, k, e => match boolOf .And e with
    | some (x, y, r, pos) => okT a k x && okT b k (restB .And y r pos)
    | none => false
  | .orE a b, k, e => match boolOf .Or e with
    | some (x, y, r, pos) => okT a k x && okT b k (restB .Or y r pos)
    | none => false
  | .op o es, k, e => match opParts k o e with
    | some l => okEs es k l
    | none => false
  | .chn o p a b c, k, e => match cmpW o, cmpW p with
    | some o', some p' => match chnOf o' p' e with
      | some (x, y, z) => okE a k x && (okE b k y && okE c k z)
      | none => false
    | _, _ => false
  | .var i, k, e => match nameOf e with
    | some x => slotB k i x
    | none => false
  | .cst p, k, e => cstB k p e
  | .call f es, k, e => match fnOf k f e with
    | some l => okEs es k l
    | none => false
  | .callK f pm es, k, e => match fnKOf k f pm e with
    | some l => okEs es k l
    | none => false
  | .callIO f i es, k, e => match fnOf k f e with
    | some (x :: l) => (match nameOf x with
      | some n => slotB k i n
      | none => false) && okEs es k l
    | _ => false
  | .callC f es, k, e => match fnOfC k f e with
    | some l => okEs es k l
    | none => false
  | _, _, _ => false
def okEs : CEs → Ck → List Expr → Bool
  | .nil, _, [] => true
  | .cons c cs, k, e :: es => okE c k e && okEs cs k es
  | _, _, _ => false
def okIfs : CEs → Ck → List Expr → Bool
  | .nil, _, [] => true
  | .cons c .nil, k, [e] => okT c k e
  | _, _, _ => false
def okTg : Tg → Ck → Expr → Bool
  | .nm i, k, e => match nameOf e with
    | some x => decide (k.N[i]? = some x) && (locB k x && (k.fn x || (match k.sc.names.lookup x with | some .local => true | _ => false)))
    | none => false
  | .tp ts, k, e => match tupOf e with
    | some l => k.cm && okTgs ts k l
    | none => false
  | .sub i j, k, e => match e with
    | .Subscript x y _ => (match nameOf x with
      | some n => slotB k i n
      | none => false) && (plainB y && okE j k y)
    | _ => false
  | .dsub i j, k, e => match e with
    | .Subscript x y _ => (match nameOf x with
      | some n => slotB k i n
      | none => false) && (plainB y && okE j k y)
    | _ => false
def okTgs : Tgs → Ck → List Expr → Bool
  | .nil, _, [] => true
  | .cons t ts, k, e :: es => okTg t k e && okTgs ts k es
  | _, _, _ => false
/-- over what a loop with the target t goes -/
def okIT : IT → Ck → Expr → Expr → Bool
  | .seq c, k, t, e => okE c k e
  | .rng1 a, k, t, e => match itOf k "range" e with
    | some [x] => okE a k x
    | _ => false
  | .rng2 a b, k, t, e => match itOf k "range" e with
    | some [x, y] => okE a k x && okE b k y
    | _ => false
  | .enum c, k, t, e => isTup t && (match itOf k "enumerate" e with
    | some [x] => okE c k x
    | _ => false)
  | .zip a b, k, t, e => isTup t && (match itOf k "zip" e with
    | some [x, y] => okE a k x && okE b k y
    | _ => false)
end
end PyC
end

section
set_option maxHeartbeats 200000
namespace PyC
open PySem PySem.Spec L2
section
variable {X : Cx} {k : Ck} {C : RK} {call : CallT} {W : WX}
theorem slot_var (x : XOk X k C call W) {i : Nat} {n : Str} {pos : Pos} (h : slotB k i n = true) : PE X (.Name n pos) (tVar i) := by
  unfold slotB at h
  simp only [Bool.and_eq_true, decide_eq_true_eq] at h
  have hp := plainN_ok h.2.2
  exact pe_var (by rw [x.N]; exact h.1) (visB_ok x h.2.1) hp.1 hp.2.1
theorem nameOf_ok {e : Expr} {n : Str} (h : nameOf e = some n) : ∃ pos, e = .Name n pos := by
  unfold nameOf at h
  split at h
  · cases h; exact ⟨_, rfl⟩
  · cases h
theorem cst_ok (x : XOk X k C call W) {p : PyData} {e : Expr} (h : cstB k p e = true) : ∃ v, PE X e (tC v) ∧ ∀ H, Rep C.fr H (fun _ => False) p v := by
  unfold cstB at h
  split at h
  · exact ⟨.non, pe_non, fun H => rfl⟩
  · rename_i b c _ _
    have : b = c := by simpa using h
    subst this
    exact ⟨.bl b, pe_bl, fun H => rfl⟩
  · have := of_decide_eq_true h
    subst this
    exact ⟨.int _, pe_int, fun H => rfl⟩
  · have := of_decide_eq_true h
    subst this
    exact ⟨.str _, pe_str, fun H => rfl⟩
  · rename_i n pos _
    simp only [Bool.and_eq_true] at h
    obtain ⟨h1, h2, h3⟩ := h
    have hp := plainN_ok h2
    split at h3
    · rename_i i j e
      have := of_decide_eq_true h3
      subst this
      obtain ⟨v, u, e1, e2, e3⟩ := x.ct _ _ e
      exact ⟨v, pe_glob (glB_ok x h1) e1 e2 hp.1, e3⟩
    · rename_i i j e
      have := of_decide_eq_true h3
      subst this
      obtain ⟨v, u, e1, e2, e3⟩ := x.ct _ _ e
      exact ⟨v, pe_glob (glB_ok x h1) e1 e2 hp.1, e3⟩
    · cases h3
  · cases h
theorem tupOf_ok {e : Expr} {l : List Expr} (h : tupOf e = some l) : ∃ j pos, e = .Tuple l j pos ∧ noStars l = true := by
  unfold tupOf at h
  split at h
  · split at h
    · rename_i hn; cases h; exact ⟨_, _, rfl, hn⟩
    · cases h
  · cases h
theorem lstOf_ok {e : Expr} {l : List Expr} (h : lstOf e = some l) : ∃ pos, e = .List l pos ∧ noStars l = true := by
  unfold lstOf at h
  split at h
  · split at h
    · rename_i hn; cases h; exact ⟨_, rfl, hn⟩
    · cases h
  · cases h
theorem boolOf_ok {o : BoolOp} {e a b : Expr} {r : List Expr} {pos : Pos} (h : boolOf o e = some (a, b, r, pos)) : e = .BoolOp o (a :: b :: r) pos := by
  unfold boolOf at h
  split at h
  · split at h
    · rename_i hp
      have := of_decide_eq_true hp
      subst this
      cases h; rfl
    · cases h
  · cases h
theorem rest_pe {o : BoolOp} {b : Expr} {r : List Expr} {pos : Pos} {t : TE} (h : PE X (restB o b r pos) t) : PE X (.BoolOp o (b :: r) pos) t := by
  cases r with
  | nil => exact pe_one h
  | cons c r => exact h
theorem notOf_ok {e a : Expr} (h : notOf e = some a) : ∃ pos, e = .UnaryOp .Not a pos := by
  unfold notOf at h
  split at h
  · cases h; exact ⟨_, rfl⟩
  · cases h
theorem ifOf_ok {e c a b : Expr} (h : ifOf e = some (c, a, b)) : ∃ pos, e = .IfExp c a b pos := by
  unfold ifOf at h
  split at h
  · cases h; exact ⟨_, rfl⟩
  · cases h
/-- a comparison's rule -/
theorem cmpW_ok (x : XOk X k C call W) {o : Op} {w : CmpOp} (h : cmpW o = some w) : ∃ r, OpR X (compareOp w) r ∧ OpV C.fr o (two r) := by
  have hu1 : X.A.units + 64 < cLine := by have := x.un; omega
  cases o <;> simp only [cmpW] at h <;> cases h
  · exact ⟨_, op_eqD hu1, x.fr ▸ ov_eq⟩
  · exact ⟨_, op_neD hu1, x.fr ▸ ov_ne⟩
  · exact ⟨_, op_lt, ov_lt⟩
  · exact ⟨_, op_le, ov_le⟩
  · exact ⟨_, op_gt, ov_gt⟩
  · exact ⟨_, op_ge, ov_ge⟩
theorem chnOf_ok {o p : CmpOp} {e a b c : Expr} (h : chnOf o p e = some (a, b, c)) : ∃ pos, e = .Compare a [o, p] [b, c] pos ∧ lastMarks [o, p] [b, c] = false := by
  unfold chnOf at h
  split at h
  · split at h
    · rename_i hp
      simp only [Bool.and_eq_true, Bool.not_eq_true'] at hp
      have h1 := of_decide_eq_true hp.1
      have h2 := of_decide_eq_true hp.2.1
      subst h1 h2
      cases h
      exact ⟨_, rfl, hp.2.2⟩
    · cases h
  · cases h
theorem fnOf0_ok {f : Nat} {e : Expr} {l : List Expr} (h : fnOf0 k f e = some l) : ∃ n p a as pos ps, e = .Call (.Name n p) (a :: as) [] pos ∧ k.fns n = some (f, ps) ∧ glB k n = true ∧ plainN n = true ∧ noStars (a :: as) = true ∧ l = a :: as := by
  unfold fnOf0 at h
  split at h
  · rename_i n p a as pos
    split at h
    · rename_i g ps hg
      split at h
      · rename_i hp
        simp only [Bool.and_eq_true] at hp
        have h1 := of_decide_eq_true hp.1
        subst h1
        exact ⟨n, p, a, as, pos, ps, rfl, hg, hp.2.1, hp.2.2.1, hp.2.2.2, (Option.some.inj h).symm⟩
      · cases h
    · cases h
  · cases h
theorem fnOf_pl {f : Nat} {e : Expr} {l : List Expr} (h : fnOf k f e = some l) : k.pl = true ∧ fnOf0 k f e = some l := by
  unfold fnOf at h
  split at h
  · exact ⟨by assumption, h⟩
  · cases h
theorem fnOf_ok {f : Nat} {e : Expr} {l : List Expr} (h : fnOf k f e = some l) : ∃ n p a as pos ps, e = .Call (.Name n p) (a :: as) [] pos ∧ k.fns n = some (f, ps) ∧ glB k n = true ∧ plainN n = true ∧ noStars (a :: as) = true ∧ l = a :: as := fnOf0_ok (fnOf_pl h).2
theorem fnOfC_ok {f : Nat} {e : Expr} {l : List Expr} (h : fnOfC k f e = some l) : k.mkl = true ∧ ∃ n p a as pos ps, e = .Call (.Name n p) (a :: as) [] pos ∧ k.fns n = some (f, ps) ∧ glB k n = true ∧ plainN n = true ∧ noStars (a :: as) = true ∧ l = a :: as := by
  unfold fnOfC at h
  split at h
  · exact ⟨by assumption, fnOf0_ok h⟩
  · cases h
theorem pe_fnC (x : XOk X k C call W) {f : Nat} {e : Expr} {l : List Expr} (h : fnOfC k f e = some l) {t : TA} (ha : PA X l t) : PE X e (fun σ H Q => t σ H fun xs H1 => spF C.base call f xs H1 Q F0 ∨ ∀ D hp, CelH C σ H1 D hp → spF C.base call f xs (trk H1 D hp) (fun v H3 => Q v (unt H3 D)) F0) := by
  obtain ⟨hm, n, p, a, as, pos, ps, rfl, hf, h2, h3, h4, rfl⟩ := fnOfC_ok h
  have hp := plainN_ok h3
  have hs : noStar a = true ∧ noStars as = true := by unfold noStars at h4; rwa [List.all_cons, Bool.and_eq_true] at h4
  obtain ⟨ad, fd, m, e1, e2, e3, e4, e5, _⟩ := x.fns _ _ _ hf
  obtain ⟨_, _, _, _, _, _, _, hc, hfn⟩ := x.mks hm
  exact pe_callC e3 e4 x.gd (glB_ok x h2) e1 e2 e5 hc hfn ha hp.1 (star_cons hs.1) (star_any hs.2)
theorem pe_fn (x : XOk X k C call W) {f : Nat} {e : Expr} {l : List Expr} (h : fnOf k f e = some l) {t : TA} (ha : PA X l t) : PE X e (fun σ H Q => t σ H fun vs H1 => spF C call f vs H1 Q fun cls d H' => W cls d σ H') := by
  obtain ⟨n, p, a, as, pos, ps, rfl, hf, h2, h3, h4, rfl⟩ := fnOf_ok h
  have hp := plainN_ok h3
  have hs : noStar a = true ∧ noStars as = true := by unfold noStars at h4; rwa [List.all_cons, Bool.and_eq_true] at h4
  obtain ⟨ad, fd, m, e1, e2, e3, e4, e5, _⟩ := x.fns _ _ _ hf
  rw [(x.lams (fnOf_pl h).1).1] at e3
  exact pe_callG (E := WE W) e3 e4 x.gd (glB_ok x h2) e1 e2 e5 (fun σ => L2N.passAt x.tk σ) ha hp.1 (star_cons hs.1) (star_any hs.2)
theorem fnKOf_ok {f : Nat} {pm : List Nat} {e : Expr} {l : List Expr} (h : fnKOf k f pm e = some l) : ∃ n p kws pos ps ns, e = .Call (.Name n p) [] kws pos ∧ k.fns n = some (f, ps) ∧ kwOf kws = some (ns, l) ∧ glB k n = true ∧ plainN n = true ∧ (ns, pm) ∈ k.kws n ∧ pm.Nodup ∧ k.pl = true := by
  unfold fnKOf at h
  split at h
  · rename_i n p kws pos
    split at h
    · rename_i g ps ns es hg hk
      split at h
      · rename_i hp
        simp only [Bool.and_eq_true, decide_eq_true_eq] at hp
        have h1 := hp.1
        subst h1
        cases h
        exact ⟨n, p, kws, pos, ps, ns, rfl, hg, hk, hp.2.1.2, hp.2.2.1, List.contains_iff_mem.mp hp.2.2.2.1, hp.2.2.2.2, hp.2.1.1⟩
      · cases h
    · cases h
  · cases h
theorem kw_len : ∀ {kws : List Keyword} {ns : List Str} {es : List Expr}, kwOf kws = some (ns, es) → ns.length = es.length
  | [], ns, es, h => by cases h; rfl
  | ⟨some n, e, kp⟩ :: r, ns, es, h => by
    unfold kwOf at h
    split at h
    · rename_i hr
      cases h
      simp [kw_len hr]
    · cases h
  | ⟨none, e, kp⟩ :: r, ns, es, h => by cases h
theorem PEL.len : ∀ {es : List Expr} {cs : CEs}, PEL X C call W es cs → es.length = clen cs
  | [], .nil, _ => rfl
  | e :: es, .cons c cs, ⟨_, t⟩ => by simp [clen, PEL.len t]
  | [], .cons _ _, h => h.elim
  | _ :: _, .nil, h => h.elim
theorem pe_fnK (x : XOk X k C call W) {f : Nat} {pm : List Nat} {e : Expr} {l : List Expr} {cs : CEs} (h : fnKOf k f pm e = some l) (p : PEL X C call W l cs) : PE X e (tE C call W (.callK f pm cs)) := by
  obtain ⟨n, p1, kws, pos, ps, ns, rfl, hf, hk, h2, h3, h4, h5, hpl⟩ := fnKOf_ok h
  have hp := plainN_ok h3
  obtain ⟨ad, fd, m, e1, e2, e3, e4, e5, e6⟩ := x.fns _ _ _ hf
  rw [(x.lams hpl).1] at e3
  obtain ⟨g, gV, kb, kp⟩ := e6 ns pm h4
  obtain ⟨q1, q2, q3, q4⟩ := kwOf_ok (pos := pos) hk p
  refine (pe_callKS (E := WE W) e3 e4 x.gd (glB_ok x h2) e1 e2 kb (fun σ => L2N.passAt x.tk σ) q1 q2 q3 hp.1 (by rw [q4]; rfl)).imp fun σ H Q h => (tEs.mono (h.callK h5) fun xs H1 ⟨l1, ys, hy, sp⟩ => ?_)
  have hl : xs.length = ns.length := by rw [l1, kw_len hk, p.len]
  refine ⟨hl, ?_⟩
  have := kp xs hl
  rw [hy] at this; cases this
  exact sp
theorem methOf_ok {m n : Str} {e : Expr} {l : List Expr} (h : methOf m e = some (n, l)) : ∃ p ap cp, e = .Call (.Attribute (.Name n p) m ap) l [] cp ∧ (ap.endLine == cp.line) = true ∧ noStars l = true ∧ l.length < 20 := by
  unfold methOf at h
  split at h
  · split at h
    · rename_i hp
      simp only [Bool.and_eq_true, decide_eq_true_eq] at hp
      have h1 := hp.1
      subst h1
      cases h
      exact ⟨_, _, _, rfl, hp.2.1, hp.2.2.1, hp.2.2.2⟩
    · cases h
  · cases h
end
end PyC
end

section
set_option maxHeartbeats 200000
namespace PyC
open PySem PySem.Spec L2
section
variable {X : Cx} {k : Ck} {C : RK} {call : CallT} {W : WX}
theorem attr_pe (x : XOk X k C call W) {i j : Nat} {e : Expr} (h : attrB k i j e = true) : PE X e (tE C call W (.attr i j)) := by
  unfold attrB at h
  split at h
  · rename_i n p f pos
    simp only [Bool.and_eq_true, decide_eq_true_eq] at h
    obtain ⟨hh, hs, rfl⟩ := h
    obtain ⟨X0, a, oe, pn, eX, ea, hz, hf⟩ := x.hots hh
    have sv := slot_var (pos := p) x hs
    refine ⟨fun pins s σ H Q I h => ?_⟩
    obtain ⟨c, ns, dd, fs, m, v, h1, h2, h3, h4, h5, h6, q⟩ := h.attr
    obtain ⟨Ca, e1, T, ⟨hn, hno⟩, _⟩ := x.cls c _ _ h2
    obtain ⟨hm, mem⟩ := h5.two hn
    subst hm
    subst eX
    exact (pe_xf (cls := C.xc) (d := C.xd) T (hno _ mem) hz.zc hf sv).run pins s σ H Q I ⟨_, h1, by rw [ea], e1, dd, fs, v, h3, h4, h6, q⟩
  · cases h
/-- isinstance of the exception that the suite holds -/
def rExI (K : PySem.W.Frag) (a : Addr) (cls : Value) (d : Option Addr) : List V → Hp → VK → Prop := fun xs H Q => ∃ (c : V) (Ca : Addr) (b : Bool), xs = [.ref a, c] ∧ cls = .ref Ca ∧ XfC K Ca ∧ IsF K Ca ∧ (d = none ∨ ∃ dd fs, d = some dd ∧ H dd = some (.xd fs)) ∧
  ((∃ cv, ClsV c cv ∧ PySem.W.kitOne K cls cv = some b) ∨ ∃ tp cs us, c = .ref tp ∧ H tp = some (.tup cs) ∧ Paired ClsV cs us ∧ PySem.W.kitAny K cls us = some b) ∧ Q (.bl b) H
theorem call_exI {a : Addr} {cls : Value} {d : Option Addr} {oe : Obj} {pn : List (Addr × Obj)} (hz : L2N.Zn cls d oe) (hf : ∃ vs, oe.data = .fields vs) : CallR (X.suite a ((a, oe) :: pn)) (.builtin "isinstance") (rExI X.K a cls d) := by
  intro pins s σ H xs us Q I r h
  obtain ⟨c, Ca, b, rfl, rfl, T, F, hd, hc, q⟩ := h
  obtain ⟨u1, u2, rfl, r1, r2⟩ := vals2 r
  cases r1
  obtain ⟨hget, _⟩ := I.pin (a, oe) (List.mem_append.mpr (.inl List.mem_cons_self))
  obtain ⟨vs, hv⟩ := hf
  have J : ∃ od : Option Obj, PySem.W.InstAt s.heap a oe Ca od := by
    have no : PySem.W.notCls oe = true := by unfold PySem.W.notCls; rw [hv]
    rcases hd with rfl | ⟨dd, fs, rfl, hx⟩
    · exact ⟨none, hget, hz.1, no, by rw [hz.2.1]; trivial⟩
    · obtain ⟨mA, ⟨o, es, ep, ho, _⟩, _⟩ := (show ObjOk X.prog X.w H s.heap dd (.xd fs) from I.hok dd _ hx)
      exact ⟨some o, hget, hz.1, no, by rw [hz.2.1]; exact ho⟩
  obtain ⟨od, J⟩ := J
  have Z := PySem.W.kitx_exc (K := X.K) (x := a) (ox := oe) (od := od) F.hcl T.ga T.gg T.exC F.ha F.hn F.ht F.hm
  rcases hc with ⟨cv, kc, e⟩ | ⟨tp, cs, ws, rfl, hT, kc, e⟩
  · have e2 := kc.eq r2
    subst e2
    exact PySem.W.kia_one Z I.kIn J e (fun z => nomatch z) fun tk => ⟨.bl b, H, I.kept (t' := tk) fun _ _ z => z, rfl, q⟩
  · cases (show u2 = Value.ref tp from r2)
    obtain ⟨_, its, rv, o, h1, h2, n, h3⟩ := (show ObjOk X.prog X.w H s.heap tp (.tup cs) from I.hok tp _ hT)
    have e3 := ClsV.all kc rv
    subst e3
    obtain ⟨oc, od', dt, sl⟩ := o
    simp only at h2 h3
    subst h2 h3
    exact PySem.W.kia_tup Z I.kIn J h1 e (fun z => nomatch z) fun tk => ⟨.bl b, H, I.kept (t' := tk) fun _ _ z => z, rfl, q⟩
theorem exsOf_ok (x : XOk X k C call W) {e : Expr} {cs : List Nat} (h : exsOf k e = some cs) : ∃ cv v, PE X e (tC v) ∧ ClsV v cv ∧ noStar e = true ∧ ∀ c cls ns, C.ct c = some (cls, ns) → PySem.W.kitOne X.K cls cv = some (cs.contains c) := by
  unfold exsOf at h
  split at h
  · rename_i n p
    split at h
    · rename_i hp
      rw [Bool.and_eq_true] at hp
      obtain ⟨hp1, _, hp3⟩ := plainN_ok hp.2
      obtain ⟨cv, v, hm, kc, rv, hk⟩ := x.names _ _ h
      refine ⟨cv, v, ?_, kc, rfl, fun c cls ns e => (hk c cls ns e).2⟩
      rcases hm with hm | ⟨hm, hb, hn⟩
      · exact pe_glob (glB_ok x hp.1) hm rv hp1
      · exact pe_bltn (glB_ok x hp.1) hm hb rv hn hp1
    · cases h
  · cases h
theorem exsAll_ok (x : XOk X k C call W) : ∀ {es : List Expr} {cs : List Nat}, exsAll k es = some cs → ∃ us vs, PA X es (fun σ H Q => Q vs H) ∧ Paired ClsV vs us ∧ vs.length = es.length ∧ ∀ c cls ns, C.ct c = some (cls, ns) → PySem.W.kitAny X.K cls us = some (cs.contains c)
  | [], cs, h => by
    cases h
    exact ⟨[], [], pa_nil.imp fun σ H Q h => h, .nil, rfl, fun c cls ns _ => rfl⟩
  | e :: es, cs, h => by
    unfold exsAll at h
    split at h
    · rename_i a b h1 h2
      cases h
      obtain ⟨cv, v, p1, k1, n1, q1⟩ := exsOf_ok x h1
      obtain ⟨us, vs, p2, k2, l2, q2⟩ := exsAll_ok x h2
      refine ⟨cv :: us, v :: vs, (pa_cons p1 p2 (star_cons n1)).imp fun σ H Q h => h, .cons k1 k2, by simp [l2], fun c cls ns e => ?_⟩
      refine kitAny_cons (q1 c cls ns e) (fun hb => ?_) fun hb => ?_
      · rw [q2 c cls ns e]
        simp only [List.contains_eq_mem, List.mem_append, decide_eq_false_iff_not] at hb ⊢
        simp [hb]
      · simp only [List.contains_eq_mem, List.mem_append, decide_eq_true_eq] at hb ⊢
        exact .inl hb
    · cases h
theorem isE_pe (x : XOk X k C call W) {i : Nat} {cs : List Nat} {e : Expr} (h : isEB k i cs e = true) : PE X e (tE C call W (.isE i cs)) := by
  unfold isEB at h
  split at h
  · rename_i n p0 y py c pos
    simp only [Bool.and_eq_true, decide_eq_true_eq] at h
    obtain ⟨rfl, hh, hs, hb, hg, hst, hc⟩ := h
    have sv := slot_var (pos := py) x hs
    have hgl := glB_ok x hg
    have hmn := x.free _ (List.contains_iff_mem.mp hb)
    obtain ⟨X0, a, oe, pn, eX, ea, hz, hf⟩ := x.hots hh
    unfold exsE at hc
    split at hc
    · rename_i es kk pt
      rw [Bool.and_eq_true, decide_eq_true_eq, decide_eq_true_eq] at hc
      obtain ⟨us, vs, pA, kc, lv, hk⟩ := exsAll_ok x hc.1
      have xc := x.cls
      subst eX
      have hA := pa_cons sv (pa_cons (pe_tup (x1 := kk) (pos := pt) pA) pa_nil (star_cons rfl)) (star_cons (e := .Name y py) rfl)
      refine (pe_callB (call_exI hz hf) hgl hmn (by decide +kernel) hA (by decide) (by decide) (star_cons rfl) (star_any (by simp [noStars, noStar]))).imp fun σ H Q h => ?_
      obtain ⟨cc, ns, h1, h2, hd, q⟩ := h.isE
      obtain ⟨Ca, e1, T, _, F⟩ := xc cc _ _ h2
      refine ⟨_, h1, by rw [lv]; exact Nat.le_trans hc.2 (by decide), fun p hp => ⟨_, Ca, _, by rw [ea], e1, T, F, ?_, .inr ⟨p, vs, us, rfl, upd_same, kc, hk cc _ _ h2⟩, ?_⟩⟩
      · refine hd.imp id fun ⟨dd, fs, q1, q2⟩ => ⟨dd, fs, q1, ?_⟩
        rw [upd_ne (ne_of_none q2 hp)]; exact q2
      · exact q _ (keep_new hp)
    · rename_i hn
      rw [decide_eq_true_eq] at hc
      obtain ⟨cv, v, pC, kc, _, hk⟩ := exsOf_ok x hc
      have xc := x.cls
      subst eX
      have hA := pa_cons sv (pa_cons pC pa_nil (star_cons hst)) (star_cons (e := .Name y py) rfl)
      refine (pe_callB (call_exI hz hf) hgl hmn (by decide +kernel) hA (by decide) (by decide) (star_cons rfl) (star_any (by simp [noStars, hst]))).imp fun σ H Q h => ?_
      obtain ⟨cc, ns, h1, h2, hd, q⟩ := h.isE
      obtain ⟨Ca, e1, T, _, F⟩ := xc cc _ _ h2
      exact ⟨_, h1, _, Ca, _, by rw [ea], e1, T, F, hd, .inl ⟨cv, kc, hk cc _ _ h2⟩, q _ fun _ _ e => e⟩
  · cases h
end
end PyC
end

section
set_option maxHeartbeats 200000
namespace PyC
open PySem PySem.Spec L2
section
variable {X : Cx} {k : Ck} {C : RK} {call : CallT} {W : WX}
theorem noPsB_ok {a : Arguments} (h : noPsB a = true) : a = noPs := by
  unfold noPsB at h
  split at h
  · rfl
  · cases h
theorem namesAt_ok {N : List Str} : ∀ {js : List Nat} {fv : List Str}, namesAt N js = some fv → fv.length = js.length ∧ ∀ (i : Nat) (y : Str) (j : Nat), fv[i]? = some y → js[i]? = some j → N[j]? = some y
  | [], _, h => by cases h; exact ⟨rfl, fun i y j e => by simp at e⟩
  | j :: js, fv, h => by
    unfold namesAt at h
    split at h
    · rename_i y ys h1 h2
      cases h
      obtain ⟨l, q⟩ := namesAt_ok h2
      refine ⟨by simp [l], fun i z m e1 e2 => ?_⟩
      cases i with
      | zero => simp at e1 e2; subst e1 e2; exact h1
      | succ i => exact q i z m (by simpa using e1) (by simpa using e2)
    · cases h
theorem isCel_ok {o : Option NameKind} (h : isCel o = true) : o = some .cell := by
  unfold isCel at h
  split at h
  · rfl
  · cases h
theorem isFr_ok {o : NameKind} (h : isFr o = true) : o = .free := by
  unfold isFr at h
  split at h
  · rfl
  · cases h
theorem pe_lamC (x : XOk X k C call W) {f : Nat} {js : List Nat} {e : Expr} (h : lamB k f js e = true) : PE X e (tE C call W (.lam f js)) := by
  unfold lamB at h
  split at h
  · rename_i ps body sc pos
    rw [Bool.and_eq_true, Bool.and_eq_true] at h
    obtain ⟨hm, hps, h⟩ := h
    have e1 := noPsB_ok hps
    subst e1
    split at h
    case h_2 => cases h
    rename_i fv hfv
    simp only [Bool.and_eq_true] at h
    obtain ⟨h1, h2, h3, h4⟩ := h
    obtain ⟨c, P, hc, TB, hin, hu, hq, hcell, hfn⟩ := x.mks hm
    obtain ⟨hl, hat⟩ := namesAt_ok hfv
    have hN := x.N
    have kd : ∀ y ∈ fv, X.env.kindOf y = some .cell := fun y hy => by
      unfold Env.kindOf
      rw [x.sc]
      exact isCel_ok (List.all_eq_true.mp h1 y hy)
    have fr1 : ∀ y ∈ fv, (y, NameKind.free) ∈ sc.names := fun y hy => by
      have := List.all_eq_true.mp h2 y hy
      rw [List.any_eq_true] at this
      obtain ⟨⟨z, kz⟩, m, hz⟩ := this
      rw [Bool.and_eq_true] at hz
      have e2 := isFr_ok hz.2
      have e3 : z = y := by simpa using hz.1
      subst e3
      simp only at e2
      subst e2
      exact m
    have fr2 : ∀ z ∈ sc.names, z.2 = .free → z.1 ∈ fv := fun z hz e2 => by
      have := List.all_eq_true.mp h3 z hz
      rw [e2] at this
      simpa [isFr] using this
    have hL := x.lamk _ _ h4
    rw [← hq] at hL hin hu
    refine ⟨fun pins s σ H Q I t => ?_⟩
    have ok := I.ok
    have hfree : X.Ok → ∀ y ∈ sc.names, y.2 = .free → ∃ c, X.env.cells.lookup y.1 = some c := fun ok y hy e2 => ok.has _ (.inl (kd _ (fr2 y hy e2)))
    have cm : ∀ {y d}, (cloFrom X.env.cells sc.names []).lookup y = some d → X.env.cells.lookup y = some d ∧ y ∈ fv := fun {y d} z => by
      rcases cloFrom_mem (PySem.mem_of_lookup z) with m | ⟨m1, m2⟩
      · cases m
      · obtain ⟨d', hd⟩ := hfree ok _ m1 rfl
        have hd : X.env.cells.lookup y = some d' := hd
        rw [hd] at m2
        have : d = d' := m2
        exact ⟨by rw [this]; exact hd, fr2 _ m1 rfl⟩
    have look : ∀ {y}, y ∈ fv → ∃ d, (cloFrom X.env.cells sc.names []).lookup y = some d := fun {y} hy => mem_lookup (cloFrom_has (cells := X.env.cells) (acc := []) (fr1 y hy))
    have cb : ClB ⟨X.env.qual ++ "<lambda>", noPs, body, sc, fv⟩ (cloFrom X.env.cells sc.names []) js.length :=
      ⟨hl, fun y z d e1 e2 => ok.inj y z d (cm e1).1 (cm e2).1, fun y d e1 => (cm e1).2⟩
    refine (pe_lam (fv := fv) TB hc hin hu rfl hfree).run pins s σ H Q I (tE.lam t hL cb fun i y j e1 e2 => ?_)
    have e1 : fv[i]? = some y := e1
    have hy := List.mem_of_getElem? e1
    obtain ⟨d, hd⟩ := look hy
    refine ⟨d, hd, ?_⟩
    rw [hcell]
    unfold celOf
    rw [hN, hat i y j e1 e2]
    simp only [kd y hy, if_true]
    exact (cm hd).1
  · cases h
theorem pe_cv (x : XOk X k C call W) {i : Nat} {e : Expr} (h : cvB k i e = true) : PE X e (tE C call W (.callV i)) := by
  unfold cvB at h
  split at h
  · rw [Bool.and_eq_true] at h
    obtain ⟨_, n, hr, F⟩ := x.lams h.1
    exact (pe_callV F hr x.gd x.tk (slot_var x h.2)).imp fun σ H Q z => z.callV
  · cases h
/-- an in-out call in a frame that makes closures -/
theorem tE.callIOC {f i : Nat} {es : CEs} {σ : L2.St} {H : Hp} {Q : VK} (h : tE C call W (.callIOC f i es) σ H Q) : tVar i σ H fun x H0 => tEs C call W es σ H0 fun xs H1 => spF C.base call f (x :: xs) H1 Q F0 := by
  let g : List (Bool × PyData) → FOut := fun args => if args.all (fun v => noOp v.2) then (match call f args with
    | .ok fr p io => .ok fr p io
    | _ => .stuck) else .stuck
  have key := tE.callIO_ (C := C) (call := call) (W := W) (σ := σ) (H := H) (Q := Q) (f := f) (i := i) (es := es) (g := g) (ce := .callIOC f i es) rfl rfl rfl (by
    obtain ⟨ρ, S, R, k⟩ := h
    simp only [evE] at k
    refine ⟨ρ, S, R, ?_⟩
    by_cases hm : (!isMy ρ i) = true
    · rw [if_pos hm] at k; exact k.elim
    rw [if_neg hm] at k ⊢
    refine cong k ?_
    funext vs ρ1
    cases e1 : ρ1[i]? with
    | none => rfl
    | some sl =>
      cases sl with
      | my p =>
        cases p with
        | list xs =>
          dsimp only
          by_cases hme : meets (alL es) [i] = true
          · simp [hme]
          · simp only [hme, Bool.false_or, Bool.false_eq_true, if_false]
            have e2 : ((true, PyData.list xs) :: vs).all (fun v => noOp v.2) = (noOpL xs && vs.all fun v => noOp v.2) := by simp [noOp]
            simp only [g, e2]
            by_cases hn : (noOpL xs && vs.all fun v => noOp v.2) = true
            · rw [hn]
              simp only [Bool.not_true, Bool.false_eq_true, if_false, if_true]
              cases call f ((true, .list xs) :: vs) with
              | ok fr p io => cases io <;> rfl
              | _ => rfl
            · rw [Bool.not_eq_true] at hn
              rw [hn]
              rfl
        | _ => rfl
      | _ => rfl)
  obtain ⟨v, hv, t⟩ := key
  refine ⟨v, hv, tEs.mono t fun xs H1 ⟨S, args, dm, al, one, ns, tb, k⟩ => ?_⟩
  simp only [g] at k
  by_cases hn : args.all (fun v => noOp v.2) = true
  · rw [if_pos hn] at k
    refine ⟨S, args, dm, ArgL.cell (K := C.fr) (K' := C.fr.base) rfl rfl hn al, one, ns, tb, ?_⟩
    cases e : call f args with
    | ok fr p io =>
      rw [e] at k
      simp only at k ⊢
      intro x H' T l tb' r io'
      refine k x H' T l tb' (RetV.cell (K := C.fr.base) (K' := C.fr) rfl rfl (fun _ _ z => by cases z) r) ?_
      unfold IoR at io' ⊢
      split
      · trivial
      · obtain ⟨t, h1, h2, h3⟩ := io'
        exact ⟨t, h1, Root.cell (K := C.fr.base) (K' := C.fr) (m := false) rfl rfl (fun _ _ _ z => by cases z) (fun z => by cases z) h2, h3⟩
    | stuck => rw [e] at k; exact k.elim
    | exc c ps => rw [e] at k; exact k.elim
  · rw [if_neg hn] at k
    exact k.elim
where
  cong {α β : Type} {o : Out α} {f g : α → Rho → Out β} {P : β → Rho → Prop} {E : Nat → List PyData → Rho → Prop} (h : Res (o.bind f) P E) (e : f = g) : Res (o.bind g) P E := e ▸ h
theorem pe_fnIO (x : XOk X k C call W) {f i : Nat} {n : Str} {pos : Pos} {e : Expr} {es : CEs} {l : List Expr} (h : fnOfC k f e = some (.Name n pos :: l)) (hn : slotB k i n = true) (p : PEL X C call W l es) (hs : noStars l = true) : PE X e (tE C call W (.callIOC f i es)) :=
  (pe_fnC x h (pa_cons (slot_var x hn) (p.pa hs) rfl)).imp fun σ H Q z => (let ⟨v, hv, t⟩ := z.callIOC; ⟨v, hv, tEs.mono t fun xs H1 q => .inl q⟩)
end
end PyC
end

section
set_option maxHeartbeats 200000
namespace PyC
open PySem PySem.Spec L2
section
variable {X : Cx} {k : Ck} {C : RK} {call : CallT} {W : WX}
theorem noXE {P : Program} {w : World} {o : List Env} {H : Hp} {s : Shared} {e : Value} {s' : Shared} (h : L2N.CX P w o H s (fun _ _ _ => False) e s') : False := by
  obtain ⟨_, _, _, _, _, _, _, _, _, _, _, _, z⟩ := h
  exact z
theorem mkE_pe (x : XOk X k C call W) {c : Nat} {e : Expr} {l : List Expr} {cs : CEs} (h : mkOf k c (clen cs) e = some l) (p : PEL X C call W l cs) : PE X e (tE C call W (.mkE c cs)) := by
  unfold mkOf at h
  split at h
  · rename_i y p1 a pos
    split at h
    case isFalse => cases h
    rename_i hp
    cases h
    simp only [Bool.and_eq_true, decide_eq_true_eq] at hp
    obtain ⟨h1, h2, h3, h4, h5, h6⟩ := hp
    obtain ⟨Ca, fI, fdI, q1, q2, q3, q4, q5, q6, q7, q8, q9, _⟩ := x.raises _ _ h3
    match cs, p, h1 with
    | .cons c1 .nil, p, _ =>
      have ns : noStars [a] = true := by simp [noStars, h6]
      refine (pe_exv q3 q5 q6 q7 (q9 h2) q8 (fun _ _ _ _ _ _ _ z => (noXE z).elim) (glB_ok x h4) q1 (p.pa ns) (plainN_ok h5).1 (star_cons h6) (star_any (es := []) rfl)).imp fun σ H Q z => ?_
      have z2 := z.mkE1 q2 (x.fr ▸ q3) (x.fr ▸ q4)
      unfold tMkV at z2 ⊢
      rw [x.fr]
      exact z2.mono fun vs H1 ⟨_, w⟩ => w
    | .nil, _, z => cases z
    | .cons _ (.cons _ es), _, z => simp [clen] at z
  · rename_i y p1 pos
    split at h
    case isFalse => cases h
    rename_i hp
    cases h
    simp only [Bool.and_eq_true, decide_eq_true_eq] at hp
    obtain ⟨h1, h2, h3, h4⟩ := hp
    obtain ⟨Ca, q1, q2, q3⟩ := x.raiseM _ _ _ h2
    match cs, h1 with
    | .nil, _ =>
      rcases q2 with ⟨_, hct, g1, g2, g3, Bn, nI, iI, bmB, g4, g5⟩ | ⟨hn, _⟩
      · exact (pe_exv0 g4 g5 q1 g3 (glB_ok x h3) (plainN_ok h4).1).imp fun σ H Q z a ha => z.mkE0 hct a ha
      · cases hn
    | .cons _ es, z => simp [clen] at z
  · rename_i y p1 kws pos _
    split at h
    case h_2 => cases h
    rename_i ns es hk
    split at h
    case isFalse => cases h
    rename_i hp
    cases h
    simp only [Bool.and_eq_true, decide_eq_true_eq] at hp
    obtain ⟨h1, h2, h3, h4, h5, rfl⟩ := hp
    obtain ⟨Ca, fI, fdI, q1, q2, q3, q4, q5, q6, q7, q8, q9, q10⟩ := x.raises _ _ h3
    match cs, p, h1 with
    | .cons c1 .nil, p, _ =>
      obtain ⟨k1, k2, k3, k4⟩ := kwOf_ok (pos := pos) hk p
      refine (pe_exvK q3 q5 q6 q7 (q9 h2) q10 (fun _ _ _ _ _ _ _ z => (noXE z).elim) (glB_ok x h4) q1 k1 k2 k3 (plainN_ok h5).1 (by rw [k4]; rfl)).imp fun σ H Q z => ?_
      rw [x.fr]
      exact z.mkE1 q2 (x.fr ▸ q3) (x.fr ▸ q4)
    | .nil, _, z => cases z
    | .cons _ (.cons _ es), _, z => simp [clen] at z
  · cases h
/-- isinstance of an exception -/
def rExV (K : PySem.W.Frag) : List V → Hp → VK → Prop := fun xs H Q => ∃ (a : Addr) (c : V) (Ca : Addr) (d : Option Addr) (b : Bool), xs = [.ref a, c] ∧ XfC K Ca ∧ IsF K Ca ∧ H a = some (exo a Ca d) ∧ (d = none ∨ ∃ dx fs, d = some dx ∧ H dx = some (exd dx fs)) ∧
  ((∃ cv, ClsV c cv ∧ PySem.W.kitOne K (.ref Ca) cv = some b) ∨ ∃ tp cs us, c = .ref tp ∧ H tp = some (.tup cs) ∧ Paired ClsV cs us ∧ PySem.W.kitAny K (.ref Ca) us = some b) ∧ Q (.bl b) H
theorem call_exV : CallR X (.builtin "isinstance") (rExV X.K) := by
  intro pins s σ H xs us Q I r h
  obtain ⟨a, c, Ca, d, b, rfl, T, F, ea, hd, hc, q⟩ := h
  obtain ⟨u1, u2, rfl, r1, r2⟩ := vals2 r
  cases r1
  obtain ⟨ox, od, J⟩ := exo_inst I ea hd
  have Z := PySem.W.kitx_exc (K := X.K) (x := a) (ox := ox) (od := od) F.hcl T.ga T.gg T.exC F.ha F.hn F.ht F.hm
  rcases hc with ⟨cv, kc, e⟩ | ⟨tp, cs, ws, rfl, hT, kc, e⟩
  · have e2 := kc.eq r2
    subst e2
    exact PySem.W.kia_one Z I.kIn J e (fun z => nomatch z) fun tk => ⟨.bl b, H, I.kept (t' := tk) fun _ _ z => z, rfl, q⟩
  · cases (show u2 = Value.ref tp from r2)
    obtain ⟨_, its, rv, o, h1, h2, n, h3⟩ := (show ObjOk X.prog X.w H s.heap tp (.tup cs) from I.hok tp _ hT)
    have e3 := ClsV.all kc rv
    subst e3
    obtain ⟨oc, od', dt, sl⟩ := o
    simp only at h2 h3
    subst h2 h3
    exact PySem.W.kia_tup Z I.kIn J h1 e (fun z => nomatch z) fun tk => ⟨.bl b, H, I.kept (t' := tk) fun _ _ z => z, rfl, q⟩
theorem isX_pe (x : XOk X k C call W) {a : CE} {cs : List Nat} {e y : Expr} (h : isXOf k cs e = some y) (hy : PE X y (tE C call W a)) : PE X e (tE C call W (.isX a cs)) := by
  unfold isXOf at h
  split at h
  case h_2 => cases h
  rename_i n p0 y' c pos
  split at h
  case isFalse => cases h
  rename_i hp
  cases h
  simp only [Bool.and_eq_true, decide_eq_true_eq] at hp
  obtain ⟨rfl, hb, hg, hst, hsc, hc⟩ := hp
  have hgl := glB_ok x hg
  have hmn := x.free _ (List.contains_iff_mem.mp hb)
  have xc := x.cls
  unfold exsE at hc
  split at hc
  · rename_i es kk pt
    rw [Bool.and_eq_true, decide_eq_true_eq, decide_eq_true_eq] at hc
    obtain ⟨us, vs, pA, kc, lv, hk⟩ := exsAll_ok x hc.1
    have hA := pa_cons hy (pa_cons (pe_tup (x1 := kk) (pos := pt) pA) pa_nil (star_cons rfl)) (star_cons hst)
    refine (pe_callB call_exV hgl hmn (by decide +kernel) hA (by decide) (by decide) (star_cons hst) (star_any (by simp [noStars, noStar]))).imp fun σ H Q h => ?_
    refine h.isX.mono fun v H1 ⟨cc, ns, ad, Ca, d, e1, e2, e3, e4, q⟩ => ?_
    obtain ⟨Cb, e5, T, _, F⟩ := xc cc _ _ e2
    cases e5
    refine ⟨by rw [lv]; exact Nat.le_trans hc.2 (by decide), fun p hp => ⟨ad, _, Ca, d, _, by rw [e1], T, F, ?_, ?_, .inr ⟨p, vs, us, rfl, upd_same, kc, hk cc _ _ e2⟩, q _ (keep_new hp)⟩⟩
    · rw [upd_ne (ne_of_none e3 hp)]; exact e3
    · refine e4.imp id fun ⟨dx, fs, q1, q2⟩ => ⟨dx, fs, q1, ?_⟩
      rw [upd_ne (ne_of_none q2 hp)]; exact q2
  · rename_i hn
    rw [decide_eq_true_eq] at hc
    obtain ⟨cv, v, pC, kc, _, hk⟩ := exsOf_ok x hc
    have hA := pa_cons hy (pa_cons pC pa_nil (star_cons hsc)) (star_cons hst)
    refine (pe_callB call_exV hgl hmn (by decide +kernel) hA (by decide) (by decide) (star_cons hst) (star_any (by simp [noStars, hsc]))).imp fun σ H Q h => ?_
    refine h.isX.mono fun u H1 ⟨cc, ns, ad, Ca, d, e1, e2, e3, e4, q⟩ => ?_
    obtain ⟨Cb, e5, T, _, F⟩ := xc cc _ _ e2
    cases e5
    exact ⟨ad, v, Ca, d, _, by rw [e1], T, F, e3, e4, .inl ⟨cv, kc, hk cc _ _ e2⟩, q _ fun _ _ e => e⟩
theorem atX_pe (x : XOk X k C call W) {a : CE} {j : Nat} {e y : Expr} (h : atOf j e = some y) (hy : PE X y (tE C call W a)) : PE X e (tE C call W (.atX a j)) := by
  unfold atOf at h
  split at h
  case h_2 => cases h
  rename_i n p f pos
  split at h
  case isFalse => cases h
  rename_i hf
  cases h
  subst hf
  refine (pe_exf hy).imp fun σ H Q h => ?_
  refine h.atX.mono fun v H1 ⟨cc, ns, ad, Ca, dx, fs, n, u, e1, e2, e3, e4, e5, e6, q⟩ => ?_
  obtain ⟨Cb, e7, T, ⟨hn, hno⟩, _⟩ := x.cls cc _ _ e2
  cases e7
  obtain ⟨hm, mem⟩ := e5.two hn
  subst hm
  exact ⟨ad, Ca, dx, fs, u, e1, T, hno _ mem, e3, e4, e6, q⟩
end
end PyC
end

section
set_option maxHeartbeats 200000
namespace PyC
open PySem PySem.Spec L2
def WF0 : WX := fun _ _ _ _ => False
section
variable {X : Cx} {k : Ck} {C : RK} {call : CallT} {W : WX}
theorem star_all {env : Env} : ∀ {es : List Expr} {pos : Pos}, noStars es = true → (backTo pos (starEach es env)).all (fun x => !x.1) = true
  | [], _, _ => rfl
  | e :: es, pos, h => by
    unfold noStars at h
    rw [List.all_cons, Bool.and_eq_true] at h
    rw [star_cons h.1]
    exact star_all (es := es) (pos := pos) h.2
/-- x.m(a) -/
theorem pe_meth1 (x : XOk X k C call W) {n m : Str} {id : String} {a : Expr} {p ap cp : Pos} {i : Nat} {r : V → List V → Hp → VK → Prop} {t : TE} (slot : PySem.Slot "list" m id) (hty : typeOf (.builtin id) = pure (.type "method_descriptor")) (hm : MtR X id r) (hn : slotB k i n = true) (ha : PE X a t) (hs : noStars [a] = true) (hl : (ap.endLine == cp.line) = true) :
    PE X (.Call (.Attribute (.Name n p) m ap) [a] [] cp) (tBM C.fr.fr "list" r (tVar i) (t1 t)) := by
  have hs1 : noStar a = true := by simpa [noStars] using hs
  have hA : PA X [a] (t1 t) := (pa_cons ha pa_nil (star_cons hs1)).imp fun σ H Q h => h
  rw [← x.fr]
  exact pe_bm PySem.F.plainAttrs_list slot hty hm (slot_var x hn) hA rfl (by rw [star_all hs]; rfl) hl (star_cons hs1) rfl
theorem pe_meth0 (x : XOk X k C call W) {n m : Str} {id : String} {p ap cp : Pos} {i : Nat} {r : V → List V → Hp → VK → Prop} (slot : PySem.Slot "list" m id) (hty : typeOf (.builtin id) = pure (.type "method_descriptor")) (hm : MtR X id r) (hn : slotB k i n = true) (hl : (ap.endLine == cp.line) = true) :
    PE X (.Call (.Attribute (.Name n p) m ap) [] [] cp) (tBM0 C.fr.fr "list" r (tVar i)) := by
  rw [← x.fr]
  exact pe_bm0 PySem.F.plainAttrs_list slot hty hm (slot_var x hn) rfl hl
theorem takes_no : L2N.Takes X WF0 := fun _ _ z => by
  obtain ⟨_, _, _, _, _, _, _, _, _, _, _, _, _, _, _, _, z⟩ := z
  exact z.elim
/-- a block's context -/
theorem XOk.blk (x : XOk X k C call W) {s : Shared} {H : Hp} {scope : Scope} {cl : List (Str × Addr)} {c : Addr} {fp : List Addr} (hk : scope.kind = .function) : XOk (X.blk s H scope (compEnvC scope cl c X.env) fp) (k.blk scope) C call WF0 := by
  refine ⟨x.N, x.nd, ?_, hk, rfl, x.calm, x.un, x.gd, x.fr, x.free, x.ct, x.fns, takes_no, x.raises, x.names, x.cls, (fun z => by cases z), x.lams, (fun z => by cases z), x.lamk, x.sm, x.raiseM⟩
  show relS scope X.env.scope = relS scope k.sc
  rw [x.sc]
theorem notSet_ok {e : Expr} (h : notSet e = true) {env : Env} : ∀ v, foldedSetIterable e env v = pure v := by
  intro v
  cases e <;> first | rfl | (simp [notSet] at h)
theorem rngOf_ok {n : Str} {e : Expr} {l : List Expr} (h : itOf k n e = some l) : ∃ p pos, e = .Call (.Name n p) l [] pos ∧ n ∈ k.bl ∧ glB k n = true ∧ noStars l = true := by
  unfold itOf at h
  split at h
  · split at h
    · rename_i hp
      simp only [Bool.and_eq_true, decide_eq_true_eq] at hp
      have h1 := hp.1
      subst h1
      cases h
      exact ⟨_, _, rfl, List.contains_iff_mem.mp hp.2.1, hp.2.2.1, hp.2.2.2.2⟩
    · cases h
  · cases h
theorem asg_find {env : Env} : ∀ {es : List Expr}, noStars es = true → (assignEach es env).findIdx? (·.1) = none ∧ (assignEach es env).length = es.length
  | [], _ => ⟨rfl, rfl⟩
  | e :: es, h => by
    unfold noStars at h
    rw [List.all_cons, Bool.and_eq_true] at h
    have e1 : assignEach (e :: es) env = (false, assign e env) :: assignEach es env := by
      cases e <;> first | rfl | (simp [noStar] at h)
    obtain ⟨i1, i2⟩ := asg_find (env := env) (es := es) h.2
    rw [e1]
    refine ⟨?_, by simp [i2]⟩
    rw [List.findIdx?_cons]
    simp [i1]
theorem asg_map {env : Env} {e : Expr} {es : List Expr} (h : noStar e = true) : (assignEach (e :: es) env).map (·.2) = assign e env :: (assignEach es env).map (·.2) := by
  cases e <;> first | rfl | (simp [noStar] at h)
theorem okTgs_len : ∀ {ts : Tgs} {k : Ck} {l : List Expr}, okTgs ts k l = true → l.length = tlen ts
  | .nil, _, [], _ => rfl
  | .cons t ts, k, e :: es, h => by
    simp only [okTgs, Bool.and_eq_true] at h
    simp [tlen, okTgs_len h.2]
  | .nil, _, _ :: _, h => by simp [okTgs] at h
  | .cons _ _, _, [], h => by simp [okTgs] at h
/-- shapes whose truth is that of their value -/
def valS : Expr → Bool
  | .UnaryOp .Not _ _ => false
  | .BoolOp _ _ _ => false
  | .IfExp _ _ _ _ => false
  | .Compare _ _ _ _ => false
  | _ => true
theorem pt_valS {e : Expr} {t : TE} (h : PE X e t) (v : valS e = true) : PT X e (tB t) := by
  refine pt_val h fun whole => ?_
  cases e with
  | UnaryOp o a pos => cases o <;> first | rfl | (simp [valS] at v)
  | BoolOp _ _ _ => simp [valS] at v
  | IfExp _ _ _ _ => simp [valS] at v
  | Compare _ _ _ _ => simp [valS] at v
  | _ => rfl
theorem pt_cmp2 {o : CmpOp} {op : Op} {r : R2} {e : Expr} {l : List Expr} {cs : CEs} (h : cmpOf o e = some l) (p : PEL X C call W l cs) (ho : OpR X (compareOp o) r) (hv : OpV C.fr op (two r)) : PT X e (tB (tE C call W (.op op cs))) := by
  obtain ⟨a, b, pos, rfl, hm, rfl⟩ := cmpOf_ok h
  obtain ⟨c, d, rfl, h1, h2⟩ := p.two_
  exact (pt_cmpR ho h1 h2 hm).imp fun σ H Q h => tE.op2 h hv
theorem pt_cmpK {o : CmpOp} {q : Const} {u : V} {op : Op} {r : R2} {r1 : V → Hp → VK → Prop} {e : Expr} {l : List Expr} {cs : CEs} (h : cmpC o q e = some l) (p : PEL X C call W l cs) (ho : OpR X (compareOp o) r) (hq : ∀ j pos, PE X (.Constant q j pos) (tC u)) (hv : OpV C.fr op (one r1))
    (hr : ∀ x H Q, r1 x H Q → r x u H Q) : PT X e (tB (tE C call W (.op op cs))) := by
  obtain ⟨a, j, p1, pos, rfl, rfl⟩ := cmpC_ok h
  obtain ⟨c, rfl, h1⟩ := p.one_
  exact (pt_cmpR ho h1 (hq j p1) rfl).imp fun σ H Q h => tE.mono (tE.op1 h hv) fun x H1 z => hr x H1 _ z
theorem bin_val {o : Operator} {e : Expr} {l : List Expr} (h : binOf o e = some l) : valS e = true := by
  obtain ⟨a, b, pos, rfl, _⟩ := binOf_ok h; rfl
theorem call_val {n : Str} {e : Expr} {l : List Expr} (h : callOf k n e = some l) : valS e = true := by
  obtain ⟨_, _, _, _, rfl, _⟩ := callOf_ok h; rfl
theorem sub_val {lo hi : Bool} {e : Expr} {l : List Expr} (h : slOf lo hi e = some l) : valS e = true := by
  unfold slOf at h
  split at h <;> first | rfl | cases h
theorem opT_sound (x : XOk X k C call W) {o : Op} {e : Expr} {l : List Expr} {cs : CEs} (h : opParts k o e = some l) (p : PEL X C call W l cs) : PT X e (tB (tE C call W (.op o cs))) := by
  have hu1 : X.A.units + 64 < cLine := by have := x.un; omega
  have hu2 : X.A.units + 65 < cLine := by have := x.un; omega
  have v := op_sound x h p
  cases o with
  | eq => exact pt_cmp2 h p (op_eqD hu1) (x.fr ▸ ov_eq)
  | ne => exact pt_cmp2 h p (op_neD hu1) (x.fr ▸ ov_ne)
  | lt => exact pt_cmp2 h p op_lt ov_lt
  | le => exact pt_cmp2 h p op_le ov_le
  | gt => exact pt_cmp2 h p op_gt ov_gt
  | ge => exact pt_cmp2 h p op_ge ov_ge
  | inn => exact pt_cmp2 h p (op_inA hu2) (x.fr ▸ ov_inA rfl)
  | nin => exact pt_cmp2 h p (op_notInA hu2) (x.fr ▸ ov_inA rfl)
  | isN => exact pt_cmpK h p op_isN (fun j pos => pe_non) ov_isN fun x H Q z => ⟨rfl, z⟩
  | isNotN => exact pt_cmpK h p op_notN (fun j pos => pe_non) ov_notN fun x H Q z => ⟨rfl, z⟩
  | isB b => exact pt_cmpK h p op_isBl (fun j pos => pe_bl) ov_isB fun x H Q z => z
  | isNotB b => exact pt_cmpK h p op_notBl (fun j pos => pe_bl) ov_isNotB fun x H Q z => z
  | add => exact pt_valS v (bin_val h)
  | sub => exact pt_valS v (bin_val h)
  | mul => exact pt_valS v (bin_val h)
  | fdiv => exact pt_valS v (bin_val h)
  | mod => exact pt_valS v (bin_val h)
  | pow => exact pt_valS v (bin_val h)
  | neg =>
    refine pt_valS v ?_
    simp only [opParts, unOf] at h
    split at h <;> first | rfl | cases h
  | idx =>
    refine pt_valS v ?_
    simp only [opParts, ixOf] at h
    split at h <;> first | rfl | cases h
  | slLo => exact pt_valS v (sub_val h)
  | slHi => exact pt_valS v (sub_val h)
  | slRev =>
    refine pt_valS v ?_
    simp only [opParts, revOf] at h
    split at h <;> first | rfl | cases h
  | listR =>
    obtain ⟨_, _, _, he⟩ := rg_call h
    exact pt_valS v (by rw [he]; rfl)
  | isI ts =>
    obtain ⟨_, _, _, _, he⟩ := isI_pe x h p
    exact pt_valS v (by rw [he]; rfl)
  | index => cases h
  | sortedSet => cases h
  | lenSet =>
    obtain ⟨_, _, _, he⟩ := ls_call h
    exact pt_valS v (by rw [he]; rfl)
  | count => cases h
  | din =>
    obtain ⟨a, b, pos, rfl, hm, rfl⟩ := cmpOf_ok h
    obtain ⟨c, d, rfl, h1, h2⟩ := p.two_
    exact (pt_cmp (pc_din (by omega) h1 h2) hm).imp fun σ H Q h => tE.mono (tE.op2 h (ov_din rfl)) fun y H1 z => tE.mono z fun x H2 ⟨a, o, e, g, q⟩ => ⟨a, o, e, g, by simpa using q⟩
  | dnin =>
    obtain ⟨a, b, pos, rfl, hm, rfl⟩ := cmpOf_ok h
    obtain ⟨c, d, rfl, h1, h2⟩ := p.two_
    exact (pt_cmp (pc_dnotin (by omega) h1 h2) hm).imp fun σ H Q h => tE.mono (tE.op2 h (ov_din rfl)) fun y H1 z => tE.mono z fun x H2 ⟨a, o, e, g, q⟩ => ⟨a, o, e, g, by simpa using q⟩
  | didx =>
    refine pt_valS v ?_
    simp only [opParts, ixOf] at h
    split at h <;> first | rfl | cases h
  | dget => cases h
  | tupR =>
    obtain ⟨_, _, _, he⟩ := rg_call h
    exact pt_valS v (by rw [he]; rfl)
  | sum => exact pt_valS v (call_val (callC_ok h).2)
  | max1 => exact pt_valS v (call_val (callC_ok h).2)
  | min1 => exact pt_valS v (call_val (callC_ok h).2)
  | max2 => exact pt_valS v (call_val (callC_ok h).2)
  | min2 => exact pt_valS v (call_val (callC_ok h).2)
  | all => exact pt_valS v (call_val (callC_ok h).2)
  | any => exact pt_valS v (call_val (callC_ok h).2)
  | _ => exact pt_valS v (call_val h)
theorem okE_comp {c : CE} {tg : Tg} {it : IT} {ifs : CEs} {own : List Nat} {k : Ck} {ex : Expr} (h : okE (.comp c tg it ifs own) k ex = true) : ∃ elt t i fs scope pos, ex = .ListComp elt [⟨t, i, fs, 0⟩] scope pos ∧
    (k.cm && (blkC k.N k.sc scope (ownP k own) && (decide ((ownP k own).map (·.2) = own) && (plainT tg && ((tgs tg).all own.contains && (notSet i && (okTg tg (k.blk scope) t && (okIT it k t i && (okIfs ifs (k.blk scope) fs && okE c (k.blk scope) elt))))))))) = true := by
  unfold okE at h
  split at h
  · exact ⟨_, _, _, _, _, _, rfl, h⟩
  · cases h
theorem asg_sub {o i : Expr} {pos : Pos} {env : Env} (h : plainB i = true) (v : Value) : assign (.Subscript o i pos) env v = (do
    let ov ← holding [v] (eval o env)
    let iv ← holding [v, ov] (eval i env)
    standAt pos
    holding [v, ov, iv] (setItem ov iv v)
    release [v, ov, iv] []) := by
  cases i <;> first | rfl | (simp [plainB] at h)
theorem pw_bool {o : BoolOp} {l : List Expr} {pos : Pos} {t : TT} (h : PT X (.BoolOp o l pos) t) : PW X (.BoolOp o l pos) t := ⟨fun whole pins s σ H Q I q => h.run pins s σ H Q I q⟩
theorem rest_pwA {b : Expr} {r : List Expr} {pos : Pos} {t : TT} (h : PT X (restB .And b r pos) t) : PW X (.BoolOp .And (b :: r) pos) t := by
  cases r with
  | nil => exact pw_and1 h
  | cons c r => exact pw_bool h
theorem rest_pwO {b : Expr} {r : List Expr} {pos : Pos} {t : TT} (h : PT X (restB .Or b r pos) t) : PW X (.BoolOp .Or (b :: r) pos) t := by
  cases r with
  | nil => exact pw_or1 h
  | cons c r => exact pw_bool h
end
mutual
theorem okE_ok : ∀ (c : CE) {k : Ck} {X : Cx} {C : RK} {call : CallT} {W : WX} {e : Expr}, okE c k e = true → XOk X k C call W → PE X e (tE C call W c)
  | .var i, k, X, C, call, W, e, h, x => by
    unfold okE at h
    split at h
    · rename_i n hn
      obtain ⟨pos, rfl⟩ := nameOf_ok hn
      exact (slot_var x h).imp fun σ H Q z => z.var
    · cases h
  | .cst p, k, X, C, call, W, e, h, x => by
    unfold okE at h
    obtain ⟨v, h1, h2⟩ := cst_ok x h
    exact h1.imp fun σ H Q z => z.cst h2
  | .tup es, k, X, C, call, W, e, h, x => by
    unfold okE at h
    split at h
    · rename_i l hl
      rw [Bool.and_eq_true, decide_eq_true_eq] at h
      obtain ⟨j, pos, rfl, hn⟩ := tupOf_ok hl
      exact (pe_tup ((okEs_ok es h.2 x).pa hn)).imp fun σ H Q z => z.tup h.1
    · cases h
  | .lst es, k, X, C, call, W, e, h, x => by
    unfold okE at h
    split at h
    · rename_i l hl
      rw [Bool.and_eq_true, decide_eq_true_eq] at h
      obtain ⟨pos, rfl, hn⟩ := lstOf_ok hl
      exact (pe_lst ((okEs_ok es h.2 x).pa hn)).imp fun σ H Q z => z.lst h.1
    · cases h
  | .op o es, k, X, C, call, W, e, h, x => by
    unfold okE at h
    split at h
    · rename_i l hl
      exact op_sound x hl (okEs_ok es h x)
    · cases h
  | .andE a b, k, X, C, call, W, e, h, x => by
    unfold okE at h
    split at h
    · rename_i u v r pos hb
      rw [Bool.and_eq_true] at h
      rw [boolOf_ok hb]
      exact (pe_and (okE_ok a h.1 x) (rest_pe (okE_ok b h.2 x))).imp fun σ H Q z => z.and
    · cases h
  | .orE a b, k, X, C, call, W, e, h, x => by
    unfold okE at h
    split at h
    · rename_i u v r pos hb
      rw [Bool.and_eq_true] at h
      rw [boolOf_ok hb]
      exact (pe_or (okE_ok a h.1 x) (rest_pe (okE_ok b h.2 x))).imp fun σ H Q z => z.or
    · cases h
  | .notE a, k, X, C, call, W, e, h, x => by
    unfold okE at h
    split at h
    · rename_i u hu
      obtain ⟨pos, rfl⟩ := notOf_ok hu
      exact (pe_not (okE_ok a h x)).imp fun σ H Q z => z.not
    · cases h
  | .ifE c a b, k, X, C, call, W, e, h, x => by
    unfold okE at h
    split at h
    · rename_i u v w hu
      rw [Bool.and_eq_true, Bool.and_eq_true] at h
      obtain ⟨pos, rfl⟩ := ifOf_ok hu
      exact (pe_ifExp (okT_ok c h.1 x) (okE_ok a h.2.1 x) (okE_ok b h.2.2 x)).imp fun σ H Q z => z.ite
    · cases h
  | .chn o p a b c, k, X, C, call, W, e, h, x => by
    unfold okE at h
    split at h
    · rename_i o' p' h1 h2
      split at h
      · rename_i u v w hu
        rw [Bool.and_eq_true, Bool.and_eq_true] at h
        obtain ⟨pos, rfl, hm⟩ := chnOf_ok hu
        obtain ⟨r, q1, q2⟩ := cmpW_ok x h1
        obtain ⟨r', q3, q4⟩ := cmpW_ok x h2
        exact (pe_chain q1 q3 (okE_ok a h.1 x) (okE_ok b h.2.1 x) (okE_ok c h.2.2 x) hm).imp fun σ H Q z => z.chain q2 q4
      · cases h
    · cases h
  | .call f es, k, X, C, call, W, e, h, x => by
    unfold okE at h
    split at h
    · rename_i l hl
      obtain ⟨_, _, _, _, _, _, _, _, _, _, hs, e2⟩ := fnOf_ok hl
      rw [← e2] at hs
      exact (pe_fn x hl ((okEs_ok es h x).pa hs)).imp fun σ H Q z => z.call_
    · cases h
  | .callK f pm es, k, X, C, call, W, e, h, x => by
    unfold okE at h
    split at h
    · rename_i l hl
      exact pe_fnK x hl (okEs_ok es h x)
    · cases h
  | .callIO f i es, k, X, C, call, W, e, h, x => by
    unfold okE at h
    split at h
    · rename_i u l hl
      rw [Bool.and_eq_true] at h
      obtain ⟨hn, h2⟩ := h
      split at hn
      · rename_i n hu
        obtain ⟨pos, rfl⟩ := nameOf_ok hu
        obtain ⟨_, _, _, _, _, _, _, _, _, _, hs, e2⟩ := fnOf_ok hl
        rw [← e2] at hs
        have hs2 : noStars l = true := by unfold noStars at hs ⊢; rw [List.all_cons, Bool.and_eq_true] at hs; exact hs.2
        exact (pe_fn x hl (pa_cons (slot_var x hn) ((okEs_ok es h2 x).pa hs2) rfl)).imp fun σ H Q z => z.callIO
      · cases hn
    · cases h
  | .pop i, k, X, C, call, W, e, h, x => by
    unfold okE at h
    split at h
    · rename_i n hu
      obtain ⟨p, ap, cp, rfl, hl, _⟩ := methOf_ok hu
      exact (pe_meth0 x PySem.F.slot_list_pop PySem.F.type_list_pop mt_pop h hl).imp fun σ H Q z => z.pop
    · cases h
  | .popAt i j, k, X, C, call, W, e, h, x => by
    unfold okE at h
    split at h
    · rename_i n a hu
      rw [Bool.and_eq_true] at h
      obtain ⟨p, ap, cp, rfl, hl, hs, _⟩ := methOf_ok hu
      exact (pe_meth1 x PySem.F.slot_list_pop PySem.F.type_list_pop mt_popAt h.1 (okE_ok j h.2 x) hs hl).imp fun σ H Q z => z.popAt
    · cases h
  | .comp c tg it ifs own, k, X, C, call, W, ex, h, x => by
    unfold okE at h
    split at h
    · rename_i elt t i fs scope pos
      simp only [Bool.and_eq_true, decide_eq_true_eq] at h
      obtain ⟨hcm, h1, h2, h3, h4, h5, h6, h7, h8, h9⟩ := h
      have bk : BlkOk X.N X.env.scope scope (ownP k own) := by
        rw [x.N, x.sc]; exact blkOk_by h1
      have hk : scope.kind = .function := bk.kind
      obtain ⟨wi, pi, hwi⟩ := okIT_ok it t h7 x
      refine (pe_lc (x.calm hcm) (by rw [x.N]; exact x.nd) pi bk (fun s H c cl fp => okTg_ok tg h6 (x.blk hk)) (fun s H c cl fp => okIfs_ok ifs h8 (x.blk hk)) (fun s H cc cl fp => okE_ok c h9 (x.blk hk)) (notSet_ok h5)).imp fun σ H Q z => ?_
      rw [h2]
      exact z.comp h3 (fun j hj => List.contains_iff_mem.mp (List.all_eq_true.mp h4 j hj)) (fun R => hwi σ H R)
    · cases h
  | .attr i j, k, X, C, call, W, e, h, x => by unfold okE at h; exact attr_pe x h
  | .isE i cs, k, X, C, call, W, e, h, x => by unfold okE at h; exact isE_pe x h
  | .bad, k, X, C, call, W, e, h, x => ⟨fun pins s σ H Q I ⟨ρ, S, R, q⟩ => q.elim⟩
  | .sl3 c a b, k, X, C, call, W, e, h, x => by
    unfold okE at h
    split at h
    · rw [Bool.and_eq_true, Bool.and_eq_true] at h
      refine (pe_slice sl_any (okE_ok c h.1 x) (po_some (okE_ok a h.2.1 x)) (po_some (okE_ok b h.2.2 x))).imp fun σ H Q z => ?_
      rw [x.fr]
      exact z.sl3
    · cases h
  | .dct0, k, X, C, call, W, e, h, x => by
    unfold okE at h
    split at h
    · exact pe_dnewK.imp fun σ H Q z => z.dct0
    · cases h
  | .dct1 a b, k, X, C, call, W, e, h, x => by
    unfold okE at h
    split at h
    · rw [Bool.and_eq_true] at h
      exact (pe_disp (pps_cons (okE_ok a h.1 x) (okE_ok b h.2 x) pps_nil) rfl rfl (fun z => by cases z) (by simp)).imp fun σ H Q z => z.dct1
    · cases h
  | .lam f js, k, X, C, call, W, e, h, x => by
    unfold okE at h
    exact pe_lamC x h
  | .callV i, k, X, C, call, W, e, h, x => by
    unfold okE at h
    exact pe_cv x h
  | .callC f es, k, X, C, call, W, e, h, x => by
    unfold okE at h
    split at h
    · rename_i l hl
      obtain ⟨_, _, _, _, _, _, _, _, _, _, _, hs, e2⟩ := fnOfC_ok hl
      rw [← e2] at hs
      exact (pe_fnC x hl ((okEs_ok es h x).pa hs)).imp fun σ H Q z => z.callC
    · cases h
  | .callKC _ _ _, k, X, C, call, W, e, h, x => by unfold okE at h; cases h
  | .mkE c es, k, X, C, call, W, e, h, x => by
    unfold okE at h
    split at h
    · rename_i l hl
      exact mkE_pe x hl (okEs_ok es h x)
    · cases h
  | .isX a cs, k, X, C, call, W, e, h, x => by
    unfold okE at h
    split at h
    · rename_i y hl
      exact isX_pe x hl (okE_ok a h x)
    · cases h
  | .atX a j, k, X, C, call, W, e, h, x => by
    unfold okE at h
    split at h
    · rename_i y hl
      exact atX_pe x hl (okE_ok a h x)
    · cases h
  | .meth o a es, k, X, C, call, W, e, h, x => by
    unfold okE at h
    split at h
    · rename_i u l hl
      rw [Bool.and_eq_true] at h
      exact (meth_pe x hl (okE_ok a h.1 x) (okEs_ok es h.2 x)).1
    · cases h
  | .callIOC f i es, k, X, C, call, W, e, h, x => by
    unfold okE at h
    split at h
    · rename_i u l hl
      rw [Bool.and_eq_true] at h
      obtain ⟨hn, h2⟩ := h
      split at hn
      · rename_i n hu
        obtain ⟨pos, rfl⟩ := nameOf_ok hu
        obtain ⟨_, _, _, _, _, _, _, _, _, _, _, hs, e2⟩ := fnOfC_ok hl
        rw [← e2] at hs
        have hs2 : noStars l = true := by unfold noStars at hs ⊢; rw [List.all_cons, Bool.and_eq_true] at hs; exact hs.2
        exact pe_fnIO x hl hn (okEs_ok es h2 x) hs2
      · cases hn
    · cases h
theorem okT_ok : ∀ (c : CE) {k : Ck} {X : Cx} {C : RK} {call : CallT} {W : WX} {e : Expr}, okT c k e = true → XOk X k C call W → PT X e (tB (tE C call W c))
  | .notE a, k, X, C, call, W, e, h, x => by
    unfold okT at h
    split at h
    · rename_i u hu
      obtain ⟨pos, rfl⟩ := notOf_ok hu
      exact (pt_not (okT_ok a h x)).imp fun σ H Q z => tE.mono (tE.not z) fun y H1 ⟨c, e1, c', e2, q⟩ => ⟨c, e1, by cases e2; exact q⟩
    · cases h
  | .andE a b, k, X, C, call, W, e, h, x => by
    unfold okT at h
    split at h
    · rename_i u v r pos hb
      rw [Bool.and_eq_true] at h
      rw [boolOf_ok hb]
      refine (pw_and (okT_ok a h.1 x) (rest_pwA (okT_ok b h.2 x))).pt.imp fun σ H Q z => tE.mono (tE.and z) fun y H1 ⟨c, e1, q⟩ => ⟨c, e1, ?_⟩
      cases c
      · rw [if_neg (by simp)] at q ⊢
        obtain ⟨c', e2, q⟩ := q
        cases e2; exact q
      · rw [if_pos rfl] at q ⊢
        exact q
    · cases h
  | .orE a b, k, X, C, call, W, e, h, x => by
    unfold okT at h
    split at h
    · rename_i u v r pos hb
      rw [Bool.and_eq_true] at h
      rw [boolOf_ok hb]
      refine (pw_or (okT_ok a h.1 x) (rest_pwO (okT_ok b h.2 x))).pt.imp fun σ H Q z => tE.mono (tE.or z) fun y H1 ⟨c, e1, q⟩ => ⟨c, e1, ?_⟩
      cases c
      · rw [if_neg (by simp)] at q ⊢
        exact q
      · rw [if_pos rfl] at q ⊢
        obtain ⟨c', e2, q⟩ := q
        cases e2; exact q
    · cases h
  | .op o es, k, X, C, call, W, e, h, x => by
    unfold okT at h
    split at h
    · rename_i l hl
      exact opT_sound x hl (okEs_ok es h x)
    · cases h
  | .chn o p a b c, k, X, C, call, W, e, h, x => by
    unfold okT at h
    split at h
    · rename_i o' p' h1 h2
      split at h
      · rename_i u v w hu
        rw [Bool.and_eq_true, Bool.and_eq_true] at h
        obtain ⟨pos, rfl, hm⟩ := chnOf_ok hu
        obtain ⟨r, q1, q2⟩ := cmpW_ok x h1
        obtain ⟨r', q3, q4⟩ := cmpW_ok x h2
        exact (pt_chain q1 q3 (okE_ok a h.1 x) (okE_ok b h.2.1 x) (okE_ok c h.2.2 x) hm).imp fun σ H Q z => tE.chain z q2 q4
      · cases h
    · cases h
  | .var i, k, X, C, call, W, e, h, x => by
    unfold okT at h
    split at h
    · rename_i n hn
      obtain ⟨pos, rfl⟩ := nameOf_ok hn
      exact pt_valS ((slot_var x h).imp fun σ H Q z => z.var) rfl
    · cases h
  | .cst p, k, X, C, call, W, e, h, x => by
    unfold okT at h
    obtain ⟨v, h1, h2⟩ := cst_ok x h
    refine pt_valS (h1.imp fun σ H Q z => z.cst h2) ?_
    unfold cstB at h
    split at h <;> first | rfl | cases h
  | .call f es, k, X, C, call, W, e, h, x => by
    unfold okT at h
    split at h
    · rename_i l hl
      obtain ⟨_, _, _, _, _, _, e1, _, _, _, hs, e2⟩ := fnOf_ok hl
      rw [← e2] at hs
      exact pt_valS ((pe_fn x hl ((okEs_ok es h x).pa hs)).imp fun σ H Q z => z.call_) (by rw [e1]; rfl)
    · cases h
  | .callK f pm es, k, X, C, call, W, e, h, x => by
    unfold okT at h
    split at h
    · rename_i l hl
      obtain ⟨_, _, _, _, _, _, e1, _⟩ := fnKOf_ok hl
      exact pt_valS (pe_fnK x hl (okEs_ok es h x)) (by rw [e1]; rfl)
    · cases h
  | .callIO f i es, k, X, C, call, W, e, h, x => by
    unfold okT at h
    split at h
    · rename_i u l hl
      rw [Bool.and_eq_true] at h
      obtain ⟨hn, h2⟩ := h
      split at hn
      · rename_i n hu
        obtain ⟨pos, rfl⟩ := nameOf_ok hu
        obtain ⟨_, _, _, _, _, _, e1, _, _, _, hs, e2⟩ := fnOf_ok hl
        rw [← e2] at hs
        have hs2 : noStars l = true := by unfold noStars at hs ⊢; rw [List.all_cons, Bool.and_eq_true] at hs; exact hs.2
        exact pt_valS ((pe_fn x hl (pa_cons (slot_var x hn) ((okEs_ok es h2 x).pa hs2) rfl)).imp fun σ H Q z => z.callIO) (by rw [e1]; rfl)
      · cases hn
    · cases h
  | .tup _, _, _, _, _, _, _, h, _ => by unfold okT at h; cases h
  | .lst _, _, _, _, _, _, _, h, _ => by unfold okT at h; cases h
  | .ifE _ _ _, _, _, _, _, _, _, h, _ => by unfold okT at h; cases h
  | .pop _, _, _, _, _, _, _, h, _ => by unfold okT at h; cases h
  | .popAt _ _, _, _, _, _, _, _, h, _ => by unfold okT at h; cases h
  | .comp _ _ _ _ _, _, _, _, _, _, _, h, _ => by unfold okT at h; cases h
  | .attr _ _, _, _, _, _, _, _, h, _ => by unfold okT at h; cases h
  | .isE _ _, _, _, _, _, _, _, h, _ => by unfold okT at h; cases h
  | .sl3 _ _ _, _, _, _, _, _, _, h, _ => by unfold okT at h; cases h
  | .bad, _, _, _, _, _, _, h, _ => by unfold okT at h; cases h
  | .dct0, _, _, _, _, _, _, h, _ => by unfold okT at h; cases h
  | .dct1 _ _, _, _, _, _, _, _, h, _ => by unfold okT at h; cases h
  | .lam _ _, _, _, _, _, _, _, h, _ => by unfold okT at h; cases h
  | .callV _, _, _, _, _, _, _, h, _ => by unfold okT at h; cases h
  | .callC f es, k, X, C, call, W, e, h, x => by
    unfold okT at h
    split at h
    · rename_i l hl
      obtain ⟨_, _, _, _, _, _, _, e1, _, _, _, hs, e2⟩ := fnOfC_ok hl
      rw [← e2] at hs
      exact pt_valS ((pe_fnC x hl ((okEs_ok es h x).pa hs)).imp fun σ H Q z => z.callC) (by rw [e1]; rfl)
    · cases h
  | .callKC _ _ _, _, _, _, _, _, _, h, _ => by unfold okT at h; cases h
  | .meth _ _ _, _, _, _, _, _, _, h, _ => by unfold okT at h; cases h
  | .mkE _ _, _, _, _, _, _, _, h, _ => by unfold okT at h; cases h
  | .isX _ _, _, _, _, _, _, _, h, _ => by unfold okT at h; cases h
  | .atX _ _, _, _, _, _, _, _, h, _ => by unfold okT at h; cases h
  | .callIOC _ _ _, _, _, _, _, _, _, h, _ => by unfold okT at h; cases h
theorem okEs_ok : ∀ (cs : CEs) {k : Ck} {X : Cx} {C : RK} {call : CallT} {W : WX} {l : List Expr}, okEs cs k l = true → XOk X k C call W → PEL X C call W l cs
  | .nil, k, X, C, call, W, [], h, x => trivial
  | .cons c cs, k, X, C, call, W, e :: es, h, x => by
    simp only [okEs, Bool.and_eq_true] at h
    exact ⟨okE_ok c h.1 x, okEs_ok cs h.2 x⟩
  | .nil, k, X, C, call, W, _ :: _, h, x => by simp [okEs] at h
  | .cons _ _, k, X, C, call, W, [], h, x => by simp [okEs] at h
theorem okIfs_ok : ∀ (cs : CEs) {k : Ck} {X : Cx} {C : RK} {call : CallT} {l : List Expr} {W : WX}, okIfs cs k l = true → XOk X k C call W → PTs X l (tIfs C call cs)
  | .nil, k, X, C, call, [], W, h, x => ⟨fun pins s σ H Q I q => pts_nil.run pins s σ H Q I q.nil⟩
  | .cons c .nil, k, X, C, call, [e], W, h, x => by
    simp only [okIfs] at h
    exact ⟨fun pins s σ H Q I q => (pts_one (okT_ok c h x)).run pins s σ H Q I q.one⟩
  | .nil, _, _, _, _, _ :: _, _, h, _ => by simp [okIfs] at h
  | .cons _ .nil, _, _, _, _, [], _, h, _ => by simp [okIfs] at h
  | .cons _ .nil, _, _, _, _, _ :: _ :: _, _, h, _ => by simp [okIfs] at h
  | .cons _ (.cons _ _), _, _, _, _, _, _, h, _ => by simp [okIfs] at h
theorem okTg_ok : ∀ (t : Tg) {k : Ck} {X : Cx} {C : RK} {call : CallT} {W : WX} {e : Expr}, okTg t k e = true → XOk X k C call W → PG X e (gT C call t)
  | .nm i, k, X, C, call, W, e, h, x => by
    unfold okTg at h
    split at h
    · rename_i n hn
      obtain ⟨pos, rfl⟩ := nameOf_ok hn
      simp only [Bool.and_eq_true, decide_eq_true_eq, Bool.or_eq_true] at h
      obtain ⟨h1, h2, h3⟩ := h
      have hf : X.fn n = true ∨ X.env.scope.names.lookup n = some .local := by
        rw [x.fn, x.sc]
        refine h3.imp id fun z => ?_
        split at z
        · assumption
        · cases z
      have g := pg_name (X := X) (pos := pos) (by rw [x.N]; exact x.nd) (by rw [x.N]; exact h1) (locB_ok x h2) hf
      exact ⟨fun pins s σ H v u Q I r q => g.run pins s σ H v u Q I r q.nm⟩
    · cases h
  | .tp ts, k, X, C, call, W, e, h, x => by
    unfold okTg at h
    split at h
    · rename_i l hl
      rw [Bool.and_eq_true] at h
      obtain ⟨hcm, h⟩ := h
      obtain ⟨j, pos, rfl, hn⟩ := tupOf_ok hl
      obtain ⟨q1, q2⟩ := asg_find (env := X.env) hn
      have g := pg_tup (pos := pos) (k := j) (x.calm hcm) (okTgs_ok ts h x hn) (q2.trans (okTgs_len h)) q1
      rw [x.fr] at g
      exact ⟨fun pins s σ H v u Q I r q => g.run pins s σ H v u Q I r q.tp⟩
    · cases h
  | .sub i j, k, X, C, call, W, e, h, x => by
    unfold okTg at h
    split at h
    · rename_i a b pos
      rw [Bool.and_eq_true] at h
      obtain ⟨hn, h2⟩ := h
      split at hn
      · rename_i n hu
        obtain ⟨p, rfl⟩ := nameOf_ok hu
        rw [Bool.and_eq_true] at h2
        have g := pg_sub (pos := pos) (slot_var (pos := p) x hn) (okE_ok j h2.2 x) set_list (asg_sub h2.1)
        exact ⟨fun pins s σ H v u Q I r q => g.run pins s σ H v u Q I r q.sub⟩
      · cases hn
    · cases h
  | .dsub i j, k, X, C, call, W, e, h, x => by
    unfold okTg at h
    split at h
    · rename_i a b pos
      rw [Bool.and_eq_true] at h
      obtain ⟨hn, h2⟩ := h
      split at hn
      · rename_i n hu
        obtain ⟨p, rfl⟩ := nameOf_ok hu
        rw [Bool.and_eq_true] at h2
        have hu1 : X.A.units + 1 < cLine := by have := x.un; omega
        have g := pg_sub (pos := pos) (slot_var (pos := p) x hn) (okE_ok j h2.2 x) (set_dict hu1) (asg_sub h2.1)
        exact ⟨fun pins s σ H v u Q I r q => g.run pins s σ H v u Q I r q.dsub⟩
      · cases hn
    · cases h
theorem okTgs_ok : ∀ (t : Tgs) {k : Ck} {X : Cx} {C : RK} {call : CallT} {W : WX} {e : List Expr}, okTgs t k e = true → XOk X k C call W → noStars e = true → PGs X e (gTs C call t)
  | .nil, k, X, C, call, W, [], h, x, _ => ⟨fun pins s σ H v u Q I r q => pgs_nil.run pins s σ H v u Q I r q.nil⟩
  | .cons t ts, k, X, C, call, W, e :: es, h, x, n => by
    simp only [okTgs, Bool.and_eq_true] at h
    unfold noStars at n
    rw [List.all_cons, Bool.and_eq_true] at n
    have g := pgs_cons (okTg_ok t h.1 x) (okTgs_ok ts h.2 x n.2) (asg_map n.1)
    exact ⟨fun pins s σ H v u Q I r q => g.run pins s σ H v u Q I r q.cons⟩
  | .nil, _, _, _, _, _, _ :: _, h, _, _ => by simp [okTgs] at h
  | .cons _ _, _, _, _, _, _, [], h, _, _ => by simp [okTgs] at h
theorem okIT_ok : ∀ (i : IT) {k : Ck} {X : Cx} {C : RK} {call : CallT} {W : WX} (t : Expr) {e : Expr}, okIT i k t e = true → XOk X k C call W → ∃ wi, PI X t e wi ∧ ∀ σ H R, tIT C call W i σ H R → wi σ H R
  | .seq c, k, X, C, call, W, t, e, h, x => by
    unfold okIT at h
    exact ⟨_, pi_seq (okE_ok c h x), fun σ H R z => by rw [x.fr]; exact z.seq⟩
  | .rng1 a, k, X, C, call, W, t, e, h, x => by
    unfold okIT at h
    split at h
    · rename_i u hu
      obtain ⟨p, pos, rfl, h1, h2, hs⟩ := rngOf_ok hu
      have hs1 : noStar u = true := by simpa [noStars] using hs
      have hA : PA X [u] (t1 (tE C call W a)) := (pa_cons (okE_ok a h x) pa_nil (star_cons hs1)).imp fun σ H Q h => h
      exact ⟨_, pi_range1 (glB_ok x h2) (x.free _ h1) hA (star_cons hs1), fun σ H R z => z.rng1⟩
    · cases h
  | .rng2 a b, k, X, C, call, W, t, e, h, x => by
    unfold okIT at h
    split at h
    · rename_i u v hu
      rw [Bool.and_eq_true] at h
      obtain ⟨p, pos, rfl, h1, h2, hs⟩ := rngOf_ok hu
      have hs1 : noStar u = true ∧ noStar v = true := by simpa [noStars] using hs
      have hA : PA X [u, v] (t2 (tE C call W a) (tE C call W b)) := (pa_cons (okE_ok a h.1 x) (pa_cons (okE_ok b h.2 x) pa_nil (star_cons hs1.2)) (star_cons hs1.1)).imp fun σ H Q h => h
      exact ⟨_, pi_range2 (glB_ok x h2) (x.free _ h1) hA (by rw [star_cons hs1.1, star_cons hs1.2]; rfl) (star_cons hs1.2), fun σ H R z => z.rng2⟩
    · cases h
  | .enum c, k, X, C, call, W, t, e, h, x => by
    unfold okIT at h
    rw [Bool.and_eq_true] at h
    obtain ⟨ht, h⟩ := h
    split at h
    · rename_i u hu
      obtain ⟨p, pos, rfl, h1, h2, hs⟩ := rngOf_ok hu
      have hs1 : noStar u = true := by simpa [noStars] using hs
      have hA : PA X [u] (t1 (tE C call W c)) := (pa_cons (okE_ok c h x) pa_nil (star_cons hs1)).imp fun σ H Q h => h
      cases t with
      | Tuple elts kk tpos => exact ⟨_, pi_enumA (glB_ok x h2) (x.free _ h1) hA (star_cons hs1), fun σ H R z => by rw [x.fr]; exact z.enum⟩
      | _ => simp [isTup] at ht
    · cases h
  | .zip a b, k, X, C, call, W, t, e, h, x => by
    unfold okIT at h
    rw [Bool.and_eq_true] at h
    obtain ⟨ht, h⟩ := h
    split at h
    · rename_i u v hu
      rw [Bool.and_eq_true] at h
      obtain ⟨p, pos, rfl, h1, h2, hs⟩ := rngOf_ok hu
      have hs1 : noStar u = true ∧ noStar v = true := by simpa [noStars] using hs
      have hA : PA X [u, v] (t2 (tE C call W a) (tE C call W b)) := (pa_cons (okE_ok a h.1 x) (pa_cons (okE_ok b h.2 x) pa_nil (star_cons hs1.2)) (star_cons hs1.1)).imp fun σ H Q h => h
      cases t with
      | Tuple elts kk tpos => exact ⟨_, pi_zipM (glB_ok x h2) (x.free _ h1) hA (by rw [star_cons hs1.1]) (by rw [star_cons hs1.2]; rfl), fun σ H R z => by rw [x.fr]; exact z.zip⟩
      | _ => simp [isTup] at ht
    · cases h
end
end PyC
end

section
set_option maxHeartbeats 200000
namespace PyC
open PySem PySem.Spec L2
/-! ### when stores swap -/
def isComp : Expr → Bool
  | .ListComp _ _ _ _ => true | .SetComp _ _ _ _ => true | .DictComp _ _ _ _ _ => true
  | _ => false
theorem sw_plain {e : Expr} {t : Option Expr} {l : Nat} {env : Env} (h : isComp e = false) : swapsWith e t l env = pure false := by
  cases e <;> first | rfl | (simp [isComp] at h)
/-- name = [..]: do they swap -/
def swLc (k : Ck) (y : Str) (py pos : Pos) (scope : Scope) : Bool := (match k.sc.names.lookup y with
  | some .local => true
  | _ => false) && (py.line == pos.line && !(scope.names.any fun (n, kd) => n == y && (kd == .local || kd == .cell)))
section
variable {X : Cx} {k : Ck} {C : RK} {call : CallT} {W : WX}
theorem swLc_ok (x : XOk X k C call W) {elt : Expr} {gs : List Comprehension} {scope : Scope} {pos py : Pos} {y : Str} {l : Nat} : swapsWith (.ListComp elt gs scope pos) (some (.Name y py)) l X.env = pure (swLc k y py pos scope) := by
  have hb : X.env.blockKind = .function := by
    unfold Env.blockKind
    rw [x.sc, x.kind]
    rfl
  have hk : X.env.kindOf y = k.sc.names.lookup y := by
    unfold Env.kindOf
    rw [x.sc]
  unfold swapsWith swLc
  simp only [hb, hk, Expr.pos]
  cases k.sc.names.lookup y with
  | none => rfl
  | some kd => cases kd <;> first | rfl | simp
theorem sw_other {e t : Expr} {l : Nat} {env : Env} (h : nameOf t = none) : swapsWith e (some t) l env = pure false := by
  unfold swapsWith
  cases t with
  | Name n p => simp [nameOf] at h
  | _ => split <;> rfl
/-- several names, several values: do they swap -/
def swPar (k : Ck) (ts vs : List Expr) : Option (Option (List Str)) :=
  if !(ts.length == 2 || ts.length == 3) || vs.length != ts.length then some none
  else if vs.any fun | .Starred .. => true | _ => false then some none
  else
    let line := (ts.head?.map (·.pos.line)).getD 0
    let names := ts.filterMap fun
      | .Name id pos => if k.sc.names.lookup id == some .local && pos.line == line then some id else none
      | _ => none
    if names.length != ts.length || names.eraseDups.length != names.length then some none
    else if vs.all (foldedForSure 8) then some none
    else if vs.all (constantsAlone 8) then none
    else some (some names)
theorem swPar_ok (x : XOk X k C call W) {ts vs : List Expr} {j1 j2 : Nat} {p1 p2 : Pos} {r : Option (List Str)} (h : swPar k ts vs = some r) : swappedStores [.Tuple ts j1 p1] (.Tuple vs j2 p2) X.env = pure r := by
  have hb : X.env.blockKind = .function := by
    unfold Env.blockKind
    rw [x.sc, x.kind]
    rfl
  have hk : ∀ y, X.env.kindOf y = k.sc.names.lookup y := fun y => by
    unfold Env.kindOf
    rw [x.sc]
  unfold swappedStores
  simp only [hb, hk]
  unfold swPar at h
  split at h
  · rename_i c
    cases h
    exact if_pos (by simp only [Bool.or_eq_true] at c ⊢; exact .inl c)
  · rename_i c
    refine (if_neg (by simpa using c)).trans ?_
    split at h
    · rename_i c2
      cases h
      exact if_pos c2
    · rename_i c2
      refine (if_neg c2).trans ?_
      dsimp only at h
      split at h
      · rename_i c3
        cases h
        exact if_pos c3
      · rename_i c3
        refine (if_neg c3).trans ?_
        split at h
        · rename_i c4
          cases h
          exact if_pos c4
        · rename_i c4
          refine (if_neg c4).trans ?_
          split at h
          · cases h
          · rename_i c5
            cases h
            exact (if_neg c5).trans rfl
def isLst : Expr → Bool
  | .List _ _ => true
  | _ => false
theorem sw_no {t v : Expr} {env : Env} (h : isTup t = false ∨ isTup v = false) (hl : isLst t = false) : swappedStores [t] v env = pure none := by
  unfold swappedStores
  rcases h with h | h
  · cases t <;> first | rfl | exact Bool.noConfusion h | exact Bool.noConfusion hl
  · cases t <;> first | rfl | exact Bool.noConfusion hl | (cases v <;> first | rfl | exact Bool.noConfusion h)
theorem asg_sole {t : Expr} {env : Env} (h : noStar t = true) : (assignEach [t] env).map (·.2) = [assign t env] := asg_map h
end
end PyC
end

section
set_option maxHeartbeats 200000
namespace PyC
open PySem PySem.Spec L2
def ioT (io : Bool) (is : List Nat) : Bool := !io || !is.contains 0
def isCmp : CE → Bool
  | .comp _ _ _ _ _ => true
  | _ => false
/-- no swap of stores -/
def swFree (k : Ck) : Expr → Expr → Bool
  | .Tuple ts _ _, .Tuple vs _ _ => match swPar k ts vs with
    | some none => true
    | _ => false
  | t, _ => !isLst t
/-- how a comprehension is stored -/
def swOk (k : Ck) (e : CE) (tg v : Expr) : Bool := match tg, v with
  | .Name y py, .ListComp _ _ scope p => !(swLc k y py p scope) || isCmp e
  | .Name _ _, v => !isComp v
  | _, _ => true
/-- what is handed back -/
def okR : CE → Ck → Expr → Bool
  | .var i, k, e => match nameOf e with
    | some x => slotB k i x
    | none => false
  | .ifE c a b, k, e => match ifOf e with
    | some (x, y, z) => okT c k x && (okR a k y && okR b k z)
    | none => false
  | e, k, x => okE e k x
def parOf : Stmt → Option (List Expr × List Expr)
  | .Assign [.Tuple ts _ _] (.Tuple vs _ _) _ => some (ts, vs)
  | _ => none
/-- the names of targets, at the slots is -/
def namesB (k : Ck) : List Nat → List Expr → Bool
  | [], [] => true
  | i :: is, e :: es => (match nameOf e with
    | some x => decide (k.N[i]? = some x) && (locB k x && (k.fn x || (match k.sc.names.lookup x with | some .local => true | _ => false)))
    | none => false) && namesB k is es
  | _, _ => false
def allLocal (k : Ck) (es : List Expr) : Bool := es.all fun e => match nameOf e with
  | some x => (match k.sc.names.lookup x with | some .local => true | _ => false)
  | none => false
/-- within a suite -/
def Ck.hotC (k : Ck) : Ck := { k with hot := true, cm := false, fns := fun _ => none, exc := fun _ => none, pl := false, mkl := false, exm := fun _ => none }
def lclB (k : Ck) (n : Str) : Bool := match k.sc.names.lookup n with
  | some .local => true
  | _ => false
def hNm (k : Ck) : Option Str → Option Nat → Bool
  | none, none => true
  | some n, some j => decide (k.N[j]? = some n) && lclB k n
  | _, _ => false
def raiseOf : Stmt → Option (Str × Expr)
  | .Raise (some (.Call (.Name x _) [a] [] _)) none _ => some (x, a)
  | _ => none
def raiseOf0 : Stmt → Option Str
  | .Raise (some (.Call (.Name x _) [] [] _)) none _ => some x
  | _ => none
def raiseOf2 : Stmt → Option (Str × Expr × Expr)
  | .Raise (some (.Call (.Name x _) [a, b] [] _)) none _ => some (x, a, b)
  | _ => none
def frzOf : CS → Option (List Nat)
  | .frz is => some is
  | _ => none
mutual
def okS : CS → Ck → Bool → Stmt → Bool
  | .skip, _, _, st => match st with
    | .Expr (.Constant (.str _) _ _) _ => true
    | .Pass _ => true
    | _ => false
  | .ret e, k, io, st => match st with
    | .Return (some x) _ => okR e k x
    | _ => false
  | .bad, _, _, _ => true
  | .retN, _, _, st => match st with
    | .Return none _ => true
    | _ => false
  | .brk, _, _, st => match st with
    | .Break _ => true
    | _ => false
  | .asg t e, k, io, st => match st with
    | .Assign [tg] v _ => ioT io (tgs t) && (noStar tg && (okTg t k tg && (okE e k v && (swFree k tg v && swOk k e tg v))))
    | _ => false
  | .par is es, k, io, st => match parOf st with
    | some (ts, vs) => ioT io is && (noStars ts && (noStars vs && (namesB k is ts && (okEs es k vs && (decide is.Nodup && (decide (clen es ≤ big) && match swPar k ts vs with
      | some (some ns) => allLocal k ts && (decide (ts.length = 2) && k.cm || decide (ts.length = 3) && (k.cm || k.hot)) && decide (ns = ts.filterMap nameOf)
      | some none => k.cm
      | none => false))))))
    | none => false
  | .app i e, k, io, st => match st with
    | .Expr x _ => match methOf "append" x with
      | some (n, [a]) => slotB k i n && okE e k a
      | _ => false
    | _ => false
  | .ext i e, k, io, st => match st with
    | .Expr x _ => match methOf "extend" x with
      | some (n, [a]) => slotB k i n && okE e k a
      | _ => false
    | _ => false
  | .exp e, k, io, st => match st with
    | .Expr x _ => !isComp x && okE e k x
    | _ => false
  | .ifS c a b, k, io, st => match st with
    | .If x l r _ => okT c k x && (okB a k io l && okB b k io r)
    | _ => false
  | .whl c b, k, io, st => match st with
    | .While x l [] _ => okT c k x && okB b k io l
    | _ => false
  | .for_ t it b, k, io, st => match st with
    | .For tg x l [] _ => k.cm && (ioT io (tgs t) && (notSet x && (okTg t k tg && (okIT it k tg x && okB b k io l))))
    | _ => false
  | .raise c es, k, io, st => match raiseOf st, es with
    | some (x, a), .cons e .nil => k.cm && (decide (k.exc x = some c) && (glB k x && (plainN x && (noStar a && okE e k a))))
    | _, .nil => match raiseOf0 st with
      | some x => k.cm && (decide (k.exm x = some (c, 0)) && (glB k x && plainN x))
      | none => false
    | _, .cons e (.cons f .nil) => match raiseOf2 st with
      | some (x, a, b) => k.cm && (decide (k.exm x = some (c, 2)) && (glB k x && (plainN x && (noStars [a, b] && okEs (.cons e (.cons f .nil)) k [a, b]))))
      | none => false
    | _, _ => false
  | .tryS b hs, k, io, st => match st with
    | .Try body (h0 :: hds) [] [] _ => !io && (k.cm && (!k.hot && (okB b k io body && okHs hs k (h0 :: hds))))
    | _ => false
  | _, _, _, _ => false
def okHs : CHs → Ck → List ExceptHandler → Bool
  | .nil, _, [] => true
  | .cons cs i h hs, k, hd :: r => (match hd with
    | .ExceptHandler (some (.Name x _)) nm (b0 :: su) _ => decide (k.exs x = some cs) && (glB k x && (plainN x && (hNm k nm i && okB h k.hotC false (b0 :: su))))
    | _ => false) && okHs hs k r
  | _, _, _ => false
def okB : CS → Ck → Bool → List Stmt → Bool
  | .skip, _, _, [] => true
  | .seq a b, k, io, l => match frzOf a with
    | some _ => okB b k io l
    | none => match l with
      | s :: ss => okS a k io s && okB b k io ss
      | [] => false
  | _, _, _, _ => false
end
def plainS : CS → Bool
  | .asg _ _ => true | .app _ _ => true
  | _ => false
/-- a def that makes closures over its names and hands them back -/
def mkEnd (k : Ck) : CS → CS → List Stmt → Bool
  | .ret (.var i), .skip, [.Return (some (.Name x _)) _] => slotB k i x
  | _, _, _ => false
def mkB : CS → Ck → List Stmt → Bool
  | .seq a b, k, l => mkEnd k a b l || (plainS a && match l with
    | s :: ss => okS a k false s && mkB b k ss
    | [] => false)
  | _, _, _ => false
section
variable {X : Cx} {k : Ck} {C : RK} {call : CallT} {W : WX} {B : Bse} {io : Bool}
theorem ioT_ok {is : List Nat} (h : ioT io is = true) (hio : B.io ≠ none → io = true) : B.io ≠ none → 0 ∉ is := fun n z => by
  unfold ioT at h
  rw [hio n] at h
  have : is.contains 0 = true := List.contains_iff_mem.mpr z
  rw [this] at h
  cases h
theorem okR_ok : ∀ (e : CE) {x : Expr} {as : List Nat}, okR e k x = true → XOk X k C call W → (∀ i ∈ al e, i ∈ as) → (B.io ≠ none → io = true) → PE X x (tRE C call W B io as e)
  | .var i, x, as, h, xo, ha, hio => by
    unfold okR at h
    split at h
    · rename_i n hn
      obtain ⟨pos, rfl⟩ := nameOf_ok hn
      exact (slot_var xo h).imp fun σ H Q z => z.var
    · cases h
  | .ifE c a b, x, as, h, xo, ha, hio => by
    unfold okR at h
    split at h
    · rename_i u v w hu
      rw [Bool.and_eq_true, Bool.and_eq_true] at h
      obtain ⟨pos, rfl⟩ := ifOf_ok hu
      exact (pe_ifExp (okT_ok c h.1 xo) (okR_ok a h.2.1 xo (fun i hi => ha i (by simp [al, hi])) hio) (okR_ok b h.2.2 xo (fun i hi => ha i (by simp [al, hi])) hio)).imp fun σ H Q z => z.ite
    · cases h
  | .cst p, x, as, h, xo, ha, hio => (okE_ok _ h xo).imp fun σ H Q z => z.other (fun _ => rfl) rfl ha hio
  | .tup p, x, as, h, xo, ha, hio => (okE_ok _ h xo).imp fun σ H Q z => z.other (fun _ => rfl) rfl ha hio
  | .lst p, x, as, h, xo, ha, hio => (okE_ok _ h xo).imp fun σ H Q z => z.other (fun _ => rfl) rfl ha hio
  | .op _ _, x, as, h, xo, ha, hio => (okE_ok _ h xo).imp fun σ H Q z => z.other (fun _ => rfl) rfl ha hio
  | .andE _ _, x, as, h, xo, ha, hio => (okE_ok _ h xo).imp fun σ H Q z => z.other (fun _ => rfl) rfl ha hio
  | .orE _ _, x, as, h, xo, ha, hio => (okE_ok _ h xo).imp fun σ H Q z => z.other (fun _ => rfl) rfl ha hio
  | .notE _, x, as, h, xo, ha, hio => (okE_ok _ h xo).imp fun σ H Q z => z.other (fun _ => rfl) rfl ha hio
  | .chn _ _ _ _ _, x, as, h, xo, ha, hio => (okE_ok _ h xo).imp fun σ H Q z => z.other (fun _ => rfl) rfl ha hio
  | .call _ _, x, as, h, xo, ha, hio => (okE_ok _ h xo).imp fun σ H Q z => z.other (fun _ => rfl) rfl ha hio
  | .callK _ _ _, x, as, h, xo, ha, hio => (okE_ok _ h xo).imp fun σ H Q z => z.other (fun _ => rfl) rfl ha hio
  | .callIO _ _ _, x, as, h, xo, ha, hio => (okE_ok _ h xo).imp fun σ H Q z => z.other (fun _ => rfl) rfl ha hio
  | .pop _, x, as, h, xo, ha, hio => (okE_ok _ h xo).imp fun σ H Q z => z.other (fun _ => rfl) rfl ha hio
  | .popAt _ _, x, as, h, xo, ha, hio => (okE_ok _ h xo).imp fun σ H Q z => z.other (fun _ => rfl) rfl ha hio
  | .comp _ _ _ _ _, x, as, h, xo, ha, hio => (okE_ok _ h xo).imp fun σ H Q z => z.other (fun _ => rfl) rfl ha hio
  | .attr _ _, x, as, h, xo, ha, hio => (okE_ok _ h xo).imp fun σ H Q z => z.other (fun _ => rfl) rfl ha hio
  | .isE _ _, x, as, h, xo, ha, hio => (okE_ok _ h xo).imp fun σ H Q z => z.other (fun _ => rfl) rfl ha hio
  | .sl3 _ _ _, x, as, h, xo, ha, hio => (okE_ok _ h xo).imp fun σ H Q z => z.other (fun _ => rfl) rfl ha hio
  | .dct0, x, as, h, xo, ha, hio => (okE_ok _ h xo).imp fun σ H Q z => z.other (fun _ => rfl) rfl ha hio
  | .dct1 _ _, x, as, h, xo, ha, hio => (okE_ok _ h xo).imp fun σ H Q z => z.other (fun _ => rfl) rfl ha hio
  | .lam _ _, x, as, h, xo, ha, hio => (okE_ok _ h xo).imp fun σ H Q z => z.other (fun _ => rfl) rfl ha hio
  | .callV _, x, as, h, xo, ha, hio => (okE_ok _ h xo).imp fun σ H Q z => z.other (fun _ => rfl) rfl ha hio
  | .callC _ _, x, as, h, xo, ha, hio => (okE_ok _ h xo).imp fun σ H Q z => z.other (fun _ => rfl) rfl ha hio
  | .callKC _ _ _, x, as, h, xo, ha, hio => (okE_ok _ h xo).imp fun σ H Q z => z.other (fun _ => rfl) rfl ha hio
  | .meth _ _ _, x, as, h, xo, ha, hio => (okE_ok _ h xo).imp fun σ H Q z => z.other (fun _ => rfl) rfl ha hio
  | .mkE _ _, x, as, h, xo, ha, hio => (okE_ok _ h xo).imp fun σ H Q z => z.other (fun _ => rfl) rfl ha hio
  | .isX _ _, x, as, h, xo, ha, hio => (okE_ok _ h xo).imp fun σ H Q z => z.other (fun _ => rfl) rfl ha hio
  | .atX _ _, x, as, h, xo, ha, hio => (okE_ok _ h xo).imp fun σ H Q z => z.other (fun _ => rfl) rfl ha hio
  | .callIOC _ _ _, x, as, h, xo, ha, hio => (okE_ok _ h xo).imp fun σ H Q z => z.other (fun _ => rfl) rfl ha hio
  | .bad, x, as, h, xo, ha, hio => (okE_ok _ h xo).imp fun σ H Q z => z.other (fun _ => rfl) rfl ha hio
end
end PyC
end

section
set_option maxHeartbeats 200000
namespace PyC
open PySem PySem.Spec L2
section
variable {X : Cx} {k : Ck} {C : RK} {call : CallT} {W : WX} {B : Bse} {io : Bool}
theorem swFree_ok (x : XOk X k C call W) {t v : Expr} (h : swFree k t v = true) : swappedStores [t] v X.env = pure none := by
  unfold swFree at h
  split at h
  · split at h
    · rename_i e
      exact swPar_ok x e
    · cases h
  · rename_i hn
    have hl : isLst t = false := by simpa using h
    refine sw_no ?_ hl
    cases t with
    | Tuple ts j p =>
      cases v with
      | Tuple vs j2 p2 => exact (hn ts j p vs j2 p2 rfl rfl).elim
      | _ => exact .inr rfl
    | _ => exact .inl rfl
theorem asg_plain (x : XOk X k C call W) {t : Tg} {e : CE} {tg v : Expr} {pos : Pos} (hs : swapsWith v (some tg) pos.line X.env = pure false) (h1 : noStar tg = true) (h2 : okTg t k tg = true) (h3 : okE e k v = true) (h4 : swFree k tg v = true) (h0 : B.io ≠ none → 0 ∉ tgs t) : PS X (.Assign [tg] v pos) (tS C call W B io (.asg t e)) :=
  (ps_asg (okE_ok e h3 x) (okTg_ok t h2 x) hs (swFree_ok x h4) (asg_sole h1)).imp fun D σ H z => z.asg h0
theorem asg_ok (x : XOk X k C call W) {t : Tg} {e : CE} {tg v : Expr} {pos : Pos} (h1 : noStar tg = true) (h2 : okTg t k tg = true) (h3 : okE e k v = true) (h4 : swFree k tg v = true) (h5 : swOk k e tg v = true) (h0 : B.io ≠ none → 0 ∉ tgs t) : PS X (.Assign [tg] v pos) (tS C call W B io (.asg t e)) := by
  unfold swOk at h5
  split at h5
  · rename_i y py elt gs scope p
    cases hb : swLc k y py p scope with
    | false => exact asg_plain x (by rw [swLc_ok x, hb]) h1 h2 h3 h4 h0
    | true =>
      have hsw : swapsWith (.ListComp elt gs scope p) (some (.Name y py)) pos.line X.env = pure true := by rw [swLc_ok x, hb]
      rw [hb] at h5
      simp only [Bool.not_true, Bool.false_or] at h5
      cases t with
      | nm i =>
        cases e with
        | comp c tg it ifs own =>
          obtain ⟨elt', t', i', fs, scope', pos', he, h3⟩ := okE_comp h3
          · cases he
            simp only [Bool.and_eq_true, decide_eq_true_eq] at h3
            obtain ⟨hcm, q1, q2, q3, q4, q5, q6, q7, q8, q9⟩ := h3
            have bk : BlkOk X.N X.env.scope scope (ownP k own) := by
              rw [x.N, x.sc]; exact blkOk_by q1
            have hk : scope.kind = .function := bk.kind
            obtain ⟨wi, pi, hwi⟩ := okIT_ok it t' q7 x
            have hy : X.N[i]? = some y := by
              unfold okTg nameOf at h2
              simp only [Bool.and_eq_true, decide_eq_true_eq] at h2
              rw [x.N]; exact h2.1
            have hyl : X.env.scope.names.lookup y = some .local := by
              rw [x.sc]
              unfold swLc at hb
              rw [Bool.and_eq_true] at hb
              have := hb.1
              split at this
              · assumption
              · cases this
            refine (ps_setLc (x.calm hcm) (by rw [x.N]; exact x.nd) hy hyl hsw pi bk (fun s H c cl fp => okTg_ok tg q6 (x.blk hk)) (fun s H c cl fp => okIfs_ok ifs q8 (x.blk hk)) (fun s H cc cl fp => okE_ok c q9 (x.blk hk)) (notSet_ok q5)).imp fun D σ H z => ?_
            rw [q2]
            exact (tE.mono (z.asg h0) fun a H1 w => w.nm).comp q3 (fun j hj => List.contains_iff_mem.mp (List.all_eq_true.mp q4 j hj)) (fun R => hwi σ H R)
        | _ => cases h5
      | _ => simp [okTg, tupOf] at h2
  · rename_i hn
    exact asg_plain x (sw_plain (by simpa using h5)) h1 h2 h3 h4 h0
  · rename_i hn1 hn2
    refine asg_plain x ?_ h1 h2 h3 h4 h0
    refine sw_other ?_
    cases tg with
    | Name n p => first | exact (hn1 n p rfl).elim | exact (hn2 n p rfl).elim
    | _ => rfl
/-! several names -/
def gPar : List Nat → TGs
  | [] => gNil
  | i :: is => gCons (gName i) (gPar is)
theorem gPar_ok {K : L2.St → Hp → Prop} : ∀ {is : List Nat} {xs : List V} {σ : L2.St} {H : Hp}, xs.length = is.length → K (setσ σ is xs) H → gPar is xs σ H K
  | [], [], σ, H, _, h => ⟨rfl, h⟩
  | i :: is, x :: xs, σ, H, l, h => ⟨x, xs, rfl, gPar_ok (by simpa using l) h⟩
  | [], _ :: _, _, _, l, _ => by simp at l
  | _ :: _, [], _, _, l, _ => by simp at l
theorem namesB_pgs (x : XOk X k C call W) : ∀ {is : List Nat} {ts : List Expr}, namesB k is ts = true → noStars ts = true → PGs X ts (gPar is) ∧ ts.length = is.length
  | [], [], _, _ => ⟨pgs_nil, rfl⟩
  | i :: is, e :: es, h, n => by
    simp only [namesB, Bool.and_eq_true] at h
    unfold noStars at n
    rw [List.all_cons, Bool.and_eq_true] at n
    obtain ⟨h1, h2⟩ := h
    split at h1
    · rename_i y hy
      obtain ⟨pos, rfl⟩ := nameOf_ok hy
      simp only [Bool.and_eq_true, decide_eq_true_eq, Bool.or_eq_true] at h1
      obtain ⟨q1, q2, q3⟩ := h1
      have hf : X.fn y = true ∨ X.env.scope.names.lookup y = some .local := by
        rw [x.fn, x.sc]
        refine q3.imp id fun z => ?_
        split at z
        · assumption
        · cases z
      obtain ⟨i1, i2⟩ := namesB_pgs x h2 n.2
      exact ⟨pgs_cons (pg_name (by rw [x.N]; exact x.nd) (by rw [x.N]; exact q1) (locB_ok x q2) hf) i1 (asg_map n.1), by simp [i2]⟩
    · cases h1
  | [], _ :: _, h, _ => by simp [namesB] at h
  | _ :: _, [], h, _ => by simp [namesB] at h
theorem names_at : ∀ {is : List Nat} {ts : List Expr}, namesB k is ts = true → ∀ (m : Nat) (e : Expr), ts[m]? = some e → ∃ i y pos, is[m]? = some i ∧ e = .Name y pos ∧ k.N[i]? = some y
  | [], [], _, m, e, h => by simp at h
  | i :: is, d :: es, h, m, e, hm => by
    simp only [namesB, Bool.and_eq_true] at h
    cases m with
    | zero =>
      simp at hm
      subst hm
      obtain ⟨h1, _⟩ := h
      split at h1
      · rename_i y hy
        obtain ⟨pos, rfl⟩ := nameOf_ok hy
        simp only [Bool.and_eq_true, decide_eq_true_eq] at h1
        exact ⟨i, y, pos, rfl, rfl, h1.1⟩
      · cases h1
    | succ m => exact names_at h.2 m e (by simpa using hm)
  | [], _ :: _, h, _, _, _ => by simp [namesB] at h
  | _ :: _, [], h, _, _, _ => by simp [namesB] at h
theorem local_at {ts : List Expr} (h : allLocal k ts = true) {y : Str} {pos : Pos} (hm : .Name y pos ∈ ts) : k.sc.names.lookup y = some .local := by
  unfold allLocal at h
  have := List.all_eq_true.mp h _ hm
  simp only [nameOf] at this
  split at this
  · assumption
  · cases this
theorem hot_of (x : XOk X k C call W) (h : k.hot = true) : L2H.HotC X := by
  obtain ⟨X0, a, oe, pn, e, _, hz, vs, hv⟩ := x.hots h
  subst e
  exact ⟨(a, oe), ⟨rfl, vs, hv, hz.2.2 vs hv⟩, List.mem_cons_self⟩
theorem par_ok (x : XOk X k C call W) {is : List Nat} {es : CEs} {ts vs : List Expr} {j1 j2 : Nat} {p1 p2 pos : Pos} (n1 : noStars ts = true) (n2 : noStars vs = true) (h1 : namesB k is ts = true) (h2 : okEs es k vs = true) (nd : is.Nodup) (hb : clen es ≤ big)
    (hs : (match swPar k ts vs with
      | some (some ns) => allLocal k ts && (decide (ts.length = 2) && k.cm || decide (ts.length = 3) && (k.cm || k.hot)) && decide (ns = ts.filterMap nameOf)
      | some none => k.cm
      | none => false) = true) (h0 : B.io ≠ none → 0 ∉ is) : PS X (.Assign [.Tuple ts j1 p1] (.Tuple vs j2 p2) pos) (tS C call W B io (.par is es)) := by
  have pel := okEs_ok es h2 x
  have hA := pel.pa n2
  obtain ⟨pg, hl⟩ := namesB_pgs x h1 n1
  split at hs
  · rename_i ns hp
    have sw := swPar_ok (j1 := j1) (j2 := j2) (p1 := p1) (p2 := p2) x hp
    simp only [Bool.and_eq_true, Bool.or_eq_true, decide_eq_true_eq] at hs
    obtain ⟨⟨hl0, hl2⟩, hns⟩ := hs
    have hvl : vs.length = ts.length := by
      unfold swPar at hp
      split at hp
      · cases hp
      · rename_i c
        simp at c
        exact c.2
    rcases hl2 with ⟨h, hcm⟩ | ⟨h, hcm⟩
    · match ts, h with
      | [a, b], _ =>
        match vs, hvl with
        | [u, v], _ =>
          obtain ⟨i, y, q1, e1, rfl, e2⟩ := names_at h1 0 a rfl
          obtain ⟨j, z, q2, e3, rfl, e4⟩ := names_at h1 1 b rfl
          match is, hl with
          | [i', j'], _ =>
            simp at e1 e3
            subst e1 e3
            have hij : i' ≠ j' := by simpa using nd
            simp only [List.filterMap_cons, nameOf, List.filterMap_nil] at hns
            rw [hns] at sw
            refine (ps_par (x.calm hcm) (by rw [x.N]; exact x.nd) (by rw [x.N]; exact e2) (by rw [x.N]; exact e4) hij (by rw [x.sc]; exact local_at (pos := q1) hl0 (by simp)) (by rw [x.sc]; exact local_at (pos := q2) hl0 (by simp)) hA sw).imp fun D σ H w => ?_
            refine tEs.mono (w.par h0) fun xs H1 ⟨q, k⟩ => ?_
            match xs, q with
            | [c, d], _ => exact ⟨c, d, rfl, k H1 fun _ _ e => e⟩
    · match ts, h with
      | [a, b, f], _ =>
        match vs, hvl with
        | [u, v, g], _ =>
          obtain ⟨i, y, q1, e1, rfl, e2⟩ := names_at h1 0 a rfl
          obtain ⟨j, z, q2, e3, rfl, e4⟩ := names_at h1 1 b rfl
          obtain ⟨l, o, q3, e5, rfl, e6⟩ := names_at h1 2 f rfl
          match is, hl with
          | [i', j', l'], _ =>
            simp at e1 e3 e5
            subst e1 e3 e5
            simp only [List.nodup_cons, List.mem_cons, not_or, List.not_mem_nil, not_false_eq_true, and_true, List.nodup_nil] at nd
            simp only [List.filterMap_cons, nameOf, List.filterMap_nil] at hns
            rw [hns] at sw
            have fin : PS X (.Assign [.Tuple [.Name y q1, .Name z q2, .Name o q3] j1 p1] (.Tuple [u, v, g] j2 p2) pos) (tPar3 i' j' l' (tEs C call W es)) := by
              rcases hcm with hcm | hcm
              · exact ps_par3 (x.calm hcm) (by rw [x.N]; exact x.nd) (by rw [x.N]; exact e2) (by rw [x.N]; exact e4) (by rw [x.N]; exact e6) nd.1.1 nd.1.2 nd.2 (by rw [x.sc]; exact local_at (pos := q1) hl0 (by simp)) (by rw [x.sc]; exact local_at (pos := q2) hl0 (by simp)) (by rw [x.sc]; exact local_at (pos := q3) hl0 (by simp)) hA sw
              · exact ps_par3H (hot_of x hcm) (by rw [x.N]; exact x.nd) (by rw [x.N]; exact e2) (by rw [x.N]; exact e4) (by rw [x.N]; exact e6) nd.1.1 nd.1.2 nd.2 (by rw [x.sc]; exact local_at (pos := q1) hl0 (by simp)) (by rw [x.sc]; exact local_at (pos := q2) hl0 (by simp)) (by rw [x.sc]; exact local_at (pos := q3) hl0 (by simp)) hA sw
            refine fin.imp fun D σ H w => ?_
            refine tEs.mono (w.par h0) fun xs H1 ⟨q, k⟩ => ?_
            match xs, q with
            | [c, d, e], _ => exact ⟨c, d, e, rfl, k H1 fun _ _ e => e⟩
  · rename_i hp
    have sw := swPar_ok (j1 := j1) (j2 := j2) (p1 := p1) (p2 := p2) x hp
    obtain ⟨q1, q2⟩ := asg_find (env := X.env) n1
    refine (ps_asg (pe_tup hA) (pg_tup (x.calm hs) pg q2 q1) rfl sw rfl).imp fun D σ H w => ?_
    have len : ∀ {σ : L2.St} {H : Hp} {Q : List V → Hp → Prop}, tEs C call W es σ H Q → tEs C call W es σ H fun xs H1 => xs.length = clen es ∧ Q xs H1 := fun {σ H Q} ⟨ρ, S, R, kk⟩ => ⟨ρ, S, R, kk.imp (fun vs ρ' kk xs H' T a b c d e f => ⟨d.len.1, kk xs H' T a b c d e f⟩) fun _ _ _ z => z⟩
    refine tEs.mono (len (w.par h0)) fun xs H1 ⟨q0, q, kk⟩ => ⟨by rw [q0]; exact big_line hb, fun p hp => ?_⟩
    exact ⟨p, xs, rfl, SqT.of upd_same, by rw [q, hl], gPar_ok q (kk _ (keep_new hp))⟩
  · cases hs
end
end PyC
end

section
set_option maxHeartbeats 200000
namespace PyC
open PySem PySem.Spec L2
theorem pss_x {X : Cx} {C : RK} {call : CallT} {W : WX} {io : Bool} {b : CS} {l : List Stmt} (h : ∀ B : Bse, (B.io ≠ none → io = true) → PSs X l (tS C call W B io b)) : PSs X l (tSx C call W io b) :=
  ⟨fun pins s σ H D I ⟨B, hio, q⟩ => (h B hio).run pins s σ H D I q⟩
theorem noX {P : Program} {w : World} {o : List Env} {H : Hp} {s : Shared} {e : Value} {s' : Shared} (h : L2N.CX P w o H s (fun _ _ _ => False) e s') : False := by
  obtain ⟨_, _, _, _, _, _, _, _, _, _, _, _, z⟩ := h
  exact z
theorem raiseOf0_ok {st : Stmt} {x : Str} (h : raiseOf0 st = some x) : ∃ p1 p2 p3, st = .Raise (some (.Call (.Name x p1) [] [] p2)) none p3 := by
  unfold raiseOf0 at h
  split at h
  · cases h; exact ⟨_, _, _, rfl⟩
  · cases h
theorem raiseOf2_ok {st : Stmt} {x : Str} {a b : Expr} (h : raiseOf2 st = some (x, a, b)) : ∃ p1 p2 p3, st = .Raise (some (.Call (.Name x p1) [a, b] [] p2)) none p3 := by
  unfold raiseOf2 at h
  split at h
  · cases h; exact ⟨_, _, _, rfl⟩
  · cases h
theorem raiseOf_ok {st : Stmt} {x : Str} {a : Expr} (h : raiseOf st = some (x, a)) : ∃ p1 p2 p3, st = .Raise (some (.Call (.Name x p1) [a] [] p2)) none p3 := by
  unfold raiseOf at h
  split at h
  · cases h; exact ⟨_, _, _, rfl⟩
  · cases h
theorem tEs.one {C : RK} {call : CallT} {W : WX} {e : CE} {σ : L2.St} {H : Hp} {P : V → Hp → Prop} (h : tEs C call W (.cons e .nil) σ H fun vs H1 => ∃ v, vs = [v] ∧ P v H1) : tE C call W e σ H P :=
  h.cons.mono fun x H1 z => by
    obtain ⟨v, e, q⟩ := z.nil
    cases e; exact q
theorem lclB_ok {X : Cx} {k : Ck} {C : RK} {call : CallT} {W : WX} (x : XOk X k C call W) {n : Str} (h : lclB k n = true) : X.env.kindOf n = some .local := by
  unfold lclB at h
  unfold Env.kindOf
  rw [x.sc]
  split at h
  · assumption
  · cases h
theorem XOk.tr {X : Cx} {k : Ck} {C : RK} {call : CallT} {W W' : WX} (x : XOk X k C call W) (h : k.hot = false) {pn : List (Addr × Obj)} {xe : Value → Shared → Prop} (tk : L2N.Takes (X.tr pn xe) W') : XOk (X.tr pn xe) k C call W' :=
  { x with tk := tk, hots := fun z => by rw [h] at z; cases z }
theorem XOk.suite {X : Cx} {k : Ck} {C : RK} {call : CallT} {W : WX} (x : XOk X k C call W) {a : Addr} {oe : Obj} {cls : Value} {d : Option Addr} {pn : List (Addr × Obj)} (hz : L2N.Zn cls d oe) (hv : ∃ vs, oe.data = .fields vs) : XOk (X.suite a ((a, oe) :: pn)) k.hotC (C.at_ a cls d) call WF :=
  ⟨x.N, x.nd, x.sc, x.kind, x.fn, (fun z => by cases z), x.un, x.gd, x.fr, x.free, x.ct, (fun _ _ _ z => by cases z), takes_no, (fun _ _ z => by cases z), x.names, x.cls, (fun _ => ⟨X, a, oe, pn, rfl, rfl, hz, hv⟩), (fun z => by cases z), (fun z => by cases z), x.lamk, x.sm, fun _ _ _ z => by cases z⟩
mutual
theorem okS_ok : ∀ (c : CS) {k : Ck} {X : Cx} {C : RK} {call : CallT} {W : WX} {io : Bool} {st : Stmt}, okS c k io st = true → XOk X k C call W → PassesOwn (model X.prog X.w) X.A X.env X.xe → X.stack = X.env :: X.outer ∧ X.env.frame = some X.env.locals → ∀ B : Bse, (B.io ≠ none → io = true) → PS X st (tS C call W B io c)
  | .skip, k, X, C, call, W, io, st, h, x, hp, hf, B, hio => by
    unfold okS at h
    split at h
    · exact ps_doc.imp fun D σ H z => z.skip
    · exact ps_pass.imp fun D σ H z => z.skip
    · cases h
  | .ret e, k, X, C, call, W, io, st, h, x, hp, hf, B, hio => by
    unfold okS at h
    split at h
    · exact (ps_ret (okR_ok e h x (fun i hi => hi) hio)).imp fun D σ H z => z.ret
    · cases h
  | .retN, k, X, C, call, W, io, st, h, x, hp, hf, B, hio => by
    unfold okS at h
    split at h
    · exact ps_retN.imp fun D σ H z => z.retN
    · cases h
  | .brk, k, X, C, call, W, io, st, h, x, hp, hf, B, hio => by
    unfold okS at h
    split at h
    · exact ps_break.imp fun D σ H z => z.brk
    · cases h
  | .asg t e, k, X, C, call, W, io, st, h, x, hp, hf, B, hio => by
    unfold okS at h
    split at h
    · simp only [Bool.and_eq_true] at h
      exact asg_ok x h.2.1 h.2.2.1 h.2.2.2.1 h.2.2.2.2.1 h.2.2.2.2.2 (ioT_ok h.1 hio)
    · cases h
  | .par is es, k, X, C, call, W, io, st, h, x, hp, hf, B, hio => by
    unfold okS at h
    split at h
    · rename_i ts vs hq
      have : ∃ j1 p1 j2 p2 pos, st = .Assign [.Tuple ts j1 p1] (.Tuple vs j2 p2) pos := by
        unfold parOf at hq
        split at hq
        · cases hq; exact ⟨_, _, _, _, _, rfl⟩
        · cases hq
      obtain ⟨j1, p1, j2, p2, pos, rfl⟩ := this
      rw [Bool.and_eq_true, Bool.and_eq_true, Bool.and_eq_true, Bool.and_eq_true, Bool.and_eq_true, Bool.and_eq_true, Bool.and_eq_true, decide_eq_true_eq, decide_eq_true_eq] at h
      exact par_ok x h.2.1 h.2.2.1 h.2.2.2.1 h.2.2.2.2.1 h.2.2.2.2.2.1 h.2.2.2.2.2.2.1 h.2.2.2.2.2.2.2 (ioT_ok h.1 hio)
    · cases h
  | .app i e, k, X, C, call, W, io, st, h, x, hp, hf, B, hio => by
    unfold okS at h
    split at h
    · split at h
      · rename_i n a hq
        rw [Bool.and_eq_true] at h
        obtain ⟨p, ap, cp, rfl, hl, hs, _⟩ := methOf_ok hq
        exact (ps_expr (pe_meth1 x PySem.F.slot_list_append PySem.F.type_list_append mt_append h.1 (okE_ok e h.2 x) hs hl)).imp fun D σ H z => z.app
      · cases h
    · cases h
  | .exp e, k, X, C, call, W, io, st, h, x, hp, hf, B, hio => by
    unfold okS at h
    split at h
    · rw [Bool.and_eq_true, Bool.not_eq_true'] at h
      exact (ps_expr (okE_ok e h.2 x) (sw_plain h.1)).imp fun D σ H z => z.exp
    · cases h
  | .ifS c a b, k, X, C, call, W, io, st, h, x, hp, hf, B, hio => by
    unfold okS at h
    split at h
    · rw [Bool.and_eq_true, Bool.and_eq_true] at h
      exact (ps_if (okT_ok c h.1 x) (okB_ok a h.2.1 x hp hf B hio) (okB_ok b h.2.2 x hp hf B hio)).imp fun D σ H z => z.ite
    · cases h
  | .whl c b, k, X, C, call, W, io, st, h, x, hp, hf, B, hio => by
    unfold okS at h
    split at h
    · rw [Bool.and_eq_true] at h
      exact (ps_while hp (okT_ok c h.1 x) (okB_ok b h.2 x hp hf B hio)).imp fun D σ H z => z.whl
    · cases h
  | .for_ t it b, k, X, C, call, W, io, st, h, x, hp, hf, B, hio => by
    unfold okS at h
    split at h
    · rename_i tg it' l pos
      simp only [Bool.and_eq_true] at h
      obtain ⟨hcm, h1, h2, h3, h4, h5⟩ := h
      obtain ⟨wi, pi, hwi⟩ := okIT_ok it tg h4 x
      exact (ps_for hp (x.calm hcm) pi (okTg_ok t h3 x) (pss_x fun B' hio' => okB_ok b h5 x hp hf B' hio') (notSet_ok h2)).imp fun D σ H z => z.for_ (ioT_ok h1 hio) hio (fun R => hwi σ H R)
    · cases h
  | .frz _, k, X, C, call, W, io, st, h, x, hp, hf, B, hio => by unfold okS at h; cases h
  | .bad, k, X, C, call, W, io, st, h, x, hp, hf, B, hio => ⟨fun pins s σ H D I ⟨ρ, S, R, F, q⟩ => q.elim⟩
  | .seq _ _, k, X, C, call, W, io, st, h, x, hp, hf, B, hio => by unfold okS at h; cases h
  | .ext i e, k, X, C, call, W, io, st, h, x, hp, hf, B, hio => by
    unfold okS at h
    split at h
    · split at h
      · rename_i n a hq
        rw [Bool.and_eq_true] at h
        obtain ⟨p, ap, cp, rfl, hl, hs, _⟩ := methOf_ok hq
        refine (ps_expr (pe_meth1 x PySem.F.slot_list_extend PySem.F.type_list_extend (mt_extA) h.1 (okE_ok e h.2 x) hs hl)).imp fun D σ H z => ?_
        rw [x.fr]
        exact z.ext
      · cases h
    · cases h
  | .raise c es, k, X, C, call, W, io, st, h, x, hp, hf, B, hio => by
    unfold okS at h
    split at h
    · rename_i y a e hr
      simp only [Bool.and_eq_true, decide_eq_true_eq] at h
      obtain ⟨h1, h2, h3, h4, h5, h6⟩ := h
      obtain ⟨p1, p2, p3, rfl⟩ := raiseOf_ok hr
      obtain ⟨Ca, fI, fdI, q1, q2, q3, q4, q5, q6, q7, q8, q9, _⟩ := x.raises _ _ h2
      have hA := pa_cons (okE_ok e h6 x) pa_nil (star_cons h5)
      refine (L2N.ps_raise (x.calm h1) x.tk (mk_own q3 q5 q6 q7 (q9 h1) q8 (fun _ _ _ _ _ _ _ z => (noX z).elim) (glB_ok x h3) q1 hA (plainN_ok h4).1 (star_cons h5) (star_any (by simp [noStars, h5])))).imp fun D σ H z => ?_
      refine (z.raise q2).one.mono fun v H1 w => ⟨by simp, fun b nb => ⟨b, Ca, v, rfl, upd_same, q3, q4, fun dx hdx nd => ⟨rfl, dx, [("value", v)], upd_same, ?_, ?_, ?_⟩⟩⟩
      · rw [upd_ne nd]; exact upd_same
      · rw [upd_ne nd] at hdx; exact hdx
      · rw [upd_ne nd] at hdx
        have eq : upd (del (upd (upd (upd H1 b (exo b Ca none)) dx (exd dx [("value", v)])) b (exo b Ca (some dx))) b) dx (.xd [("value", v)]) = upd H1 dx (.xd [("value", v)]) := by
          funext y
          by_cases e1 : y = dx
          · subst e1; rw [upd_same, upd_same]
          · rw [upd_ne e1, upd_ne e1]
            by_cases e2 : y = b
            · subst e2; rw [del_same, nb]
            · rw [del_ne e2, upd_ne e2, upd_ne e1, upd_ne e2]
        rw [eq]
        exact w dx hdx
    · split at h
      · rename_i y hr
        simp only [Bool.and_eq_true, decide_eq_true_eq] at h
        obtain ⟨h1, h2, h3, h4⟩ := h
        obtain ⟨p1, p2, p3, rfl⟩ := raiseOf0_ok hr
        obtain ⟨Ca, q1, q2, q3⟩ := x.raiseM _ _ _ h2
        rcases q2 with ⟨_, hct, g1, g2, g3, Bn, nI, iI, bmB, g4, g5⟩ | ⟨hn, _⟩
        · exact (L2N.ps_raise (x.calm h1) x.tk (mk_own0 g4 g5 q1 g3 (raises_own g1 g2) (glB_ok x h3) (plainN_ok h4).1)).imp fun D σ H z => z.raise0 hct
        · cases hn
      · cases h
    · rename_i e f _
      split at h
      · rename_i y a b hr
        simp only [Bool.and_eq_true, decide_eq_true_eq] at h
        obtain ⟨h1, h2, h3, h4, h5, h6⟩ := h
        obtain ⟨p1, p2, p3, rfl⟩ := raiseOf2_ok hr
        obtain ⟨Ca, q1, q2, q3⟩ := x.raiseM _ _ _ h2
        rcases q2 with ⟨hn, _⟩ | ⟨_, hct, g1, g2, g3, fI, fdI, g4, g5, g6, g7⟩
        · cases hn
        have hA := (okEs_ok _ h6 x).pa h5
        have s0 : noStar a = true ∧ noStars [b] = true := by
          unfold noStars at h5 ⊢
          rwa [List.all_cons, Bool.and_eq_true] at h5
        have s1 := star_cons (es := [b]) (env := X.env) s0.1
        have s2 : ∀ q : Pos, (backTo q (starEach [b] X.env)).any (·.1) = false := fun q => star_any s0.2
        refine (L2N.ps_raise (x.calm h1) x.tk (mk_ownA g1 g4 g5 g6 (q3 h1) g7 (fun _ _ _ _ _ _ _ z => (noX z).elim) (glB_ok x h3) q1 hA (plainN_ok h4).1 s1 (s2 _))).imp fun D σ H z => ?_
        refine (z.raise2 (by decide) hct).mono fun vs H1 ⟨v, u, ev, w⟩ => ?_
        subst ev
        refine ⟨by simp, fun b nb => ⟨b, Ca, v, u, rfl, upd_same, g1, g2, g3, fun dx hdx nd => ⟨rfl, dx, [("limit", u), ("what", v)], upd_same, ?_, ?_, ?_⟩⟩⟩
        · rw [upd_ne nd]; exact upd_same
        · rw [upd_ne nd] at hdx; exact hdx
        · rw [upd_ne nd] at hdx
          have eq : upd (del (upd (upd (upd H1 b (exo b Ca none)) dx (exd dx [("limit", u), ("what", v)])) b (exo b Ca (some dx))) b) dx (.xd [("limit", u), ("what", v)]) = upd H1 dx (.xd [("limit", u), ("what", v)]) := by
            funext y
            by_cases e1 : y = dx
            · subst e1; rw [upd_same, upd_same]
            · rw [upd_ne e1, upd_ne e1]
              by_cases e2 : y = b
              · subst e2; rw [del_same, nb]
              · rw [del_ne e2, upd_ne e2, upd_ne e1, upd_ne e2]
          rw [eq]
          exact w dx hdx
      · cases h
    · cases h
  | .tryS b hs, k, X, C, call, W, io, st, h, x, hp, hf, B, hio => by
    unfold okS at h
    split at h
    · simp only [Bool.and_eq_true, Bool.not_eq_true'] at h
      obtain ⟨h1, h2, h3, h4, h5⟩ := h
      have hB : B.io = none := by
        cases e : B.io with
        | none => rfl
        | some t => have q := hio (by rw [e]; simp); rw [h1] at q; cases q
      subst h1
      obtain ⟨cvs, m, cl⟩ := okHs_ok hs h5 x hf B hB
      exact (ps_try_cl (tb := fun W' => tS C call W' B false b) hf.1 hf.2 (by rw [x.N]; exact x.nd) x.tk (fun W' pn xe tk' hp' => okB_ok b h4 (x.tr h3 tk') hp' hf B hio) cl).imp fun D σ H z => by
        have q := z.tryS hB m
        rw [← x.fr] at q
        exact q
    · cases h
theorem okHs_ok : ∀ (hs : CHs) {k : Ck} {X : Cx} {C : RK} {call : CallT} {W : WX} {l : List ExceptHandler}, okHs hs k l = true → XOk X k C call W → X.stack = X.env :: X.outer ∧ X.env.frame = some X.env.locals → ∀ (B : Bse), B.io = none →
    ∃ cvs, HsM C hs cvs ∧ Clauses X l (hsL C call B false hs cvs)
  | .nil, k, X, C, call, W, [], h, x, hf, B, hB => ⟨[], trivial, .nil⟩
  | .cons cs i hd hs, k, X, C, call, W, e :: r, h, x, hf, B, hB => by
    unfold okHs at h
    rw [Bool.and_eq_true] at h
    obtain ⟨h0, hr⟩ := h
    obtain ⟨cvs, m, cl⟩ := okHs_ok hs hr x hf B hB
    split at h0
    · rename_i y np nm b0 su pp
      simp only [Bool.and_eq_true, decide_eq_true_eq] at h0
      obtain ⟨h1, h2, h3, h4, h5⟩ := h0
      obtain ⟨cv, v, q1, q2, q3, q4⟩ := x.names _ _ h1
      refine ⟨cv :: cvs, ⟨fun c cls ns e => by rw [← x.fr]; exact (q4 c cls ns e).1, m⟩, ?_⟩
      have nms : Names X y cv := ⟨glB_ok x h2, (plainN_ok h3).1, q1⟩
      have su : ∀ (a : Addr) (oe : Obj) (cls : Value) (d : Option Addr) (pn : List (Addr × Obj)), L2N.Zn cls d oe → (∃ vs, oe.data = .fields vs) → PSs (X.suite a ((a, oe) :: pn)) (b0 :: su) (tS (C.at_ a cls d) call WF B false hd) := fun a oe cls d pn hz hv =>
        okB_ok hd (by first | exact h5 | exact h5) (x.suite hz hv) (fun _ _ z => z.elim) hf B (fun z => (z hB).elim)
      cases nm with
      | none =>
        cases i with
        | none => exact .no nms su cl
        | some j => cases h4
      | some n =>
        cases i with
        | none => cases h4
        | some j =>
          simp only [hNm, Bool.and_eq_true, decide_eq_true_eq] at h4
          exact .as nms (by rw [x.N]; exact h4.1) (lclB_ok x h4.2) su cl
    · cases h0
  | .nil, _, _, _, _, _, _ :: _, h, _, _, _, _ => by simp [okHs] at h
  | .cons _ _ _ _, _, _, _, _, _, [], h, _, _, _, _ => by simp [okHs] at h
theorem okB_ok : ∀ (c : CS) {k : Ck} {X : Cx} {C : RK} {call : CallT} {W : WX} {io : Bool} {l : List Stmt}, okB c k io l = true → XOk X k C call W → PassesOwn (model X.prog X.w) X.A X.env X.xe → X.stack = X.env :: X.outer ∧ X.env.frame = some X.env.locals → ∀ B : Bse, (B.io ≠ none → io = true) → PSs X l (tS C call W B io c)
  | .skip, k, X, C, call, W, io, [], h, x, hp, hf, B, hio => pss_nil.imp fun D σ H z => z.skip
  | .seq a b, k, X, C, call, W, io, l, h, x, hp, hf, B, hio => by
    unfold okB at h
    split at h
    · rename_i is hq
      have e : a = .frz is := by
        unfold frzOf at hq
        split at hq
        · cases hq; rfl
        · cases hq
      subst e
      exact (okB_ok b h x hp hf B hio).imp fun D σ H z => z.frz
    · split at h
      · rw [Bool.and_eq_true] at h
        exact (pss_cons (okS_ok a h.1 x hp hf B hio) (okB_ok b h.2 x hp hf B hio)).imp fun D σ H z => z.seq
      · cases h
  | .skip, _, _, _, _, _, _, _ :: _, h, _, _, _, _, _ => by simp [okB] at h
  | .ret _, _, _, _, _, _, _, _, h, _, _, _, _, _ => by simp [okB] at h
  | .retN, _, _, _, _, _, _, _, h, _, _, _, _, _ => by simp [okB] at h
  | .brk, _, _, _, _, _, _, _, h, _, _, _, _, _ => by simp [okB] at h
  | .asg _ _, _, _, _, _, _, _, _, h, _, _, _, _, _ => by simp [okB] at h
  | .par _ _, _, _, _, _, _, _, _, h, _, _, _, _, _ => by simp [okB] at h
  | .app _ _, _, _, _, _, _, _, _, h, _, _, _, _, _ => by simp [okB] at h
  | .ext _ _, _, _, _, _, _, _, _, h, _, _, _, _, _ => by simp [okB] at h
  | .exp _, _, _, _, _, _, _, _, h, _, _, _, _, _ => by simp [okB] at h
  | .ifS _ _ _, _, _, _, _, _, _, _, h, _, _, _, _, _ => by simp [okB] at h
  | .whl _ _, _, _, _, _, _, _, _, h, _, _, _, _, _ => by simp [okB] at h
  | .for_ _ _ _, _, _, _, _, _, _, _, h, _, _, _, _, _ => by simp [okB] at h
  | .raise _ _, _, _, _, _, _, _, _, h, _, _, _, _, _ => by simp [okB] at h
  | .tryS _ _, _, _, _, _, _, _, _, h, _, _, _, _, _ => by simp [okB] at h
  | .frz _, _, _, _, _, _, _, _, h, _, _, _, _, _ => by simp [okB] at h
  | .bad, _, _, _, _, _, _, _, h, _, _, _, _, _ => by simp [okB] at h
end
end PyC
end

section
set_option maxHeartbeats 200000
namespace PyC
open PySem PySem.Spec L2 PyProof.Rows
section
variable {X : Cx} {k : Ck} {C : RK} {call : CallT} {W : WX} {B : Bse}
/-- how such a body ends -/
def MkEnd (X : Cx) (C : RK) (call : CallT) (B : Bse) (c : CS) (ρ : Rho) (fl : Flow) (s' : Shared) : Prop :=
  ∃ (a : Addr) (i : Nat) (p : PyData) (σ' : L2.St) (H' : Hp) (S' : AS) (ρ' : Rho), fl = .ret (.ref a) ∧ Inv X [] σ' H' s' ∧ RepS C H' S' σ' ρ' ∧ Frm B H' S' σ' ρ' ∧ ρ'[i]? = some (.my p) ∧ σ'[i]? = some (some (.ref a)) ∧ evS call false c ρ = .rt true p (ρ'.set i .un)
def MkIn (C : RK) (W : WX) (B : Bse) : SOut → Prop
  | .rt true _ _ => True
  | .ex c ps ρ => kEx C W B c ps ρ
  | _ => False
theorem plain_out {a : CS} (h : plainS a = true) (ρ : Rho) : (∃ ρ', evS call false a ρ = .nx ρ') ∨ (∃ c ps ρ', evS call false a ρ = .ex c ps ρ') ∨ evS call false a ρ = .stuck := by
  cases a with
  | asg t e =>
    simp only [evS]
    cases evE call e ρ with
    | stuck => exact .inr (.inr rfl)
    | exc c ps ρ1 => exact .inr (.inl ⟨_, _, _, rfl⟩)
    | ok v ρ1 =>
      simp only [Out.s]
      cases asgT call t v (keep ρ1 (al e) v.2) with
      | stuck => exact .inr (.inr rfl)
      | exc c ps ρ2 => exact .inr (.inr rfl)
      | ok u ρ2 => exact .inl ⟨_, rfl⟩
  | app i e =>
    simp only [evS]
    split
    · exact .inr (.inr rfl)
    · cases evE call e ρ with
      | stuck => exact .inr (.inr rfl)
      | exc c ps ρ1 => exact .inr (.inl ⟨_, _, _, rfl⟩)
      | ok v ρ1 =>
        simp only [Out.s]
        split
        · split
          · exact .inl ⟨_, rfl⟩
          · exact .inr (.inr rfl)
        · exact .inr (.inr rfl)
  | _ => cases h
theorem mk_run : ∀ (c : CS) {l : List Stmt}, mkB c k l = true → XOk X k C call W → PassesOwn (model X.prog X.w) X.A X.env X.xe → X.stack = X.env :: X.outer ∧ X.env.frame = some X.env.locals → B.io = none → ∀ (s : Shared) (σ : L2.St) (H : Hp) (ρ : Rho) (S : AS), Inv X [] σ H s → RepS C H S σ ρ → Frm B H S σ ρ → MkIn C W B (evS call false c ρ) →
    wpAny (model X.prog X.w) X.A (execs l X.env) (fun fl s' => MkEnd X C call B c ρ fl s') X.xe s
  | .seq a b, l, h, x, hp, hf, hB, s, σ, H, ρ, S, I, R, F, m => by
    unfold mkB at h
    rw [Bool.or_eq_true] at h
    rcases h with h | h
    · unfold mkEnd at h
      split at h
      · rename_i i y p pos
        obtain ⟨sl, e0, e1⟩ : ∃ q ρ1, evS call false (.seq (.ret (.var i)) .skip) ρ = .rt true q ρ1 := by
          simp only [evS, evR] at m ⊢
          cases e : ρ[i]? with
          | none => rw [e] at m; exact m.elim
          | some sl =>
            rw [e] at m
            cases sl with
            | my q => exact ⟨q, _, rfl⟩
            | un => exact m.elim
            | fz q => exact m.elim
            | lk q => exact m.elim
            | ex c ps => exact m.elim
        have e2 := e1
        simp only [evS, evR] at e2
        cases e : ρ[i]? with
        | none => rw [e] at e2; cases e2
        | some s0 =>
          rw [e] at e2
          cases s0 with
          | my q =>
            have e3 : SOut.rt true q (ρ.set i .un) = .rt true sl e0 := e2
            cases e3
            obtain ⟨t, h1, h2, h3⟩ := R.my i _ _ e rfl rfl
            refine wpAny_execs_cons (wpAny_Return_some (thn ((slot_var (pos := p) x h).run [] s σ H (fun v H1 => v = .ref t ∧ H1 = H) I ⟨.ref t, h1, rfl, rfl⟩) fun u s1 ⟨v, H1, I1, r1, q1, q2⟩ => ?_))
            subst q1 q2
            obtain rfl : u = Value.ref t := r1
            exact ⟨t, i, _, σ, _, S, ρ, rfl, I1, R, F, e, h1, e1⟩
          | un => cases e2
          | fz q => cases e2
          | lk q => cases e2
          | ex c ps => cases e2
      · cases h
    · rw [Bool.and_eq_true] at h
      obtain ⟨hpl, h⟩ := h
      split at h
      case h_2 => cases h
      rename_i st ss
      rw [Bool.and_eq_true] at h
      simp only [evS] at m
      refine wpAny_execs_cons (thn ((okS_ok a h.1 x hp hf B (fun z => (z hB).elim)).run [] s σ H ⟨fun σ' H' => ∃ ρ' S', RepS C H' S' σ' ρ' ∧ Frm B H' S' σ' ρ' ∧ evS call false a ρ = .nx ρ', fun _ _ => False, fun _ _ => False, fun _ _ => False⟩ I ⟨ρ, S, R, F, ?_⟩) fun f s1 q => ?_)
      · rcases plain_out (call := call) hpl ρ with ⟨ρ1, e⟩ | ⟨c, ps, ρ1, e⟩ | e
        · rw [e]
          exact fun σ' H' S' R' F' => ⟨ρ1, S', R', F', rfl⟩
        · rw [e] at m ⊢
          exact m
        · rw [e] at m; exact m.elim
      · match f, q with
        | .next, ⟨σ', H', I', ρ1, S1, R1, F1, e⟩ =>
          rw [e] at m
          have m2 : MkIn C W B (evS call false b ρ1) := m
          refine thn (mk_run b h.2 x hp hf hB s1 σ' H' ρ1 S1 I' R1 F1 m2) fun fl s2 ⟨t, i, p, σ2, H2, S2, ρ2, z1, z2, z3, z4, z5, z6, z7⟩ => ?_
          refine ⟨t, i, p, σ2, H2, S2, ρ2, z1, z2, z3, z4, z5, z6, ?_⟩
          simp only [evS, e]
          exact z7
        | .ret v, ⟨_, _, _, _, _, z⟩ => exact z.elim
        | .brk, ⟨_, _, _, z⟩ => exact z.elim
        | .cont, ⟨_, _, _, z⟩ => exact z.elim
  | .skip, _, h, _, _, _, _, _, _, _, _, _, _, _, _, _ => by simp [mkB] at h
  | .ret _, _, h, _, _, _, _, _, _, _, _, _, _, _, _, _ => by simp [mkB] at h
  | .retN, _, h, _, _, _, _, _, _, _, _, _, _, _, _, _ => by simp [mkB] at h
  | .asg _ _, _, h, _, _, _, _, _, _, _, _, _, _, _, _, _ => by simp [mkB] at h
  | .par _ _, _, h, _, _, _, _, _, _, _, _, _, _, _, _, _ => by simp [mkB] at h
  | .app _ _, _, h, _, _, _, _, _, _, _, _, _, _, _, _, _ => by simp [mkB] at h
  | .ext _ _, _, h, _, _, _, _, _, _, _, _, _, _, _, _, _ => by simp [mkB] at h
  | .exp _, _, h, _, _, _, _, _, _, _, _, _, _, _, _, _ => by simp [mkB] at h
  | .ifS _ _ _, _, h, _, _, _, _, _, _, _, _, _, _, _, _, _ => by simp [mkB] at h
  | .whl _ _, _, h, _, _, _, _, _, _, _, _, _, _, _, _, _ => by simp [mkB] at h
  | .for_ _ _ _, _, h, _, _, _, _, _, _, _, _, _, _, _, _, _ => by simp [mkB] at h
  | .brk, _, h, _, _, _, _, _, _, _, _, _, _, _, _, _ => by simp [mkB] at h
  | .raise _ _, _, h, _, _, _, _, _, _, _, _, _, _, _, _, _ => by simp [mkB] at h
  | .tryS _ _, _, h, _, _, _, _, _, _, _, _, _, _, _, _, _ => by simp [mkB] at h
  | .frz _, _, h, _, _, _, _, _, _, _, _, _, _, _, _, _ => by simp [mkB] at h
  | .bad, _, h, _, _, _, _, _, _, _, _, _, _, _, _, _ => by simp [mkB] at h
end
section
variable {K K' : KC} {H H' : Hp} {T : AS}
theorem ArgL.up (e1 : K'.fr = K.fr) (e2 : K'.lam = K.lam) (h : ∀ j d, K.cell j = some d → K'.cell j = some d) {args : List (Bool × PyData)} {vs : List V} (a : ArgL K H T args vs) : ArgL K' H T args vs :=
  ⟨a.len, fun i w x h1 h2 => by
    have q := a.at_ i w x h1 h2
    unfold ArgV at q ⊢
    split
    · rename_i hb
      rw [if_pos hb] at q
      obtain ⟨t, e, r⟩ := q
      exact ⟨t, e, r.cell (m := false) e1 e2 (fun _ => h) fun z => by cases z⟩
    · rename_i hb
      rw [if_neg hb] at q
      exact q.cell (m := false) e1 e2 (fun _ => h) fun z => by cases z⟩
theorem RetV.dn {fs : Addr → Prop} (e1 : K'.fr = K.fr) (e2 : K'.lam = K.lam) {fr : Bool} {p : PyData} {x : V} (n : noOp p = true) (r : RetV K H H' fs T fr p x) : RetV K' H H' fs T fr p x := by
  unfold RetV at r ⊢
  split
  · rename_i hb
    rw [if_pos hb] at r
    obtain ⟨t, h1, h2, h3, h4⟩ := r
    exact ⟨t, h1, h2, h3, h4.cell (m := true) e1 e2 (fun z => by cases z) fun _ => n⟩
  · rename_i hb
    rw [if_neg hb] at r
    exact r.cell (m := true) e1 e2 (fun z => by cases z) fun _ => n
theorem Pay.dn {C C' : RK} (e1 : C'.fr.fr = C.fr.fr) (e2 : C'.fr.lam = C.fr.lam) (e3 : C'.ct = C.ct) {c : Nat} {ps : List PyData} {cls : Value} {d : Option Addr} (n : noOpL ps = true) (h : Pay C H T c ps cls d) : Pay C' H T c ps cls d := by
  obtain ⟨ns, vs, q1, q2, q3⟩ := h
  exact ⟨ns, vs, by rw [e3]; exact q1, q2.cell (m := true) e1 e2 (fun z => by cases z) (fun _ => n), q3⟩
end
/-- in a frame whose names have cells -/
abbrev RK.cl (C : RK) (X : Cx) : RK := { C with fr := { C.fr with cell := celOf X } }
section
variable {C : RK} {tbl : Nat → Option Fn} {d f : Nat} {F : Fn} {H : Hp} {S : AS} {args : List (Bool × PyData)} {vs : List V}
theorem run_own {CX : CXT} {P : Program} {w : World} {K : PySem.W.Frag} {mg : Str → Option Value} {base : Heap} {k : Nat} {f : Addr} {name qual : Str} {params : Arguments} {body : List Stmt} {scope : Scope} {dV kV doc pm cdv ct oc : Value} {an od : Option Addr}
    {osl : Array (Option Value)} {N ps : List Str} (lk : K.lookup f = some ⟨oc, od, .func (PySem.W.fnOf name qual params body scope dV kV doc pm an cdv ct), osl⟩) (hcd : PySem.W.codeIn K cdv qual = true) (S : FnScope N ps scope)
    {A : Around} {outer : List Env} {s : Shared} {H : Hp} {args : Args} {us : List Value} {vs : List V} {Q : VK} {E : XK} (hr : Room (k + 1) A) (e0 : Env0 P w K mg base A outer s H) (hb : BindsTo s (PySem.W.fnOf name qual params body scope dV kV doc pm an cdv ct) args (ps.zip us)) (r : Vals vs us) (hl : vs.length = ps.length)
    (hbody : ∀ s1, Room k (A.deeper (envOfC qual scope s.heap.objs.size f cdv)) → Inv (cxOf CX P w K mg base N qual scope f cdv A outer s H E) [] (L2.start N vs) H s1 →
      wpAny (model P w) (A.deeper (envOfC qual scope s.heap.objs.size f cdv)) (execs body (envOfC qual scope s.heap.objs.size f cdv)) (fun fl s' => ∃ u, fl = .ret u ∧ L2.CE outer P w H s Q u s') (cxOf CX P w K mg base N qual scope f cdv A outer s H E).xe s1) :
    codeAny (model P w) A (.call (.ref f) args) (CR CX outer P w H s Q E) s := by
  have inK : K.In s.heap := e0.mod.kin.keeps fun b o z => (e0.bs b o z).1
  have nolim : s.heap.NoLimit := e0.mod.nolimit.keeps fun b o z => (e0.bs b o z).1
  have kinds : ∀ y ∈ ps.zip us, scope.names.lookup y.1 = some .local ∨ (scope.names.lookup y.1 = some .cell ∧ ((cellsFrom (s.heap.objs.size + 1) scope.names []).lookup y.1).isSome = true) := fun y hy => by
    rcases S.par y.1 (List.of_mem_zip hy).1 with z | z
    · exact .inl z
    · exact .inr ⟨z, PySem.W.cellsFrom_some _ _ _ (.inl z)⟩
  refine codeAny_call_function hr.depth (inK _ _ lk) rfl S.co S.gen rfl (PySem.W.codeRec_of inK hcd) (hb _ _ _ _ (wpAny_newFunctionEnv_cells S.kind kinds fun env he s1 x => ?_))
  subst he
  refine ⟨nolim.keeps x.toInCall.keep, codeAny_func (wpAny_mono (hbody s1 (hr.deeper _) (inv_start S hr.hd e0 hl r x)) (fun fl s' z => ?_) fun e s' z => z)⟩
  obtain ⟨u, rfl, z⟩ := z
  exact z
end
end PyC
end

section
set_option maxHeartbeats 200000
namespace PyC
open PySem PySem.Spec L2
section
variable {C : RK} {tbl : Nat → Option Fn} {d f : Nat} {F : Fn} {H : Hp} {S : AS} {args : List (Bool × PyData)} {vs : List V}
theorem entry_len (h : args.length = F.np) : (entry F args).length = F.np + (F.ns - F.np) := by
  unfold entry
  simp [h]
theorem entry_at (h : args.length = F.np) {i : Nat} {s : Slot} (e : (entry F args)[i]? = some s) (n : s ≠ .un) : ∃ a, args[i]? = some a ∧ s = if a.1 then Slot.my a.2 else .fz a.2 := by
  unfold entry at e
  by_cases hi : i < args.length
  · rw [List.getElem?_append_left (by simpa using hi), List.getElem?_map] at e
    obtain ⟨a, e1, e2⟩ := Option.map_eq_some_iff.mp e
    exact ⟨a, e1, e2.symm⟩
  · rw [List.getElem?_append_right (by simpa using Nat.le_of_not_lt hi), List.getElem?_replicate] at e
    split at e
    · cases e; exact (n rfl).elim
    · cases e
theorem start_at {N : List Str} {i : Nat} {v : V} (e : vs[i]? = some v) : (L2.start N vs)[i]? = some (some v) := by
  unfold L2.start
  have hi := (List.getElem?_eq_some_iff.mp e).1
  rw [List.getElem?_append_left (by simpa using hi), List.getElem?_map, e]
  rfl
theorem entry_rep {N : List Str} (hl : args.length = F.np) (hN : N.length = F.ns) (hle : F.np ≤ F.ns) (al : ArgL C.fr H S args vs) (one : FrOne args vs) (ns : ∀ t, FrAt args vs t → ¬ S t) (dm : ∀ a, S a → ∃ o, H a = some o) (tb : LamX.Tabs C.fr.tabs H) : RepS C H S (L2.start N vs) (entry F args) ∧ ∀ i a, Own (L2.start N vs) (entry F args) i a → ∃ p, args[i]? = some (true, p) ∧ vs[i]? = some (.ref a) := by
  have hv : vs.length = F.np := by rw [← al.len, hl]
  have val : ∀ i a, args[i]? = some a → ∃ v, vs[i]? = some v ∧ (L2.start N vs)[i]? = some (some v) ∧ ArgV C.fr H S a v := fun i a e => by
    have hi : i < vs.length := by rw [← al.len]; exact (List.getElem?_eq_some_iff.mp e).1
    exact ⟨vs[i], List.getElem?_eq_getElem hi, start_at (List.getElem?_eq_getElem hi), al.at_ i a _ e (List.getElem?_eq_getElem hi)⟩
  have ow : ∀ i a, Own (L2.start N vs) (entry F args) i a → ∃ p, args[i]? = some (true, p) ∧ vs[i]? = some (.ref a) := fun i a ⟨s, h1, h2, h3⟩ => by
    obtain ⟨⟨b, p⟩, e1, e2⟩ := entry_at hl h1 (fun z => by rw [z] at h2; cases h2)
    obtain ⟨v, e3, e4, _⟩ := val i _ e1
    rw [h3] at e4; cases e4
    cases b
    · rw [e2] at h2; cases h2
    · exact ⟨p, e1, e3⟩
  refine ⟨⟨?_, fun i p e => ?_, fun i s p e m v => ?_, fun i j a h1 h2 => ?_, dm, tb, fun i c ps e => ?_⟩, ow⟩
  · rw [entry_len hl]
    unfold L2.start
    simp [hv, hN]
  · obtain ⟨⟨b, q⟩, e1, e2⟩ := entry_at hl e (fun z => by cases z)
    obtain ⟨v, e3, e4, av⟩ := val i _ e1
    cases b
    · cases e2
      exact ⟨v, e4, av⟩
    · cases e2
  · obtain ⟨⟨b, q⟩, e1, e2⟩ := entry_at hl e (fun z => by rw [z] at m; cases m)
    obtain ⟨w, e3, e4, av⟩ := val i _ e1
    cases b
    · rw [e2] at m; cases m
    · rw [e2] at v
      cases v
      obtain ⟨t, e5, r⟩ := av
      subst e5
      exact ⟨t, e4, ns t ⟨i, _, e1, e3⟩, r⟩
  · obtain ⟨p, e1, e2⟩ := ow i a h1
    obtain ⟨q, e3, e4⟩ := ow j a h2
    exact one i j p q a e1 e2 e3 e4
  · obtain ⟨⟨b, q⟩, e1, e2⟩ := entry_at hl e (fun z => by cases z)
    cases b <;> cases e2
/-- where a call's frame begins -/
def bseOf (F : Fn) (H : Hp) (S : AS) (args : List (Bool × PyData)) (vs : List V) : Bse :=
  ⟨H, FrAt args vs, S, if F.io then (match vs with
    | .ref t :: _ => some t
    | _ => none) else none, fun _ => False, fun _ _ => False⟩
theorem entry_frm {N : List Str} (hl : args.length = F.np) (al : ArgL C.fr H S args vs) (ow : ∀ i a, Own (L2.start N vs) (entry F args) i a → ∃ p, args[i]? = some (true, p) ∧ vs[i]? = some (.ref a)) : Frm (bseOf F H S args vs) H S (L2.start N vs) (entry F args) := by
  refine ⟨fun _ _ e _ _ => e, fun _ o e => ⟨o, e⟩, fun _ z => .inl z, fun i a o => .inr ?_, fun t e => ?_, fun _ z => z.elim, fun _ _ z => z.elim, fun _ _ _ z => z, fun i p e => ?_, fun _ z => z⟩
  · obtain ⟨p, e1, e2⟩ := ow i a o
    exact ⟨i, p, e1, e2⟩
  · unfold bseOf at e
    dsimp only at e
    split at e
    · split at e
      · cases e
        exact start_at rfl
      · cases e
    · cases e
  · obtain ⟨⟨b, q⟩, e1, e2⟩ := entry_at hl e (fun z => by cases z)
    cases b <;> cases e2
/-- a call's run, at its body -/
theorem body_of {N : List Str} {Q : VK} {E : XK} (hF : tbl f = some F) (hmk : F.mkc = false) (how : F.own = false) (hN : N.length = F.ns) (hle : F.np ≤ F.ns) (h : spF C (callF tbl (d + 1)) f vs H Q E) :
    vs.length = F.np ∧ ∃ B : Bse, (B.io ≠ none → F.io = true) ∧ tS C (callF tbl d) (fun cls d _ H => E cls d H) B F.io F.body { nx := fun _ H' => Q .non H', rt := Q } (L2.start N vs) H := by
  obtain ⟨S, args, dm, al, one, ns, tb, h⟩ := h
  simp only [callF, hF] at h
  by_cases hc : (args.length == F.np && ioOk F.io args) = true
  case neg => rw [if_neg hc] at h; exact h.elim
  rw [if_pos hc] at h
  rw [Bool.and_eq_true, beq_iff_eq] at hc
  obtain ⟨hl, hio⟩ := hc
  obtain ⟨R, ow⟩ := entry_rep (N := N) hl hN hle al one ns dm tb
  have Fm := entry_frm (N := N) hl al ow
  refine ⟨by rw [← al.len, hl], bseOf F H S args vs, fun z => ?_, entry F args, S, R, Fm, ?_⟩
  · unfold bseOf at z
    dsimp only at z
    split at z
    · assumption
    · exact (z rfl).elim
  · have ioB : F.io = true → ∃ t, vs.head? = some (.ref t) ∧ (bseOf F H S args vs).io = some t := fun hb => by
      rw [hb] at hio
      unfold ioOk at hio
      split at hio
      · rename_i a0 ds rest he hio'
        cases vs with
        | nil =>
          have := al.len
          simp at this
        | cons v vs =>
          have av := al.at_ 0 _ v (by rfl) (by rfl)
          obtain ⟨t, e1, _⟩ := av
          subst e1
          exact ⟨t, rfl, by unfold bseOf; rw [hb]; rfl⟩
      · cases hio
      · rename_i he; cases he
    have ioG : ∀ {ρ' : Rho} {io : Option (List PyData)} {x : V} {fr : Bool} {H' : Hp} {T : AS}, ioEnd F.io ρ' = some io → (∀ t, (bseOf F H S args vs).io = some t → ∀ ys, ρ'[0]? = some (.my (.list ys)) → flatL ys = true → Root C.fr H' (fun _ => False) (.list ys) t ∧ ¬ T t ∧ (fr = true → x ≠ .ref t)) → IoR C.fr H' T vs fr x io := fun {ρ' io x fr H' T} he k => by
      cases hb : F.io with
      | false =>
        rw [hb] at he
        cases he
        trivial
      | true =>
        rw [hb] at he
        unfold ioEnd at he
        split at he
        · rename_i xs r hq
          split at he
          · rename_i hf
            cases he
            obtain ⟨t, e1, e2⟩ := ioB hb
            obtain ⟨q1, q2, q3⟩ := k t e2 xs (by rfl) hf
            exact ⟨t, e1, q1, q2, q3⟩
          · cases he
        · cases he
        · rename_i hq; cases hq
    cases e : evS (callF tbl d) F.io F.body (entry F args) with
    | stuck => rw [e] at h; exact h.elim
    | bk ρ' => rw [e] at h; exact h.elim
    | nx ρ' =>
      rw [e] at h
      simp only [hmk, Bool.false_eq_true, if_false] at h
      intro σ' H' S' R' F'
      cases hi : ioEnd F.io ρ' with
      | none => simp only [hi] at h
      | some io =>
        simp only [hi] at h
        refine h .non H' (fun _ => False) ⟨F'.kept, F'.th, fun a z => z.elim, fun a z => z.elim⟩ R'.tab (by unfold RetV; rw [if_neg (by simp)]; rfl) (ioG hi ?_)
        exact io_end R' F' (fun t o z => z) fun z => by cases z
    | rt fr p ρ' =>
      rw [e] at h
      intro x H' r
      obtain ⟨T, r1, r2, r3, rth, rtb, r4, r5⟩ := r
      cases hi : ioEnd F.io ρ' with
      | none => simp only [hi] at h
      | some io =>
        simp only [hi, hmk, how, Bool.false_and, Bool.false_eq_true, if_false] at h
        exact h x H' T ⟨r3, rth, r1, r2⟩ rtb r4 (ioG hi r5)
    | ex c ps ρ' =>
      rw [e] at h
      intro cls d' σ' H' S' T R' F' t1 t2 py
      cases hb : F.io with
      | true => simp only [hb, Bool.true_or, if_true] at h
      | false =>
        simp only [hb, how, Bool.false_and, Bool.or_false, Bool.false_eq_true, if_false] at h
        exact h cls d' H' T ⟨F'.kept, F'.th, t1, t2⟩ R'.tab py
mutual
theorem flat_noOp : ∀ {p : PyData}, flatD p = true → noOp p = true
  | .none, _ => rfl
  | .bool _, _ => rfl
  | .int _, _ => rfl
  | .str _, _ => rfl
  | .list _, h => by simp [flatD] at h
  | .dict _, h => by simp [flatD] at h
  | .tuple ds, h => by unfold flatD at h; unfold noOp; exact flat_noOpL h
theorem flat_noOpL : ∀ {ds : List PyData}, flatL ds = true → noOpL ds = true
  | [], _ => rfl
  | d :: ds, h => by
    simp only [flatL, Bool.and_eq_true] at h
    simp only [noOpL, Bool.and_eq_true]
    exact ⟨flat_noOp h.1, flat_noOpL h.2⟩
end
/-- the same, in a frame that makes closures for its calls -/
theorem body_own {X : Cx} {N : List Str} {Q : VK} {E : XK} (hc : ∀ j a, C.fr.cell j = some a → False) (hF : tbl f = some F) (hmk : F.mkc = false) (how : F.own = true) (hN : N.length = F.ns) (hle : F.np ≤ F.ns) (h : spF C (callF tbl (d + 1)) f vs H Q E) :
    vs.length = F.np ∧ ∃ B : Bse, (B.io ≠ none → F.io = true) ∧ tS (C.cl X) (callF tbl d) (fun cls d _ H => E cls d H) B F.io F.body { nx := fun _ H' => Q .non H', rt := Q } (L2.start N vs) H := by
  obtain ⟨S, args, dm, al, one, ns, tb, h⟩ := h
  simp only [callF, hF] at h
  by_cases hcc : (args.length == F.np && ioOk F.io args) = true
  case neg => rw [if_neg hcc] at h; exact h.elim
  rw [if_pos hcc] at h
  rw [Bool.and_eq_true, beq_iff_eq] at hcc
  obtain ⟨hl, hio⟩ := hcc
  have al' : ArgL (C.cl X).fr H S args vs := ArgL.up (K := C.fr) (K' := (C.cl X).fr) rfl rfl (fun j a e => (hc j a e).elim) al
  obtain ⟨R, ow⟩ := entry_rep (C := C.cl X) (N := N) hl hN hle al' one ns dm tb
  have Fm := entry_frm (C := C.cl X) (N := N) hl al' ow
  refine ⟨by rw [← al.len, hl], bseOf F H S args vs, fun z => ?_, entry F args, S, R, Fm, ?_⟩
  · unfold bseOf at z
    dsimp only at z
    split at z
    · assumption
    · exact (z rfl).elim
  have ioB : F.io = true → ∃ t, vs.head? = some (.ref t) ∧ (bseOf F H S args vs).io = some t := fun hb => by
    rw [hb] at hio
    unfold ioOk at hio
    split at hio
    · cases vs with
      | nil =>
        have := al.len
        simp at this
      | cons v vs =>
        obtain ⟨t, e1, _⟩ := al.at_ 0 _ v (by rfl) (by rfl)
        subst e1
        exact ⟨t, rfl, by unfold bseOf; rw [hb]; rfl⟩
    · cases hio
    · rename_i he; cases he
  have ioG : ∀ {ρ' : Rho} {io : Option (List PyData)} {x : V} {fr : Bool} {H' : Hp} {T : AS}, ioEnd F.io ρ' = some io → (∀ t, (bseOf F H S args vs).io = some t → ∀ ys, ρ'[0]? = some (.my (.list ys)) → flatL ys = true → Root (C.cl X).fr H' (fun _ => False) (.list ys) t ∧ ¬ T t ∧ (fr = true → x ≠ .ref t)) → IoR C.fr H' T vs fr x io := fun {ρ' io x fr H' T} he k => by
    cases hb : F.io with
    | false =>
      rw [hb] at he
      cases he
      trivial
    | true =>
      rw [hb] at he
      unfold ioEnd at he
      split at he
      · rename_i xs r hq
        split at he
        · rename_i hf
          cases he
          obtain ⟨t, e1, e2⟩ := ioB hb
          obtain ⟨q1, q2, q3⟩ := k t e2 xs (by rfl) hf
          exact ⟨t, e1, Root.cell (K := (C.cl X).fr) (K' := C.fr) (m := true) rfl rfl (fun z => by cases z) (fun _ => by unfold noOp; exact flat_noOpL hf) q1, q2, q3⟩
        · cases he
      · cases he
      · rename_i hq; cases hq
  cases e : evS (callF tbl d) F.io F.body (entry F args) with
  | stuck => rw [e] at h; exact h.elim
  | bk ρ' => rw [e] at h; exact h.elim
  | nx ρ' =>
    rw [e] at h
    simp only [hmk, Bool.false_eq_true, if_false] at h
    intro σ' H' S' R' F'
    cases hi : ioEnd F.io ρ' with
    | none => simp only [hi] at h
    | some io =>
      simp only [hi] at h
      refine h .non H' (fun _ => False) ⟨F'.kept, F'.th, fun a z => z.elim, fun a z => z.elim⟩ R'.tab (by unfold RetV; rw [if_neg (by simp)]; rfl) (ioG hi ?_)
      exact io_end R' F' (fun t o z => z) fun z => by cases z
  | rt fr p ρ' =>
    rw [e] at h
    intro x H' r
    obtain ⟨T, r1, r2, r3, rth, rtb, r4, r5⟩ := r
    cases hi : ioEnd F.io ρ' with
    | none => simp only [hi] at h
    | some io =>
      simp only [hi, hmk, how, Bool.true_and, Bool.false_eq_true, if_false] at h
      cases hn : noOp p with
      | false => simp only [hn, Bool.not_false, if_true] at h
      | true =>
        simp only [hn, Bool.not_true, Bool.false_eq_true, if_false] at h
        exact h x H' T ⟨r3, rth, r1, r2⟩ rtb (RetV.dn (K := (C.cl X).fr) (K' := C.fr) rfl rfl hn r4) (ioG hi r5)
  | ex c ps ρ' =>
    rw [e] at h
    intro cls d' σ' H' S' T R' F' t1 t2 py
    cases hb : F.io with
    | true => simp only [hb, Bool.true_or, if_true] at h
    | false =>
      cases hn : noOpL ps with
      | false => simp only [hb, hn, how, Bool.not_false, Bool.and_true, Bool.or_true, if_true] at h
      | true =>
        simp only [hb, hn, how, Bool.not_true, Bool.and_false, Bool.or_false, Bool.false_eq_true, if_false] at h
        exact h cls d' H' T ⟨F'.kept, F'.th, t1, t2⟩ R'.tab (Pay.dn (C := C.cl X) (C' := C) rfl rfl rfl hn py)
/-- closures made here are handed back -/
theorem body_mk {X : Cx} {N : List Str} {Q : VK} {E : XK} {s : Shared} {outer : List Env} (hc : ∀ j a, C.fr.cell j = some a → False) (hF : tbl f = some F) (hio : F.io = false) (hmk : F.mkc = true) (how : F.own = true) (hN : N.length = F.ns) (hle : F.np ≤ F.ns)
    (x1 : X.s_0 = s) (x2 : X.H_0 = H) (x3 : X.ex = []) (x4 : X.fs = frs outer) (x5 : X.fn = fun _ => true) (fr0 : ∀ b, s.heap.objs.size ≤ b → H b = none) (h : spF C (callF tbl (d + 1)) f vs H Q E) :
    vs.length = F.np ∧ ∃ (B : Bse) (ρ : Rho) (S : AS), B.io = none ∧ RepS (C.cl X) H S (L2.start N vs) ρ ∧ Frm B H S (L2.start N vs) ρ ∧ MkIn (C.cl X) (fun cls d _ H => E cls d H) B (evS (callF tbl d) false F.body ρ) ∧
      ∀ fl s', MkEnd X (C.cl X) (callF tbl d) B F.body ρ fl s' → ∃ u, fl = .ret u ∧ L2.CE outer X.prog X.w H s Q u s' := by
  obtain ⟨S, args, dm, al, one, ns, tb, h⟩ := h
  simp only [callF, hF] at h
  by_cases hcc : (args.length == F.np && ioOk F.io args) = true
  case neg => rw [if_neg hcc] at h; exact h.elim
  rw [if_pos hcc] at h
  rw [Bool.and_eq_true, beq_iff_eq] at hcc
  obtain ⟨hl, _⟩ := hcc
  have al' : ArgL (C.cl X).fr H S args vs := ArgL.up (K := C.fr) (K' := (C.cl X).fr) rfl rfl (fun j a e => (hc j a e).elim) al
  obtain ⟨R, ow⟩ := entry_rep (C := C.cl X) (N := N) hl hN hle al' one ns dm tb
  have Fm := entry_frm (C := C.cl X) (N := N) hl al' ow
  have hB : (bseOf F H S args vs).io = none := by unfold bseOf; rw [hio]; rfl
  rw [hio] at h
  refine ⟨by rw [← al.len, hl], bseOf F H S args vs, entry F args, S, hB, R, Fm, ?_, fun fl s' ⟨a, i, p, σ', H', S', ρ', e1, I, R', F', e2, e3, e4⟩ => ?_⟩
  · cases e : evS (callF tbl d) false F.body (entry F args) with
    | stuck => rw [e] at h; exact h.elim
    | bk ρ' => rw [e] at h; exact h.elim
    | nx ρ' => rw [e] at h; simp only [hmk, if_true] at h
    | rt fr p ρ' =>
      cases fr with
      | true => trivial
      | false => rw [e] at h; simp only [ioEnd, hmk, Bool.false_eq_true, if_true, if_false] at h
    | ex c ps ρ' =>
      rw [e] at h
      intro cls d' σ' H' S' T R' F' t1 t2 py
      cases hn : noOpL ps with
      | false => simp only [hn, how, Bool.not_false, Bool.and_true, Bool.or_true, if_true] at h
      | true =>
        simp only [hn, how, Bool.not_true, Bool.and_false, Bool.or_false, Bool.false_eq_true, if_false] at h
        exact h cls d' H' T ⟨F'.kept, F'.th, t1, t2⟩ R'.tab (Pay.dn (C := C.cl X) (C' := C) rfl rfl rfl hn py)
  · subst e1
    rw [e4] at h
    simp only [ioEnd, hmk, if_true] at h
    cases hs : sealD (ρ'.set i .un) p with
    | none => simp only [hs] at h
    | some q =>
      simp only [hs] at h
      have ch := celH_of (C := C.cl X) I rfl
      have fd := dcel_fr I x5
      have nD : ∀ b o, H' b = some o → ¬ Dcel X b := fun b o e z => by rw [(fd b z).1] at e; cases e
      have ext : ∀ b o, H' b = some o → trk H' (Dcel X) s'.heap b = some o := fun b o e => by rw [trk_no (nD b o e)]; exact e
      have ab : ∀ d, Dcel X d → s.heap.objs.size ≤ d := fun d ⟨y, z⟩ => by rw [← x1]; exact I.ok.cab y d (by rw [x5]) z
      let T : AS := fun b => S' b ∨ Dcel X b
      have cel : CelR (C.cl X).fr C.fr (trk H' (Dcel X) s'.heap) T (ρ'.set i .un) := fun j d p2 h1 h2 h3 => by
        rcases set_get h2 with ⟨_, z⟩ | ⟨_, z⟩
        · cases z
        · obtain ⟨v, e5, r⟩ := R'.fz j p2 z
          obtain ⟨dd, o, u, e6, e7, e8⟩ := ch.val j d v h1 e5
          exact ⟨v, ⟨o, u, trk_at dd e6, e7, e8⟩, .inr dd, (Rep.cell (K := (C.cl X).fr) (K' := C.fr) (m := true) rfl rfl (fun z => by cases z) (fun _ => h3) r).stay (fun a o e _ _ => ext a o e) fun a z => .inl z⟩
      obtain ⟨a', e5, nS, rt⟩ := R'.my i _ p e2 rfl rfl
      rw [e3] at e5; cases e5
      have ra := Root.seal (K := (C.cl X).fr) (K' := C.fr) (H' := trk H' (Dcel X) s'.heap) (T' := T) rfl rfl (fun a o e _ => ext a o e) (fun _ z => .inl z) cel hs rt
      have u0 := I.base
      rw [x1, x2, x3, x4] at u0
      have hk := hok_trk I.hok (D := Dcel X) fun d z => ⟨(fd d z).1, (fd d z).2.1⟩
      have ltD : ∀ b o, s.heap.get? b = some o → ¬ Dcel X b := fun b o e z => absurd (Nat.lt_of_lt_of_le (Heap.lt_size e) (ab b z)) (Nat.lt_irrefl _)
      refine ⟨_, rfl, .ref a, trk H' (Dcel X) s'.heap, by rw [← x1]; exact I.os, I.bare, ⟨u0.keep, u0.slot, fun b o e n hx => ?_, u0.there, fun b xs e => ext _ _ (u0.tups b xs e), fun b o u e => ext _ _ (u0.frzs b o u e), fun b ps e => let ⟨m, z⟩ := u0.tbls b ps e; ⟨m, ext _ _ z⟩⟩, hk, rfl, ?_⟩
      · rw [trk_no (ltD b o e)]; exact u0.free b o e n hx
      · obtain ⟨oa, ea, _⟩ := rt.obj
        refine h (.ref a) _ T ⟨fun b o e t n => ext b o (F'.kept b o e t n), fun b o e => let ⟨o', z⟩ := F'.th b o e; ⟨o', ext b o' z⟩, fun b z => ?_, fun b z => ?_⟩ (R'.tab.ext ext) ?_ trivial
        · rcases z with z | z
          · exact F'.sb b z
          · exact .inr (.inl (fr0 b (ab b z)))
        · rcases z with z | z
          · obtain ⟨o, e⟩ := R'.dom b z
            exact ⟨o, ext b o e⟩
          · obtain ⟨o, e⟩ := (fd b z).2.1
            exact ⟨_, trk_at z e⟩
        · unfold RetV
          rw [if_pos rfl]
          exact ⟨a, rfl, F'.ow i a ⟨_, e2, rfl, e3⟩, fun z => z.elim nS (nD a oa ea), ra⟩
end
/-- what the text's names mean -/
structure Glob where
  ct : Str → Option PyData
  fns : Str → Option (Nat × List Str)
  kws : Str → List (List Str × List Nat)
  bl : List Str
  exc : Str → Option Nat
  exs : Str → Option (List Nat)
  exm : Str → Option (Nat × Nat)
/-- in a lambda's body -/
def Glob.ckL (g : Glob) (L : Lam) : Ck := ⟨L.fv, L.sc, fun _ => false, g.ct, g.fns, g.kws, g.bl, g.exc, g.exs, false, true, true, false, "", fun _ _ => false, g.exm⟩
def lamWB (L : Lam) : Bool := decide (L.sc.kind = .function) && (!L.sc.isCoroutine && (!L.sc.isGenerator && (L.sc.names.all (fun y => match y.2 with
  | .local => false
  | .cell => false
  | _ => true) && (L.sc.names.all (fun y => !isFr y.2 || L.fv.contains y.1) && (decide L.fv.Nodup && noPsB L.ps)))))
/-- the core terms of lambdas -/
def Glob.lam (g : Glob) (tbl : Nat → Option Fn) (f : Nat) (L : Lam) : Bool := lamWB L && match tbl f with
  | some F => decide (F.np = L.fv.length) && (decide (F.ns = F.np) && (!F.io && (!F.mkc && (!F.own && match F.body with
    | .ret e => okR e (g.ckL L) L.body
    | _ => false))))
  | none => false
def Glob.ck (g : Glob) (tbl : Nat → Option Fn) (N : List Str) (scope : Scope) : Ck := ⟨N, scope, fun _ => true, g.ct, g.fns, g.kws, g.bl, g.exc, g.exs, false, true, true, false, "", g.lam tbl, g.exm⟩
/-- in a frame that makes closures -/
def Glob.ckO (g : Glob) (tbl : Nat → Option Fn) (N : List Str) (scope : Scope) (q : Str) : Ck := ⟨N, scope, fun _ => true, g.ct, g.fns, g.kws, g.bl, g.exc, g.exs, false, true, false, true, q, g.lam tbl, g.exm⟩
/-- a def whose frame makes closures -/
def OwnOk (C : RK) (cs : List (Addr × Addr)) (fd : FuncData) (q : Str) : Prop := ∃ c P, fd.code = .ref c ∧ (c, P) ∈ cs ∧ (P, q) ∈ C.fr.tabs ∧ ∀ p ∈ C.fr.tabs, p.1 = P → p.2 = q
/-- what is known of the text's world -/
structure GOk (P : Program) (w : World) (K : PySem.W.Frag) (mg : Str → Option Value) (C : RK) (tbl : Nat → Option Fn) (g : Glob) (cs : List (Addr × Addr)) (FN : Nat → Addr → FuncData → List Str → Prop) : Prop where
  fr : K = C.fr.fr
  sm : ∃ o, K.lookup sysModules = some o ∧ o.cls = .type "dict"
  cell : C.fr.cell = fun _ => none
  lam : C.fr.lam.f = fun f L => g.lam tbl f L = true
  free : ∀ x, x ∈ g.bl → mg x = none
  ct : ∀ x p, g.ct x = some p → ∃ v u, mg x = some u ∧ RelV v u ∧ ∀ H, Rep C.fr H (fun _ => False) p v
  fns : ∀ x f ps, g.fns x = some (f, ps) → ∃ (fa : Addr) (fd : FuncData), mg x = some (.ref fa) ∧ PySem.W.keepIn K (.ref fa) = true ∧ FN f fa fd ps ∧ Binds K fd ps [] ∧
    ∀ ks pm, (ks, pm) ∈ g.kws x → ∃ gg gV, KBn K fd ps 0 ks gg gV ∧ ∀ zs : List V, zs.length = ks.length → permV zs pm = some (gV [] zs)
  raiseM : ∀ x c n, g.exm x = some (c, n) → ∃ Ca, mg x = some (.ref Ca) ∧ ∀ base : Heap, RaiseM P w K mg base C c n Ca
  raises : ∀ x c, g.exc x = some c → ∃ (Ca fI : Addr) (fdI : FuncData), mg x = some (.ref Ca) ∧ C.ct c = some (Value.ref Ca, [("value" : Str)]) ∧ OexC K Ca ∧ PySem.W.findIn K (.ref Ca) "value" = some none ∧ PySem.W.findIn K (.ref Ca) "__init__" = some (some (.ref fI)) ∧ PySem.W.typeIn K (.ref fI) = some (.type "function") ∧
    (∀ base : Heap, FnOk P w K mg base (L2N.CX P w) 1 fI fdI ["self", "value"] (spI K)) ∧ Binds K fdI ["self", "value"] [] ∧ KBn K fdI ["self", "value"] 1 [("value" : Str)] (fun us ws => us ++ ws) (fun us ws => us ++ ws)
  names : ∀ x cs, g.exs x = some cs → ∃ (cv : Value) (v : V), (mg x = some cv ∨ (mg x = none ∧ bootBuiltins x = some cv ∧ x ≠ "__name__")) ∧ ClsV v cv ∧ RelV v cv ∧ ∀ c cls ns, C.ct c = some (cls, ns) → PySem.W.exmOne K cls cv = some (cs.contains c) ∧ PySem.W.kitOne K cls cv = some (cs.contains c)
  cls : ∀ c cl ns, C.ct c = some (cl, ns) → ∃ Ca, cl = .ref Ca ∧ XfC K Ca ∧ ((ns = [] ∨ (ns = [("value" : Str)] ∨ ns = [("what" : Str), "limit"])) ∧ ∀ n ∈ ns, PySem.W.findIn K (.ref Ca) n = some none) ∧ IsF K Ca
  defs : ∀ f fa fd ps, FN f fa fd ps → ∃ (F : Fn) (N : List Str) (x qual : Str) (params : Arguments) (body : List Stmt) (scope : Scope), tbl f = some F ∧ FunD K x qual params body scope [] [] fa fd ∧ FnScope N ps scope ∧ N.length = F.ns ∧ ps.length = F.np ∧ F.np ≤ F.ns ∧
    ((F.mkc = false ∧ F.own = false ∧ okB F.body (g.ck tbl N scope) F.io body = true) ∨
      (F.own = true ∧ OwnOk C cs fd (qual ++ ".<locals>." ++ "<lambda>") ∧ ((F.mkc = false ∧ okB F.body (g.ckO tbl N scope (qual ++ ".<locals>." ++ "<lambda>")) F.io body = true) ∨ (F.mkc = true ∧ F.io = false ∧ mkB F.body (g.ckO tbl N scope (qual ++ ".<locals>." ++ "<lambda>")) body = true))))
/-- a def by its body -/
theorem fnG_of {P : Program} {w : World} {K : PySem.W.Frag} {mg : Str → Option Value} {base : Heap} {CX : CXT} {x qual : Str} {params : Arguments} {body : List Stmt} {scope : Scope} {dvs : List V} {kws : List (Str × V)} {f : Addr} {fd : FuncData} {N ps : List Str} {k : Nat} {sp : Sp} (F : FunD K x qual params body scope dvs kws f fd)
    (S : FnScope N ps scope) (len : ∀ vs H Q E, sp vs H Q E → vs.length = ps.length)
    (hbody : ∀ (cdv : Value) (A : Around) (outer : List Env) (s : Shared) (H : Hp) (vs : List V) (Q : VK) (E : XK), cdv = fd.code → Room k (A.deeper (PyProof.Rows.envOfC qual scope s.heap.objs.size f cdv)) → A.guards = some [] → sp vs H Q E →
      ∃ t, PSs (cxOf CX P w K mg base N qual scope f cdv A outer s H E) body t ∧ t { nx := fun _ H' => Q .non H', rt := Q } (L2.start N vs) H) : FnG P w K mg base CX (k + 1) f fd ps sp := by
  obtain ⟨oc, od, dV, kV, doc, pm, an, cdv, ct, osl, rfl, lk, hcd, _, _⟩ := F.ex
  exact ⟨len, fun A outer s H args us vs Q E hr gd e0 hb r hsp => LamX.run_ofS lk hcd S hr e0 hb r (len _ _ _ _ hsp) fun hr' => hbody cdv A outer s H vs Q E rfl hr' gd hsp⟩
theorem fnG_mk {P : Program} {w : World} {K : PySem.W.Frag} {mg : Str → Option Value} {base : Heap} {CX : CXT} {x qual : Str} {params : Arguments} {body : List Stmt} {scope : Scope} {dvs : List V} {kws : List (Str × V)} {f : Addr} {fd : FuncData} {N ps : List Str} {k : Nat} {sp : Sp} (F : FunD K x qual params body scope dvs kws f fd)
    (S : FnScope N ps scope) (len : ∀ vs H Q E, sp vs H Q E → vs.length = ps.length)
    (hbody : ∀ (cdv : Value) (A : Around) (outer : List Env) (s s1 : Shared) (H : Hp) (vs : List V) (Q : VK) (E : XK), cdv = fd.code → Env0 P w K mg base A outer s H → Room k (A.deeper (PyProof.Rows.envOfC qual scope s.heap.objs.size f cdv)) → A.guards = some [] → sp vs H Q E → Inv (cxOf CX P w K mg base N qual scope f cdv A outer s H E) [] (L2.start N vs) H s1 →
      wpAny (model P w) (A.deeper (PyProof.Rows.envOfC qual scope s.heap.objs.size f cdv)) (execs body (PyProof.Rows.envOfC qual scope s.heap.objs.size f cdv)) (fun fl s' => ∃ u, fl = .ret u ∧ L2.CE outer P w H s Q u s') (cxOf CX P w K mg base N qual scope f cdv A outer s H E).xe s1) : FnG P w K mg base CX (k + 1) f fd ps sp := by
  obtain ⟨oc, od, dV, kV, doc, pm, an, cdv, ct, osl, rfl, lk, hcd, _, _⟩ := F.ex
  exact ⟨len, fun A outer s H args us vs Q E hr gd e0 hb r hsp => run_own lk hcd S hr e0 hb r (len _ _ _ _ hsp) fun s1 hr' I => hbody cdv A outer s s1 H vs Q E rfl e0 hr' gd hsp I⟩
theorem lamWB_ok {L : Lam} (h : lamWB L = true) : LamW L := by
  unfold lamWB at h
  simp only [Bool.and_eq_true, decide_eq_true_eq, Bool.not_eq_true'] at h
  obtain ⟨h1, h2, h3, h4, h5, h6, h7⟩ := h
  refine ⟨h1, h2, h3, fun y hy => ?_, fun y hy e => ?_, h6, noPsB_ok h7⟩
  · have := List.all_eq_true.mp h4 y hy
    constructor <;> intro z <;> rw [z] at this <;> cases this
  · have := List.all_eq_true.mp h5 y hy
    rw [e] at this
    simpa [isFr] using this
theorem all_ok {P : Program} {w : World} {K : PySem.W.Frag} {mg : Str → Option Value} {base : Heap} {C : RK} {tbl : Nat → Option Fn} {g : Glob} {cs : List (Addr × Addr)} {FN : Nat → Addr → FuncData → List Str → Prop} (G : GOk P w K mg C tbl g cs FN) (TB : ∀ p ∈ cs, LamX.TabB base mg p.1 p.2) :
    ∀ (d : Nat), (∀ (f : Nat) (fa : Addr) (fd : FuncData) (ps : List Str), FN f fa fd ps → FnG P w K mg base (L2N.CX P w) (d + 2) fa fd ps (spF C (callF tbl d) f)) ∧ ∀ (f : Nat) (L : Lam), g.lam tbl f L = true → CloG P w K mg base (L2N.CX P w) (d + 2) L (spF C (callF tbl d) f)
  | 0 => ⟨fun f fa fd ps _ => ⟨fun vs H Q E ⟨S, args, _, _, _, _, _, h⟩ => h.elim, fun A outer s H args us vs Q E _ _ _ _ _ ⟨S, args', _, _, _, _, _, h⟩ => h.elim⟩, fun f L _ => ⟨fun A outer s H cl a c pm ct vs Q E _ _ _ _ _ _ _ _ ⟨S, args', _, _, _, _, _, h⟩ => h.elim⟩⟩
  | d + 1 => by
    obtain ⟨IF, IL⟩ := all_ok G TB d
    have hC : C.base = C := by
      obtain ⟨fr, xa, xc, xd⟩ := C
      obtain ⟨a, b, c, e⟩ := fr
      have : c = fun _ => none := G.cell
      subst this
      rfl
    have noc : ∀ j a, C.fr.cell j = some a → False := fun j a e => by rw [G.cell] at e; cases e
    -- what is known of calls
    have fnsK : ∀ {X : Cx}, X.prog = P → X.w = w → X.K = K → X.mg = mg → X.base = base → Room (d + 2) X.A → ∀ y f' ps', g.fns y = some (f', ps') → ∃ (a : Addr) (fd : FuncData) (n : Nat), X.mg y = some (.ref a) ∧ PySem.W.keepIn X.K (.ref a) = true ∧ FnG X.prog X.w X.K X.mg X.base (L2N.CX X.prog X.w) n a fd ps' (spF C (callF tbl d) f') ∧ Room n X.A ∧ Binds X.K fd ps' [] ∧
        (∀ ks pm, (ks, pm) ∈ g.kws y → ∃ gg gV, KBn X.K fd ps' 0 ks gg gV ∧ ∀ zs : List V, zs.length = ks.length → permV zs pm = some (gV [] zs)) := fun {X} e1 e2 e3 e4 e5 hr y f' ps' hy => by
      subst e1 e2 e3 e4 e5
      obtain ⟨fa', fd', q1, q2, q3, q4, q5⟩ := G.fns y f' ps' hy
      exact ⟨fa', fd', d + 2, q1, q2, IF f' fa' fd' ps' q3, hr, q4, q5⟩
    refine ⟨fun f fa fd ps hf => ?_, fun f L hL => ?_⟩
    · obtain ⟨F, N, x, qual, params, body, scope, e1, FD, SC, e2, e3, e4, hd⟩ := G.defs f fa fd ps hf
      rcases hd with ⟨hmk, how, hb⟩ | ⟨how, ⟨c, Pt, hcd, hcs, htb, huq⟩, hd⟩
      · refine fnG_of FD SC (fun vs H Q E h => by rw [e3]; exact (body_of (N := N) e1 hmk how e2 e4 h).1) fun cdv A outer s H vs Q E _ hr gd h => ?_
        obtain ⟨_, B, hio, ht⟩ := body_of (N := N) e1 hmk how e2 e4 h
        refine ⟨_, okB_ok F.body hb ?_ (passes_of rfl) ⟨rfl, rfl⟩ B hio, ht⟩
        refine ⟨rfl, SC.nd, rfl, SC.kind, rfl, fun _ => rfl, ?_, gd, G.fr, G.free, G.ct, fun y f' ps' hy => (by rw [hC]; exact fnsK rfl rfl rfl rfl rfl hr y f' ps' hy), L2N.takes_of rfl rfl rfl rfl, fun y c hy => ?_, G.names, G.cls, (fun z => by cases z), fun _ => ⟨hC, d + 2, hr, fun f' L' hL => IL f' L' (by rw [G.lam] at hL; exact hL)⟩, (fun z => by cases z), fun f' L' z => (by rw [G.lam]; exact z), G.sm, fun y c n hy => (let ⟨Ca, q1, q2⟩ := G.raiseM y c n hy; ⟨Ca, q1, q2 base, fun _ => hr.mono (by omega)⟩)⟩
        · have := hr.un
          show (A.deeper _).units + 130 < cLine
          omega
        · obtain ⟨Ca, fI, fdI, q1, q2, q3, q4, q5, q6, q7, q8, q9⟩ := G.raises y c hy
          exact ⟨Ca, fI, fdI, q1, q2, q3, q4, q5, q6, q7 base, q8, fun _ => hr.mono (by omega), q9⟩
      · have ownX : ∀ (cdv : Value) (A : Around) (outer : List Env) (s : Shared) (H0 : Hp) (E : XK), cdv = fd.code → Room (d + 2) (A.deeper (PyProof.Rows.envOfC qual scope s.heap.objs.size fa cdv)) → A.guards = some [] →
            XOk (cxOf (L2N.CX P w) P w K mg base N qual scope fa cdv A outer s H0 E) (g.ckO tbl N scope (qual ++ ".<locals>." ++ "<lambda>")) (C.cl (cxOf (L2N.CX P w) P w K mg base N qual scope fa cdv A outer s H0 E)) (callF tbl d) (fun cls d _ H => E cls d H) := fun cdv A outer s H0 E hcode hr gd => by
          have eb : (C.cl (cxOf (L2N.CX P w) P w K mg base N qual scope fa cdv A outer s H0 E)).base = C := hC
          refine ⟨rfl, SC.nd, rfl, SC.kind, rfl, fun _ => rfl, ?_, gd, G.fr, G.free, fun y p hy => ?_, fun y f' ps' hy => (by rw [eb]; exact fnsK rfl rfl rfl rfl rfl hr y f' ps' hy), L2N.takes_of rfl rfl rfl rfl, fun y c hy => ?_, G.names, G.cls, (fun z => by cases z), (fun z => by cases z), fun _ => ⟨c, Pt, hcode.trans hcd, TB _ hcs, htb, huq, rfl, rfl, rfl⟩, fun f' L' z => (by show C.fr.lam f' L'; rw [G.lam]; exact z), G.sm, fun y c n hy => (let ⟨Ca, q1, q2⟩ := G.raiseM y c n hy; ⟨Ca, q1, q2 base, fun _ => hr.mono (by omega)⟩)⟩
          · have := hr.un
            show (A.deeper _).units + 130 < cLine
            omega
          · obtain ⟨v, u, q1, q2, q3⟩ := G.ct y p hy
            exact ⟨v, u, q1, q2, fun H => Rep.cell (K := C.fr) (K' := (C.cl (cxOf (L2N.CX P w) P w K mg base N qual scope fa cdv A outer s H0 E)).fr) (m := false) rfl rfl (fun _ j a e => (noc j a e).elim) (fun z => by cases z) (q3 H)⟩
          · obtain ⟨Ca, fI, fdI, q1, q2, q3, q4, q5, q6, q7, q8, q9⟩ := G.raises y c hy
            exact ⟨Ca, fI, fdI, q1, q2, q3, q4, q5, q6, q7 base, q8, fun _ => hr.mono (by omega), q9⟩
        rcases hd with ⟨hmk, hb⟩ | ⟨hmk, hio, hb⟩
        · refine fnG_of FD SC (fun vs H Q E h => ?_) fun cdv A outer s H vs Q E hcode hr gd h => ?_
          · rw [e3]
            obtain ⟨S, args, _, al, _, _, _, h⟩ := h
            simp only [callF, e1] at h
            by_cases hcc : (args.length == F.np && ioOk F.io args) = true
            · rw [Bool.and_eq_true, beq_iff_eq] at hcc
              rw [← al.len, hcc.1]
            · rw [if_neg hcc] at h; exact h.elim
          · obtain ⟨_, B, hB, ht⟩ := body_own (X := cxOf (L2N.CX P w) P w K mg base N qual scope fa cdv A outer s H E) (N := N) noc e1 hmk how e2 e4 h
            exact ⟨_, okB_ok F.body hb (ownX cdv A outer s H E hcode hr gd) (passes_of rfl) ⟨rfl, rfl⟩ B hB, ht⟩
        · refine fnG_mk FD SC (fun vs H Q E h => ?_) fun cdv A outer s s1 H vs Q E hcode e0 hr gd h I => ?_
          · rw [e3]
            obtain ⟨S, args, _, al, _, _, _, h⟩ := h
            simp only [callF, e1] at h
            by_cases hcc : (args.length == F.np && ioOk F.io args) = true
            · rw [Bool.and_eq_true, beq_iff_eq] at hcc
              rw [← al.len, hcc.1]
            · rw [if_neg hcc] at h; exact h.elim
          · obtain ⟨_, B, ρ, S, hB, R, Fm, mi, fin⟩ := body_mk (X := cxOf (L2N.CX P w) P w K mg base N qual scope fa cdv A outer s H E) (N := N) noc e1 hio hmk how e2 e4 rfl rfl rfl rfl rfl (fun b hb => e0.hok.fresh hb) h
            exact wpAny_mono (mk_run F.body hb (ownX cdv A outer s H E hcode hr gd) (passes_of rfl) ⟨rfl, rfl⟩ hB s1 _ H ρ S I R Fm mi) (fun fl s' z => fin fl s' z) fun _ _ z => z
    · have hL0 := hL
      unfold Glob.lam at hL
      rw [Bool.and_eq_true] at hL
      obtain ⟨hw, hL⟩ := hL
      cases hF : tbl f with
      | none => rw [hF] at hL; cases hL
      | some F =>
        rw [hF] at hL
        simp only [Bool.and_eq_true, decide_eq_true_eq, Bool.not_eq_true'] at hL
        obtain ⟨h1, h2, h3, h4, h5, h6⟩ := hL
        split at h6
        case h_2 => cases h6
        rename_i e hbd
        have wf := lamWB_ok hw
        refine clo_of wf fun cl a c A outer s H vs Q E hr gd hl h => ?_
        obtain ⟨_, B, hio, ht⟩ := body_of (N := L.fv) hF h4 h5 (by rw [h2, h1]) (by omega) h
        rw [hbd, h3] at ht
        have hB : B.io ≠ none → false = true := fun z => by have := hio z; rw [h3] at this; exact this
        have xk : XOk (cxL (L2N.CX P w) P w K mg base L cl a c A outer s H E) (g.ckL L) C (callF tbl d) (fun cls d _ H => E cls d H) := by
          refine ⟨rfl, wf.nd, rfl, wf.kind, rfl, fun _ => rfl, ?_, gd, G.fr, G.free, G.ct, fun y f' ps' hy => (by rw [hC]; exact fnsK rfl rfl rfl rfl rfl hr y f' ps' hy), L2N.takes_of rfl rfl rfl rfl, fun y c hy => ?_, G.names, G.cls, (fun z => by cases z), fun _ => ⟨hC, d + 2, hr, fun f' L' hL => IL f' L' (by rw [G.lam] at hL; exact hL)⟩, (fun z => by cases z), fun f' L' z => (by cases z), G.sm, fun y c n hy => (let ⟨Ca, q1, q2⟩ := G.raiseM y c n hy; ⟨Ca, q1, q2 base, fun _ => hr.mono (by omega)⟩)⟩
          · have := hr.un
            show (A.deeper _).units + 130 < cLine
            omega
          · obtain ⟨Ca, fI, fdI, q1, q2, q3, q4, q5, q6, q7, q8, q9⟩ := G.raises y c hy
            exact ⟨Ca, fI, fdI, q1, q2, q3, q4, q5, q6, q7 base, q8, fun _ => hr.mono (by omega), q9⟩
        refine ⟨_, okR_ok (B := B) (as := al e) e h6 xk (fun i hi => hi) hB, ?_⟩
        have sv : L2.start L.fv vs = vs.map some := by
          unfold L2.start
          rw [hl, Nat.sub_self]
          simp
        rw [← sv]
        exact ht.ret
end PyC
end

section
set_option maxHeartbeats 200000
namespace PyC
open PySem PySem.Spec L2 PyProof.Rows
theorem law_sp {C : RK} {tbl : Nat → Option Fn} {D f : Nat} {H : Hp} {a : Addr} {ns : List Int} {E : XK} (hs : SqL C.fr.fr H a (ns.map V.int)) (tb : LamX.Tabs C.fr.tabs H) (h : ∃ fr io, callF tbl D f [(false, scriptD ns)] = .ok fr (.bool true) io) : spF C (callF tbl D) f [.ref a] H (fun v _ => v = .bl true) E := by
  obtain ⟨fr, io, h⟩ := h
  refine ⟨fun b => b = a ∧ ∃ o, H a = some o, [(false, scriptD ns)], fun b ⟨e, o⟩ => e ▸ o, ⟨rfl, fun i v x h1 h2 => ?_⟩, fun i j p q t h1 => ?_, fun t ⟨i, p, h1, _⟩ => ?_, tb, ?_⟩
  · cases i with
    | zero =>
      simp at h1 h2
      subst h1 h2
      unfold ArgV
      rw [if_neg (by simp)]
      refine .inl ⟨ns, a, rfl, rfl, ?_⟩
      rcases hs with hs | hs
      · refine .inl ⟨⟨rfl, ?_⟩, hs⟩
        rcases hs with hs | ⟨o, hs⟩ <;> exact ⟨_, hs⟩
      · exact .inr hs
    | succ i => simp at h1
  · cases i with
    | zero => simp at h1
    | succ i => simp at h1
  · cases i with
    | zero => simp at h1
    | succ i => simp at h1
  · rw [h]
    intro x H' T l _ r _
    unfold RetV at r
    split at r
    · obtain ⟨t, _, _, _, r⟩ := r
      cases r.flatF
    · exact r
/-- the heap at a law's entry: the script, if it is no known thing, and the empty tables -/
def entryH (K : PySem.W.Frag) (tabs : List (Addr × Addr)) (a : Addr) (ob : Obj) (xs : List V) : Hp := fun b => if b ∈ tabs.map (·.2) then some (.tbl #[]) else if b = a ∧ K.lookup a = none then some (.frz ob (.lst xs)) else none
section
variable {P : Program} {w : World} {K : PySem.W.Frag} {mg mb : Str → Option Value} {k : Nat} {fa a : Addr} {tabs : List (Addr × Addr)} {fd : FuncData} {x : Str} {sp : Sp} {st : Shared} {its : List Value} {ns : List Int}
theorem entryH_at {ob : Obj} {xs : List V} {b : Addr} {u : HO} (h : entryH K tabs a ob xs b = some u) : (b ∈ tabs.map (·.2) ∧ u = .tbl #[]) ∨ (b ∉ tabs.map (·.2) ∧ b = a ∧ K.lookup a = none ∧ u = .frz ob (.lst xs)) := by
  unfold entryH at h
  split at h
  · rename_i m; exact .inl ⟨m, (Option.some.inj h).symm⟩
  · rename_i m
    split at h
    · rename_i z; exact .inr ⟨m, z.1, z.2, (Option.some.inj h).symm⟩
    · cases h
theorem law_callG (kIn : K.In st.heap) (nsM : st.heap.Ns mainGlobals mg) (nsB : st.heap.Ns builtinsNs mb) (boot : ∀ x : Str, x ≠ "__name__" → mb x = bootBuiltins x) (lim : st.heap.NoLimit) (gens : st.gens = #[])
    (emp : ∀ p ∈ tabs, st.heap.get? p.2 = some { cls := .none, data := .fields #[] }) (out : ∀ p ∈ tabs, K.lookup p.2 = none) (cod : ∀ p ∈ tabs, PySem.W.CodeHd st.heap p.1 p.2)
    (bmod : ∃ (bm : Addr) (ob : Obj), mg "__builtins__" = some (.ref bm) ∧ bm ≠ builtinsNs ∧ st.heap.get? bm = some ob ∧ ob.cls = .type "module" ∧ ob.dict = some builtinsNs ∧ ob.data = .plain)
    (scr : st.heap.get? a = some { cls := .type "list", data := .seq its.toArray }) (whole : IntsAre its ns) (few : ns.length ≤ sizeLine) (room : Room k callerA)
    (F : ∀ base : Heap, K.In base → base.Ns mainGlobals mg → (∀ p ∈ tabs, LamX.TabB base mg p.1 p.2) → FnG P w K mg base (L2N.CX P w) k fa fd [x] sp) (bind : ∀ (s : Shared) (u : Value), BindsTo s fd ⟨[u], []⟩ [(x, u)])
    (hsp : ∀ Hz : Hp, (∀ p ∈ tabs, Hz p.2 = some (.tbl #[])) → SqL K Hz a (ns.map V.int) → sp [.ref a] Hz (fun v _ => v = .bl true) F0) :
    codeAny (model P w) callerA (.call (.ref fa) ⟨[.ref a], []⟩) (fun r s' => r = .ok (.ret (.bool true)) ∧ OldK st.heap s'.heap ∧ s'.os = st.os ∧ AllBare s'.gens) st := by
  have rel := vals_ints whole
  have tabAt : ∀ b ∈ tabs.map (·.2), st.heap.get? b = some { cls := .none, data := .fields #[] } := fun b m => let ⟨p, m1, e⟩ := List.mem_map.mp m; e ▸ emp p m1
  have aNot : a ∉ tabs.map (·.2) := fun m => by
    have := (tabAt a m).symm.trans scr
    simp at this
  let ob : Obj := { cls := .type "list", data := .seq its.toArray }
  let Hz : Hp := entryH K tabs a ob (ns.map V.int)
  have atTab : ∀ p ∈ tabs, Hz p.2 = some (.tbl #[]) := fun p m => if_pos (List.mem_map.mpr ⟨p, m, rfl⟩)
  have seq : SqL K Hz a (ns.map V.int) := by
    cases e : K.lookup a with
    | none => exact .inl (.inr ⟨ob, (if_neg aNot).trans (if_pos ⟨rfl, e⟩)⟩)
    | some o =>
      have e2 := (kIn a o e).symm.trans scr
      cases e2
      exact .inr ⟨_, its.toArray, _, e, rfl, rfl, rfl, by rw [List.size_toArray, whole.length]; exact few, by simpa using rel⟩
  have hokZ : HOk P w Hz st.heap := fun b u e => by
    rcases entryH_at e with ⟨m, rfl⟩ | ⟨_, rfl, _, rfl⟩
    · exact tabAt b m
    · exact ⟨scr, by rw [List.length_map]; exact few, its, _, rel, scr⟩
  -- what is no list and no empty table is not tracked
  have clear : ∀ {b : Addr} {o : Obj}, st.heap.get? b = some o → (∀ vs n, o.data ≠ .seq vs n) → o.data ≠ .fields #[] → Hz b = none := fun {b o} e n1 n2 => by
    cases q : Hz b with
    | none => rfl
    | some u =>
      rcases entryH_at q with ⟨m, _⟩ | ⟨_, rfl, _, _⟩
      · rw [tabAt b m] at e; cases e; exact (n2 rfl).elim
      · rw [scr] at e; cases e; exact (n1 _ _ rfl).elim
  have maps : ∀ {b : Addr} {m : Str → Option Value}, st.heap.Ns b m → (hidT st.heap Hz).Ns b m := fun {b m} ⟨o, es, ep, e, d, r⟩ => ⟨o, es, ep, hidT_get e (clear e (fun vs n z => by rw [d] at z; cases z) fun z => by rw [d] at z; cases z), d, r⟩
  have inBase : K.In (hidT st.heap Hz) := fun b o e => hidT_get (kIn b o e) (by
    cases q : Hz b with
    | none => rfl
    | some u =>
      rcases entryH_at q with ⟨m, _⟩ | ⟨_, rfl, z, _⟩
      · obtain ⟨p, m1, e1⟩ := List.mem_map.mp m
        rw [← e1, out p m1] at e; cases e
      · rw [z] at e; cases e)
  have words : ∀ p ∈ tabs, LamX.TabB (hidT st.heap Hz) mg p.1 p.2 := fun p m => by
    refine ⟨?_, ?_, fun z => ?_⟩
    · obtain ⟨o, us, c1, c2, c3, c4, c5, c6, c7, oAt, r1, r2, r3⟩ := cod p m
      exact ⟨o, us, c1, c2, c3, c4, c5, c6, c7, hidT_get oAt (clear oAt (fun vs n z => by rw [r2] at z; cases z) fun z => by rw [r2] at z; cases z; simp at r3), r1, r2, r3⟩
    · obtain ⟨bm, o, b1, b2, b3, b4, b5, b6⟩ := bmod
      refine ⟨bm, o, b1, b2, fun z => ?_, fun z => ?_, hidT_get b3 (clear b3 (fun vs n z => by rw [b6] at z; cases z) fun z => by rw [b6] at z; cases z), b4, b5, b6⟩
      · obtain ⟨o2, es, ep, e, d, _⟩ := nsM
        rw [z, e] at b3; cases b3; rw [d] at b6; cases b6
      · rw [z, emp p m] at b3; cases b3; cases b6
    · obtain ⟨o2, es, ep, e, d, _⟩ := nsM
      rw [z, emp p m] at e; cases e; cases d
  have start : Env0 P w K mg (hidT st.heap Hz) callerA [] st Hz := ⟨rfl, ⟨inBase, maps nsM, ⟨mb, maps nsB, boot⟩, let ⟨mc, l1, l2⟩ := lim; ⟨mc, maps l1, l2⟩⟩, fun b o e => of_hidT e, Nat.le_of_eq (hidT_size _ _), trivial, (fun b m => nomatch (show b ∈ ([] : List Addr) from m)), hokZ, .of_eq gens⟩
  refine codeAny_mono ((F _ inBase (maps nsM) words).run callerA [] st Hz ⟨[.ref a], []⟩ [.ref a] [.ref a] _ _ room rfl start (bind st (.ref a)) (.cons rfl .nil) (hsp Hz atTab seq)) fun r s' end_ => ?_
  match r, end_ with
  | .error e, end_ => exact (noX end_).elim
  | .ok .next, end_ => exact end_.elim
  | .ok .brk, end_ => exact end_.elim
  | .ok .cont, end_ => exact end_.elim
  | .ok (.ret u), ⟨v, H3, os, bare, un, hok3, rv, q⟩ =>
    have q : v = .bl true := q
    subst q
    obtain rfl : u = Value.bool true := rv
    have same : ∀ b o, b ∉ tabs.map (·.2) → st.heap.get? b = some o → s'.heap.get? b = some o := fun b o n e => by
      cases z : Hz b with
      | none => exact un.keep b o e z (fun m => nomatch (show b ∈ ([] : List Addr) from m)) (by simp)
      | some u =>
        rcases entryH_at z with ⟨m, _⟩ | ⟨_, rfl, _, rfl⟩
        · exact (n m).elim
        · have e2 := frz_of hok3 (un.frzs b _ _ z)
          rw [scr] at e; cases e
          exact e2
    have more : ∀ p ∈ tabs, ∃ new : Array Value, s'.heap.get? p.2 = some { cls := .none, data := .fields new } := fun p m => let ⟨new, z⟩ := un.tbls p.2 #[] (atTab p m); ⟨_, hok3 p.2 _ z⟩
    refine ⟨rfl, ⟨fun b o e => ?_, fun b o e => ?_⟩, os, bare⟩
    · by_cases m : b ∈ tabs.map (·.2)
      · obtain ⟨p, m1, e1⟩ := List.mem_map.mp m
        obtain ⟨new, z⟩ := more p m1
        subst e1
        rw [emp p m1] at e
        cases e
        exact .inr (.inl ⟨((cod p m1).tab (emp p m1)).isCodeTable, rfl, #[], new, rfl, by rw [Array.empty_append]; exact z⟩)
      · exact .inl (same b o m e)
    · by_cases m : b ∈ tabs.map (·.2)
      · obtain ⟨p, m1, e1⟩ := List.mem_map.mp m
        obtain ⟨new, z⟩ := more p m1
        exact ⟨_, e1 ▸ z⟩
      · exact ⟨o, same b o m e⟩
/-- the end of a law -/
theorem walk_G {l : PySem.W.OpenLaw} {n k : Nat} {q : Program} {loose : List Str} {XP : (Str → Option Value) → Heap → Prop} {YP : World → Heap → Prop} {d : DefRec} {x : Str} (hn : l.most = some n) (hn2 : n ≤ sizeLine) (hdf : d.params.defaults = []) (hr : Room k callerA)
    (F : ∀ (w : World) (mg : Str → Option Value) (fa : Addr) (h : Heap), YP w h → h.Ns mainGlobals mg → mg d.name = some (.ref fa) → ∃ (K : PySem.W.Frag) (fd : FuncData) (tabs : List (Addr × Addr)) (sp : Sp), K.In h ∧ (∀ p ∈ tabs, h.get? p.2 = some { cls := .none, data := .fields #[] }) ∧ (∀ p ∈ tabs, K.lookup p.2 = none) ∧ (∀ p ∈ tabs, PySem.W.CodeHd h p.1 p.2) ∧ (∀ (s : Shared) (u : Value), BindsTo s fd ⟨[u], []⟩ [(x, u)]) ∧
      (∀ (Hz : Hp) (a : Addr) (ns : List Int), ns.length ≤ n → (∀ p ∈ tabs, Hz p.2 = some (.tbl #[])) → SqL K Hz a (ns.map V.int) → sp [.ref a] Hz (fun v _ => v = .bl true) F0) ∧ ∀ base : Heap, K.In base → base.Ns mainGlobals mg → (∀ p ∈ tabs, LamX.TabB base mg p.1 p.2) → FnG l.prog w K mg base (L2N.CX l.prog w) k fa fd [x] sp) :
    PySem.W.WalkO q loose XP YP l.row.toRowW d [] (fun f vs => PySem.call f vs) := by
  refine Att.attach_callB hn hdf fun w s₀ s₁ mg mb fa o pm cd doc a vs ns G Y ho hd hcd hmg hobj hints hlen hbits hg => ?_
  obtain ⟨K, fd, tabs, sp, h1, h2, h3, h4, h5, h6, h7⟩ := F w mg fa _ Y G.T.g hmg
  exact law_callG h1 G.T.g G.T.b G.T.builtins G.T.nolimit hg h2 h3 h4 G.T.bmain hobj hints (Nat.le_trans hlen hn2) hr h7 h5 fun Hz e1 e2 => h6 Hz a ns hlen e1 e2
end
end PyC
end

section
set_option maxHeartbeats 200000
namespace PyC
open PySem PySem.Spec L2 PyProof.Rows
/-! ### what is looked at in the heap -/
def eqOO (a b : Option (Option Value)) : Bool := decide (a = b)
def oexB (K : PySem.W.Frag) (C : Addr) : Bool := match K.lookup C with
  | some ⟨.type "type", _, .cls cd, sl⟩ => (match cd.mro, sl.toList with
    | .ref C' :: bm, [_, _, _, _, some (.builtin n), _] => C' == C && (n == "ValueError.__new__" && (!cd.hasDel && (cd.hasDict && (PySem.HandSPX.refsVE bm && (eqOO (PySem.W.findIn K (.ref C) "__setattr__") (some (some (.builtin "object.__setattr__"))) &&
        (decide (PySem.W.subIn K (.ref C) (.type "BaseException") = some true) && (decide (PySem.W.typeIn K (.ref C) = some (.type "type")) && PySem.W.keepIn K (.ref C))))))))
    | _, _ => false)
  | _ => false
theorem oexB_ok {K : PySem.W.Frag} {C : Addr} (q : oexB K C = true) : OexC K C := by
  unfold oexB at q
  split at q
  · rename_i dd cd sl ho
    split at q
    · rename_i C' bm k0 k1 k2 k3 n k5 hm hs
      simp only [Bool.and_eq_true, beq_iff_eq, Bool.not_eq_true', decide_eq_true_eq] at q
      obtain ⟨rfl, rfl, hdel, hd, hb, h1, h2, h3, h4⟩ := q
      refine ⟨?_, of_decide_eq_true h1, h2, h3, h4⟩
      obtain ⟨nm, bs, mro, ns, qn, hdc, sn, sub, ab, col, del⟩ := cd
      dsimp only at hm hdel hd
      subst hm hdel hd
      have hsl : sl = #[k0, k1, k2, k3, some (.builtin "ValueError.__new__"), k5] := by
        obtain ⟨l⟩ := sl
        simp only at hs
        rw [hs]
      subst hsl
      exact ⟨nm, qn, ns, bs, bm, sn, sub, ab, col, dd, k0, k1, k2, k3, k5, ho, hb⟩
    · cases q
  · cases q
def isfB (K : PySem.W.Frag) (D : Addr) : Bool := (PySem.W.clsIn K D).isSome && (eqOO (PySem.W.findIn K (.ref D) "__class__") (some (some (.builtin "object.__class__"))) && (eqOO (PySem.W.specialIn K (.builtin "object.__class__") "__get__") (some (some (.builtin "getset_descriptor.__get__"))) &&
  (decide (PySem.W.takesIn K (.builtin "object.__class__") = some true) && decide (PySem.W.mroIn K D (.type "object") = some true))))
theorem isfB_ok {K : PySem.W.Frag} {D : Addr} (h : isfB K D = true) : IsF K D := by
  unfold isfB eqOO at h
  simp only [Bool.and_eq_true, decide_eq_true_eq] at h
  obtain ⟨h1, h2, h3, h4, h5⟩ := h
  exact ⟨h1, h2, h3, h4, h5⟩
def oexA (K : PySem.W.Frag) (C : Addr) : Bool := match K.lookup C with
  | some ⟨.type "type", _, .cls cd, sl⟩ => (match cd.mro, sl.toList with
    | .ref C' :: bm, [_, _, _, _, some (.builtin n), _] => C' == C && (n == "ArithmeticError.__new__" && (!cd.hasDel && (cd.hasDict && (mroA bm && (eqOO (PySem.W.findIn K (.ref C) "__setattr__") (some (some (.builtin "object.__setattr__"))) &&
        (decide (PySem.W.subIn K (.ref C) (.type "BaseException") = some true) && (decide (PySem.W.typeIn K (.ref C) = some (.type "type")) && PySem.W.keepIn K (.ref C))))))))
    | _, _ => false)
  | _ => false
theorem oexA_ok {K : PySem.W.Frag} {C : Addr} (q : oexA K C = true) : OexA K C := by
  unfold oexA at q
  split at q
  · rename_i dd cd sl ho
    split at q
    · rename_i C' bm k0 k1 k2 k3 n k5 hm hs
      simp only [Bool.and_eq_true, beq_iff_eq, Bool.not_eq_true', decide_eq_true_eq] at q
      obtain ⟨rfl, rfl, hdel, hd, hb, h1, h2, h3, h4⟩ := q
      refine ⟨?_, of_decide_eq_true h1, h2, h3, h4⟩
      obtain ⟨nm, bs, mro, ns, qn, hdc, sn, sub, ab, col, del⟩ := cd
      dsimp only at hm hdel hd
      subst hm hdel hd
      have hsl : sl = #[k0, k1, k2, k3, some (.builtin "ArithmeticError.__new__"), k5] := by
        obtain ⟨l⟩ := sl
        simp only at hs
        rw [hs]
      subst hsl
      exact ⟨nm, qn, ns, bs, bm, sn, sub, ab, col, dd, k0, k1, k2, k3, k5, ho, hb⟩
    · cases q
  · cases q
/-! ### an exception's __init__ with one field -/
section
variable {P : Program} {w : World} {K : PySem.W.Frag} {mg : Str → Option Value} {base : Heap} {f : Addr} {fd : FuncData} {x qual : Str} {params : Arguments} {body : List Stmt} {scope : Scope} {kws : List (Str × V)} {dvs : List V}
theorem init_ok (F : FunD K x qual params body scope dvs kws f fd) (hb : ∃ p1 p2 p3 pos, body = [.Assign [.Attribute (.Name "self" p1) "value" p2] (.Name "value" p3) pos]) (S : FnScope ["self", "value"] ["self", "value"] scope) : FnOk P w K mg base (L2N.CX P w) 1 f fd ["self", "value"] (spI K) := by
  obtain ⟨p1, p2, p3, pos, rfl⟩ := hb
  have vis : ∀ x ∈ (["self", "value"] : List Str), Vis scope x := fun x m => (S.par x m).elim .inl fun z => .inr (.inl z)
  refine F.ok S (fun vs H Q E h => ?_) (fun cdv A outer s H vs Q E hr h => ⟨_, pss_one (ps_ost (X := cxOf (L2N.CX P w) P w K mg base ["self", "value"] qual scope f cdv A outer s H E) (f := "value") (pv (x := "self") 0 rfl (vis "self" (by simp))) (pv (x := "value") 1 rfl (vis "value" (by simp)))), ?_⟩)
  · obtain ⟨a, Ca, v, rfl, _⟩ := h
    rfl
  · obtain ⟨a, Ca, v, rfl, h1, h2, h3, h4⟩ := h
    exact ⟨v, rfl, .ref a, rfl, a, Ca, rfl, h2, h3, .inl ⟨h1, fun dx n ne => h4 dx n ne⟩⟩
/-- .. with two -/
theorem init2_ok (F : FunD K x qual params body scope dvs kws f fd) (hb : ∃ p1 p2 p3 p4 p5 p6 q1 q2, body = [.Assign [.Attribute (.Name "self" p1) "what" p2] (.Name "what" p3) q1, .Assign [.Attribute (.Name "self" p4) "limit" p5] (.Name "limit" p6) q2]) (S : FnScope ["self", "what", "limit"] ["self", "what", "limit"] scope) : FnOk P w K mg base (L2N.CX P w) 1 f fd ["self", "what", "limit"] (spI2 K) := by
  obtain ⟨p1, p2, p3, p4, p5, p6, q1, q2, rfl⟩ := hb
  have vis : ∀ x ∈ (["self", "what", "limit"] : List Str), Vis scope x := fun x m => (S.par x m).elim .inl fun z => .inr (.inl z)
  refine F.ok S (fun vs H Q E h => ?_) (fun cdv A outer s H vs Q E hr h => ⟨_, pss_cons (ps_fldA (X := cxOf (L2N.CX P w) P w K mg base ["self", "what", "limit"] qual scope f cdv A outer s H E) (f := "what") (pv (x := "self") 0 rfl (vis "self" (by simp))) (pv (x := "what") 1 rfl (vis "what" (by simp)))) (pss_one (ps_fldA (X := cxOf (L2N.CX P w) P w K mg base ["self", "what", "limit"] qual scope f cdv A outer s H E) (f := "limit") (pv (x := "self") 0 rfl (vis "self" (by simp))) (pv (x := "limit") 2 rfl (vis "limit" (by simp))))), ?_⟩)
  · obtain ⟨a, Ca, v, u, rfl, _⟩ := h
    rfl
  · obtain ⟨a, Ca, v, u, rfl, h1, h2, h3, h4, h5⟩ := h
    refine ⟨v, rfl, .ref a, rfl, a, Ca, rfl, h2, h3, .inl ⟨h1, fun dx n ne => ?_⟩⟩
    refine ⟨u, rfl, .ref a, rfl, a, Ca, rfl, h2, h4, .inr ⟨dx, [("what", v)], upd_same, (by rw [upd_ne ne]; exact upd_same), (show 1 ≤ 900 by decide), ?_⟩⟩
    have := h5 dx n ne
    have e : upd (upd (upd H dx (exd dx [("what", v)])) a (exo a Ca (some dx))) dx (exd dx [("limit", u), ("what", v)]) = upd (upd H dx (exd dx [("limit", u), ("what", v)])) a (exo a Ca (some dx)) := by
      funext b
      by_cases e1 : b = dx
      · subst e1; rw [upd_same, upd_ne ne, upd_same]
      · rw [upd_ne e1]
        by_cases e2 : b = a
        · subst e2; rw [upd_same, upd_same]
        · rw [upd_ne e2, upd_ne e2, upd_ne e1, upd_ne e1]
    rw [e]
    exact this
end
/-! ### the text -/
/-- a def: its name, its statement, its names (the parameters first), how many parameters -/
structure Inf where
  x : Str
  st : Stmt
  N : List Str
  np : Nat
def Inf.ps (e : Inf) : List Str := e.N.take e.np
def Inf.d (e : Inf) : He.DefD := ⟨(e.x, none), e.x, e.x, defArgs e.st, defBody e.st, defScope e.st, [], []⟩
def Inf.q (e : Inf) : Str := e.x ++ ".<locals>." ++ "<lambda>"
structure Txt where
  tbl : Nat → Option Fn
  ct : List (Str × PyData)
  fns : List (Str × (Nat × List Str))
  kws : List (Str × List (List Str × List Nat))
  bl : List Str
  exc : List (Str × Nat)
  exs : List (Str × List Nat)
  info : List Inf
  /-- the own exceptions, by their numbers -/
  cls : List Str
  /-- the built-in ones that are named -/
  xb : List (Str × String)
  /-- the first of the own exceptions, its __init__ -/
  top : Str
  ini : Stmt
  /-- the defs that make closures -/
  own : List Str
  /-- own exceptions without a field (0), with two (2); the __init__ of the last -/
  kd : List (Str × Nat)
  ini2 : Option (Str × Stmt)
def Txt.kind (T : Txt) (x : Str) : Nat := match T.kd.lookup x with
  | some 0 => 0
  | some 2 => 2
  | _ => 1
theorem Txt.kind_3 (T : Txt) (x : Str) : T.kind x = 0 ∨ (T.kind x = 2 ∧ T.kd.lookup x = some 2) ∨ T.kind x = 1 := by
  unfold Txt.kind
  split
  · exact .inl rfl
  · exact .inr (.inl ⟨rfl, ‹_›⟩)
  · exact .inr (.inr rfl)
def nsOf : Nat → List Str
  | 0 => []
  | 2 => ["what", "limit"]
  | _ => ["value"]
theorem nsOf_3 (n : Nat) : nsOf n = [] ∨ (nsOf n = [("value" : Str)] ∨ nsOf n = [("what" : Str), "limit"]) := by
  unfold nsOf
  split
  · exact .inl rfl
  · exact .inr (.inr rfl)
  · exact .inr (.inl rfl)
abbrev Txt.g (T : Txt) : Glob := ⟨fun x => T.ct.lookup x, fun x => T.fns.lookup x, fun x => (T.kws.lookup x).getD [], T.bl, fun x => if T.kind x = 1 then T.exc.lookup x else none, fun x => T.exs.lookup x, fun x => if T.kind x = 1 then none else (T.exc.lookup x).map fun c => (c, T.kind x)⟩
def ctFa : Str × PyData → He.Fa
  | (x, .int i) => .int x i
  | (x, .str z) => .str x z
  | (x, _) => .glo x
def Txt.cv (T : Txt) (K : PySem.W.Frag) (x : Str) : Value := match T.xb.lookup x with
  | some n => .type n
  | none => .ref (He.ga K x)
def Txt.cw (T : Txt) (K : PySem.W.Frag) (x : Str) : V := match T.xb.lookup x with
  | some n => .ty n
  | none => .ref (He.ga K x)
def Txt.fa (T : Txt) : List He.Fa := T.bl.map He.Fa.free ++ (T.ct.map ctFa ++ (T.fns.map (fun p => He.Fa.glo p.1) ++ (T.cls.map He.Fa.glo ++ T.exs.map fun p => if (T.xb.lookup p.1).isSome then He.Fa.free p.1 else He.Fa.glo p.1)))
def Txt.iniD (T : Txt) : He.DefD := ⟨(T.top, some "__init__"), "__init__", T.top ++ ".__init__", defArgs T.ini, defBody T.ini, defScope T.ini, [.non], []⟩
def Txt.iniD2 (T : Txt) : List He.DefD := match T.ini2 with
  | some (t, st) => [⟨(t, some "__init__"), "__init__", t ++ ".__init__", defArgs st, defBody st, defScope st, [], []⟩]
  | none => []
def Txt.fn (T : Txt) : List He.DefD := T.iniD :: (T.iniD2 ++ T.info.map Inf.d)
def Txt.tf (T : Txt) : List He.Defn := T.own.map fun x => (x, none)
def Txt.cs (T : Txt) (K : PySem.W.Frag) : List (Addr × Addr) := T.tf.map (He.cT K)
def Txt.tabs (T : Txt) (K : PySem.W.Frag) : List (Addr × Str) := T.tf.map fun p => ((He.cT K p).2, p.1 ++ ".<locals>." ++ "<lambda>")
def Txt.fI (T : Txt) (K : PySem.W.Frag) : Addr := He.ma K (He.ga K T.top) "__init__"
def Txt.fI2 (T : Txt) (K : PySem.W.Frag) : Addr := match T.ini2 with
  | some (t, _) => He.ma K (He.ga K t) "__init__"
  | none => 0
abbrev rtTail : List Value := [.type "RuntimeError", .type "Exception", .type "BaseException", .type "object"]
abbrev lkTail : List Value := [.type "LookupError", .type "Exception", .type "BaseException", .type "object"]
/-- what is looked at of an own exception class -/
def clsB (K : PySem.W.Frag) (fI fI2 C : Addr) (n : Nat) : Bool := xfB K C && (isfB K C && (match n with
  | 0 => decide (PySem.W.subIn K (.ref C) (.type "BaseException") = some true) && (decide (PySem.W.typeIn K (.ref C) = some (.type "type")) && (PySem.W.keepIn K (.ref C) && (PySem.W.excIn K C rtTail "RuntimeError.__new__" || PySem.W.excIn K C lkTail "LookupError.__new__")))
  | 2 => oexA K C && (eqOO (PySem.W.findIn K (.ref C) "what") (some none) && (eqOO (PySem.W.findIn K (.ref C) "limit") (some none) && (eqOO (PySem.W.findIn K (.ref C) "__init__") (some (some (.ref fI2))) && decide (PySem.W.typeIn K (.ref fI2) = some (.type "function")))))
  | _ => oexB K C && (eqOO (PySem.W.findIn K (.ref C) "value") (some none) && eqOO (PySem.W.findIn K (.ref C) "__init__") (some (some (.ref fI))))))
/-- what is looked at besides -/
def Txt.ex (T : Txt) (K : PySem.W.Frag) : Bool :=
  (T.cls.all fun x => clsB K (T.fI K) (T.fI2 K) (He.ga K x) (T.kind x)) &&
  (decide (PySem.W.typeIn K (.ref (T.fI K)) = some (.type "function")) &&
  ((T.exs.all fun q => (List.range T.cls.length).all fun c => match T.cls[c]? with
    | some y => decide (PySem.W.exmOne K (.ref (He.ga K y)) (T.cv K q.1) = some (q.2.contains c)) && decide (PySem.W.kitOne K (.ref (He.ga K y)) (T.cv K q.1) = some (q.2.contains c))
    | none => true) &&
  ((T.fns.all fun q => match T.info[q.2.1]? with
    | some e => decide (He.ga K q.1 = He.ga K e.x)
    | none => false) &&
  (decide ((T.tf.map fun p => (He.cT K p).2).Nodup) && (match K.lookup sysModules with
    | some o => decide (o.cls = .type "dict")
    | none => false)))))
def Txt.C (T : Txt) (K : PySem.W.Frag) : RK := ⟨⟨K, ⟨fun f L => T.g.lam T.tbl f L = true, fun c => (T.cls[c]?).map fun x => (.ref (He.ga K x), nsOf (T.kind x))⟩, fun _ => none, T.tabs K⟩, 0, .none, none⟩
def Txt.FN (T : Txt) (K : PySem.W.Frag) (f : Nat) (fa : Addr) (fd : FuncData) (ps : List Str) : Prop := ∃ e, T.info[f]? = some e ∧ fa = He.ga K e.x ∧ ps = e.ps ∧ FunD K e.x e.x (defArgs e.st) (defBody e.st) (defScope e.st) [] [] fa fd
/-! ### what is checked of the text -/
def fnScB (N P : List Str) (sc : Scope) : Bool := decide (sc.kind = .function) && (!sc.isCoroutine && (!sc.isGenerator && (decide N.Nodup && (decide (N.take P.length = P) && ((P.all fun x => match sc.names.lookup x with
  | some .local => true
  | some .cell => true
  | _ => false) && sc.names.all fun y => match y.2 with
  | .free => false
  | _ => true)))))
theorem fnScB_ok {N P : List Str} {sc : Scope} (h : fnScB N P sc = true) : FnScope N P sc := by
  unfold fnScB at h
  simp only [Bool.and_eq_true, decide_eq_true_eq, Bool.not_eq_true'] at h
  obtain ⟨h1, h2, h3, h4, h5, h6, h7⟩ := h
  refine ⟨h1, h2, h3, h4, h5, fun x m => ?_, fun y m e => ?_⟩
  · have := List.all_eq_true.mp h6 x m
    split at this
    · exact .inl ‹_›
    · exact .inr ‹_›
    · cases this
  · have := List.all_eq_true.mp h7 y m
    rw [e] at this
    cases this
def Txt.defB (T : Txt) (f : Nat) : Bool := match T.info[f]?, T.tbl f with
  | some e, some F => fnScB e.N e.ps (defScope e.st) && (decide (e.N.length = F.ns) && (decide (e.ps.length = F.np) && (decide (F.np ≤ F.ns) &&
      (if F.own then T.own.contains e.x && (if F.mkc then !F.io && mkB F.body (T.g.ckO T.tbl e.N (defScope e.st) e.q) (defBody e.st) else okB F.body (T.g.ckO T.tbl e.N (defScope e.st) e.q) F.io (defBody e.st))
        else !F.mkc && okB F.body (T.g.ck T.tbl e.N (defScope e.st)) F.io (defBody e.st)))))
  | _, _ => false
def Txt.statB (T : Txt) : Bool :=
  (T.fns.all fun q => match T.info[q.2.1]? with
    | some e => decide (q.2.2 = e.ps)
    | none => false) &&
  ((T.ct.all fun q => match q.2 with
    | .int _ => true
    | .str _ => true
    | _ => false) &&
  ((T.exc.all fun q => decide (T.cls[q.2]? = some q.1)) &&
  (T.xb.all fun q => decide (bootBuiltins q.1 = some (.type q.2)) && !decide (q.1 = "__name__"))))
/-- the parameters are bound by place -/
def BN (e : Inf) : Prop := ∀ (kV doc pm : Value) (an : Option Addr) (cdv ct : Value) (us : List Value), us.length = e.ps.length → bindArgs (PySem.W.fnOf e.x e.x (defArgs e.st) (defBody e.st) (defScope e.st) .none kV doc pm an cdv ct) ⟨us, []⟩ = pure (e.ps.zip us)
def AllP {α : Type} (p : α → Prop) : List α → Prop
  | [] => True
  | a :: r => p a ∧ AllP p r
theorem AllP.mem {α : Type} {p : α → Prop} : ∀ {l : List α} {a : α}, AllP p l → a ∈ l → p a
  | b :: r, a, ⟨h1, h2⟩, m => by
    rcases List.mem_cons.mp m with e | m
    · exact e ▸ h1
    · exact h2.mem m
theorem AllP.app {α : Type} {p : α → Prop} : ∀ {l r : List α}, AllP p l → AllP p r → AllP p (l ++ r)
  | [], _, _, h => h
  | _ :: _, _, ⟨h1, h2⟩, h => ⟨h1, h2.app h⟩
/-- .. by names -/
def KB (e : Inf) (q : List Str × List Nat) : Prop := q.2.all (· < q.1.length) = true ∧ ∀ (kV doc pm : Value) (an : Option Addr) (cdv ct : Value) (ws : List Value), ws.length = q.1.length → bindArgs (PySem.W.fnOf e.x e.x (defArgs e.st) (defBody e.st) (defScope e.st) .none kV doc pm an cdv ct) ⟨[], q.1.zip ws⟩ = pure (e.ps.zip (q.2.map fun j => ws.getD j .none))
def Txt.KBs (T : Txt) (q : Str × List (List Str × List Nat)) : Prop := ∀ f ps e, T.fns.lookup q.1 = some (f, ps) → T.info[f]? = some e → AllP (KB e) q.2
theorem nodup_inj {α β : Type} {f : α → β} : ∀ {l : List α} {a b : α}, (l.map f).Nodup → a ∈ l → b ∈ l → f a = f b → a = b
  | x :: r, a, b, nd, ma, mb, e => by
    rw [List.map_cons, List.nodup_cons] at nd
    rcases List.mem_cons.mp ma with ea | ma
    · rcases List.mem_cons.mp mb with eb | mb
      · rw [ea, eb]
      · exact (nd.1 (ea ▸ List.mem_map.mpr ⟨b, mb, e.symm⟩)).elim
    · rcases List.mem_cons.mp mb with eb | mb
      · exact (nd.1 (eb ▸ List.mem_map.mpr ⟨a, ma, e⟩)).elim
      · exact nodup_inj nd.2 ma mb e
/-- the first exception's __init__ -/
structure IniOk (T : Txt) : Prop where
  body : ∃ p1 p2 p3 pos, defBody T.ini = [.Assign [.Attribute (.Name "self" p1) "value" p2] (.Name "value" p3) pos]
  sc : fnScB ["self", "value"] ["self", "value"] (defScope T.ini) = true
  bind : ∀ (D : Addr) (kV doc pm : Value) (an : Option Addr) (cdv ct : Value) (us its : List Value), us.length = 2 → its.length = 1 →
    ∃ k, bindArgs (PySem.W.fnOf "__init__" (T.top ++ ".__init__") (defArgs T.ini) (defBody T.ini) (defScope T.ini) (.ref D) kV doc pm an cdv ct) ⟨us, []⟩ = seqItems? (.ref D) >>= k ∧ k (some its.toArray) = pure ((["self", "value"] : List Str).zip (us ++ its.drop 1))
  bindK : ∀ (D : Addr) (kV doc pm : Value) (an : Option Addr) (cdv ct : Value) (us its ws : List Value), us.length = 1 → its.length = 1 → ws.length = 1 →
    ∃ k, bindArgs (PySem.W.fnOf "__init__" (T.top ++ ".__init__") (defArgs T.ini) (defBody T.ini) (defScope T.ini) (.ref D) kV doc pm an cdv ct) ⟨us, [("value" : Str)].zip ws⟩ = seqItems? (.ref D) >>= k ∧ k (some its.toArray) = pure ((["self", "value"] : List Str).zip (us ++ ws))
/-- the __init__ with two fields -/
def Ini2Ok (T : Txt) : Prop := match T.ini2 with
  | none => T.kd.all (fun q => q.2 != 2) = true
  | some (t, st) => (∃ p1 p2 p3 p4 p5 p6 q1 q2, defBody st = [.Assign [.Attribute (.Name "self" p1) "what" p2] (.Name "what" p3) q1, .Assign [.Attribute (.Name "self" p4) "limit" p5] (.Name "limit" p6) q2]) ∧ fnScB ["self", "what", "limit"] ["self", "what", "limit"] (defScope st) = true ∧
    ∀ (kV doc pm : Value) (an : Option Addr) (cdv ct : Value) (us : List Value), us.length = 3 → bindArgs (PySem.W.fnOf "__init__" (t ++ ".__init__") (defArgs st) (defBody st) (defScope st) .none kV doc pm an cdv ct) ⟨us, []⟩ = pure ((["self", "what", "limit"] : List Str).zip us)
theorem lookup_memL {α : Type} {x : Str} {p : α} : ∀ {l : List (Str × α)}, l.lookup x = some p → (x, p) ∈ l
  | [], h => by cases h
  | (y, q) :: r, h => by
    rw [List.lookup_cons] at h
    cases e : x == y with
    | true =>
      rw [e] at h
      cases h
      rw [beq_iff_eq.mp e]
      exact List.mem_cons_self
    | false =>
      rw [e] at h
      exact List.mem_cons_of_mem _ (lookup_memL h)
theorem permV_get {ws : List V} : ∀ {pm : List Nat}, pm.all (· < ws.length) = true → permV ws pm = some (pm.map fun j => ws.getD j .non)
  | [], _ => rfl
  | i :: is, h => by
    rw [List.all_cons, Bool.and_eq_true, decide_eq_true_eq] at h
    unfold permV
    rw [permV_get h.2, List.getElem?_eq_getElem h.1]
    simp [List.getD_eq_getElem?_getD, List.getElem?_eq_getElem h.1]
theorem vals_get {zs : List V} {ws : List Value} (r : Vals zs ws) (j : Nat) : RelV (zs.getD j .non) (ws.getD j .none) := by
  induction r generalizing j with
  | nil => exact rfl
  | cons a _ ih =>
    cases j with
    | zero => exact a
    | succ j => exact ih j
theorem vals_pick {zs : List V} {ws : List Value} (r : Vals zs ws) : ∀ pm : List Nat, Vals (pm.map fun j => zs.getD j .non) (pm.map fun j => ws.getD j .none)
  | [] => .nil
  | j :: js => .cons (vals_get r j) (vals_pick r js)
section
variable {P : Program} {w : World} {K : PySem.W.Frag} {mg : Str → Option Value} {h : Heap} {T : Txt}
theorem gok_of (X : K.In h) (G : h.Ns mainGlobals mg) (c : He.SaysX T.fa T.fn [] T.tf T.ex w h K) (st : T.statB = true) (df : ∀ f, (T.info[f]?).isSome = true → T.defB f = true) (bn : AllP BN T.info) (kb : AllP T.KBs T.kws) (io : IniOk T) (io2 : Ini2Ok T) : GOk P w K mg (T.C K) T.tbl T.g (T.cs K) (T.FN K) := by
  have D : He.SaysD T.fa T.fn K := c.t.d
  have fact : ∀ {f : He.Fa}, f ∈ T.fa → f.ok K = true := fun m => D.facts m
  have E := c.more
  unfold Txt.ex at E
  simp only [Bool.and_eq_true, decide_eq_true_eq] at E
  obtain ⟨E1, E2, E3, E4, E5, E6⟩ := E
  have S := st
  unfold Txt.statB at S
  simp only [Bool.and_eq_true] at S
  obtain ⟨S1, S2, S3, S4⟩ := S
  have clsM : ∀ {i : Nat} {x : Str}, T.cls[i]? = some x → x ∈ T.cls := fun e => List.mem_of_getElem? e
  have one : ∀ {x : Str}, x ∈ T.cls → XfC K (He.ga K x) ∧ IsF K (He.ga K x) ∧ ((T.kind x = 0 ∧ PySem.W.subIn K (.ref (He.ga K x)) (.type "BaseException") = some true ∧ PySem.W.typeIn K (.ref (He.ga K x)) = some (.type "type") ∧ PySem.W.keepIn K (.ref (He.ga K x)) = true ∧ (PySem.W.excIn K (He.ga K x) rtTail "RuntimeError.__new__" || PySem.W.excIn K (He.ga K x) lkTail "LookupError.__new__") = true) ∨
      (T.kind x = 2 ∧ OexA K (He.ga K x) ∧ PySem.W.findIn K (.ref (He.ga K x)) "what" = some none ∧ PySem.W.findIn K (.ref (He.ga K x)) "limit" = some none ∧ PySem.W.findIn K (.ref (He.ga K x)) "__init__" = some (some (.ref (T.fI2 K))) ∧ PySem.W.typeIn K (.ref (T.fI2 K)) = some (.type "function")) ∨
      (T.kind x = 1 ∧ OexC K (He.ga K x) ∧ PySem.W.findIn K (.ref (He.ga K x)) "value" = some none ∧ PySem.W.findIn K (.ref (He.ga K x)) "__init__" = some (some (.ref (T.fI K))))) := fun {x} m => by
    have := List.all_eq_true.mp E1 _ m
    unfold clsB at this
    simp only [Bool.and_eq_true] at this
    obtain ⟨h1, h2, h3⟩ := this
    refine ⟨xfB_ok h1, isfB_ok h2, ?_⟩
    split at h3
    · rename_i hk
      simp only [Bool.and_eq_true, decide_eq_true_eq] at h3
      exact .inl ⟨hk, h3.1, h3.2.1, h3.2.2.1, h3.2.2.2⟩
    · rename_i hk
      simp only [Bool.and_eq_true, decide_eq_true_eq] at h3
      exact .inr (.inl ⟨hk, oexA_ok h3.1, of_decide_eq_true h3.2.1, of_decide_eq_true h3.2.2.1, of_decide_eq_true h3.2.2.2.1, h3.2.2.2.2⟩)
    · rename_i n hk0 hk2
      simp only [Bool.and_eq_true] at h3
      refine .inr (.inr ⟨?_, oexB_ok h3.1, of_decide_eq_true h3.2.1, of_decide_eq_true h3.2.2⟩)
      rcases T.kind_3 x with e | ⟨e, _⟩ | e
      · exact absurd e hk0
      · exact absurd e hk2
      · exact e
  have infG : ∀ {e : Inf}, e ∈ T.info → ∃ fd, FunD K e.x e.x (defArgs e.st) (defBody e.st) (defScope e.st) [] [] (He.ga K e.x) fd := fun m => D.defs (d := Inf.d _) (List.mem_cons_of_mem _ (List.mem_append_right _ (List.mem_map.mpr ⟨_, m, rfl⟩)))
  have faFn : ∀ {q : Str × (Nat × List Str)}, q ∈ T.fns → mg q.1 = some (.ref (He.ga K q.1)) := fun {q} m => He.glo_ok X G (fact (f := .glo q.1) (by unfold Txt.fa; exact List.mem_append_right _ (List.mem_append_right _ (List.mem_append_left _ (List.mem_map.mpr ⟨q, m, rfl⟩)))))
  have faCl : ∀ {x : Str}, x ∈ T.cls → mg x = some (.ref (He.ga K x)) := fun {x} m => He.glo_ok X G (fact (f := .glo x) (by unfold Txt.fa; exact List.mem_append_right _ (List.mem_append_right _ (List.mem_append_right _ (List.mem_append_left _ (List.mem_map.mpr ⟨x, m, rfl⟩))))))
  obtain ⟨fdI, FI⟩ := D.defs (d := T.iniD) (by unfold Txt.fn; exact List.mem_cons_self)
  have bI : Binds K fdI ["self", "value"] [] := by
    obtain ⟨ds, r, b⟩ := FunD.binds1 (ps := ["self", "value"]) FI 2 1 (by simp [Txt.iniD, He.DefD.dvs]) (by simp [Txt.iniD, He.DefD.dvs]) fun D kV doc pm an cdv ct us its h1 h2 => io.bind D kV doc pm an cdv ct us its h1 h2
    cases r
    exact b
  have bK : KBn K fdI ["self", "value"] 1 [("value" : Str)] (fun us ws => us ++ ws) (fun us ws => us ++ ws) := by
    obtain ⟨its, b⟩ := FunD.kbindsD (ps := ["self", "value"]) FI 1 [("value" : Str)] (fun us _ ws => us ++ ws) (by simp [Txt.iniD, He.DefD.dvs]) (fun r1 _ r3 => r1.append r3) fun D kV doc pm an cdv ct us its ws h1 h2 h3 => io.bindK D kV doc pm an cdv ct us its ws h1 h2 h3
    exact b
  have sm : ∃ o, K.lookup sysModules = some o ∧ o.cls = .type "dict" := by
    split at E6
    · rename_i o ho; exact ⟨o, ho, of_decide_eq_true E6⟩
    · cases E6
  refine ⟨rfl, sm, rfl, rfl, fun x hx => ?_, fun x p hx => ?_, fun x f ps hx => ?_, fun x i n hx => ?_, fun x i hx => ?_, fun x cs hx => ?_, fun i cl ns hx => ?_, fun f fa fd ps hf => ?_⟩
  · exact He.free_ok X G (fact (f := .free x) (by unfold Txt.fa; exact List.mem_append_left _ (List.mem_map.mpr ⟨x, hx, rfl⟩)))
  · have m := lookup_memL hx
    have m2 := fact (f := ctFa (x, p)) (by unfold Txt.fa; exact List.mem_append_right _ (List.mem_append_left _ (List.mem_map.mpr ⟨_, m, rfl⟩)))
    have s2 := List.all_eq_true.mp S2 _ m
    cases p with
    | int i =>
      obtain ⟨t, e⟩ := He.int_ok X G m2
      exact ⟨.int i, _, e, ⟨t, rfl⟩, fun H => by unfold Rep; rfl⟩
    | str z =>
      obtain ⟨t, e⟩ := He.str_ok X G m2
      exact ⟨.str z, _, e, ⟨t, rfl⟩, fun H => by unfold Rep; rfl⟩
    | _ => cases s2
  · have m := lookup_memL hx
    have s1 := List.all_eq_true.mp S1 _ m
    have e4 := List.all_eq_true.mp E4 _ m
    dsimp only at s1 e4
    cases e : T.info[f]? with
    | none => rw [e] at s1; cases s1
    | some i =>
      rw [e] at s1 e4
      dsimp only at s1 e4
      have s1 : ps = i.ps := of_decide_eq_true s1
      have e5 : He.ga K x = He.ga K i.x := of_decide_eq_true e4
      obtain ⟨fd, F⟩ := infG (List.mem_of_getElem? e)
      have B := bn.mem (List.mem_of_getElem? e)
      subst s1
      refine ⟨_, fd, faFn m, ?_, ⟨i, e, e5, rfl, by rw [show He.ga K (x, f, i.ps).fst = He.ga K i.x from e5]; exact F⟩, FunD.bindsN F B, fun ks pm hk => ?_⟩
      · show PySem.W.keepIn K (.ref (He.ga K x)) = true
        rw [e5]; exact F.kp
      · cases hl : T.kws.lookup x with
        | none =>
          have hk : (ks, pm) ∈ (T.kws.lookup x).getD [] := hk
          rw [hl] at hk; simp at hk
        | some l =>
          have hk : (ks, pm) ∈ (T.kws.lookup x).getD [] := hk
          rw [hl] at hk
          have K1 := (kb.mem (lookup_memL hl)) f i.ps i hx e
          obtain ⟨K2, K3⟩ := K1.mem hk
          refine ⟨fun _ ws => pm.map fun j => ws.getD j .none, fun _ zs => pm.map fun j => zs.getD j .non, ⟨fun s us ws _ l1 l2 => ?_, fun _ r => vals_pick r pm⟩, fun zs l1 => permV_get (by rw [l1]; exact K2)⟩
          cases us with
          | cons _ _ => cases l1
          | nil =>
            obtain ⟨oc, od, dV, kV, doc, pmv, an, cdv, ct, osl, rfl, lk, hcd, hD, hK⟩ := F.ex
            rcases hD with ⟨_, rfl⟩ | ⟨z, _⟩
            · exact .of_eq (K3 kV doc pmv an cdv ct ws l2)
            · exact absurd rfl z
  · have hx : (if T.kind x = 1 then none else (T.exc.lookup x).map fun c => (c, T.kind x)) = some (i, n) := hx
    split at hx
    · cases hx
    rename_i hk1
    obtain ⟨c', hc', e'⟩ := Option.map_eq_some_iff.mp hx
    cases e'
    have m := lookup_memL hc'
    have s3 := of_decide_eq_true (List.all_eq_true.mp S3 _ m)
    have mc := clsM s3
    obtain ⟨h1, h2, h3⟩ := one mc
    have hct : (T.C K).ct i = some (.ref (He.ga K x), nsOf (T.kind x)) := by
      show (T.cls[i]?).map _ = _
      rw [s3]; rfl
    refine ⟨_, faCl mc, fun base => ?_⟩
    rcases h3 with ⟨hk, g1, g2, g3, g4⟩ | ⟨hk, g1, g2, g3, g4, g5⟩ | ⟨hk, _⟩
    rotate_right
    · exact absurd hk hk1
    · refine .inl ⟨hk, by rw [hct, hk]; rfl, g1, g2, g3, ?_⟩
      rw [Bool.or_eq_true] at g4
      rcases g4 with g4 | g4
      · exact ⟨_, _, _, _, F.excBase_RuntimeError, g4⟩
      · exact ⟨_, _, _, _, F.excBase_LookupError, g4⟩
    · refine .inr ⟨hk, by rw [hct, hk]; rfl, g1, g2, g3, T.fI2 K, ?_⟩
      unfold Ini2Ok at io2
      cases e2 : T.ini2 with
      | none =>
        rw [e2] at io2
        dsimp only at io2
        rcases T.kind_3 x with e | ⟨_, e⟩ | e
        · rw [hk] at e; cases e
        · have := List.all_eq_true.mp io2 _ (lookup_memL e)
          cases this
        · exact absurd e hk1
      | some q =>
        obtain ⟨t, st2⟩ := q
        rw [e2] at io2
        dsimp only at io2
        obtain ⟨i1, i2, i3⟩ := io2
        have m2 : (⟨(t, some "__init__"), "__init__", t ++ ".__init__", defArgs st2, defBody st2, defScope st2, [], []⟩ : He.DefD) ∈ T.fn := by
          unfold Txt.fn Txt.iniD2
          rw [e2]
          exact List.mem_cons_of_mem _ (List.mem_append_left _ List.mem_cons_self)
        obtain ⟨fd2, F2⟩ := D.defs m2
        have hf2 : T.fI2 K = He.ma K (He.ga K t) "__init__" := by unfold Txt.fI2; rw [e2]
        rw [hf2] at g4 g5 ⊢
        exact ⟨fd2, g4, g5, init2_ok F2 i1 (fnScB_ok i2), FunD.bindsN F2 i3⟩
  · have hx : (if T.kind x = 1 then T.exc.lookup x else none) = some i := hx
    split at hx
    case isFalse => cases hx
    rename_i hk1
    have m := lookup_memL hx
    have s3 := of_decide_eq_true (List.all_eq_true.mp S3 _ m)
    have mc := clsM s3
    obtain ⟨_, _, h3⟩ := one mc
    rcases h3 with ⟨hk, _⟩ | ⟨hk, _⟩ | ⟨_, h1, h4, h5⟩
    · rw [hk] at hk1; cases hk1
    · rw [hk] at hk1; cases hk1
    refine ⟨_, T.fI K, fdI, faCl mc, ?_, h1, h4, h5, E2, fun base => init_ok FI io.body (fnScB_ok io.sc), bI, bK⟩
    show (T.cls[i]?).map _ = _
    rw [s3, Option.map_some, hk1]; rfl
  · have m := lookup_memL hx
    have m2 := fact (f := if (T.xb.lookup x).isSome then He.Fa.free x else He.Fa.glo x) (by unfold Txt.fa; exact List.mem_append_right _ (List.mem_append_right _ (List.mem_append_right _ (List.mem_append_right _ (List.mem_map.mpr ⟨_, m, rfl⟩)))))
    have e3 := List.all_eq_true.mp E3 _ m
    refine ⟨T.cv K x, T.cw K x, ?_, ?_, ?_, fun i cl ns hi => ?_⟩
    · unfold Txt.cv
      cases e : T.xb.lookup x with
      | none =>
        rw [e] at m2
        exact .inl (He.glo_ok X G m2)
      | some n =>
        rw [e] at m2
        have s4 := List.all_eq_true.mp S4 _ (lookup_memL e)
        simp only [Bool.and_eq_true, decide_eq_true_eq, Bool.not_eq_true', decide_eq_false_iff_not] at s4
        exact .inr ⟨He.free_ok X G m2, s4.1, s4.2⟩
    · unfold Txt.cv Txt.cw
      cases T.xb.lookup x with
      | none => exact .own _
      | some n => exact .ty n
    · unfold Txt.cv Txt.cw
      cases T.xb.lookup x with
      | none => rfl
      | some n => rfl
    · have hi : (T.cls[i]?).map (fun x => (Value.ref (He.ga K x), nsOf (T.kind x))) = some (cl, ns) := hi
      cases e : T.cls[i]? with
      | none => rw [e] at hi; cases hi
      | some y =>
        rw [e] at hi
        cases hi
        have l := (List.getElem?_eq_some_iff.mp e).1
        have := List.all_eq_true.mp e3 i (List.mem_range.mpr l)
        rw [e] at this
        simp only [Bool.and_eq_true, decide_eq_true_eq] at this
        exact this
  · have hi : (T.cls[i]?).map (fun x => (Value.ref (He.ga K x), nsOf (T.kind x))) = some (cl, ns) := hx
    cases e : T.cls[i]? with
    | none => rw [e] at hi; cases hi
    | some y =>
      rw [e] at hi
      cases hi
      obtain ⟨h1, h2, h3⟩ := one (clsM e)
      refine ⟨_, rfl, h1, ⟨nsOf_3 _, fun n hn => ?_⟩, h2⟩
      rcases h3 with ⟨hk, _⟩ | ⟨hk, g1, g2, g3, _⟩ | ⟨hk, g1, g2, _⟩
      · rw [hk] at hn; cases hn
      · rw [hk] at hn
        have hn : n ∈ [("what" : Str), "limit"] := hn
        rw [List.mem_cons, List.mem_singleton] at hn
        rcases hn with rfl | rfl
        · exact g2
        · exact g3
      · rw [hk] at hn
        have hn : n ∈ [("value" : Str)] := hn
        rw [List.mem_singleton] at hn
        subst hn
        exact g2
  · obtain ⟨e, he, rfl, rfl, F⟩ := hf
    have d := df f (by rw [he]; rfl)
    unfold Txt.defB at d
    rw [he] at d
    cases ht : T.tbl f with
    | none => rw [ht] at d; cases d
    | some Fn =>
      rw [ht] at d
      simp only [Bool.and_eq_true, decide_eq_true_eq] at d
      obtain ⟨d1, d2, d3, d4, d5⟩ := d
      refine ⟨Fn, e.N, e.x, e.x, _, _, _, rfl, F, fnScB_ok d1, d2, d3, d4, ?_⟩
      by_cases ho : Fn.own = true
      · rw [if_pos ho] at d5
        rw [Bool.and_eq_true] at d5
        obtain ⟨o1, o3⟩ := d5
        have mx : e.x ∈ T.own := by simpa using o1
        have mt : ((e.x, none) : He.Defn) ∈ T.tf := List.mem_map.mpr ⟨e.x, mx, rfl⟩
        refine .inr ⟨ho, ?_, ?_⟩
        · obtain ⟨oc, od, dV, kV, doc, pmv, an, cdv, ct, osl, rfl, lk, hcd, hD, hK⟩ := F.ex
          obtain ⟨cc, rfl⟩ := He.codeIn_ref hcd
          have ec := He.codeOf_eq (p := ((e.x, none) : He.Defn)) (K := K) (show K.lookup (He.ga K e.x) = _ from lk) rfl
          refine ⟨cc, (He.cT K (e.x, none)).2, rfl, ?_, ?_, fun p hp e2 => ?_⟩
          · refine List.mem_map.mpr ⟨_, mt, ?_⟩
            rw [show cc = (He.cT K (e.x, none)).1 from ec.symm]
          · exact List.mem_map.mpr ⟨_, mt, rfl⟩
          · obtain ⟨y, my, rfl⟩ := List.mem_map.mp hp
            have : y = (e.x, none) := by
              have nd := E5
              exact nodup_inj nd my mt e2
            rw [this]
        · by_cases hm : Fn.mkc = true
          · rw [if_pos hm] at o3
            simp only [Bool.and_eq_true, Bool.not_eq_true'] at o3
            exact .inr ⟨hm, o3.1, o3.2⟩
          · rw [if_neg hm] at o3
            exact .inl ⟨by simpa using hm, o3⟩
      · rw [if_neg ho] at d5
        simp only [Bool.and_eq_true, Bool.not_eq_true'] at d5
        exact .inl ⟨d5.1, by simpa using ho, d5.2⟩
theorem defs_of {T : Txt} {n : Nat} (hl : T.info.length = n) (h : (List.range n).all T.defB = true) (f : Nat) (hf : (T.info[f]?).isSome = true) : T.defB f = true := by
  obtain ⟨e, he⟩ := Option.isSome_iff_exists.mp hf
  have l := (List.getElem?_eq_some_iff.mp he).1
  exact List.all_eq_true.mp h f (List.mem_range.mpr (hl ▸ l))
def clsBody : Stmt → List Stmt
  | .ClassDef _ _ _ b _ _ _ _ _ _ _ => b
  | _ => []
theorem KBs_of {T : Txt} {x : Str} {l : List (List Str × List Nat)} {f : Nat} {ps : List Str} {e : Inf} (h1 : T.fns.lookup x = some (f, ps)) (h2 : T.info[f]? = some e) (h : AllP (KB e) l) : T.KBs (x, l) := fun f' ps' e' q1 q2 => by
  rw [h1] at q1
  cases q1
  rw [h2] at q2
  cases q2
  exact h
/-- the end of a law over such a text -/
theorem walk_T {T : Txt} {l : PySem.W.OpenLaw} {n D f : Nat} {q : Program} {loose : List Str} {m : Nat} {XP : (Str → Option Value) → Heap → Prop} {d : DefRec} {e : Inf} {x : Str} (hn : l.most = some n) (hn2 : n ≤ sizeLine) (hdf : d.params.defaults = []) (hr : Room (D + 2) callerA)
    (hname : d.name = e.x) (he : T.info[f]? = some e) (hps : e.ps = [x]) (hg : (T.fns.lookup e.x).isSome = true)
    (st : T.statB = true) (df : ∀ f, (T.info[f]?).isSome = true → T.defB f = true) (bn : AllP BN T.info) (kb : AllP T.KBs T.kws) (io : IniOk T) (io2 : Ini2Ok T)
    (law : ∀ ns : List Int, ns.length ≤ n → ∃ fr io, callF T.tbl D f [(false, scriptD ns)] = .ok fr (.bool true) io) :
    PySem.W.WalkO q loose XP (He.hookX m T.fa T.fn [] T.tf T.ex).says l.row.toRowW d [] (fun f vs => PySem.call f vs) := by
  refine walk_G (x := x) hn hn2 hdf hr fun w mg fa h Y G hmg => ?_
  obtain ⟨K, X, c⟩ := Y
  have GO := gok_of (P := l.prog) X G c st df bn kb io io2
  have F0 : He.SaysD T.fa T.fn K := c.t.d
  obtain ⟨fd, F⟩ := F0.defs (d := e.d) (List.mem_cons_of_mem _ (List.mem_append_right _ (List.mem_map.mpr ⟨_, List.mem_of_getElem? he, rfl⟩)))
  obtain ⟨q, hq⟩ := Option.isSome_iff_exists.mp hg
  have hg2 : He.Fa.glo e.x ∈ T.fa := by unfold Txt.fa; exact List.mem_append_right _ (List.mem_append_right _ (List.mem_append_left _ (List.mem_map.mpr ⟨_, lookup_memL hq, rfl⟩)))
  have e1 := hmg.symm.trans (hname ▸ He.glo_ok X G (F0.facts hg2))
  cases e1
  have B := bn.mem (List.mem_of_getElem? he)
  refine ⟨K, fd, T.cs K, spF (T.C K) (callF T.tbl D) f, X, fun p hp => ?_, fun p hp => ?_, fun p hp => ?_, fun s u => ?_, fun Hz a ns hl ht hs => ?_, fun base kin nsb tb => ?_⟩
  · obtain ⟨y, my, rfl⟩ := List.mem_map.mp hp
    exact c.empty y my
  · obtain ⟨y, my, rfl⟩ := List.mem_map.mp hp
    exact c.out y my
  · obtain ⟨y, my, rfl⟩ := List.mem_map.mp hp
    exact PySem.W.codeHd_of_K X (c.hd y my)
  · have := FunD.bindsA (ps := e.ps) F B s [u] (by rw [hps]; rfl)
    rw [hps] at this
    exact this
  · refine law_sp hs (fun p hp => ?_) (law ns hl)
    obtain ⟨y, my, rfl⟩ := List.mem_map.mp hp
    have := ht _ (List.mem_map.mpr ⟨y, my, rfl⟩)
    exact ⟨#[], this, trivial, fun pos cv z => by cases z⟩
  · have := ((all_ok GO tb D).1 f _ fd [x]) ⟨e, he, rfl, hps.symm, F⟩
    rw [hname]
    exact this
end
end PyC
end

section
set_option maxHeartbeats 200000
namespace PyC
open PySem PySem.Spec L2 PyProof.Rows
section
variable (as : List Addr) (fa : List He.Fa) (fn : List He.DefD) (ts : List He.Tab) (tf : List He.Defn) (ex : PySem.W.Frag → Bool)
def obsA (g : Addr → Option Obj) : He.AlX := (fun K => (He.obsT fa fn ts K, ex K && He.tabsB g tf K)) (He.frT g as)
end
theorem saysA_of {as : List Addr} {fa : List He.Fa} {fn : List He.DefD} {ts : List He.Tab} {tf : List He.Defn} {ex : PySem.W.Frag → Bool} {w : World} {h : Heap} (e : obsA as fa fn ts tf ex h.get? = He.valX fn ts w) : He.SaysX fa fn ts tf ex w h (He.frT h.get? as) := by
  unfold obsA He.valX at e
  rw [Prod.mk.injEq, Bool.and_eq_true] at e
  obtain ⟨h1, h2, h3⟩ := e
  unfold He.tabsB at h3
  rw [List.all_eq_true] at h3
  have tab : ∀ p ∈ tf, ∃ o, h.get? (He.cT (He.frT h.get? as) p).2 = some o ∧ He.emptyTab o = true := by
    intro p hp
    have := h3 p hp
    rw [Bool.and_eq_true] at this
    cases q : h.get? (He.cT (He.frT h.get? as) p).2 with
    | some o => rw [q] at this; exact ⟨o, rfl, this.2⟩
    | none => rw [q] at this; cases this.2
  exact {
    t := h1
    more := h2
    hd := fun p hp => (Bool.and_eq_true _ _ ▸ h3 p hp : _ ∧ _).1
    out := fun p hp => let ⟨o, q, z⟩ := tab p hp; He.frT_none q z
    empty := fun p hp => by
      obtain ⟨o, q, z⟩ := tab p hp
      rw [q, He.emptyTab_eq z] }
def hookA (as : List Addr) (fa : List He.Fa) (fn : List He.DefD) (ts : List He.Tab) (tf : List He.Defn) (ex : PySem.W.Frag → Bool) : PySem.W.Hook where
  α := He.AlX
  obs := fun s => obsA as fa fn ts tf ex s.heap.get?
  val := He.valX fn ts
  says := (He.hookX 0 fa fn ts tf ex).says
  of := fun w s e => ⟨He.frT s.heap.get? as, He.frT_in, saysA_of e⟩
  keeps := (He.hookX 0 fa fn ts tf ex).keeps
theorem obsA_eq {as : List Addr} {fa : List He.Fa} {fn : List He.DefD} {ts : List He.Tab} {tf : List He.Defn} {ex : PySem.W.Frag → Bool} {g : Addr → Option Obj} {s : Shared} (h : ∀ a, g a = s.heap.get? a) : obsA as fa fn ts tf ex g = (hookA as fa fn ts tf ex).obs s := by
  have e : g = s.heap.get? := funext h
  subst e
  rfl
end PyC
end

section
set_option maxHeartbeats 200000
namespace PyC
open PySem
def takeS : Nat → CS → CS
  | n + 1, .seq a b => .seq a (takeS n b)
  | _, _ => .skip
def dropS : Nat → CS → CS
  | n + 1, .seq _ b => dropS n b
  | _, b => b
theorem SOut.thn_thn (o : SOut) (f g : Rho → SOut) : (o.thn f).thn g = o.thn fun ρ => (f ρ).thn g := by cases o <;> rfl
theorem evS_cut (call : CallT) (io : Bool) : ∀ (n : Nat) (b : CS) (ρ : Rho), evS call io b ρ = (evS call io (takeS n b) ρ).thn fun ρ => evS call io (dropS n b) ρ
  | 0, b, ρ => by
    cases b <;> simp [takeS, dropS, evS, SOut.thn]
  | n + 1, b, ρ => by
    cases b with
    | seq a b =>
      simp only [takeS, dropS, evS, SOut.thn_thn]
      congr 1
      funext ρ
      exact evS_cut call io n b ρ
    | _ => simp [takeS, dropS, evS, SOut.thn]
def isNx : SOut → Bool
  | .nx _ => true
  | _ => false
def nxOf : SOut → Rho
  | .nx ρ => ρ
  | _ => []
end PyC
end

section
set_option maxHeartbeats 200000
namespace PyC
open PySem
/-- a pot -/
def potD (a b : Int) : PyData := .list [.int a, .int b]
/-- _law_draw's suite, its numbers -/
def drawB (m c p q s : Int) : CS := (.seq (.ifS (.op .gt (.cons (.op .idx (.cons (.var 0) (.cons (.cst (.int 0)) .nil))) (.cons (.cst (.int 0)) .nil))) (.seq (.asg (.tp (.cons (.sub 0 (.cst (.int 0))) (.cons (.nm 2) .nil))) (.op .divmod (.cons (.op .idx (.cons (.var 0) (.cons (.cst (.int 0)) .nil))) (.cons (.var 1) .nil))))
  (.seq (.ret (.var 2))
  .skip)) .skip)
  (.seq (.asg (.sub 0 (.cst (.int 1))) (.op .mod (.cons (.op .int (.cons (.op .add (.cons (.op .mul (.cons (.op .idx (.cons (.var 0) (.cons (.cst (.int 1)) .nil))) (.cons (.cst (.int m)) .nil))) (.cons (.cst (.int c)) .nil))) .nil)) (.cons (.cst (.int p)) .nil))))
  (.seq (.ret (.op .mod (.cons (.op .int (.cons (.op .fdiv (.cons (.op .mod (.cons (.op .int (.cons (.op .mul (.cons (.op .idx (.cons (.var 0) (.cons (.cst (.int 1)) .nil))) (.cons (.op .idx (.cons (.var 0) (.cons (.cst (.int 1)) .nil))) .nil))) .nil)) (.cons (.cst (.int q)) .nil))) (.cons (.cst (.int s)) .nil))) .nil)) (.cons (.var 1) .nil))))
  .skip)))
def drawF (m c p q s : Int) : Fn := { np := 2, ns := 3, io := true, body := drawB m c p q s }
def okNums (m p q s : Int) : Bool := small m && (decide (0 < p) && (decide (p < 2 ^ 62) && (decide (0 < q) && divOk s)))
/-- what a draw does -/
def Draws (call : CallT) (f : Nat) : Prop := ∀ (a b n : Int), 0 ≤ a → 0 ≤ b → divOk n = true → ∃ k a' b', call f [(true, potD a b), (false, .int n)] = .ok false (.int k) (some [.int a', .int b']) ∧ 0 ≤ k ∧ k < n ∧ 0 ≤ a' ∧ 0 ≤ b'
theorem draw_ok {tbl : Nat → Option Fn} {f : Nat} {m c p q s : Int} (hF : tbl f = some (drawF m c p q s)) (ok : okNums m p q s = true) (d : Nat) : Draws (callF tbl (d + 1)) f := by
  intro a b n ha hb hn
  have hn' : 0 < n := by
    unfold divOk at hn
    simp only [Bool.and_eq_true, decide_eq_true_eq] at hn
    exact hn.1
  unfold okNums at ok
  simp only [Bool.and_eq_true, decide_eq_true_eq] at ok
  obtain ⟨o1, o2, o3, o4, o5⟩ := ok
  have hs : 0 < s := by
    unfold divOk at o5
    simp only [Bool.and_eq_true, decide_eq_true_eq] at o5
    exact o5.1
  by_cases h : 0 < a
  · refine ⟨a % n, a / n, b, ?_, Int.emod_nonneg _ (by omega), Int.emod_lt_of_pos _ hn', Int.ediv_nonneg ha (by omega), hb⟩
    simp [callF, hF, drawF, drawB, evS, evB, evE, evEs, Out.bind, Out.s, Out.calm, opSem, sem2, semIdx, itemAt, place, oBool, entry, ioOk, flatL, flatD, potD, rd, Slot.val?, h, hn, asgT, asgTs, isMy, al, alEs, alL, keep, anyMine, setNew, SOut.thn, evR, ioEnd, CE.isVar, muts, mutsL, meets]
  · have e0 : a = 0 := by omega
    subst e0
    have hp := Int.emod_nonneg (b * m + c) (show p ≠ 0 by omega)
    have hp2 := Int.emod_lt_of_pos (b * m + c) o2
    have sm : small ((b * m + c) % p) = true := by
      unfold small
      simp only [Bool.and_eq_true, decide_eq_true_eq]
      omega
    refine ⟨((b * m + c) % p * ((b * m + c) % p) % q / s) % n, 0, (b * m + c) % p, ?_, Int.emod_nonneg _ (by omega), Int.emod_lt_of_pos _ hn', by omega, hp⟩
    simp [callF, hF, drawF, drawB, evS, evB, evE, evEs, Out.bind, Out.s, Out.calm, opSem, sem2, sem1, semIdx, semMul, semAdd, itemAt, place, oBool, oInt, entry, ioOk, flatL, flatD, potD, rd, Slot.val?, hn, hn', asgT, asgTs, isMy, al, alEs, alL, keep, anyMine, setNew, SOut.thn, evR, ioEnd, CE.isVar, muts, mutsL, meets, o1, o2, o4, o5, sm]
def pickB (f : Nat) : CS := (.seq (.ret (.op .idx (.cons (.var 1) (.cons (.callIO f 0 (.cons (.op .len (.cons (.var 1) .nil)) .nil)) .nil))))
  .skip)
def pickF (f : Nat) : Fn := { np := 2, ns := 2, io := true, body := pickB f }
/-- what a pick does -/
def Picks (call : CallT) (f : Nat) : Prop := ∀ (a b : Int) (fr : Bool) (xs : List PyData), 0 ≤ a → 0 ≤ b → xs ≠ [] → xs.length < 1000 → (fr = true → xs.all (fun x => true) = true) → ∃ (k : Nat) (x : PyData) (a' b' : Int), call f [(true, potD a b), (fr, .list xs)] = .ok false x (some [.int a', .int b']) ∧ xs[k]? = some x ∧ 0 ≤ a' ∧ 0 ≤ b'
theorem place_int {n : Nat} {k : Int} (h0 : 0 ≤ k) (h : k < n) : place n k = some k.toNat := by
  unfold place
  cases k with
  | ofNat i => simp only [Int.ofNat_eq_natCast, Int.toNat_natCast]; rw [if_pos (by simpa using h)]
  | negSucc i => omega
theorem pick_ok {tbl : Nat → Option Fn} {f g d : Nat} (hF : tbl g = some (pickF f)) (D : Draws (callF tbl d) f) : Picks (callF tbl (d + 1)) g := by
  intro a b fr xs ha hb hx hl _
  have hn : divOk (xs.length : Int) = true := by
    have : 0 < xs.length := List.length_pos_iff.mpr hx
    unfold divOk
    simp only [Bool.and_eq_true, decide_eq_true_eq]
    omega
  obtain ⟨k, a', b', e, h0, h1, h2, h3⟩ := D a b _ ha hb hn
  have hk : k.toNat < xs.length := by omega
  refine ⟨k.toNat, xs[k.toNat], a', b', ?_, List.getElem?_eq_getElem hk, h2, h3⟩
  have hp := place_int h0 h1
  cases fr <;>
  simp [callF, hF, pickF, pickB, evS, evB, evE, evEs, Out.bind, Out.s, Out.calm, opSem, semLen, semIdx, itemAt, hp, oBool, oInt, entry, ioOk, flatL, flatD, potD, rd, Slot.val?, hn, asgT, asgTs, isMy, al, alEs, alL, keep, anyMine, setNew, SOut.thn, evR, ioEnd, CE.isVar, muts, mutsL, meets, List.getElem?_eq_getElem hk, show callF tbl d f [(true, .list [.int a, .int b]), (false, .int xs.length)] = _ from e]
end PyC
end

section
set_option maxHeartbeats 200000
namespace PyC
open PySem
theorem meets_nil (as : List Nat) : meets as [] = false := by
  unfold meets
  simp
/-- x = pick(pot, menu) -/
theorem asg_pick {call : CallT} {f i : Nat} {io : Bool} {e : CE} {ρ : Rho} {a b : Int} {fr : Bool} {xs : List PyData} (P : Picks call f) (ha : 0 ≤ a) (hb : 0 ≤ b) (h0 : ρ[0]? = some (.my (potD a b))) (he : evE call e ρ = .ok (fr, .list xs) ρ) (hx : xs ≠ []) (hl : xs.length < 1000)
    (hm : meets (alL (.cons e .nil)) [0] = false) (hk : ∀ s, anyMine (ρ.set 0 s) (alL (.cons e .nil)) = false) (hi : i < ρ.length) :
    ∃ (k : Nat) (x : PyData) (a' b' : Int), evS call io (.asg (.nm i) (.callIO f 0 (.cons e .nil))) ρ = .nx ((ρ.set 0 (.my (potD a' b'))).set i (.fz x)) ∧ xs[k]? = some x ∧ 0 ≤ a' ∧ 0 ≤ b' := by
  obtain ⟨k, x, a', b', e1, e2, h1, h2⟩ := P a b fr xs ha hb hx hl (fun _ => by simp)
  refine ⟨k, x, a', b', ?_, e2, h1, h2⟩
  have m0 : isMy ρ 0 = true := by simp [isMy, h0, potD]
  have hk' := hk (.my (potD a' b'))
  simp only [potD] at h0 e1 hk'
  simp [evS, evE, evEs, m0, he, Out.bind, Out.s, Out.calm, h0, hm, e1, al, keep, hk', asgT, setNew, hi, mutsL, potD, meets_nil]
/-- x = c + draw(pot, n) -/
theorem asg_draw {call : CallT} {f i : Nat} {io : Bool} {ρ : Rho} {a b c n : Int} (D : Draws call f) (ha : 0 ≤ a) (hb : 0 ≤ b) (h0 : ρ[0]? = some (.my (potD a b))) (hn : divOk n = true) (hi : i < ρ.length) :
    ∃ (k : Int) (a' b' : Int), evS call io (.asg (.nm i) (.op .add (.cons (.cst (.int c)) (.cons (.callIO f 0 (.cons (.cst (.int n)) .nil)) .nil)))) ρ = .nx ((ρ.set 0 (.my (potD a' b'))).set i (.fz (.int (c + k)))) ∧ 0 ≤ k ∧ k < n ∧ 0 ≤ a' ∧ 0 ≤ b' := by
  obtain ⟨k, a', b', e1, h1, h2, h3, h4⟩ := D a b n ha hb hn
  refine ⟨k, a', b', ?_, h1, h2, h3, h4⟩
  have m0 : isMy ρ 0 = true := by simp [isMy, h0, potD]
  simp only [potD] at h0 e1
  simp [evS, evE, evEs, m0, Out.bind, Out.s, Out.calm, h0, e1, al, alEs, alL, anyMine, keep, asgT, setNew, hi, mutsL, muts, potD, meets, opSem, semAdd, CE.isVar, flatD]
theorem nat_cases (P : Int → Prop) (n : Nat) (h : ∀ k : Nat, k < n → P k) (k : Int) (h0 : 0 ≤ k) (h1 : k < n) : P k := by
  have := h k.toNat (by omega)
  rwa [Int.toNat_of_nonneg h0] at this
/-- the suite from a place on -/
theorem evS_step {call : CallT} {io : Bool} {a b : CS} {ρ ρ' : Rho} (h : evS call io a ρ = .nx ρ') : evS call io (.seq a b) ρ = evS call io b ρ' := by
  simp only [evS, h, SOut.thn]
theorem evS_at {call : CallT} {io : Bool} (n : Nat) {b : CS} {ρ ρ' : Rho} (h : evS call io (takeS n b) ρ = .nx ρ') : evS call io b ρ = evS call io (dropS n b) ρ' := by
  rw [evS_cut call io n b ρ, h]
  rfl
end PyC
namespace PyC
open PySem
def isTrueRt : SOut → Bool
  | .rt _ (.bool true) _ => true
  | _ => false
theorem isTrueRt_ok {o : SOut} (h : isTrueRt o = true) : ∃ fr ρ, o = .rt fr (.bool true) ρ := by
  unfold isTrueRt at h
  split at h
  · exact ⟨_, _, rfl⟩
  · cases h
/-- a call, by its suite's end -/
theorem call_rt {tbl : Nat → Option Fn} {d f : Nat} {F : Fn} {args : List (Bool × PyData)} {fr : Bool} {p : PyData} {ρ : Rho} (hF : tbl f = some F) (hl : args.length = F.np) (hio : F.io = false) (hm : F.mkc = false) (hn : noOp p = true) (h : evS (callF tbl d) false F.body (entry F args) = .rt fr p ρ) : callF tbl (d + 1) f args = .ok fr p none := by
  simp [callF, hF, hl, hio, ioOk, hm, h, ioEnd, hn]
end PyC
namespace PyC
open PySem
/-- x = pick(pot, menu), in a frame that makes closures -/
theorem asg_pickC {call : CallT} {f i : Nat} {io : Bool} {e : CE} {ρ : Rho} {a b : Int} {fr : Bool} {xs : List PyData} (P : Picks call f) (ha : 0 ≤ a) (hb : 0 ≤ b) (h0 : ρ[0]? = some (.my (potD a b))) (he : evE call e ρ = .ok (fr, .list xs) ρ) (hx : xs ≠ []) (hl : xs.length < 1000)
    (hn : noOpL xs = true) (hm : meets (alL (.cons e .nil)) [0] = false) (hk : ∀ s, anyMine (ρ.set 0 s) (alL (.cons e .nil)) = false) (hi : i < ρ.length) :
    ∃ (k : Nat) (x : PyData) (a' b' : Int), evS call io (.asg (.nm i) (.callIOC f 0 (.cons e .nil))) ρ = .nx ((ρ.set 0 (.my (potD a' b'))).set i (.fz x)) ∧ xs[k]? = some x ∧ 0 ≤ a' ∧ 0 ≤ b' := by
  obtain ⟨k, x, a', b', e1, e2, h1, h2⟩ := P a b fr xs ha hb hx hl (fun _ => by simp)
  refine ⟨k, x, a', b', ?_, e2, h1, h2⟩
  have m0 : isMy ρ 0 = true := by simp [isMy, h0, potD]
  have hk' := hk (.my (potD a' b'))
  simp only [potD] at h0 e1 hk'
  simp [evS, evE, evEs, m0, he, Out.bind, Out.s, Out.calm, h0, hm, e1, al, keep, hk', asgT, setNew, hi, mutsL, potD, meets_nil, noOp, noOpL, hn]
/-- x = c + draw(pot, n) -/
theorem asg_drawC {call : CallT} {f i : Nat} {io : Bool} {ρ : Rho} {a b c n : Int} (D : Draws call f) (ha : 0 ≤ a) (hb : 0 ≤ b) (h0 : ρ[0]? = some (.my (potD a b))) (hn : divOk n = true) (hi : i < ρ.length) :
    ∃ (k : Int) (a' b' : Int), evS call io (.asg (.nm i) (.op .add (.cons (.cst (.int c)) (.cons (.callIOC f 0 (.cons (.cst (.int n)) .nil)) .nil)))) ρ = .nx ((ρ.set 0 (.my (potD a' b'))).set i (.fz (.int (c + k)))) ∧ 0 ≤ k ∧ k < n ∧ 0 ≤ a' ∧ 0 ≤ b' := by
  obtain ⟨k, a', b', e1, h1, h2, h3, h4⟩ := D a b n ha hb hn
  refine ⟨k, a', b', ?_, h1, h2, h3, h4⟩
  have m0 : isMy ρ 0 = true := by simp [isMy, h0, potD]
  simp only [potD] at h0 e1
  simp [evS, evE, evEs, m0, Out.bind, Out.s, Out.calm, h0, e1, al, alEs, alL, anyMine, keep, asgT, setNew, hi, mutsL, muts, potD, meets, opSem, semAdd, CE.isVar, flatD, noOp, noOpL]
end PyC
namespace PyC
open PySem
/-- a pick, where the pot stands in any slot -/
theorem evE_pick {call : CallT} {f j : Nat} {e : CE} {ρ : Rho} {a b : Int} {fr : Bool} {xs : List PyData} (P : Picks call f) (ha : 0 ≤ a) (hb : 0 ≤ b) (h0 : ρ[j]? = some (.my (potD a b))) (he : evE call e ρ = .ok (fr, .list xs) ρ) (hx : xs ≠ []) (hl : xs.length < 1000)
    (hm : meets (alL (.cons e .nil)) [j] = false) :
    ∃ (k : Nat) (x : PyData) (a' b' : Int), evE call (.callIO f j (.cons e .nil)) ρ = .ok (false, x) (ρ.set j (.my (potD a' b'))) ∧ xs[k]? = some x ∧ 0 ≤ a' ∧ 0 ≤ b' := by
  obtain ⟨k, x, a', b', e1, e2, h1, h2⟩ := P a b fr xs ha hb hx hl (fun _ => by simp)
  refine ⟨k, x, a', b', ?_, e2, h1, h2⟩
  have m0 : isMy ρ j = true := by simp [isMy, h0, potD]
  simp only [potD] at h0 e1
  simp [evE, evEs, m0, he, Out.bind, h0, hm, e1, mutsL, potD, meets_nil]
/-- x, y = pick(pot, menu), in a frame that makes closures -/
theorem asg_pickC2 {call : CallT} {f i j : Nat} {io : Bool} {e : CE} {ρ : Rho} {a b : Int} {fr : Bool} {xs : List PyData} (P : Picks call f) (ha : 0 ≤ a) (hb : 0 ≤ b) (h0 : ρ[0]? = some (.my (potD a b))) (he : evE call e ρ = .ok (fr, .list xs) ρ) (hx : xs ≠ []) (hl : xs.length < 1000)
    (hn : noOpL xs = true) (hm : meets (alL (.cons e .nil)) [0] = false) (hk : ∀ s, anyMine (ρ.set 0 s) (alL (.cons e .nil)) = false) (hi : i < ρ.length) (hj : j < ρ.length) (hp : ∀ (k : Nat) x, xs[k]? = some x → ∃ u v, x = .tuple [u, v]) :
    ∃ (k : Nat) (u v : PyData) (a' b' : Int), evS call io (.asg (.tp (.cons (.nm i) (.cons (.nm j) .nil))) (.callIOC f 0 (.cons e .nil))) ρ = .nx (((ρ.set 0 (.my (potD a' b'))).set i (.fz u)).set j (.fz v)) ∧ xs[k]? = some (.tuple [u, v]) ∧ 0 ≤ a' ∧ 0 ≤ b' := by
  obtain ⟨k, x, a', b', e1, e2, h1, h2⟩ := P a b fr xs ha hb hx hl (fun _ => by simp)
  obtain ⟨u, v, rfl⟩ := hp k x e2
  refine ⟨k, u, v, a', b', ?_, e2, h1, h2⟩
  have m0 : isMy ρ 0 = true := by simp [isMy, h0, potD]
  have hk' := hk (.my (potD a' b'))
  simp only [potD] at h0 e1 hk'
  simp [evS, evE, evEs, m0, he, Out.bind, Out.s, Out.calm, h0, hm, e1, al, keep, hk', asgT, asgTs, setNew, hi, hj, mutsL, potD, meets_nil, noOp, noOpL, hn]
end PyC
namespace PyC
open PySem
theorem evE_io {call : CallT} {f j : Nat} {es : CEs} {ρ : Rho} {a b a' b' : Int} {vs : List (Bool × PyData)} {fr : Bool} {p : PyData} (h0 : ρ[j]? = some (.my (potD a b))) (he : evEs call es ρ = .ok vs ρ) (hm : meets (alL es) [j] = false)
    (hc : call f ((true, potD a b) :: vs) = .ok fr p (some [.int a', .int b'])) : evE call (.callIO f j es) ρ = .ok (fr, p) (ρ.set j (.my (potD a' b'))) := by
  have m0 : isMy ρ j = true := by simp [isMy, h0, potD]
  simp only [potD] at h0 hc
  simp [evE, m0, he, Out.bind, h0, hm, hc, potD]
theorem evE_not {call : CallT} {a : CE} {ρ ρ' : Rho} {fr k : Bool} (h : evE call a ρ = .ok (fr, .bool k) ρ') : evE call (.notE a) ρ = .ok (false, .bool (!k)) ρ' := by
  simp [evE, h, Out.bind]
theorem evE_or {call : CallT} {a b : CE} {ρ ρ1 ρ2 : Rho} {fr fr2 k : Bool} (h : evE call a ρ = .ok (fr, .bool false) ρ1) (h2 : evE call b ρ1 = .ok (fr2, .bool k) ρ2) : evE call (.orE a b) ρ = .ok (false, .bool k) ρ2 := by
  simp [evE, h, h2, Out.bind]
theorem evS_if0 {call : CallT} {io : Bool} {c : CE} {a b : CS} {ρ ρ' : Rho} {fr : Bool} (h : evE call c ρ = .ok (fr, .bool false) ρ') : evS call io (.ifS c a b) ρ = evS call io b ρ' := by
  simp [evS, evB, h, Out.bind, Out.s]
theorem evS_asg {call : CallT} {io : Bool} {i : Nat} {e : CE} {ρ ρ' : Rho} {x : PyData} (h : evE call e ρ = .ok (false, x) ρ') (ha : anyMine ρ' (al e) = false) (hi : i < ρ'.length) : evS call io (.asg (.nm i) e) ρ = .nx (ρ'.set i (.fz x)) := by
  simp [evS, h, Out.s, keep, ha, asgT, setNew, hi, Out.calm]
end PyC
end

section
set_option maxHeartbeats 0
namespace Law
open PySem PySem.Spec L2 PyC
def top (i : Nat) : Stmt := PySem.Challenge.pw_oncearound_k14_first_stages_refused.main.body.getD i (.Pass ⟨0, 0, 0, 0⟩)
def b0 : CS := (.seq (.ret (.andE (.op (.isI [.int]) (.cons (.var 0) .nil)) (.notE (.op (.isI [.bool]) (.cons (.var 0) .nil)))))
  .skip)
def F0 : Fn := { np := 1, ns := 1, io := false, body := b0 }
def N0 : List Str := ["value"]
def b1 : CS := (.seq (.ret (.andE (.call 0 (.cons (.var 0) .nil)) (.chn .le .le (.var 1) (.var 0) (.var 2))))
  .skip)
def F1 : Fn := { np := 3, ns := 3, io := false, body := b1 }
def N1 : List Str := ["value", "least", "most"]
def b2 : CS := (.seq (.ret (.op (.isI [.list, .tuple]) (.cons (.var 0) .nil)))
  .skip)
def F2 : Fn := { np := 1, ns := 1, io := false, body := b2 }
def N2 : List Str := ["value"]
def b3 : CS := (.seq (.ret (.andE (.op (.isI [.tuple]) (.cons (.var 0) .nil)) (.op .eq (.cons (.op .len (.cons (.var 0) .nil)) (.cons (.var 1) .nil)))))
  .skip)
def F3 : Fn := { np := 2, ns := 2, io := false, body := b3 }
def N3 : List Str := ["value", "many"]
def b4 : CS := (.seq (.ret (.op .all (.cons (.comp (.op .lt (.cons (.var 1) (.cons (.var 2) .nil))) (.tp (.cons (.nm 1) (.cons (.nm 2) .nil))) (.zip (.var 0) (.op .slLo (.cons (.var 0) (.cons (.cst (.int 1)) .nil)))) .nil [1, 2]) .nil)))
  .skip)
def F4 : Fn := { np := 1, ns := 3, io := false, body := b4 }
def N4 : List Str := ["values", "near", "far"]
def b5 : CS := (.seq (.ret (.andE (.op (.isI [.tuple]) (.cons (.var 0) .nil)) (.andE (.op .all (.cons (.comp (.call 1 (.cons (.var 2) (.cons (.cst (.int 0)) (.cons (.op .sub (.cons (.var 1) (.cons (.cst (.int 1)) .nil))) .nil)))) (.nm 2) (.seq (.var 0)) .nil [2]) .nil)) (.call 4 (.cons (.var 0) .nil)))))
  .skip)
def F5 : Fn := { np := 2, ns := 3, io := false, body := b5 }
def N5 : List Str := ["value", "many", "one"]
def b6 : CS := (.seq (.ret (.andE (.call 3 (.cons (.var 1) (.cons (.cst (.int 2)) .nil))) (.andE (.op .all (.cons (.comp (.call 1 (.cons (.var 2) (.cons (.cst (.int 0)) (.cons (.op .sub (.cons (.var 0) (.cons (.cst (.int 1)) .nil))) .nil)))) (.nm 2) (.seq (.var 1)) .nil [2]) .nil)) (.op .lt (.cons (.op .idx (.cons (.var 1) (.cons (.cst (.int 0)) .nil))) (.cons (.op .idx (.cons (.var 1) (.cons (.cst (.int 1)) .nil))) .nil))))))
  .skip)
def F6 : Fn := { np := 2, ns := 3, io := false, body := b6 }
def N6 : List Str := ["places", "value", "one"]
def b7 : CS := (.seq (.ifS (.orE (.notE (.call 3 (.cons (.var 0) (.cons (.cst (.int 3)) .nil)))) (.orE (.notE (.op (.isI [.str]) (.cons (.op .idx (.cons (.var 0) (.cons (.cst (.int 0)) .nil))) .nil))) (.op .ne (.cons (.op .idx (.cons (.var 0) (.cons (.cst (.int 0)) .nil))) (.cons (.cst (.str (sN [110, 101, 116]))) .nil))))) (.seq (.ret (.cst (.bool false)))
  .skip) .skip)
  (.seq (.ifS (.orE (.notE (.call 1 (.cons (.op .idx (.cons (.var 0) (.cons (.cst (.int 1)) .nil))) (.cons (.cst (.int 1)) (.cons (.cst (.int 8)) .nil))))) (.orE (.notE (.op (.isI [.tuple]) (.cons (.op .idx (.cons (.var 0) (.cons (.cst (.int 2)) .nil))) .nil))) (.op .gt (.cons (.op .len (.cons (.op .idx (.cons (.var 0) (.cons (.cst (.int 2)) .nil))) .nil)) (.cons (.cst (.int 14)) .nil))))) (.seq (.ret (.cst (.bool false)))
  .skip) .skip)
  (.seq (.ret (.op .all (.cons (.comp (.call 6 (.cons (.op .idx (.cons (.var 0) (.cons (.cst (.int 1)) .nil))) (.cons (.var 1) .nil))) (.nm 1) (.seq (.op .idx (.cons (.var 0) (.cons (.cst (.int 2)) .nil)))) .nil [1]) .nil)))
  .skip)))
def F7 : Fn := { np := 1, ns := 2, io := false, body := b7 }
def N7 : List Str := ["value", "one"]
def b8 : CS := (.seq (.ifS (.notE (.call 7 (.cons (.var 0) .nil))) (.seq (.raise 0 (.cons (.var 0) .nil))
  .skip) .skip)
  .skip)
def F8 : Fn := { np := 1, ns := 1, io := false, body := b8 }
def N8 : List Str := ["net"]
def b9 : CS := (.seq (.ifS (.notE (.call 1 (.cons (.var 1) (.cons (.cst (.int 0)) (.cons (.op .sub (.cons (.op .idx (.cons (.var 0) (.cons (.cst (.int 1)) .nil))) (.cons (.cst (.int 1)) .nil))) .nil))))) (.seq (.raise 1 (.cons (.var 1) .nil))
  .skip) .skip)
  .skip)
def F9 : Fn := { np := 2, ns := 2, io := false, body := b9 }
def N9 : List Str := ["net", "place"]
def b10 : CS := (.seq (.ifS (.notE (.call 1 (.cons (.var 1) (.cons (.cst (.int 0)) (.cons (.op .sub (.cons (.op .len (.cons (.op .idx (.cons (.var 0) (.cons (.cst (.int 2)) .nil))) .nil)) (.cons (.cst (.int 1)) .nil))) .nil))))) (.seq (.raise 2 (.cons (.var 1) .nil))
  .skip) .skip)
  .skip)
def F10 : Fn := { np := 2, ns := 2, io := false, body := b10 }
def N10 : List Str := ["net", "road"]
def b11 : CS := (.seq (.ifS (.notE (.call 5 (.cons (.var 1) (.cons (.op .len (.cons (.op .idx (.cons (.var 0) (.cons (.cst (.int 2)) .nil))) .nil)) .nil)))) (.seq (.raise 3 (.cons (.var 1) .nil))
  .skip) .skip)
  .skip)
def F11 : Fn := { np := 2, ns := 2, io := false, body := b11 }
def N11 : List Str := ["net", "lot"]
def b12 : CS := (.seq (.ifS (.notE (.call 5 (.cons (.var 1) (.cons (.op .idx (.cons (.var 0) (.cons (.cst (.int 1)) .nil))) .nil)))) (.seq (.raise 4 (.cons (.var 1) .nil))
  .skip) .skip)
  .skip)
def F12 : Fn := { np := 2, ns := 2, io := false, body := b12 }
def N12 : List Str := ["net", "spots"]
def b13 : CS := (.seq (.ret (.tup (.cons (.cst (.str (sN [110, 101, 116]))) (.cons (.var 0) (.cons (.op .tuple (.cons (.var 1) .nil)) .nil)))))
  .skip)
def F13 : Fn := { np := 2, ns := 2, io := false, body := b13 }
def N13 : List Str := ["places", "roads"]
def b14 : CS := (.seq (.ret (.op .tupR (.cons (.op .len (.cons (.op .idx (.cons (.var 0) (.cons (.cst (.int 2)) .nil))) .nil)) .nil)))
  .skip)
def F14 : Fn := { np := 1, ns := 1, io := false, body := b14 }
def N14 : List Str := ["net"]
def b15 : CS := (.seq (.ret (.op .tuple (.cons (.comp (.var 2) (.tp (.cons (.nm 2) (.cons (.nm 3) .nil))) (.enum (.op .idx (.cons (.var 0) (.cons (.cst (.int 2)) .nil)))) (.cons (.op .inn (.cons (.var 1) (.cons (.var 3) .nil))) .nil) [2, 3]) .nil)))
  .skip)
def F15 : Fn := { np := 2, ns := 4, io := false, body := b15 }
def N15 : List Str := ["net", "place", "road", "ends"]
def b16 : CS := (.seq (.ret (.op .sub (.cons (.op .sum (.cons (.op .idx (.cons (.op .idx (.cons (.var 0) (.cons (.cst (.int 2)) .nil))) (.cons (.var 1) .nil))) .nil)) (.cons (.var 2) .nil))))
  .skip)
def F16 : Fn := { np := 3, ns := 3, io := false, body := b16 }
def N16 : List Str := ["net", "road", "place"]
def b17 : CS := (.seq (.ret (.op .len (.cons (.comp (.var 3) (.nm 3) (.seq (.var 1)) (.cons (.op .inn (.cons (.var 2) (.cons (.op .idx (.cons (.op .idx (.cons (.var 0) (.cons (.cst (.int 2)) .nil))) (.cons (.var 3) .nil))) .nil))) .nil) [3]) .nil)))
  .skip)
def F17 : Fn := { np := 3, ns := 4, io := false, body := b17 }
def N17 : List Str := ["net", "lot", "place", "road"]
def b18 : CS := (.seq (.ret (.op .tuple (.cons (.comp (.var 2) (.nm 2) (.rng1 (.op .idx (.cons (.var 0) (.cons (.cst (.int 1)) .nil)))) (.cons (.op .eq (.cons (.op .mod (.cons (.call 17 (.cons (.var 0) (.cons (.var 1) (.cons (.var 2) .nil)))) (.cons (.cst (.int 2)) .nil))) (.cons (.cst (.int 1)) .nil))) .nil) [2]) .nil)))
  .skip)
def F18 : Fn := { np := 2, ns := 3, io := false, body := b18 }
def N18 : List Str := ["net", "lot", "place"]
def b19 : CS := (.seq (.ret (.op .tuple (.cons (.op .sorted (.cons (.comp (.var 2) (.nm 2) (.seq (.op .add (.cons (.var 0) (.cons (.var 1) .nil)))) (.cons (.orE (.op .nin (.cons (.var 2) (.cons (.var 0) .nil))) (.op .nin (.cons (.var 2) (.cons (.var 1) .nil)))) .nil) [2]) .nil)) .nil)))
  .skip)
def F19 : Fn := { np := 2, ns := 3, io := false, body := b19 }
def N19 : List Str := ["lot", "other", "road"]
def b20 : CS := (.seq (.par [2, 3] (.cons (.lst .nil) (.cons (.op .listR (.cons (.op .idx (.cons (.var 0) (.cons (.cst (.int 1)) .nil))) .nil)) .nil)))
  (.seq (.whl (.op .ne (.cons (.var 3) (.cons (.lst .nil) .nil))) (.seq (.par [4, 5] (.cons (.lst (.cons (.op .idx (.cons (.var 3) (.cons (.cst (.int 0)) .nil))) .nil)) (.cons (.lst (.cons (.op .idx (.cons (.var 3) (.cons (.cst (.int 0)) .nil))) .nil)) .nil)))
  (.seq (.whl (.op .ne (.cons (.var 5) (.cons (.lst .nil) .nil))) (.seq (.asg (.nm 6) (.pop 5))
  (.seq (.for_ (.nm 7) (.seq (.var 1)) (.seq (.ifS (.andE (.op .inn (.cons (.var 6) (.cons (.op .idx (.cons (.op .idx (.cons (.var 0) (.cons (.cst (.int 2)) .nil))) (.cons (.var 7) .nil))) .nil))) (.op .nin (.cons (.call 16 (.cons (.var 0) (.cons (.var 7) (.cons (.var 6) .nil)))) (.cons (.var 4) .nil)))) (.seq (.app 4 (.call 16 (.cons (.var 0) (.cons (.var 7) (.cons (.var 6) .nil)))))
  (.seq (.app 5 (.op .idx (.cons (.var 4) (.cons (.op .neg (.cons (.cst (.int 1)) .nil)) .nil))))
  .skip)) .skip)
  .skip))
  .skip)))
  (.seq (.app 2 (.op .tuple (.cons (.op .sorted (.cons (.var 4) .nil)) .nil)))
  (.seq (.asg (.nm 3) (.comp (.var 6) (.nm 6) (.seq (.var 3)) (.cons (.op .nin (.cons (.var 6) (.cons (.var 4) .nil))) .nil) [6]))
  .skip)))))
  (.seq (.ret (.var 2))
  .skip)))
def F20 : Fn := { np := 2, ns := 8, io := false, body := b20 }
def N20 : List Str := ["net", "lot", "found", "left", "here", "more", "one", "road"]
def b21 : CS := (.seq (.ret (.op .tuple (.cons (.comp (.var 2) (.tp (.cons (.nm 2) (.cons (.nm 3) .nil))) (.enum (.op .idx (.cons (.var 0) (.cons (.cst (.int 2)) .nil)))) (.cons (.op .ne (.cons (.op .inn (.cons (.op .idx (.cons (.var 3) (.cons (.cst (.int 0)) .nil))) (.cons (.var 1) .nil))) (.cons (.op .inn (.cons (.op .idx (.cons (.var 3) (.cons (.cst (.int 1)) .nil))) (.cons (.var 1) .nil))) .nil))) .nil) [2, 3]) .nil)))
  .skip)
def F21 : Fn := { np := 2, ns := 4, io := false, body := b21 }
def N21 : List Str := ["net", "spots", "road", "ends"]
def b22 : CS := (.seq (.asg (.nm 2) (.lst .nil))
  (.seq (.for_ (.nm 3) (.seq (.var 1)) (.seq (.asg (.nm 4) (.op .idx (.cons (.comp (.var 5) (.nm 5) (.seq (.call 20 (.cons (.var 0) (.cons (.op .tuple (.cons (.var 2) .nil)) .nil)))) (.cons (.op .inn (.cons (.op .idx (.cons (.op .idx (.cons (.op .idx (.cons (.var 0) (.cons (.cst (.int 2)) .nil))) (.cons (.var 3) .nil))) (.cons (.cst (.int 0)) .nil))) (.cons (.var 5) .nil))) .nil) [5]) (.cons (.cst (.int 0)) .nil))))
  (.seq (.ext 2 (.ifE (.op .nin (.cons (.op .idx (.cons (.op .idx (.cons (.op .idx (.cons (.var 0) (.cons (.cst (.int 2)) .nil))) (.cons (.var 3) .nil))) (.cons (.cst (.int 1)) .nil))) (.cons (.var 4) .nil))) (.lst (.cons (.var 3) .nil)) (.lst .nil)))
  .skip)))
  (.seq (.ret (.op .tuple (.cons (.var 2) .nil)))
  .skip)))
def F22 : Fn := { np := 2, ns := 6, io := false, body := b22 }
def N22 : List Str := ["net", "lot", "found", "road", "home", "spots"]
def b23 : CS := (.seq (.par [4, 5] (.cons (.dct1 (.var 2) (.lst .nil)) (.cons (.lst (.cons (.var 2) .nil)) .nil)))
  (.seq (.whl (.op .ne (.cons (.var 5) (.cons (.lst .nil) .nil))) (.seq (.asg (.nm 6) (.lst .nil))
  (.seq (.for_ (.nm 7) (.seq (.var 5)) (.seq (.for_ (.nm 8) (.seq (.var 1)) (.seq (.ifS (.andE (.op .inn (.cons (.var 7) (.cons (.op .idx (.cons (.op .idx (.cons (.var 0) (.cons (.cst (.int 2)) .nil))) (.cons (.var 8) .nil))) .nil))) (.op .dnin (.cons (.call 16 (.cons (.var 0) (.cons (.var 8) (.cons (.var 7) .nil)))) (.cons (.var 4) .nil)))) (.seq (.asg (.dsub 4 (.call 16 (.cons (.var 0) (.cons (.var 8) (.cons (.var 7) .nil))))) (.op .add (.cons (.op .didx (.cons (.var 4) (.cons (.var 7) .nil))) (.cons (.lst (.cons (.var 8) .nil)) .nil))))
  (.seq (.app 6 (.call 16 (.cons (.var 0) (.cons (.var 8) (.cons (.var 7) .nil)))))
  .skip)) .skip)
  .skip))
  .skip))
  (.seq (.asg (.nm 5) (.var 6))
  .skip))))
  (.seq (.ret (.meth .dget (.var 4) (.cons (.var 3) (.cons (.cst .none) .nil))))
  .skip)))
def F23 : Fn := { np := 4, ns := 9, io := false, body := b23 }
def N23 : List Str := ["net", "lot", "place", "other", "found", "last", "late", "here", "road"]
def b24 : CS := (.seq (.asg (.nm 3) (.var 1))
  (.seq (.for_ (.nm 4) (.seq (.var 2)) (.seq (.ifS (.op .nin (.cons (.var 3) (.cons (.op .idx (.cons (.op .idx (.cons (.var 0) (.cons (.cst (.int 2)) .nil))) (.cons (.var 4) .nil))) .nil))) (.seq (.ret (.cst .none))
  .skip) .skip)
  (.seq (.asg (.nm 3) (.call 16 (.cons (.var 0) (.cons (.var 4) (.cons (.var 3) .nil)))))
  .skip)))
  (.seq (.ret (.var 3))
  .skip)))
def F24 : Fn := { np := 3, ns := 5, io := false, body := b24 }
def N24 : List Str := ["net", "place", "roads", "here", "road"]
def b25 : CS := (.seq (.ret (.andE (.call 2 (.cons (.var 1) .nil)) (.op .all (.cons (.comp (.call 1 (.cons (.var 2) (.cons (.cst (.int 0)) (.cons (.op .sub (.cons (.op .len (.cons (.op .idx (.cons (.var 0) (.cons (.cst (.int 2)) .nil))) .nil)) (.cons (.cst (.int 1)) .nil))) .nil)))) (.nm 2) (.seq (.var 1)) .nil [2]) .nil))))
  .skip)
def F25 : Fn := { np := 2, ns := 3, io := false, body := b25 }
def N25 : List Str := ["net", "value", "one"]
def b26 : CS := (.seq (.exp (.call 8 (.cons (.var 0) .nil)))
  (.seq (.exp (.call 10 (.cons (.var 0) (.cons (.var 1) .nil))))
  (.seq (.ret (.op .idx (.cons (.op .idx (.cons (.var 0) (.cons (.cst (.int 2)) .nil))) (.cons (.var 1) .nil))))
  .skip)))
def F26 : Fn := { np := 2, ns := 2, io := false, body := b26 }
def N26 : List Str := ["net", "road"]
def b27 : CS := (.seq (.exp (.call 8 (.cons (.var 0) .nil)))
  (.seq (.exp (.call 9 (.cons (.var 0) (.cons (.var 1) .nil))))
  (.seq (.ret (.call 15 (.cons (.var 0) (.cons (.var 1) .nil))))
  .skip)))
def F27 : Fn := { np := 2, ns := 2, io := false, body := b27 }
def N27 : List Str := ["net", "place"]
def b28 : CS := (.seq (.exp (.call 8 (.cons (.var 0) .nil)))
  (.seq (.exp (.call 11 (.cons (.var 0) (.cons (.var 1) .nil))))
  (.seq (.exp (.call 9 (.cons (.var 0) (.cons (.var 2) .nil))))
  (.seq (.ret (.call 17 (.cons (.var 0) (.cons (.var 1) (.cons (.var 2) .nil)))))
  .skip))))
def F28 : Fn := { np := 3, ns := 3, io := false, body := b28 }
def N28 : List Str := ["net", "lot", "place"]
def b29 : CS := (.seq (.exp (.call 8 (.cons (.var 0) .nil)))
  (.seq (.exp (.call 11 (.cons (.var 0) (.cons (.var 1) .nil))))
  (.seq (.ret (.call 18 (.cons (.var 0) (.cons (.var 1) .nil))))
  .skip)))
def F29 : Fn := { np := 2, ns := 2, io := false, body := b29 }
def N29 : List Str := ["net", "lot"]
def b30 : CS := (.seq (.exp (.call 8 (.cons (.var 0) .nil)))
  (.seq (.ret (.call 20 (.cons (.var 0) (.cons (.call 14 (.cons (.var 0) .nil)) .nil))))
  .skip))
def F30 : Fn := { np := 1, ns := 1, io := false, body := b30 }
def N30 : List Str := ["net"]
def b31 : CS := (.seq (.exp (.call 8 (.cons (.var 0) .nil)))
  (.seq (.exp (.call 11 (.cons (.var 0) (.cons (.var 1) .nil))))
  (.seq (.ret (.call 20 (.cons (.var 0) (.cons (.var 1) .nil))))
  .skip)))
def F31 : Fn := { np := 2, ns := 2, io := false, body := b31 }
def N31 : List Str := ["net", "lot"]
def b32 : CS := (.seq (.exp (.call 8 (.cons (.var 0) .nil)))
  (.seq (.exp (.call 9 (.cons (.var 0) (.cons (.var 1) .nil))))
  (.seq (.exp (.call 9 (.cons (.var 0) (.cons (.var 2) .nil))))
  (.seq (.ret (.andE (.call 25 (.cons (.var 0) (.cons (.var 3) .nil))) (.op .eq (.cons (.call 24 (.cons (.var 0) (.cons (.var 1) (.cons (.op .list (.cons (.var 3) .nil)) .nil)))) (.cons (.var 2) .nil)))))
  .skip))))
def F32 : Fn := { np := 4, ns := 4, io := false, body := b32 }
def N32 : List Str := ["net", "place", "other", "value"]
def b33 : CS := (.seq (.exp (.call 8 (.cons (.var 0) .nil)))
  (.seq (.exp (.call 11 (.cons (.var 0) (.cons (.var 1) .nil))))
  (.seq (.exp (.call 9 (.cons (.var 0) (.cons (.var 2) .nil))))
  (.seq (.exp (.call 9 (.cons (.var 0) (.cons (.var 3) .nil))))
  (.seq (.ret (.call 23 (.cons (.var 0) (.cons (.var 1) (.cons (.var 2) (.cons (.var 3) .nil))))))
  .skip)))))
def F33 : Fn := { np := 4, ns := 4, io := false, body := b33 }
def N33 : List Str := ["net", "lot", "place", "other"]
def b34 : CS := (.seq (.exp (.call 8 (.cons (.var 0) .nil)))
  (.seq (.ret (.call 22 (.cons (.var 0) (.cons (.call 14 (.cons (.var 0) .nil)) .nil))))
  .skip))
def F34 : Fn := { np := 1, ns := 1, io := false, body := b34 }
def N34 : List Str := ["net"]
def b35 : CS := (.seq (.ifS (.orE (.notE (.call 2 (.cons (.var 1) .nil))) (.orE (.op .ne (.cons (.op .len (.cons (.var 1) .nil)) (.cons (.var 0) .nil))) (.notE (.op .all (.cons (.comp (.call 1 (.cons (.var 2) (.cons (.cst (.int 0)) (.cons (.op .sub (.cons (.var 0) (.cons (.cst (.int 1)) .nil))) .nil)))) (.nm 2) (.seq (.var 1)) .nil [2]) .nil))))) (.seq (.ret (.cst (.bool false)))
  .skip) .skip)
  (.seq (.ret (.op .eq (.cons (.op .lenSet (.cons (.op .list (.cons (.var 1) .nil)) .nil)) (.cons (.var 0) .nil))))
  .skip))
def F35 : Fn := { np := 2, ns := 3, io := false, body := b35 }
def N35 : List Str := ["many", "value", "one"]
def b36 : CS := (.seq (.ret (.tup (.cons (.op .min2 (.cons (.var 0) (.cons (.var 1) .nil))) (.cons (.op .max2 (.cons (.var 0) (.cons (.var 1) .nil))) .nil))))
  .skip)
def F36 : Fn := { np := 2, ns := 2, io := false, body := b36 }
def N36 : List Str := ["one", "other"]
def b37 : CS := (.seq (.ifS (.op .gt (.cons (.var 0) (.cons (.cst (.int 8)) .nil))) (.seq (.raise 9 (.cons (.cst (.str (sN [112, 108, 97, 99, 101, 115]))) (.cons (.cst (.int 8)) .nil)))
  .skip) .skip)
  (.seq (.ifS (.op .gt (.cons (.var 1) (.cons (.cst (.int 14)) .nil))) (.seq (.raise 9 (.cons (.cst (.str (sN [114, 111, 97, 100, 115]))) (.cons (.cst (.int 14)) .nil)))
  .skip) .skip)
  .skip))
def F37 : Fn := { np := 2, ns := 2, io := false, body := b37 }
def N37 : List Str := ["places", "roads"]
def b38 : CS := (.seq (.asg (.nm 2) (.call 20 (.cons (.var 0) (.cons (.var 1) .nil))))
  (.seq (.asg (.nm 3) (.comp (.meth .index (.comp (.op .inn (.cons (.var 5) (.cons (.var 6) .nil))) (.nm 6) (.seq (.var 2)) .nil [6]) (.cons (.cst (.bool true)) .nil)) (.nm 5) (.rng1 (.op .idx (.cons (.var 0) (.cons (.cst (.int 1)) .nil)))) .nil [5]))
  (.seq (.asg (.nm 4) (.comp (.tup (.cons (.op .idx (.cons (.var 3) (.cons (.var 7) .nil))) (.cons (.op .idx (.cons (.var 3) (.cons (.var 8) .nil))) .nil))) (.tp (.cons (.nm 7) (.cons (.nm 8) .nil))) (.seq (.op .idx (.cons (.var 0) (.cons (.cst (.int 2)) .nil)))) .nil [7, 8]))
  (.seq (.ret (.call 13 (.cons (.op .len (.cons (.var 2) .nil)) (.cons (.comp (.call 36 (.cons (.var 7) (.cons (.var 8) .nil))) (.tp (.cons (.nm 7) (.cons (.nm 8) .nil))) (.seq (.var 4)) (.cons (.op .ne (.cons (.var 7) (.cons (.var 8) .nil))) .nil) [7, 8]) .nil))))
  .skip))))
def F38 : Fn := { np := 2, ns := 9, io := false, body := b38 }
def N38 : List Str := ["net", "lot", "rooms", "home", "roads", "place", "spots", "one", "other"]
def b39 : CS := (.seq (.exp (.call 8 (.cons (.var 0) .nil)))
  (.seq (.ifS (.notE (.call 35 (.cons (.op .idx (.cons (.var 0) (.cons (.cst (.int 1)) .nil))) (.cons (.var 1) .nil)))) (.seq (.raise 6 (.cons (.var 1) .nil))
  .skip) .skip)
  (.seq (.asg (.nm 2) (.comp (.meth .index (.op .list (.cons (.var 1) .nil)) (.cons (.var 3) .nil)) (.nm 3) (.rng1 (.op .idx (.cons (.var 0) (.cons (.cst (.int 1)) .nil)))) .nil [3]))
  (.seq (.ret (.call 13 (.cons (.op .idx (.cons (.var 0) (.cons (.cst (.int 1)) .nil))) (.cons (.comp (.call 36 (.cons (.op .idx (.cons (.var 2) (.cons (.var 4) .nil))) (.cons (.op .idx (.cons (.var 2) (.cons (.var 5) .nil))) .nil))) (.tp (.cons (.nm 4) (.cons (.nm 5) .nil))) (.seq (.op .idx (.cons (.var 0) (.cons (.cst (.int 2)) .nil)))) .nil [4, 5]) .nil))))
  .skip))))
def F39 : Fn := { np := 2, ns := 6, io := false, body := b39 }
def N39 : List Str := ["net", "names", "new", "place", "one", "other"]
def b40 : CS := (.seq (.exp (.call 8 (.cons (.var 0) .nil)))
  (.seq (.ifS (.notE (.call 35 (.cons (.op .len (.cons (.op .idx (.cons (.var 0) (.cons (.cst (.int 2)) .nil))) .nil)) (.cons (.var 1) .nil)))) (.seq (.raise 7 (.cons (.var 1) .nil))
  .skip) .skip)
  (.seq (.ret (.call 13 (.cons (.op .idx (.cons (.var 0) (.cons (.cst (.int 1)) .nil))) (.cons (.comp (.op .idx (.cons (.op .idx (.cons (.var 0) (.cons (.cst (.int 2)) .nil))) (.cons (.var 2) .nil))) (.nm 2) (.seq (.var 1)) .nil [2]) .nil))))
  .skip)))
def F40 : Fn := { np := 2, ns := 3, io := false, body := b40 }
def N40 : List Str := ["net", "sequence", "road"]
def b41 : CS := (.seq (.exp (.call 8 (.cons (.var 0) .nil)))
  (.seq (.exp (.call 11 (.cons (.var 0) (.cons (.var 1) .nil))))
  (.seq (.ret (.call 13 (.cons (.op .idx (.cons (.var 0) (.cons (.cst (.int 1)) .nil))) (.cons (.comp (.var 3) (.tp (.cons (.nm 2) (.cons (.nm 3) .nil))) (.enum (.op .idx (.cons (.var 0) (.cons (.cst (.int 2)) .nil)))) (.cons (.op .nin (.cons (.var 2) (.cons (.var 1) .nil))) .nil) [2, 3]) .nil))))
  .skip)))
def F41 : Fn := { np := 2, ns := 4, io := false, body := b41 }
def N41 : List Str := ["net", "lot", "road", "ends"]
def b42 : CS := (.seq (.exp (.call 8 (.cons (.var 0) .nil)))
  (.seq (.ifS (.orE (.notE (.call 1 (.cons (.var 1) (.cons (.cst (.int 0)) (.cons (.op .sub (.cons (.op .idx (.cons (.var 0) (.cons (.cst (.int 1)) .nil))) (.cons (.cst (.int 1)) .nil))) .nil))))) (.orE (.notE (.call 1 (.cons (.var 2) (.cons (.cst (.int 0)) (.cons (.op .sub (.cons (.op .idx (.cons (.var 0) (.cons (.cst (.int 1)) .nil))) (.cons (.cst (.int 1)) .nil))) .nil))))) (.op .eq (.cons (.var 1) (.cons (.var 2) .nil))))) (.seq (.raise 5 (.cons (.tup (.cons (.var 1) (.cons (.var 2) .nil))) .nil))
  .skip) .skip)
  (.seq (.exp (.call 37 (.cons (.op .idx (.cons (.var 0) (.cons (.cst (.int 1)) .nil))) (.cons (.op .add (.cons (.op .len (.cons (.op .idx (.cons (.var 0) (.cons (.cst (.int 2)) .nil))) .nil)) (.cons (.cst (.int 1)) .nil))) .nil))))
  (.seq (.ret (.call 13 (.cons (.op .idx (.cons (.var 0) (.cons (.cst (.int 1)) .nil))) (.cons (.op .add (.cons (.op .list (.cons (.op .idx (.cons (.var 0) (.cons (.cst (.int 2)) .nil))) .nil)) (.cons (.lst (.cons (.call 36 (.cons (.var 1) (.cons (.var 2) .nil))) .nil)) .nil))) .nil))))
  .skip))))
def F42 : Fn := { np := 3, ns := 3, io := false, body := b42 }
def N42 : List Str := ["net", "one", "other"]
def b43 : CS := (.seq (.exp (.call 8 (.cons (.var 0) .nil)))
  (.seq (.exp (.call 11 (.cons (.var 0) (.cons (.var 1) .nil))))
  (.seq (.exp (.call 37 (.cons (.op .idx (.cons (.var 0) (.cons (.cst (.int 1)) .nil))) (.cons (.op .add (.cons (.op .len (.cons (.op .idx (.cons (.var 0) (.cons (.cst (.int 2)) .nil))) .nil)) (.cons (.op .len (.cons (.var 1) .nil)) .nil))) .nil))))
  (.seq (.ret (.call 13 (.cons (.op .idx (.cons (.var 0) (.cons (.cst (.int 1)) .nil))) (.cons (.op .add (.cons (.op .list (.cons (.op .idx (.cons (.var 0) (.cons (.cst (.int 2)) .nil))) .nil)) (.cons (.comp (.op .idx (.cons (.op .idx (.cons (.var 0) (.cons (.cst (.int 2)) .nil))) (.cons (.var 2) .nil))) (.nm 2) (.seq (.var 1)) .nil [2]) .nil))) .nil))))
  .skip))))
def F43 : Fn := { np := 2, ns := 3, io := false, body := b43 }
def N43 : List Str := ["net", "lot", "road"]
def b44 : CS := (.seq (.exp (.call 8 (.cons (.var 0) .nil)))
  (.seq (.exp (.call 11 (.cons (.var 0) (.cons (.var 1) .nil))))
  (.seq (.ret (.call 38 (.cons (.var 0) (.cons (.var 1) .nil))))
  .skip)))
def F44 : Fn := { np := 2, ns := 2, io := false, body := b44 }
def N44 : List Str := ["net", "lot"]
def b45 : CS := (.seq (.exp (.call 8 (.cons (.var 0) .nil)))
  (.seq (.exp (.call 10 (.cons (.var 0) (.cons (.var 1) .nil))))
  (.seq (.exp (.call 37 (.cons (.op .add (.cons (.op .idx (.cons (.var 0) (.cons (.cst (.int 1)) .nil))) (.cons (.cst (.int 1)) .nil))) (.cons (.op .add (.cons (.op .len (.cons (.op .idx (.cons (.var 0) (.cons (.cst (.int 2)) .nil))) .nil)) (.cons (.cst (.int 1)) .nil))) .nil))))
  (.seq (.asg (.tp (.cons (.nm 2) (.cons (.nm 3) .nil))) (.op .idx (.cons (.op .idx (.cons (.var 0) (.cons (.cst (.int 2)) .nil))) (.cons (.var 1) .nil))))
  (.seq (.asg (.nm 4) (.comp (.ifE (.op .eq (.cons (.var 5) (.cons (.var 1) .nil))) (.tup (.cons (.var 2) (.cons (.op .idx (.cons (.var 0) (.cons (.cst (.int 1)) .nil))) .nil))) (.var 6)) (.tp (.cons (.nm 5) (.cons (.nm 6) .nil))) (.enum (.op .idx (.cons (.var 0) (.cons (.cst (.int 2)) .nil)))) .nil [5, 6]))
  (.seq (.ret (.call 13 (.cons (.op .add (.cons (.op .idx (.cons (.var 0) (.cons (.cst (.int 1)) .nil))) (.cons (.cst (.int 1)) .nil))) (.cons (.op .add (.cons (.var 4) (.cons (.lst (.cons (.tup (.cons (.var 3) (.cons (.op .idx (.cons (.var 0) (.cons (.cst (.int 1)) .nil))) .nil))) .nil)) .nil))) .nil))))
  .skip))))))
def F45 : Fn := { np := 2, ns := 7, io := false, body := b45 }
def N45 : List Str := ["net", "road", "one", "other", "roads", "at", "ends"]
def b46 : CS := (.seq (.exp (.call 8 (.cons (.var 0) .nil)))
  (.seq (.exp (.call 8 (.cons (.var 1) .nil)))
  (.seq (.exp (.call 37 (.cons (.op .add (.cons (.op .idx (.cons (.var 0) (.cons (.cst (.int 1)) .nil))) (.cons (.op .idx (.cons (.var 1) (.cons (.cst (.int 1)) .nil))) .nil))) (.cons (.op .add (.cons (.op .len (.cons (.op .idx (.cons (.var 0) (.cons (.cst (.int 2)) .nil))) .nil)) (.cons (.op .len (.cons (.op .idx (.cons (.var 1) (.cons (.cst (.int 2)) .nil))) .nil)) .nil))) .nil))))
  (.seq (.ret (.call 13 (.cons (.op .add (.cons (.op .idx (.cons (.var 0) (.cons (.cst (.int 1)) .nil))) (.cons (.op .idx (.cons (.var 1) (.cons (.cst (.int 1)) .nil))) .nil))) (.cons (.op .add (.cons (.op .list (.cons (.op .idx (.cons (.var 0) (.cons (.cst (.int 2)) .nil))) .nil)) (.cons (.comp (.tup (.cons (.op .add (.cons (.var 2) (.cons (.op .idx (.cons (.var 0) (.cons (.cst (.int 1)) .nil))) .nil))) (.cons (.op .add (.cons (.var 3) (.cons (.op .idx (.cons (.var 0) (.cons (.cst (.int 1)) .nil))) .nil))) .nil))) (.tp (.cons (.nm 2) (.cons (.nm 3) .nil))) (.seq (.op .idx (.cons (.var 1) (.cons (.cst (.int 2)) .nil)))) .nil [2, 3]) .nil))) .nil))))
  .skip))))
def F46 : Fn := { np := 2, ns := 4, io := false, body := b46 }
def N46 : List Str := ["net", "other", "one", "late"]
def b47 : CS := (.seq (.exp (.call 8 (.cons (.var 0) .nil)))
  (.seq (.exp (.call 12 (.cons (.var 0) (.cons (.var 1) .nil))))
  (.seq (.ifS (.op .eq (.cons (.var 1) (.cons (.tup .nil) .nil))) (.seq (.raise 8 .nil)
  .skip) .skip)
  (.seq (.asg (.nm 2) (.comp (.op .idx (.cons (.op .idx (.cons (.var 0) (.cons (.cst (.int 2)) .nil))) (.cons (.var 3) .nil))) (.nm 3) (.seq (.call 14 (.cons (.var 0) .nil))) (.cons (.andE (.op .inn (.cons (.op .idx (.cons (.op .idx (.cons (.op .idx (.cons (.var 0) (.cons (.cst (.int 2)) .nil))) (.cons (.var 3) .nil))) (.cons (.cst (.int 0)) .nil))) (.cons (.var 1) .nil))) (.op .inn (.cons (.op .idx (.cons (.op .idx (.cons (.op .idx (.cons (.var 0) (.cons (.cst (.int 2)) .nil))) (.cons (.var 3) .nil))) (.cons (.cst (.int 1)) .nil))) (.cons (.var 1) .nil)))) .nil) [3]))
  (.seq (.ret (.call 13 (.cons (.op .len (.cons (.var 1) .nil)) (.cons (.comp (.tup (.cons (.meth .index (.var 1) (.cons (.var 4) .nil)) (.cons (.meth .index (.var 1) (.cons (.var 5) .nil)) .nil))) (.tp (.cons (.nm 4) (.cons (.nm 5) .nil))) (.seq (.var 2)) .nil [4, 5]) .nil))))
  .skip)))))
def F47 : Fn := { np := 2, ns := 6, io := false, body := b47 }
def N47 : List Str := ["net", "spots", "roads", "road", "one", "other"]
def b48 : CS := (.seq (.ifS (.orE (.op .eq (.cons (.var 1) (.cons (.tup .nil) .nil))) (.op .any (.cons (.comp (.op .nin (.cons (.call 17 (.cons (.var 0) (.cons (.var 1) (.cons (.var 2) .nil)))) (.cons (.tup (.cons (.cst (.int 0)) (.cons (.cst (.int 2)) .nil))) .nil))) (.nm 2) (.rng1 (.op .idx (.cons (.var 0) (.cons (.cst (.int 1)) .nil)))) .nil [2]) .nil))) (.seq (.ret (.cst (.bool false)))
  .skip) .skip)
  (.seq (.ret (.op .eq (.cons (.op .len (.cons (.comp (.var 3) (.nm 3) (.seq (.call 20 (.cons (.var 0) (.cons (.var 1) .nil)))) (.cons (.op .gt (.cons (.op .len (.cons (.var 3) .nil)) (.cons (.cst (.int 1)) .nil))) .nil) [3]) .nil)) (.cons (.cst (.int 1)) .nil))))
  .skip))
def F48 : Fn := { np := 2, ns := 4, io := false, body := b48 }
def N48 : List Str := ["net", "lot", "place", "spots"]
def b49 : CS := (.seq (.asg (.nm 2) (.tup .nil))
  (.seq (.for_ (.nm 3) (.seq (.call 20 (.cons (.var 0) (.cons (.call 14 (.cons (.var 0) .nil)) .nil)))) (.seq (.for_ (.nm 4) (.seq (.var 3)) (.seq (.asg (.nm 5) (.call 23 (.cons (.var 0) (.cons (.call 14 (.cons (.var 0) .nil)) (.cons (.op .idx (.cons (.var 3) (.cons (.cst (.int 0)) .nil))) (.cons (.var 4) .nil))))))
  (.seq (.asg (.nm 2) (.op .add (.cons (.var 2) (.cons (.ifE (.op .eq (.cons (.op .mod (.cons (.op .len (.cons (.comp (.var 6) (.nm 6) (.seq (.var 5)) (.cons (.op .inn (.cons (.var 6) (.cons (.var 1) .nil))) .nil) [6]) .nil)) (.cons (.cst (.int 2)) .nil))) (.cons (.cst (.int 1)) .nil))) (.tup (.cons (.var 4) .nil)) (.tup .nil)) .nil))))
  .skip)))
  .skip))
  (.seq (.asg (.nm 2) (.op .tuple (.cons (.op .sorted (.cons (.var 2) .nil)) .nil)))
  (.seq (.ret (.ifE (.op .eq (.cons (.call 21 (.cons (.var 0) (.cons (.var 2) .nil))) (.cons (.var 1) .nil))) (.var 2) (.cst .none)))
  .skip))))
def F49 : Fn := { np := 2, ns := 7, io := false, body := b49 }
def N49 : List Str := ["net", "lot", "found", "spots", "place", "steps", "road"]
def b50 : CS := (.seq (.asg (.nm 2) (.op .tuple (.cons (.comp (.var 3) (.nm 3) (.seq (.call 14 (.cons (.var 0) .nil))) (.cons (.op .nin (.cons (.var 3) (.cons (.var 1) .nil))) .nil) [3]) .nil)))
  (.seq (.ifS (.orE (.op .eq (.cons (.var 1) (.cons (.tup .nil) .nil))) (.op .ne (.cons (.op .len (.cons (.call 20 (.cons (.var 0) (.cons (.var 2) .nil))) .nil)) (.cons (.op .add (.cons (.op .len (.cons (.call 20 (.cons (.var 0) (.cons (.call 14 (.cons (.var 0) .nil)) .nil))) .nil)) (.cons (.cst (.int 1)) .nil))) .nil)))) (.seq (.ret (.cst (.bool false)))
  .skip) .skip)
  (.seq (.ret (.op .isNotN (.cons (.call 49 (.cons (.var 0) (.cons (.var 1) .nil))) .nil)))
  .skip)))
def F50 : Fn := { np := 2, ns := 4, io := false, body := b50 }
def N50 : List Str := ["net", "lot", "rest", "road"]
def b51 : CS := (.seq (.exp (.call 8 (.cons (.var 0) .nil)))
  (.seq (.exp (.call 11 (.cons (.var 0) (.cons (.var 1) .nil))))
  (.seq (.exp (.call 11 (.cons (.var 0) (.cons (.var 2) .nil))))
  (.seq (.ret (.call 19 (.cons (.var 1) (.cons (.var 2) .nil))))
  .skip))))
def F51 : Fn := { np := 3, ns := 3, io := false, body := b51 }
def N51 : List Str := ["net", "lot", "other"]
def b52 : CS := (.seq (.exp (.call 8 (.cons (.var 0) .nil)))
  (.seq (.ret (.andE (.call 5 (.cons (.var 1) (.cons (.op .len (.cons (.op .idx (.cons (.var 0) (.cons (.cst (.int 2)) .nil))) .nil)) .nil))) (.op .eq (.cons (.call 18 (.cons (.var 0) (.cons (.var 1) .nil))) (.cons (.tup .nil) .nil)))))
  .skip))
def F52 : Fn := { np := 2, ns := 2, io := false, body := b52 }
def N52 : List Str := ["net", "value"]
def b53 : CS := (.seq (.exp (.call 8 (.cons (.var 0) .nil)))
  (.seq (.ret (.andE (.call 5 (.cons (.var 1) (.cons (.op .len (.cons (.op .idx (.cons (.var 0) (.cons (.cst (.int 2)) .nil))) .nil)) .nil))) (.call 48 (.cons (.var 0) (.cons (.var 1) .nil)))))
  .skip))
def F53 : Fn := { np := 2, ns := 2, io := false, body := b53 }
def N53 : List Str := ["net", "value"]
def b54 : CS := (.seq (.exp (.call 8 (.cons (.var 0) .nil)))
  (.seq (.exp (.call 12 (.cons (.var 0) (.cons (.var 1) .nil))))
  (.seq (.ret (.call 21 (.cons (.var 0) (.cons (.var 1) .nil))))
  .skip)))
def F54 : Fn := { np := 2, ns := 2, io := false, body := b54 }
def N54 : List Str := ["net", "spots"]
def b55 : CS := (.seq (.exp (.call 8 (.cons (.var 0) .nil)))
  (.seq (.ret (.andE (.call 5 (.cons (.var 1) (.cons (.op .len (.cons (.op .idx (.cons (.var 0) (.cons (.cst (.int 2)) .nil))) .nil)) .nil))) (.op .isNotN (.cons (.call 49 (.cons (.var 0) (.cons (.var 1) .nil))) .nil))))
  .skip))
def F55 : Fn := { np := 2, ns := 2, io := false, body := b55 }
def N55 : List Str := ["net", "value"]
def b56 : CS := (.seq (.exp (.call 8 (.cons (.var 0) .nil)))
  (.seq (.exp (.call 11 (.cons (.var 0) (.cons (.var 1) .nil))))
  (.seq (.ret (.call 49 (.cons (.var 0) (.cons (.var 1) .nil))))
  .skip)))
def F56 : Fn := { np := 2, ns := 2, io := false, body := b56 }
def N56 : List Str := ["net", "lot"]
def b57 : CS := (.seq (.exp (.call 8 (.cons (.var 0) .nil)))
  (.seq (.ret (.andE (.call 5 (.cons (.var 1) (.cons (.op .len (.cons (.op .idx (.cons (.var 0) (.cons (.cst (.int 2)) .nil))) .nil)) .nil))) (.call 50 (.cons (.var 0) (.cons (.var 1) .nil)))))
  .skip))
def F57 : Fn := { np := 2, ns := 2, io := false, body := b57 }
def N57 : List Str := ["net", "value"]
def b58 : CS := (.seq (.exp (.call 8 (.cons (.var 0) .nil)))
  (.seq (.asg (.nm 1) (.lst .nil))
  (.seq (.for_ (.nm 2) (.seq (.call 14 (.cons (.var 0) .nil))) (.seq (.asg (.nm 3) (.op .tuple (.cons (.comp (.var 4) (.nm 4) (.seq (.call 14 (.cons (.var 0) .nil))) (.cons (.op .ne (.cons (.var 4) (.cons (.var 2) .nil))) .nil) [4]) .nil)))
  (.seq (.ext 1 (.ifE (.op .gt (.cons (.op .len (.cons (.call 20 (.cons (.var 0) (.cons (.var 3) .nil))) .nil)) (.cons (.op .len (.cons (.call 20 (.cons (.var 0) (.cons (.call 14 (.cons (.var 0) .nil)) .nil))) .nil)) .nil))) (.lst (.cons (.var 2) .nil)) (.lst .nil)))
  .skip)))
  (.seq (.ret (.op .tuple (.cons (.var 1) .nil)))
  .skip))))
def F58 : Fn := { np := 1, ns := 5, io := false, body := b58 }
def N58 : List Str := ["net", "found", "road", "rest", "one"]
def b59 : CS := (.seq (.exp (.call 8 (.cons (.var 0) .nil)))
  (.seq (.exp (.call 10 (.cons (.var 0) (.cons (.var 1) .nil))))
  (.seq (.asg (.tp (.cons (.nm 2) (.cons (.nm 3) .nil))) (.op .idx (.cons (.op .idx (.cons (.var 0) (.cons (.cst (.int 2)) .nil))) (.cons (.var 1) .nil))))
  (.seq (.asg (.nm 4) (.call 23 (.cons (.var 0) (.cons (.op .tuple (.cons (.comp (.var 5) (.nm 5) (.seq (.call 14 (.cons (.var 0) .nil))) (.cons (.op .ne (.cons (.var 5) (.cons (.var 1) .nil))) .nil) [5]) .nil)) (.cons (.var 2) (.cons (.var 3) .nil))))))
  (.seq (.ret (.ifE (.op .isN (.cons (.var 4) .nil)) (.cst .none) (.op .tuple (.cons (.op .sorted (.cons (.op .add (.cons (.var 4) (.cons (.lst (.cons (.var 1) .nil)) .nil))) .nil)) .nil))))
  .skip)))))
def F59 : Fn := { np := 2, ns := 6, io := false, body := b59 }
def N59 : List Str := ["net", "road", "one", "other", "steps", "late"]
def b60 : CS := (.seq (.exp (.call 8 (.cons (.var 0) .nil)))
  (.seq (.ifS (.notE (.call 5 (.cons (.var 1) (.cons (.op .len (.cons (.op .idx (.cons (.var 0) (.cons (.cst (.int 2)) .nil))) .nil)) .nil)))) (.seq (.ret (.cst (.bool false)))
  .skip) .skip)
  (.seq (.ret (.andE (.op .eq (.cons (.call 22 (.cons (.var 0) (.cons (.var 1) .nil))) (.cons (.var 1) .nil))) (.op .eq (.cons (.op .len (.cons (.call 20 (.cons (.var 0) (.cons (.var 1) .nil))) .nil)) (.cons (.op .len (.cons (.call 20 (.cons (.var 0) (.cons (.call 14 (.cons (.var 0) .nil)) .nil))) .nil)) .nil)))))
  .skip)))
def F60 : Fn := { np := 2, ns := 2, io := false, body := b60 }
def N60 : List Str := ["net", "value"]
def b61 : CS := (.seq (.asg (.nm 2) (.ifE (.op .lt (.cons (.var 1) (.cons (.op .len (.cons (.var 0) .nil)) .nil))) (.op .abs (.cons (.op .idx (.cons (.var 0) (.cons (.var 1) .nil))) .nil)) (.op .add (.cons (.op .mul (.cons (.cst (.int 2273)) (.cons (.var 1) .nil))) (.cons (.cst (.int 1033)) .nil)))))
  (.seq (.ret (.lst (.cons (.op .max2 (.cons (.cst (.int 0)) (.cons (.op .sub (.cons (.var 2) (.cons (.op .pow (.cons (.cst (.int 10)) (.cons (.cst (.int 18)) .nil))) .nil))) .nil))) (.cons (.op .add (.cons (.op .mod (.cons (.op .int (.cons (.op .add (.cons (.op .add (.cons (.op .mul (.cons (.op .mod (.cons (.op .int (.cons (.var 2) .nil)) (.cons (.cst (.int 2147483549)) .nil))) (.cons (.cst (.int 40014)) .nil))) (.cons (.op .mul (.cons (.cst (.int 8059)) (.cons (.var 1) .nil))) .nil))) (.cons (.cst (.int 1879)) .nil))) .nil)) (.cons (.cst (.int 2147483563)) .nil))) (.cons (.cst (.int 1)) .nil))) .nil))))
  .skip))
def F61 : Fn := { np := 2, ns := 3, io := false, body := b61 }
def N61 : List Str := ["script", "k", "cell"]
def b62 : CS := (.seq (.ifS (.op .gt (.cons (.op .idx (.cons (.var 0) (.cons (.cst (.int 0)) .nil))) (.cons (.cst (.int 0)) .nil))) (.seq (.asg (.tp (.cons (.sub 0 (.cst (.int 0))) (.cons (.nm 2) .nil))) (.op .divmod (.cons (.op .idx (.cons (.var 0) (.cons (.cst (.int 0)) .nil))) (.cons (.var 1) .nil))))
  (.seq (.ret (.var 2))
  .skip)) .skip)
  (.seq (.asg (.sub 0 (.cst (.int 1))) (.op .mod (.cons (.op .int (.cons (.op .add (.cons (.op .mul (.cons (.op .idx (.cons (.var 0) (.cons (.cst (.int 1)) .nil))) (.cons (.cst (.int 40692)) .nil))) (.cons (.cst (.int 11173)) .nil))) .nil)) (.cons (.cst (.int 2147483587)) .nil))))
  (.seq (.ret (.op .mod (.cons (.op .int (.cons (.op .fdiv (.cons (.op .mod (.cons (.op .int (.cons (.op .mul (.cons (.op .idx (.cons (.var 0) (.cons (.cst (.int 1)) .nil))) (.cons (.op .idx (.cons (.var 0) (.cons (.cst (.int 1)) .nil))) .nil))) .nil)) (.cons (.cst (.int 2147483549)) .nil))) (.cons (.cst (.int 17)) .nil))) .nil)) (.cons (.var 1) .nil))))
  .skip)))
def F62 : Fn := { np := 2, ns := 3, io := true, body := b62 }
def N62 : List Str := ["pot", "many", "digit"]
def b63 : CS := (.seq (.ret (.op .idx (.cons (.var 1) (.cons (.callIO 62 0 (.cons (.op .len (.cons (.var 1) .nil)) .nil)) .nil))))
  .skip)
def F63 : Fn := { np := 2, ns := 2, io := true, body := b63 }
def N63 : List Str := ["pot", "some"]
def b64 : CS := (.seq (.asg (.nm 1) (.lst (.cons (.cst (.str (sN [108, 101, 116]))) .nil)))
  (.seq (.tryS (.seq (.exp (.callV 0))
  .skip)
  (.cons [0] (some 2) (.seq (.asg (.nm 1) (.lst (.cons (.cst (.str (sN [110, 101, 116]))) (.cons (.op .repr (.cons (.attr 2 0) .nil)) (.cons (.isE 2 [0, 1, 2, 3, 4, 5, 6, 7]) .nil)))))
  .skip)
  (.cons [1] (some 2) (.seq (.asg (.nm 1) (.lst (.cons (.cst (.str (sN [112, 108, 97, 99, 101]))) (.cons (.op .repr (.cons (.attr 2 0) .nil)) (.cons (.isE 2 [0, 1, 2, 3, 4, 5, 6, 7]) .nil)))))
  .skip)
  (.cons [2] (some 2) (.seq (.asg (.nm 1) (.lst (.cons (.cst (.str (sN [114, 111, 97, 100]))) (.cons (.op .repr (.cons (.attr 2 0) .nil)) (.cons (.isE 2 [0, 1, 2, 3, 4, 5, 6, 7]) .nil)))))
  .skip)
  (.cons [3] (some 2) (.seq (.asg (.nm 1) (.lst (.cons (.cst (.str (sN [108, 111, 116]))) (.cons (.op .repr (.cons (.attr 2 0) .nil)) (.cons (.isE 2 [0, 1, 2, 3, 4, 5, 6, 7]) .nil)))))
  .skip)
  (.cons [4] (some 2) (.seq (.asg (.nm 1) (.lst (.cons (.cst (.str (sN [115, 112, 111, 116, 115]))) (.cons (.op .repr (.cons (.attr 2 0) .nil)) (.cons (.isE 2 [0, 1, 2, 3, 4, 5, 6, 7]) .nil)))))
  .skip)
  (.cons [6] (some 2) (.seq (.asg (.nm 1) (.lst (.cons (.cst (.str (sN [110, 97, 109, 101, 115]))) (.cons (.op .repr (.cons (.attr 2 0) .nil)) (.cons (.isE 2 [0, 1, 2, 3, 4, 5, 6, 7]) .nil)))))
  .skip)
  (.cons [7] (some 2) (.seq (.asg (.nm 1) (.lst (.cons (.cst (.str (sN [115, 101, 113, 117, 101, 110, 99, 101]))) (.cons (.op .repr (.cons (.attr 2 0) .nil)) (.cons (.isE 2 [0, 1, 2, 3, 4, 5, 6, 7]) .nil)))))
  .skip)
  (.cons [5] (some 2) (.seq (.asg (.nm 1) (.lst (.cons (.cst (.str (sN [101, 110, 100, 115]))) (.cons (.op .repr (.cons (.attr 2 0) .nil)) (.cons (.isE 2 [0, 1, 2, 3, 4, 5, 6, 7]) .nil)))))
  .skip)
  (.cons [8] none (.seq (.asg (.nm 1) (.lst (.cons (.cst (.str (sN [110, 111, 119, 104, 101, 114, 101]))) .nil)))
  .skip)
  (.cons [9] (some 2) (.seq (.asg (.nm 1) (.lst (.cons (.attr 2 1) (.cons (.attr 2 2) (.cons (.isE 2 [9]) .nil)))))
  .skip)
  .nil)))))))))))
  (.seq (.ret (.var 1))
  .skip)))
def F64 : Fn := { np := 1, ns := 3, io := false, body := b64 }
def N64 : List Str := ["call", "told", "e"]
def b65 : CS := (.seq (.ret (.op .eq (.cons (.comp (.call 64 (.cons (.var 2) .nil)) (.nm 2) (.seq (.var 0)) .nil [2]) (.cons (.op .mul (.cons (.lst (.cons (.var 1) .nil)) (.cons (.op .len (.cons (.var 0) .nil)) .nil))) .nil))))
  .skip)
def F65 : Fn := { np := 2, ns := 3, io := false, body := b65 }
def N65 : List Str := ["calls", "due", "call"]
def b66 : CS := (.seq (.asg (.nm 1) (.lst (.cons (.lam 72 [0]) .nil)))
  (.seq (.app 1 (.lam 73 [0]))
  (.seq (.app 1 (.lam 74 [0]))
  (.seq (.app 1 (.lam 75 [0]))
  (.seq (.app 1 (.lam 76 [0]))
  (.seq (.app 1 (.lam 77 [0]))
  (.seq (.app 1 (.lam 78 [0]))
  (.seq (.app 1 (.lam 79 [0]))
  (.seq (.app 1 (.lam 80 [0]))
  (.seq (.app 1 (.lam 81 [0]))
  (.seq (.app 1 (.lam 82 [0]))
  (.seq (.app 1 (.lam 83 [0]))
  (.seq (.app 1 (.lam 84 [0]))
  (.seq (.app 1 (.lam 85 [0]))
  (.seq (.app 1 (.lam 86 [0]))
  (.seq (.app 1 (.lam 87 [0]))
  (.seq (.app 1 (.lam 88 [0]))
  (.seq (.app 1 (.lam 89 [0]))
  (.seq (.app 1 (.lam 90 [0]))
  (.seq (.ret (.var 1))
  .skip))))))))))))))))))))
def F66 : Fn := { np := 1, ns := 2, io := false, body := b66, mkc := true, own := true }
def N66 : List Str := ["odd", "calls"]
def b67 : CS := (.seq (.asg (.nm 2) (.lst (.cons (.lam 91 [1]) .nil)))
  (.seq (.app 2 (.lam 92 [1]))
  (.seq (.app 2 (.lam 93 [1]))
  (.seq (.app 2 (.lam 94 [1]))
  (.seq (.app 2 (.lam 95 [1]))
  (.seq (.app 2 (.lam 96 [1]))
  (.seq (.app 2 (.lam 97 [1]))
  (.seq (.app 2 (.lam 98 [1]))
  (.seq (.app 2 (.lam 99 [0, 1]))
  (.seq (.app 2 (.lam 100 [1]))
  (.seq (.ret (.var 2))
  .skip)))))))))))
def F67 : Fn := { np := 2, ns := 3, io := false, body := b67, mkc := true, own := true }
def N67 : List Str := ["good", "odd", "calls"]
def b68 : CS := (.seq (.asg (.nm 2) (.callIOC 63 0 (.cons (.lst (.cons (.cst .none) (.cons (.cst (.int 0)) (.cons (.lst .nil) (.cons (.lst (.cons (.cst (.int 0)) .nil)) (.cons (.tup (.cons (.cst (.int 4)) .nil)) (.cons (.tup (.cons (.cst (.int 1)) (.cons (.cst (.int 0)) .nil))) (.cons (.tup (.cons (.cst (.int 0)) (.cons (.cst (.int 0)) .nil))) (.cons (.tup (.cons (.cst (.bool true)) .nil)) (.cons .dct0 .nil)))))))))) .nil)))
  (.seq (.frz [2]) (.seq (.asg (.nm 3) (.lst (.cons (.lam 101 [1, 2]) .nil)))
  (.seq (.app 3 (.lam 102 [1, 2]))
  (.seq (.app 3 (.lam 103 [1, 2]))
  (.seq (.app 3 (.lam 104 [1, 2]))
  (.seq (.app 3 (.lam 105 [1, 2]))
  (.seq (.app 3 (.lam 106 [1, 2]))
  (.seq (.app 3 (.lam 107 [1, 2]))
  (.seq (.app 3 (.lam 108 [1, 2]))
  (.seq (.app 3 (.lam 109 [1, 2]))
  (.seq (.app 3 (.lam 110 [1, 2]))
  (.seq (.ifS (.notE (.callC 65 (.cons (.var 3) (.cons (.lst (.cons (.cst (.str (sN [108, 111, 116]))) (.cons (.op .repr (.cons (.var 2) .nil)) (.cons (.cst (.bool true)) .nil)))) .nil)))) (.seq (.ret (.cst (.bool false)))
  .skip) .skip)
  (.seq (.asg (.nm 2) (.callIOC 63 0 (.cons (.lst (.cons (.cst .none) (.cons (.cst (.int 0)) (.cons (.lst .nil) (.cons (.lst (.cons (.cst (.int 0)) .nil)) (.cons (.tup (.cons (.cst (.int 3)) .nil)) (.cons (.tup (.cons (.cst (.int 1)) (.cons (.cst (.int 0)) .nil))) (.cons (.tup (.cons (.cst (.int 0)) (.cons (.cst (.int 0)) .nil))) (.cons (.tup (.cons (.cst (.bool true)) .nil)) (.cons .dct0 .nil)))))))))) .nil)))
  (.seq (.frz [2]) (.seq (.asg (.nm 3) (.lst (.cons (.lam 111 [1, 2]) .nil)))
  (.seq (.app 3 (.lam 112 [1, 2]))
  (.seq (.ifS (.notE (.callC 65 (.cons (.var 3) (.cons (.lst (.cons (.cst (.str (sN [115, 112, 111, 116, 115]))) (.cons (.op .repr (.cons (.var 2) .nil)) (.cons (.cst (.bool true)) .nil)))) .nil)))) (.seq (.ret (.cst (.bool false)))
  .skip) .skip)
  (.seq (.asg (.nm 2) (.callIOC 63 0 (.cons (.lst (.cons (.cst .none) (.cons (.cst (.int 3)) (.cons (.op .neg (.cons (.cst (.int 1)) .nil)) (.cons (.cst (.bool true)) (.cons (.cst (.str (sN [48]))) (.cons (.tup (.cons (.cst (.int 0)) .nil)) .nil))))))) .nil)))
  (.seq (.frz [2]) (.seq (.asg (.nm 3) (.lst (.cons (.lam 113 [1, 2]) .nil)))
  (.seq (.app 3 (.lam 114 [1, 2]))
  (.seq (.app 3 (.lam 115 [1, 2]))
  (.seq (.app 3 (.lam 116 [1, 2]))
  (.seq (.app 3 (.lam 117 [1, 2]))
  (.seq (.app 3 (.lam 118 [1, 2]))
  (.seq (.ret (.callC 65 (.cons (.var 3) (.cons (.lst (.cons (.cst (.str (sN [112, 108, 97, 99, 101]))) (.cons (.op .repr (.cons (.var 2) .nil)) (.cons (.cst (.bool true)) .nil)))) .nil))))
  .skip)))))))))))))))))))))))))))
def F68 : Fn := { np := 2, ns := 4, io := true, body := b68, own := true }
def N68 : List Str := ["pot", "good", "odd", "calls"]
def b69 : CS := (.seq (.asg (.nm 2) (.callIOC 63 0 (.cons (.lst (.cons (.cst .none) (.cons (.cst (.int 4)) (.cons (.op .neg (.cons (.cst (.int 1)) .nil)) (.cons (.cst (.bool true)) (.cons (.cst (.str (sN [48]))) (.cons (.tup (.cons (.cst (.int 0)) .nil)) .nil))))))) .nil)))
  (.seq (.frz [2]) (.seq (.asg (.nm 3) (.lst (.cons (.lam 119 [1, 2]) .nil)))
  (.seq (.app 3 (.lam 120 [1, 2]))
  (.seq (.app 3 (.lam 121 [1, 2]))
  (.seq (.ifS (.notE (.callC 65 (.cons (.var 3) (.cons (.lst (.cons (.cst (.str (sN [114, 111, 97, 100]))) (.cons (.op .repr (.cons (.var 2) .nil)) (.cons (.cst (.bool true)) .nil)))) .nil)))) (.seq (.ret (.cst (.bool false)))
  .skip) .skip)
  (.seq (.asg (.nm 2) (.callIOC 63 0 (.cons (.lst (.cons (.cst .none) (.cons (.lst .nil) (.cons (.lst (.cons (.cst (.int 0)) (.cons (.cst (.int 1)) .nil))) (.cons (.lst (.cons (.cst (.int 0)) (.cons (.cst (.int 1)) (.cons (.cst (.int 3)) .nil)))) (.cons (.lst (.cons (.cst (.int 0)) (.cons (.cst (.int 0)) (.cons (.cst (.int 1)) .nil)))) (.cons (.lst (.cons (.cst (.int 0)) (.cons (.cst (.int 1)) (.cons (.cst (.bool true)) .nil)))) (.cons (.cst (.str (sN [48, 49, 50]))) (.cons .dct0 .nil))))))))) .nil)))
  (.seq (.frz [2]) (.seq (.ifS (.notE (.callC 65 (.cons (.lst (.cons (.lam 123 [1, 2]) .nil)) (.cons (.lst (.cons (.cst (.str (sN [110, 97, 109, 101, 115]))) (.cons (.op .repr (.cons (.var 2) .nil)) (.cons (.cst (.bool true)) .nil)))) .nil)))) (.seq (.ret (.cst (.bool false)))
  .skip) .skip)
  (.seq (.asg (.nm 2) (.callIOC 63 0 (.cons (.lst (.cons (.cst .none) (.cons (.lst .nil) (.cons (.lst (.cons (.cst (.int 0)) (.cons (.cst (.int 1)) (.cons (.cst (.int 2)) .nil)))) (.cons (.lst (.cons (.cst (.int 0)) (.cons (.cst (.int 1)) (.cons (.cst (.int 2)) (.cons (.cst (.int 4)) .nil))))) (.cons (.lst (.cons (.cst (.int 0)) (.cons (.cst (.int 0)) (.cons (.cst (.int 1)) (.cons (.cst (.int 2)) .nil))))) (.cons (.lst (.cons (.cst (.int 0)) (.cons (.cst (.int 1)) (.cons (.cst (.int 2)) (.cons (.cst (.bool true)) .nil))))) (.cons (.cst (.str (sN [48, 49, 50, 51]))) (.cons .dct0 .nil))))))))) .nil)))
  (.seq (.frz [2]) (.seq (.ifS (.notE (.callC 65 (.cons (.lst (.cons (.lam 124 [1, 2]) .nil)) (.cons (.lst (.cons (.cst (.str (sN [115, 101, 113, 117, 101, 110, 99, 101]))) (.cons (.op .repr (.cons (.var 2) .nil)) (.cons (.cst (.bool true)) .nil)))) .nil)))) (.seq (.ret (.cst (.bool false)))
  .skip) .skip)
  (.seq (.asg (.tp (.cons (.nm 2) (.cons (.nm 4) .nil))) (.callIOC 63 0 (.cons (.lst (.cons (.tup (.cons (.cst .none) (.cons (.cst (.int 0)) .nil))) (.cons (.tup (.cons (.cst (.int 0)) (.cons (.cst (.int 3)) .nil))) (.cons (.tup (.cons (.cst (.int 1)) (.cons (.cst (.int 1)) .nil))) (.cons (.tup (.cons (.cst (.bool true)) (.cons (.cst (.int 0)) .nil))) (.cons (.tup (.cons (.cst (.int 0)) (.cons (.cst (.str (sN [49]))) .nil))) (.cons (.tup (.cons (.op .neg (.cons (.cst (.int 1)) .nil)) (.cons (.cst (.int 0)) .nil))) (.cons (.tup (.cons (.tup (.cons (.cst (.int 0)) .nil)) (.cons (.cst (.int 1)) .nil))) (.cons (.tup (.cons (.cst (.int 2)) (.cons (.cst (.int 2)) .nil))) .nil))))))))) .nil)))
  (.seq (.frz [2, 4]) (.seq (.ret (.callC 65 (.cons (.lst (.cons (.lam 122 [1, 2, 4]) .nil)) (.cons (.lst (.cons (.cst (.str (sN [101, 110, 100, 115]))) (.cons (.op .repr (.cons (.tup (.cons (.var 2) (.cons (.var 4) .nil))) .nil)) (.cons (.cst (.bool true)) .nil)))) .nil))))
  .skip)))))))))))))))
def F69 : Fn := { np := 2, ns := 5, io := true, body := b69, own := true }
def N69 : List Str := ["pot", "good", "odd", "calls", "late"]
def b70 : CS := (.seq (.par [1, 2] (.cons (.tup (.cons (.cst (.str (sN [110, 101, 116]))) (.cons (.cst (.int 6)) (.cons (.tup .nil) .nil)))) (.cons (.tup (.cons (.cst (.str (sN [110, 101, 116]))) (.cons (.cst (.int 2)) (.cons (.op .mul (.cons (.tup (.cons (.tup (.cons (.cst (.int 0)) (.cons (.cst (.int 1)) .nil))) .nil)) (.cons (.cst (.int 14)) .nil))) .nil)))) .nil)))
  (.seq (.frz [1, 2]) (.seq (.asg (.nm 3) (.lst (.cons (.lam 125 [0, 1]) .nil)))
  (.seq (.app 3 (.lam 126 []))
  (.seq (.ifS (.notE (.callC 65 (.cons (.var 3) (.cons (.lst (.cons (.cst (.str (sN [112, 108, 97, 99, 101, 115]))) (.cons (.cst (.int 8)) (.cons (.cst (.bool true)) .nil)))) .nil)))) (.seq (.ret (.cst (.bool false)))
  .skip) .skip)
  (.seq (.asg (.nm 3) (.lst (.cons (.lam 127 [0, 2]) .nil)))
  (.seq (.app 3 (.lam 128 [2]))
  (.seq (.app 3 (.lam 129 [2]))
  (.seq (.app 3 (.lam 130 [2]))
  (.seq (.ifS (.orE (.notE (.callC 65 (.cons (.var 3) (.cons (.lst (.cons (.cst (.str (sN [114, 111, 97, 100, 115]))) (.cons (.cst (.int 14)) (.cons (.cst (.bool true)) .nil)))) .nil)))) (.notE (.callC 65 (.cons (.lst (.cons (.lam 139 [0]) .nil)) (.cons (.lst (.cons (.cst (.str (sN [110, 111, 119, 104, 101, 114, 101]))) .nil)) .nil))))) (.seq (.ret (.cst (.bool false)))
  .skip) .skip)
  (.seq (.asg (.nm 3) (.lst (.cons (.lam 131 [0]) .nil)))
  (.seq (.app 3 (.lam 132 []))
  (.seq (.app 3 (.lam 133 []))
  (.seq (.app 3 (.lam 134 [0]))
  (.seq (.app 3 (.lam 135 [0]))
  (.seq (.app 3 (.lam 136 [0]))
  (.seq (.app 3 (.lam 137 [0]))
  (.seq (.app 3 (.lam 138 [0]))
  (.seq (.ret (.callC 65 (.cons (.var 3) (.cons (.lst (.cons (.cst (.str (sN [108, 101, 116]))) .nil)) .nil))))
  .skip)))))))))))))))))))
def F70 : Fn := { np := 1, ns := 4, io := false, body := b70, own := true }
def N70 : List Str := ["good", "wide", "full", "calls"]
def b71 : CS := (.seq (.par [1, 2] (.cons (.call 61 (.cons (.var 0) (.cons (.cst (.int 0)) .nil))) (.cons (.tup (.cons (.cst (.str (sN [110, 101, 116]))) (.cons (.cst (.int 3)) (.cons (.tup (.cons (.tup (.cons (.cst (.int 0)) (.cons (.cst (.int 1)) .nil))) (.cons (.tup (.cons (.cst (.int 1)) (.cons (.cst (.int 2)) .nil))) (.cons (.tup (.cons (.cst (.int 0)) (.cons (.cst (.int 2)) .nil))) (.cons (.tup (.cons (.cst (.int 0)) (.cons (.cst (.int 1)) .nil))) .nil))))) .nil)))) .nil)))
  (.seq (.par [3, 4] (.cons (.callIO 63 1 (.cons (.lst (.cons (.cst .none) (.cons (.tup .nil) (.cons (.lst .nil) (.cons .dct0 (.cons (.cst (.str (sN [118, 97, 108, 117, 101]))) (.cons (.cst (.int 0)) .nil))))))) .nil)) (.cons (.op .repr (.cons (.var 2) .nil)) .nil)))
  (.seq (.asg (.nm 5) (.lst (.cons (.mkE 0 (.cons (.var 3) .nil)) (.cons (.mkE 1 (.cons (.var 3) .nil)) (.cons (.mkE 2 (.cons (.var 3) .nil)) (.cons (.mkE 3 (.cons (.var 3) .nil)) (.cons (.mkE 4 (.cons (.var 3) .nil)) (.cons (.mkE 6 (.cons (.var 3) .nil)) (.cons (.mkE 7 (.cons (.var 3) .nil)) .nil)))))))))
  (.seq (.ifS (.notE (.op .all (.cons (.comp (.andE (.isX (.var 7) [0, 1, 2, 3, 4, 5, 6, 7]) (.op .eq (.cons (.op .repr (.cons (.atX (.var 7) 0) .nil)) (.cons (.op .repr (.cons (.var 3) .nil)) .nil)))) (.nm 7) (.seq (.op .add (.cons (.var 5) (.cons (.lst (.cons (.mkE 5 (.cons (.var 3) .nil)) .nil)) .nil)))) .nil [7]) .nil))) (.seq (.ret (.cst (.bool false)))
  .skip) .skip)
  (.seq (.for_ (.nm 6) (.rng1 (.cst (.int 5))) (.seq (.asg (.nm 3) (.callIO 63 1 (.cons (.lst (.cons (.cst .none) (.cons (.cst (.int 0)) (.cons (.tup .nil) (.cons (.op .list (.cons (.var 2) .nil)) (.cons (.op .slHi (.cons (.var 2) (.cons (.cst (.int 2)) .nil))) (.cons (.op .add (.cons (.tup (.cons (.cst (.str (sN [78, 101, 116]))) .nil)) (.cons (.op .slLo (.cons (.var 2) (.cons (.cst (.int 1)) .nil))) .nil))) (.cons (.tup (.cons (.cst (.str (sN [110, 101, 116]))) (.cons (.cst (.int 2)) (.cons (.tup (.cons (.tup (.cons (.cst (.int 1)) (.cons (.cst (.int 0)) .nil))) .nil)) .nil)))) (.cons (.tup (.cons (.cst (.str (sN [110, 101, 116]))) (.cons (.cst (.int 9)) (.cons (.tup .nil) .nil)))) (.cons .dct0 .nil)))))))))) .nil)))
  (.seq (.ifS (.notE (.call 65 (.cons (.op .add (.cons (.call 66 (.cons (.var 3) .nil)) (.cons (.call 67 (.cons (.var 2) (.cons (.var 3) .nil))) .nil))) (.cons (.lst (.cons (.cst (.str (sN [110, 101, 116]))) (.cons (.op .repr (.cons (.var 3) .nil)) (.cons (.cst (.bool true)) .nil)))) .nil)))) (.seq (.ret (.cst (.bool false)))
  .skip) .skip)
  (.seq (.ifS (.orE (.notE (.callIO 68 1 (.cons (.var 2) .nil))) (.notE (.callIO 69 1 (.cons (.var 2) .nil)))) (.seq (.ret (.cst (.bool false)))
  .skip) .skip)
  .skip))))
  (.seq (.ret (.andE (.call 70 (.cons (.var 2) .nil)) (.op .eq (.cons (.op .repr (.cons (.var 2) .nil)) (.cons (.var 4) .nil)))))
  .skip))))))
def F71 : Fn := { np := 1, ns := 8, io := false, body := b71 }
def N71 : List Str := ["script", "pot", "good", "odd", "shown", "made_v", "turn", "one"]
def F72 : Fn := { np := 1, ns := 1, io := false, body := .ret (.call 26 (.cons (.var 0) (.cons (.cst .none) .nil))) }
def F73 : Fn := { np := 1, ns := 1, io := false, body := .ret (.callK 27 [1, 0] (.cons (.cst .none) (.cons (.var 0) .nil))) }
def F74 : Fn := { np := 1, ns := 1, io := false, body := .ret (.call 28 (.cons (.var 0) (.cons (.cst .none) (.cons (.cst .none) .nil)))) }
def F75 : Fn := { np := 1, ns := 1, io := false, body := .ret (.call 29 (.cons (.var 0) (.cons (.cst .none) .nil))) }
def F76 : Fn := { np := 1, ns := 1, io := false, body := .ret (.callK 30 [0] (.cons (.var 0) .nil)) }
def F77 : Fn := { np := 1, ns := 1, io := false, body := .ret (.call 31 (.cons (.var 0) (.cons (.cst .none) .nil))) }
def F78 : Fn := { np := 1, ns := 1, io := false, body := .ret (.call 34 (.cons (.var 0) .nil)) }
def F79 : Fn := { np := 1, ns := 1, io := false, body := .ret (.call 33 (.cons (.var 0) (.cons (.cst .none) (.cons (.cst .none) (.cons (.cst .none) .nil))))) }
def F80 : Fn := { np := 1, ns := 1, io := false, body := .ret (.call 32 (.cons (.var 0) (.cons (.cst .none) (.cons (.cst .none) (.cons (.cst .none) .nil))))) }
def F81 : Fn := { np := 1, ns := 1, io := false, body := .ret (.call 51 (.cons (.var 0) (.cons (.cst .none) (.cons (.cst .none) .nil)))) }
def F82 : Fn := { np := 1, ns := 1, io := false, body := .ret (.call 52 (.cons (.var 0) (.cons (.cst .none) .nil))) }
def F83 : Fn := { np := 1, ns := 1, io := false, body := .ret (.callK 53 [1, 0] (.cons (.cst .none) (.cons (.var 0) .nil))) }
def F84 : Fn := { np := 1, ns := 1, io := false, body := .ret (.call 55 (.cons (.var 0) (.cons (.cst .none) .nil))) }
def F85 : Fn := { np := 1, ns := 1, io := false, body := .ret (.call 57 (.cons (.var 0) (.cons (.cst .none) .nil))) }
def F86 : Fn := { np := 1, ns := 1, io := false, body := .ret (.call 60 (.cons (.var 0) (.cons (.cst .none) .nil))) }
def F87 : Fn := { np := 1, ns := 1, io := false, body := .ret (.call 54 (.cons (.var 0) (.cons (.cst .none) .nil))) }
def F88 : Fn := { np := 1, ns := 1, io := false, body := .ret (.call 56 (.cons (.var 0) (.cons (.cst .none) .nil))) }
def F89 : Fn := { np := 1, ns := 1, io := false, body := .ret (.callK 58 [0] (.cons (.var 0) .nil)) }
def F90 : Fn := { np := 1, ns := 1, io := false, body := .ret (.call 59 (.cons (.var 0) (.cons (.cst .none) .nil))) }
def F91 : Fn := { np := 1, ns := 1, io := false, body := .ret (.call 39 (.cons (.var 0) (.cons (.cst .none) .nil))) }
def F92 : Fn := { np := 1, ns := 1, io := false, body := .ret (.call 40 (.cons (.var 0) (.cons (.cst .none) .nil))) }
def F93 : Fn := { np := 1, ns := 1, io := false, body := .ret (.call 41 (.cons (.var 0) (.cons (.cst .none) .nil))) }
def F94 : Fn := { np := 1, ns := 1, io := false, body := .ret (.callK 43 [1, 0] (.cons (.cst .none) (.cons (.var 0) .nil))) }
def F95 : Fn := { np := 1, ns := 1, io := false, body := .ret (.call 44 (.cons (.var 0) (.cons (.cst .none) .nil))) }
def F96 : Fn := { np := 1, ns := 1, io := false, body := .ret (.call 42 (.cons (.var 0) (.cons (.cst .none) (.cons (.cst .none) .nil)))) }
def F97 : Fn := { np := 1, ns := 1, io := false, body := .ret (.call 45 (.cons (.var 0) (.cons (.cst .none) .nil))) }
def F98 : Fn := { np := 1, ns := 1, io := false, body := .ret (.call 46 (.cons (.var 0) (.cons (.cst .none) .nil))) }
def F99 : Fn := { np := 2, ns := 2, io := false, body := .ret (.callK 46 [1, 0] (.cons (.var 1) (.cons (.var 0) .nil))) }
def F100 : Fn := { np := 1, ns := 1, io := false, body := .ret (.call 47 (.cons (.var 0) (.cons (.cst .none) .nil))) }
def F101 : Fn := { np := 2, ns := 2, io := false, body := .ret (.call 28 (.cons (.var 0) (.cons (.var 1) (.cons (.cst .none) .nil)))) }
def F102 : Fn := { np := 2, ns := 2, io := false, body := .ret (.callK 29 [1, 0] (.cons (.var 1) (.cons (.var 0) .nil))) }
def F103 : Fn := { np := 2, ns := 2, io := false, body := .ret (.call 31 (.cons (.var 0) (.cons (.var 1) .nil))) }
def F104 : Fn := { np := 2, ns := 2, io := false, body := .ret (.call 33 (.cons (.var 0) (.cons (.var 1) (.cons (.cst .none) (.cons (.cst .none) .nil))))) }
def F105 : Fn := { np := 2, ns := 2, io := false, body := .ret (.call 51 (.cons (.var 0) (.cons (.var 1) (.cons (.cst .none) .nil)))) }
def F106 : Fn := { np := 2, ns := 2, io := false, body := .ret (.callK 51 [2, 1, 0] (.cons (.var 1) (.cons (.tup (.cons (.cst (.int 0)) .nil)) (.cons (.var 0) .nil)))) }
def F107 : Fn := { np := 2, ns := 2, io := false, body := .ret (.call 56 (.cons (.var 0) (.cons (.var 1) .nil))) }
def F108 : Fn := { np := 2, ns := 2, io := false, body := .ret (.call 41 (.cons (.var 0) (.cons (.var 1) .nil))) }
def F109 : Fn := { np := 2, ns := 2, io := false, body := .ret (.call 43 (.cons (.var 0) (.cons (.var 1) .nil))) }
def F110 : Fn := { np := 2, ns := 2, io := false, body := .ret (.callK 44 [1, 0] (.cons (.var 1) (.cons (.var 0) .nil))) }
def F111 : Fn := { np := 2, ns := 2, io := false, body := .ret (.call 54 (.cons (.var 0) (.cons (.var 1) .nil))) }
def F112 : Fn := { np := 2, ns := 2, io := false, body := .ret (.callK 47 [1, 0] (.cons (.var 1) (.cons (.var 0) .nil))) }
def F113 : Fn := { np := 2, ns := 2, io := false, body := .ret (.call 27 (.cons (.var 0) (.cons (.var 1) .nil))) }
def F114 : Fn := { np := 2, ns := 2, io := false, body := .ret (.callK 28 [2, 1, 0] (.cons (.var 1) (.cons (.tup (.cons (.cst (.int 0)) .nil)) (.cons (.var 0) .nil)))) }
def F115 : Fn := { np := 2, ns := 2, io := false, body := .ret (.call 33 (.cons (.var 0) (.cons (.tup (.cons (.cst (.int 0)) .nil)) (.cons (.var 1) (.cons (.cst .none) .nil))))) }
def F116 : Fn := { np := 2, ns := 2, io := false, body := .ret (.callK 33 [3, 2, 1, 0] (.cons (.var 1) (.cons (.cst (.int 1)) (.cons (.tup .nil) (.cons (.var 0) .nil))))) }
def F117 : Fn := { np := 2, ns := 2, io := false, body := .ret (.call 32 (.cons (.var 0) (.cons (.var 1) (.cons (.cst .none) (.cons (.cst .none) .nil))))) }
def F118 : Fn := { np := 2, ns := 2, io := false, body := .ret (.call 32 (.cons (.var 0) (.cons (.cst (.int 2)) (.cons (.var 1) (.cons (.cst .none) .nil))))) }
def F119 : Fn := { np := 2, ns := 2, io := false, body := .ret (.call 26 (.cons (.var 0) (.cons (.var 1) .nil))) }
def F120 : Fn := { np := 2, ns := 2, io := false, body := .ret (.callK 59 [1, 0] (.cons (.var 1) (.cons (.var 0) .nil))) }
def F121 : Fn := { np := 2, ns := 2, io := false, body := .ret (.call 45 (.cons (.var 0) (.cons (.var 1) .nil))) }
def F122 : Fn := { np := 3, ns := 3, io := false, body := .ret (.call 42 (.cons (.var 0) (.cons (.var 1) (.cons (.var 2) .nil)))) }
def F123 : Fn := { np := 2, ns := 2, io := false, body := .ret (.callK 39 [1, 0] (.cons (.var 1) (.cons (.var 0) .nil))) }
def F124 : Fn := { np := 2, ns := 2, io := false, body := .ret (.callK 40 [1, 0] (.cons (.var 1) (.cons (.var 0) .nil))) }
def F125 : Fn := { np := 2, ns := 2, io := false, body := .ret (.call 46 (.cons (.var 0) (.cons (.var 1) .nil))) }
def F126 : Fn := { np := 0, ns := 0, io := false, body := .ret (.call 45 (.cons (.tup (.cons (.cst (.str (sN [110, 101, 116]))) (.cons (.cst (.int 8)) (.cons (.tup (.cons (.tup (.cons (.cst (.int 0)) (.cons (.cst (.int 1)) .nil))) .nil)) .nil)))) (.cons (.cst (.int 0)) .nil))) }
def F127 : Fn := { np := 2, ns := 2, io := false, body := .ret (.call 46 (.cons (.var 1) (.cons (.var 0) .nil))) }
def F128 : Fn := { np := 1, ns := 1, io := false, body := .ret (.call 42 (.cons (.var 0) (.cons (.cst (.int 0)) (.cons (.cst (.int 1)) .nil)))) }
def F129 : Fn := { np := 1, ns := 1, io := false, body := .ret (.call 43 (.cons (.var 0) (.cons (.tup (.cons (.cst (.int 3)) .nil)) .nil))) }
def F130 : Fn := { np := 1, ns := 1, io := false, body := .ret (.call 45 (.cons (.var 0) (.cons (.cst (.int 0)) .nil))) }
def F131 : Fn := { np := 1, ns := 1, io := false, body := .ret (.call 46 (.cons (.var 0) (.cons (.tup (.cons (.cst (.str (sN [110, 101, 116]))) (.cons (.cst (.int 5)) (.cons (.tup .nil) .nil)))) .nil))) }
def F132 : Fn := { np := 0, ns := 0, io := false, body := .ret (.call 43 (.cons (.tup (.cons (.cst (.str (sN [110, 101, 116]))) (.cons (.cst (.int 2)) (.cons (.op .mul (.cons (.tup (.cons (.tup (.cons (.cst (.int 0)) (.cons (.cst (.int 1)) .nil))) .nil)) (.cons (.cst (.int 7)) .nil))) .nil)))) (.cons (.op .tupR (.cons (.cst (.int 7)) .nil)) .nil))) }
def F133 : Fn := { np := 0, ns := 0, io := false, body := .ret (.call 45 (.cons (.tup (.cons (.cst (.str (sN [110, 101, 116]))) (.cons (.cst (.int 7)) (.cons (.op .mul (.cons (.tup (.cons (.tup (.cons (.cst (.int 0)) (.cons (.cst (.int 1)) .nil))) .nil)) (.cons (.cst (.int 13)) .nil))) .nil)))) (.cons (.cst (.int 12)) .nil))) }
def F134 : Fn := { np := 1, ns := 1, io := false, body := .ret (.call 42 (.cons (.var 0) (.cons (.cst (.int 2)) (.cons (.cst (.int 0)) .nil)))) }
def F135 : Fn := { np := 1, ns := 1, io := false, body := .ret (.call 39 (.cons (.var 0) (.cons (.tup (.cons (.cst (.int 2)) (.cons (.cst (.int 1)) (.cons (.cst (.int 0)) .nil)))) .nil))) }
def F136 : Fn := { np := 1, ns := 1, io := false, body := .ret (.call 40 (.cons (.var 0) (.cons (.tup (.cons (.cst (.int 3)) (.cons (.cst (.int 2)) (.cons (.cst (.int 1)) (.cons (.cst (.int 0)) .nil))))) .nil))) }
def F137 : Fn := { np := 1, ns := 1, io := false, body := .ret (.call 44 (.cons (.var 0) (.cons (.tup (.cons (.cst (.int 0)) (.cons (.cst (.int 1)) (.cons (.cst (.int 2)) (.cons (.cst (.int 3)) .nil))))) .nil))) }
def F138 : Fn := { np := 1, ns := 1, io := false, body := .ret (.call 41 (.cons (.var 0) (.cons (.tup .nil) .nil))) }
def F139 : Fn := { np := 1, ns := 1, io := false, body := .ret (.call 47 (.cons (.var 0) (.cons (.tup .nil) .nil))) }
def tbl (n : Nat) : Option Fn := if n < 140 then (if n < 70 then (if n < 35 then (if n < 17 then (if n < 8 then (if n < 4 then (if n < 2 then (if n < 1 then (some F0) else (some F1)) else (if n < 3 then (some F2) else (some F3))) else (if n < 6 then (if n < 5 then (some F4) else (some F5)) else (if n < 7 then (some F6) else (some F7)))) else (if n < 12 then (if n < 10 then (if n < 9 then (some F8) else (some F9)) else (if n < 11 then (some F10) else (some F11))) else (if n < 14 then (if n < 13 then (some F12) else (some F13)) else (if n < 15 then (some F14) else (if n < 16 then (some F15) else (some F16)))))) else (if n < 26 then (if n < 21 then (if n < 19 then (if n < 18 then (some F17) else (some F18)) else (if n < 20 then (some F19) else (some F20))) else (if n < 23 then (if n < 22 then (some F21) else (some F22)) else (if n < 24 then (some F23) else (if n < 25 then (some F24) else (some F25))))) else (if n < 30 then (if n < 28 then (if n < 27 then (some F26) else (some F27)) else (if n < 29 then (some F28) else (some F29))) else (if n < 32 then (if n < 31 then (some F30) else (some F31)) else (if n < 33 then (some F32) else (if n < 34 then (some F33) else (some F34))))))) else (if n < 52 then (if n < 43 then (if n < 39 then (if n < 37 then (if n < 36 then (some F35) else (some F36)) else (if n < 38 then (some F37) else (some F38))) else (if n < 41 then (if n < 40 then (some F39) else (some F40)) else (if n < 42 then (some F41) else (some F42)))) else (if n < 47 then (if n < 45 then (if n < 44 then (some F43) else (some F44)) else (if n < 46 then (some F45) else (some F46))) else (if n < 49 then (if n < 48 then (some F47) else (some F48)) else (if n < 50 then (some F49) else (if n < 51 then (some F50) else (some F51)))))) else (if n < 61 then (if n < 56 then (if n < 54 then (if n < 53 then (some F52) else (some F53)) else (if n < 55 then (some F54) else (some F55))) else (if n < 58 then (if n < 57 then (some F56) else (some F57)) else (if n < 59 then (some F58) else (if n < 60 then (some F59) else (some F60))))) else (if n < 65 then (if n < 63 then (if n < 62 then (some F61) else (some F62)) else (if n < 64 then (some F63) else (some F64))) else (if n < 67 then (if n < 66 then (some F65) else (some F66)) else (if n < 68 then (some F67) else (if n < 69 then (some F68) else (some F69)))))))) else (if n < 105 then (if n < 87 then (if n < 78 then (if n < 74 then (if n < 72 then (if n < 71 then (some F70) else (some F71)) else (if n < 73 then (some F72) else (some F73))) else (if n < 76 then (if n < 75 then (some F74) else (some F75)) else (if n < 77 then (some F76) else (some F77)))) else (if n < 82 then (if n < 80 then (if n < 79 then (some F78) else (some F79)) else (if n < 81 then (some F80) else (some F81))) else (if n < 84 then (if n < 83 then (some F82) else (some F83)) else (if n < 85 then (some F84) else (if n < 86 then (some F85) else (some F86)))))) else (if n < 96 then (if n < 91 then (if n < 89 then (if n < 88 then (some F87) else (some F88)) else (if n < 90 then (some F89) else (some F90))) else (if n < 93 then (if n < 92 then (some F91) else (some F92)) else (if n < 94 then (some F93) else (if n < 95 then (some F94) else (some F95))))) else (if n < 100 then (if n < 98 then (if n < 97 then (some F96) else (some F97)) else (if n < 99 then (some F98) else (some F99))) else (if n < 102 then (if n < 101 then (some F100) else (some F101)) else (if n < 103 then (some F102) else (if n < 104 then (some F103) else (some F104))))))) else (if n < 122 then (if n < 113 then (if n < 109 then (if n < 107 then (if n < 106 then (some F105) else (some F106)) else (if n < 108 then (some F107) else (some F108))) else (if n < 111 then (if n < 110 then (some F109) else (some F110)) else (if n < 112 then (some F111) else (some F112)))) else (if n < 117 then (if n < 115 then (if n < 114 then (some F113) else (some F114)) else (if n < 116 then (some F115) else (some F116))) else (if n < 119 then (if n < 118 then (some F117) else (some F118)) else (if n < 120 then (some F119) else (if n < 121 then (some F120) else (some F121)))))) else (if n < 131 then (if n < 126 then (if n < 124 then (if n < 123 then (some F122) else (some F123)) else (if n < 125 then (some F124) else (some F125))) else (if n < 128 then (if n < 127 then (some F126) else (some F127)) else (if n < 129 then (some F128) else (if n < 130 then (some F129) else (some F130))))) else (if n < 135 then (if n < 133 then (if n < 132 then (some F131) else (some F132)) else (if n < 134 then (some F133) else (some F134))) else (if n < 137 then (if n < 136 then (some F135) else (some F136)) else (if n < 138 then (some F137) else (if n < 139 then (some F138) else (some F139))))))))) else none
def ctL0 : List (Str × PyData) := [("MOST_PLACES", .int 8), ("MOST_ROADS", .int 14), ("NET", .str "net")]
def ctL : List (Str × PyData) := ctL0
def fnL0 : List (Str × (Nat × List Str)) := [("is_integer", (0, ["value"])), ("is_within", (1, ["value", "least", "most"])), ("is_list", (2, ["value"])), ("is_tuple", (3, ["value", "many"])), ("are_rising", (4, ["values"])), ("is_lot_of", (5, ["value", "many"])), ("is_road_of", (6, ["places", "value"])), ("is_net_value", (7, ["value"])), ("want_net", (8, ["net"])), ("want_place", (9, ["net", "place"])), ("want_road", (10, ["net", "road"])), ("want_lot", (11, ["net", "lot"])), ("want_spots", (12, ["net", "spots"])), ("made", (13, ["places", "roads"])), ("all_roads", (14, ["net"])), ("roads_at", (15, ["net", "place"])), ("other_end", (16, ["net", "road", "place"])), ("degree_in", (17, ["net", "lot", "place"])), ("odd_in", (18, ["net", "lot"])), ("sum_of", (19, ["lot", "other"]))]
def fnL1 : List (Str × (Nat × List Str)) := [("pieces_by", (20, ["net", "lot"])), ("cut_by", (21, ["net", "spots"])), ("first_tree_of", (22, ["net", "lot"])), ("way_in", (23, ["net", "lot", "place", "other"])), ("end_of", (24, ["net", "place", "roads"])), ("are_roads", (25, ["net", "value"])), ("ends", (26, ["net", "road"])), ("roads_of", (27, ["net", "place"])), ("degree", (28, ["net", "lot", "place"])), ("odd_places", (29, ["net", "lot"])), ("pieces", (30, ["net"])), ("pieces_of", (31, ["net", "lot"])), ("is_walk", (32, ["net", "place", "other", "value"])), ("way", (33, ["net", "lot", "place", "other"])), ("first_tree", (34, ["net"])), ("is_row_of", (35, ["many", "value"])), ("road_of", (36, ["one", "other"])), ("want_room", (37, ["places", "roads"])), ("made_one_of", (38, ["net", "lot"])), ("renamed", (39, ["net", "names"]))]
def fnL2 : List (Str × (Nat × List Str)) := [("resequenced", (40, ["net", "sequence"])), ("without", (41, ["net", "lot"])), ("with_road", (42, ["net", "one", "other"])), ("doubled", (43, ["net", "lot"])), ("made_one", (44, ["net", "lot"])), ("halved", (45, ["net", "road"])), ("beside", (46, ["net", "other"])), ("part", (47, ["net", "spots"])), ("is_round_in", (48, ["net", "lot"])), ("sides_of", (49, ["net", "lot"])), ("is_bond_in", (50, ["net", "lot"])), ("lot_sum", (51, ["net", "lot", "other"])), ("is_even", (52, ["net", "value"])), ("is_round", (53, ["net", "value"])), ("cut", (54, ["net", "spots"])), ("is_cut", (55, ["net", "value"])), ("sides", (56, ["net", "lot"])), ("is_bond", (57, ["net", "value"])), ("bridges", (58, ["net"])), ("round_with", (59, ["net", "road"]))]
def fnL3 : List (Str × (Nat × List Str)) := [("is_tree", (60, ["net", "value"])), ("_law_pot", (61, ["script", "k"])), ("_law_draw", (62, ["pot", "many"])), ("_law_pick", (63, ["pot", "some"])), ("_law_heard", (64, ["call"])), ("_law_are", (65, ["calls", "due"])), ("_law_first_calls", (66, ["odd"])), ("_law_second_calls", (67, ["good", "odd"])), ("_law_lots_right", (68, ["pot", "good"])), ("_law_rest_right", (69, ["pot", "good"])), ("_law_behind_right", (70, ["good"])), ("law", (71, ["script"]))]
def fnL : List (Str × (Nat × List Str)) := fnL0 ++ fnL1 ++ fnL2 ++ fnL3
def kwL0 : List (Str × (List (List Str × List Nat))) := [("roads_of", [(["place", "net"], [1, 0])]), ("pieces", [(["net"], [0])]), ("is_round", [(["value", "net"], [1, 0])]), ("bridges", [(["net"], [0])]), ("doubled", [(["lot", "net"], [1, 0])]), ("beside", [(["other", "net"], [1, 0])]), ("odd_places", [(["lot", "net"], [1, 0])]), ("lot_sum", [(["other", "lot", "net"], [2, 1, 0])]), ("made_one", [(["lot", "net"], [1, 0])]), ("part", [(["spots", "net"], [1, 0])]), ("degree", [(["place", "lot", "net"], [2, 1, 0])]), ("way", [(["other", "place", "lot", "net"], [3, 2, 1, 0])]), ("round_with", [(["road", "net"], [1, 0])]), ("renamed", [(["names", "net"], [1, 0])]), ("resequenced", [(["sequence", "net"], [1, 0])])]
def kwL : List (Str × (List (List Str × List Nat))) := kwL0
def exL0 : List (Str × Nat) := [("InvalidNet", 0), ("InvalidPlace", 1), ("InvalidRoad", 2), ("InvalidLot", 3), ("InvalidSpots", 4), ("InvalidEnds", 5), ("InvalidNames", 6), ("InvalidSequence", 7), ("NoPlace", 8), ("TooMany", 9)]
def exL : List (Str × Nat) := exL0
def esL0 : List (Str × (List Nat)) := [("InvalidNet", [0]), ("InvalidPlace", [1]), ("InvalidRoad", [2]), ("InvalidLot", [3]), ("InvalidSpots", [4]), ("InvalidNames", [6]), ("InvalidSequence", [7]), ("InvalidEnds", [5]), ("NoPlace", [8]), ("TooMany", [9]), ("NetError", [0, 1, 2, 3, 4, 5, 6, 7]), ("LimitError", [9]), ("ValueError", [0, 1, 2, 3, 4, 5, 6, 7])]
def esL : List (Str × (List Nat)) := esL0
def bl : List Str := ["len", "range", "isinstance", "tuple", "list", "int", "str", "bool", "sorted", "sum", "all", "any", "zip", "enumerate", "min", "max", "repr", "abs", "divmod", "dict", "set"]
def ex1L0 : List (Str × Nat) := [("InvalidNet", 0), ("InvalidPlace", 1), ("InvalidRoad", 2), ("InvalidLot", 3), ("InvalidSpots", 4), ("InvalidEnds", 5), ("InvalidNames", 6), ("InvalidSequence", 7)]
def ex1L : List (Str × Nat) := ex1L0
def exmL0 : List (Str × (Nat × Nat)) := [("NoPlace", (8, 0)), ("TooMany", (9, 2))]
def exmL : List (Str × (Nat × Nat)) := exmL0
def g : Glob := ⟨fun x => ctL.lookup x, fun x => fnL.lookup x, fun x => (kwL.lookup x).getD [], bl, fun x => ex1L.lookup x, fun x => esL.lookup x, fun x => exmL.lookup x⟩
def inf0 : Inf := ⟨"is_integer", top 1, N0, 1⟩
def inf1 : Inf := ⟨"is_within", top 2, N1, 3⟩
def inf2 : Inf := ⟨"is_list", top 3, N2, 1⟩
def inf3 : Inf := ⟨"is_tuple", top 4, N3, 2⟩
def inf4 : Inf := ⟨"are_rising", top 5, N4, 1⟩
def inf5 : Inf := ⟨"is_lot_of", top 6, N5, 2⟩
def inf6 : Inf := ⟨"is_road_of", top 25, N6, 2⟩
def inf7 : Inf := ⟨"is_net_value", top 26, N7, 1⟩
def inf8 : Inf := ⟨"want_net", top 27, N8, 1⟩
def inf9 : Inf := ⟨"want_place", top 28, N9, 2⟩
def inf10 : Inf := ⟨"want_road", top 29, N10, 2⟩
def inf11 : Inf := ⟨"want_lot", top 30, N11, 2⟩
def inf12 : Inf := ⟨"want_spots", top 31, N12, 2⟩
def inf13 : Inf := ⟨"made", top 32, N13, 2⟩
def inf14 : Inf := ⟨"all_roads", top 33, N14, 1⟩
def inf15 : Inf := ⟨"roads_at", top 34, N15, 2⟩
def inf16 : Inf := ⟨"other_end", top 35, N16, 3⟩
def inf17 : Inf := ⟨"degree_in", top 36, N17, 3⟩
def inf18 : Inf := ⟨"odd_in", top 37, N18, 2⟩
def inf19 : Inf := ⟨"sum_of", top 38, N19, 2⟩
def inf20 : Inf := ⟨"pieces_by", top 39, N20, 2⟩
def inf21 : Inf := ⟨"cut_by", top 40, N21, 2⟩
def inf22 : Inf := ⟨"first_tree_of", top 41, N22, 2⟩
def inf23 : Inf := ⟨"way_in", top 42, N23, 4⟩
def inf24 : Inf := ⟨"end_of", top 43, N24, 3⟩
def inf25 : Inf := ⟨"are_roads", top 44, N25, 2⟩
def inf26 : Inf := ⟨"ends", top 45, N26, 2⟩
def inf27 : Inf := ⟨"roads_of", top 46, N27, 2⟩
def inf28 : Inf := ⟨"degree", top 47, N28, 3⟩
def inf29 : Inf := ⟨"odd_places", top 48, N29, 2⟩
def inf30 : Inf := ⟨"pieces", top 49, N30, 1⟩
def inf31 : Inf := ⟨"pieces_of", top 50, N31, 2⟩
def inf32 : Inf := ⟨"is_walk", top 51, N32, 4⟩
def inf33 : Inf := ⟨"way", top 52, N33, 4⟩
def inf34 : Inf := ⟨"first_tree", top 53, N34, 1⟩
def inf35 : Inf := ⟨"is_row_of", top 55, N35, 2⟩
def inf36 : Inf := ⟨"road_of", top 56, N36, 2⟩
def inf37 : Inf := ⟨"want_room", top 57, N37, 2⟩
def inf38 : Inf := ⟨"made_one_of", top 58, N38, 2⟩
def inf39 : Inf := ⟨"renamed", top 59, N39, 2⟩
def inf40 : Inf := ⟨"resequenced", top 60, N40, 2⟩
def inf41 : Inf := ⟨"without", top 61, N41, 2⟩
def inf42 : Inf := ⟨"with_road", top 62, N42, 3⟩
def inf43 : Inf := ⟨"doubled", top 63, N43, 2⟩
def inf44 : Inf := ⟨"made_one", top 64, N44, 2⟩
def inf45 : Inf := ⟨"halved", top 65, N45, 2⟩
def inf46 : Inf := ⟨"beside", top 66, N46, 2⟩
def inf47 : Inf := ⟨"part", top 67, N47, 2⟩
def inf48 : Inf := ⟨"is_round_in", top 69, N48, 2⟩
def inf49 : Inf := ⟨"sides_of", top 70, N49, 2⟩
def inf50 : Inf := ⟨"is_bond_in", top 71, N50, 2⟩
def inf51 : Inf := ⟨"lot_sum", top 72, N51, 3⟩
def inf52 : Inf := ⟨"is_even", top 73, N52, 2⟩
def inf53 : Inf := ⟨"is_round", top 74, N53, 2⟩
def inf54 : Inf := ⟨"cut", top 75, N54, 2⟩
def inf55 : Inf := ⟨"is_cut", top 76, N55, 2⟩
def inf56 : Inf := ⟨"sides", top 77, N56, 2⟩
def inf57 : Inf := ⟨"is_bond", top 78, N57, 2⟩
def inf58 : Inf := ⟨"bridges", top 79, N58, 1⟩
def inf59 : Inf := ⟨"round_with", top 80, N59, 2⟩
def inf60 : Inf := ⟨"is_tree", top 81, N60, 2⟩
def inf61 : Inf := ⟨"_law_pot", top 83, N61, 2⟩
def inf62 : Inf := ⟨"_law_draw", top 84, N62, 2⟩
def inf63 : Inf := ⟨"_law_pick", top 85, N63, 2⟩
def inf64 : Inf := ⟨"_law_heard", top 86, N64, 1⟩
def inf65 : Inf := ⟨"_law_are", top 87, N65, 2⟩
def inf66 : Inf := ⟨"_law_first_calls", top 88, N66, 1⟩
def inf67 : Inf := ⟨"_law_second_calls", top 89, N67, 2⟩
def inf68 : Inf := ⟨"_law_lots_right", top 90, N68, 2⟩
def inf69 : Inf := ⟨"_law_rest_right", top 91, N69, 2⟩
def inf70 : Inf := ⟨"_law_behind_right", top 92, N70, 1⟩
def inf71 : Inf := ⟨"law", top 93, N71, 1⟩
def infL0 : List Inf := [inf0, inf1, inf2, inf3, inf4, inf5, inf6, inf7, inf8, inf9, inf10, inf11, inf12, inf13, inf14, inf15, inf16, inf17, inf18, inf19]
def infL1 : List Inf := [inf20, inf21, inf22, inf23, inf24, inf25, inf26, inf27, inf28, inf29, inf30, inf31, inf32, inf33, inf34, inf35, inf36, inf37, inf38, inf39]
def infL2 : List Inf := [inf40, inf41, inf42, inf43, inf44, inf45, inf46, inf47, inf48, inf49, inf50, inf51, inf52, inf53, inf54, inf55, inf56, inf57, inf58, inf59]
def infL3 : List Inf := [inf60, inf61, inf62, inf63, inf64, inf65, inf66, inf67, inf68, inf69, inf70, inf71]
def infL : List Inf := infL0 ++ (infL1 ++ (infL2 ++ (infL3)))
def iniS : Stmt := (clsBody (top 8)).getD 0 (.Pass ⟨0, 0, 0, 0⟩)
def iniS2 : Stmt := (clsBody (top 20)).getD 0 (.Pass ⟨0, 0, 0, 0⟩)
def T : Txt := ⟨tbl, ctL, fnL, kwL, bl, exL, esL, infL, ["InvalidNet", "InvalidPlace", "InvalidRoad", "InvalidLot", "InvalidSpots", "InvalidEnds", "InvalidNames", "InvalidSequence", "NoPlace", "TooMany"], [("ValueError", "ValueError")], "NetError", iniS, ["_law_first_calls", "_law_second_calls", "_law_lots_right", "_law_rest_right", "_law_behind_right"], [("NoPlace", 0), ("TooMany", 2)], some ("TooMany", iniS2)⟩
theorem stat : T.statB = true := by decide +kernel
theorem defsB : (List.range 72).all T.defB = true := by decide +kernel
theorem defs : ∀ f, (T.info[f]?).isSome = true → T.defB f = true := defs_of (n := 72) rfl defsB
theorem bn0 : BN inf0 := fun _ _ _ _ _ _ us h => match us, h with | [_], _ => rfl
theorem bn1 : BN inf1 := fun _ _ _ _ _ _ us h => match us, h with | [_, _, _], _ => rfl
theorem bn2 : BN inf2 := fun _ _ _ _ _ _ us h => match us, h with | [_], _ => rfl
theorem bn3 : BN inf3 := fun _ _ _ _ _ _ us h => match us, h with | [_, _], _ => rfl
theorem bn4 : BN inf4 := fun _ _ _ _ _ _ us h => match us, h with | [_], _ => rfl
theorem bn5 : BN inf5 := fun _ _ _ _ _ _ us h => match us, h with | [_, _], _ => rfl
theorem bn6 : BN inf6 := fun _ _ _ _ _ _ us h => match us, h with | [_, _], _ => rfl
theorem bn7 : BN inf7 := fun _ _ _ _ _ _ us h => match us, h with | [_], _ => rfl
theorem bn8 : BN inf8 := fun _ _ _ _ _ _ us h => match us, h with | [_], _ => rfl
theorem bn9 : BN inf9 := fun _ _ _ _ _ _ us h => match us, h with | [_, _], _ => rfl
theorem bn10 : BN inf10 := fun _ _ _ _ _ _ us h => match us, h with | [_, _], _ => rfl
theorem bn11 : BN inf11 := fun _ _ _ _ _ _ us h => match us, h with | [_, _], _ => rfl
theorem bn12 : BN inf12 := fun _ _ _ _ _ _ us h => match us, h with | [_, _], _ => rfl
theorem bn13 : BN inf13 := fun _ _ _ _ _ _ us h => match us, h with | [_, _], _ => rfl
theorem bn14 : BN inf14 := fun _ _ _ _ _ _ us h => match us, h with | [_], _ => rfl
theorem bn15 : BN inf15 := fun _ _ _ _ _ _ us h => match us, h with | [_, _], _ => rfl
theorem bn16 : BN inf16 := fun _ _ _ _ _ _ us h => match us, h with | [_, _, _], _ => rfl
theorem bn17 : BN inf17 := fun _ _ _ _ _ _ us h => match us, h with | [_, _, _], _ => rfl
theorem bn18 : BN inf18 := fun _ _ _ _ _ _ us h => match us, h with | [_, _], _ => rfl
theorem bn19 : BN inf19 := fun _ _ _ _ _ _ us h => match us, h with | [_, _], _ => rfl
theorem bn20 : BN inf20 := fun _ _ _ _ _ _ us h => match us, h with | [_, _], _ => rfl
theorem bn21 : BN inf21 := fun _ _ _ _ _ _ us h => match us, h with | [_, _], _ => rfl
theorem bn22 : BN inf22 := fun _ _ _ _ _ _ us h => match us, h with | [_, _], _ => rfl
theorem bn23 : BN inf23 := fun _ _ _ _ _ _ us h => match us, h with | [_, _, _, _], _ => rfl
theorem bn24 : BN inf24 := fun _ _ _ _ _ _ us h => match us, h with | [_, _, _], _ => rfl
theorem bn25 : BN inf25 := fun _ _ _ _ _ _ us h => match us, h with | [_, _], _ => rfl
theorem bn26 : BN inf26 := fun _ _ _ _ _ _ us h => match us, h with | [_, _], _ => rfl
theorem bn27 : BN inf27 := fun _ _ _ _ _ _ us h => match us, h with | [_, _], _ => rfl
theorem bn28 : BN inf28 := fun _ _ _ _ _ _ us h => match us, h with | [_, _, _], _ => rfl
theorem bn29 : BN inf29 := fun _ _ _ _ _ _ us h => match us, h with | [_, _], _ => rfl
theorem bn30 : BN inf30 := fun _ _ _ _ _ _ us h => match us, h with | [_], _ => rfl
theorem bn31 : BN inf31 := fun _ _ _ _ _ _ us h => match us, h with | [_, _], _ => rfl
theorem bn32 : BN inf32 := fun _ _ _ _ _ _ us h => match us, h with | [_, _, _, _], _ => rfl
theorem bn33 : BN inf33 := fun _ _ _ _ _ _ us h => match us, h with | [_, _, _, _], _ => rfl
theorem bn34 : BN inf34 := fun _ _ _ _ _ _ us h => match us, h with | [_], _ => rfl
theorem bn35 : BN inf35 := fun _ _ _ _ _ _ us h => match us, h with | [_, _], _ => rfl
theorem bn36 : BN inf36 := fun _ _ _ _ _ _ us h => match us, h with | [_, _], _ => rfl
theorem bn37 : BN inf37 := fun _ _ _ _ _ _ us h => match us, h with | [_, _], _ => rfl
theorem bn38 : BN inf38 := fun _ _ _ _ _ _ us h => match us, h with | [_, _], _ => rfl
theorem bn39 : BN inf39 := fun _ _ _ _ _ _ us h => match us, h with | [_, _], _ => rfl
theorem bn40 : BN inf40 := fun _ _ _ _ _ _ us h => match us, h with | [_, _], _ => rfl
theorem bn41 : BN inf41 := fun _ _ _ _ _ _ us h => match us, h with | [_, _], _ => rfl
theorem bn42 : BN inf42 := fun _ _ _ _ _ _ us h => match us, h with | [_, _, _], _ => rfl
theorem bn43 : BN inf43 := fun _ _ _ _ _ _ us h => match us, h with | [_, _], _ => rfl
theorem bn44 : BN inf44 := fun _ _ _ _ _ _ us h => match us, h with | [_, _], _ => rfl
theorem bn45 : BN inf45 := fun _ _ _ _ _ _ us h => match us, h with | [_, _], _ => rfl
theorem bn46 : BN inf46 := fun _ _ _ _ _ _ us h => match us, h with | [_, _], _ => rfl
theorem bn47 : BN inf47 := fun _ _ _ _ _ _ us h => match us, h with | [_, _], _ => rfl
theorem bn48 : BN inf48 := fun _ _ _ _ _ _ us h => match us, h with | [_, _], _ => rfl
theorem bn49 : BN inf49 := fun _ _ _ _ _ _ us h => match us, h with | [_, _], _ => rfl
theorem bn50 : BN inf50 := fun _ _ _ _ _ _ us h => match us, h with | [_, _], _ => rfl
theorem bn51 : BN inf51 := fun _ _ _ _ _ _ us h => match us, h with | [_, _, _], _ => rfl
theorem bn52 : BN inf52 := fun _ _ _ _ _ _ us h => match us, h with | [_, _], _ => rfl
theorem bn53 : BN inf53 := fun _ _ _ _ _ _ us h => match us, h with | [_, _], _ => rfl
theorem bn54 : BN inf54 := fun _ _ _ _ _ _ us h => match us, h with | [_, _], _ => rfl
theorem bn55 : BN inf55 := fun _ _ _ _ _ _ us h => match us, h with | [_, _], _ => rfl
theorem bn56 : BN inf56 := fun _ _ _ _ _ _ us h => match us, h with | [_, _], _ => rfl
theorem bn57 : BN inf57 := fun _ _ _ _ _ _ us h => match us, h with | [_, _], _ => rfl
theorem bn58 : BN inf58 := fun _ _ _ _ _ _ us h => match us, h with | [_], _ => rfl
theorem bn59 : BN inf59 := fun _ _ _ _ _ _ us h => match us, h with | [_, _], _ => rfl
theorem bn60 : BN inf60 := fun _ _ _ _ _ _ us h => match us, h with | [_, _], _ => rfl
theorem bn61 : BN inf61 := fun _ _ _ _ _ _ us h => match us, h with | [_, _], _ => rfl
theorem bn62 : BN inf62 := fun _ _ _ _ _ _ us h => match us, h with | [_, _], _ => rfl
theorem bn63 : BN inf63 := fun _ _ _ _ _ _ us h => match us, h with | [_, _], _ => rfl
theorem bn64 : BN inf64 := fun _ _ _ _ _ _ us h => match us, h with | [_], _ => rfl
theorem bn65 : BN inf65 := fun _ _ _ _ _ _ us h => match us, h with | [_, _], _ => rfl
theorem bn66 : BN inf66 := fun _ _ _ _ _ _ us h => match us, h with | [_], _ => rfl
theorem bn67 : BN inf67 := fun _ _ _ _ _ _ us h => match us, h with | [_, _], _ => rfl
theorem bn68 : BN inf68 := fun _ _ _ _ _ _ us h => match us, h with | [_, _], _ => rfl
theorem bn69 : BN inf69 := fun _ _ _ _ _ _ us h => match us, h with | [_, _], _ => rfl
theorem bn70 : BN inf70 := fun _ _ _ _ _ _ us h => match us, h with | [_], _ => rfl
theorem bn71 : BN inf71 := fun _ _ _ _ _ _ us h => match us, h with | [_], _ => rfl
theorem bnL0 : AllP BN infL0 := ⟨bn0, bn1, bn2, bn3, bn4, bn5, bn6, bn7, bn8, bn9, bn10, bn11, bn12, bn13, bn14, bn15, bn16, bn17, bn18, bn19, trivial⟩
theorem bnL1 : AllP BN infL1 := ⟨bn20, bn21, bn22, bn23, bn24, bn25, bn26, bn27, bn28, bn29, bn30, bn31, bn32, bn33, bn34, bn35, bn36, bn37, bn38, bn39, trivial⟩
theorem bnL2 : AllP BN infL2 := ⟨bn40, bn41, bn42, bn43, bn44, bn45, bn46, bn47, bn48, bn49, bn50, bn51, bn52, bn53, bn54, bn55, bn56, bn57, bn58, bn59, trivial⟩
theorem bnL3 : AllP BN infL3 := ⟨bn60, bn61, bn62, bn63, bn64, bn65, bn66, bn67, bn68, bn69, bn70, bn71, trivial⟩
theorem bn : AllP BN T.info := bnL0.app <| bnL1.app <| bnL2.app <| bnL3
theorem kb0 : T.KBs ("roads_of", [(["place", "net"], [1, 0])]) := KBs_of (f := 27) (ps := inf27.ps) (e := inf27) rfl rfl ⟨⟨rfl, fun _ _ _ _ _ _ ws h => match ws, h with | [_, _], _ => rfl⟩, trivial⟩
theorem kb1 : T.KBs ("pieces", [(["net"], [0])]) := KBs_of (f := 30) (ps := inf30.ps) (e := inf30) rfl rfl ⟨⟨rfl, fun _ _ _ _ _ _ ws h => match ws, h with | [_], _ => rfl⟩, trivial⟩
theorem kb2 : T.KBs ("is_round", [(["value", "net"], [1, 0])]) := KBs_of (f := 53) (ps := inf53.ps) (e := inf53) rfl rfl ⟨⟨rfl, fun _ _ _ _ _ _ ws h => match ws, h with | [_, _], _ => rfl⟩, trivial⟩
theorem kb3 : T.KBs ("bridges", [(["net"], [0])]) := KBs_of (f := 58) (ps := inf58.ps) (e := inf58) rfl rfl ⟨⟨rfl, fun _ _ _ _ _ _ ws h => match ws, h with | [_], _ => rfl⟩, trivial⟩
theorem kb4 : T.KBs ("doubled", [(["lot", "net"], [1, 0])]) := KBs_of (f := 43) (ps := inf43.ps) (e := inf43) rfl rfl ⟨⟨rfl, fun _ _ _ _ _ _ ws h => match ws, h with | [_, _], _ => rfl⟩, trivial⟩
theorem kb5 : T.KBs ("beside", [(["other", "net"], [1, 0])]) := KBs_of (f := 46) (ps := inf46.ps) (e := inf46) rfl rfl ⟨⟨rfl, fun _ _ _ _ _ _ ws h => match ws, h with | [_, _], _ => rfl⟩, trivial⟩
theorem kb6 : T.KBs ("odd_places", [(["lot", "net"], [1, 0])]) := KBs_of (f := 29) (ps := inf29.ps) (e := inf29) rfl rfl ⟨⟨rfl, fun _ _ _ _ _ _ ws h => match ws, h with | [_, _], _ => rfl⟩, trivial⟩
theorem kb7 : T.KBs ("lot_sum", [(["other", "lot", "net"], [2, 1, 0])]) := KBs_of (f := 51) (ps := inf51.ps) (e := inf51) rfl rfl ⟨⟨rfl, fun _ _ _ _ _ _ ws h => match ws, h with | [_, _, _], _ => rfl⟩, trivial⟩
theorem kb8 : T.KBs ("made_one", [(["lot", "net"], [1, 0])]) := KBs_of (f := 44) (ps := inf44.ps) (e := inf44) rfl rfl ⟨⟨rfl, fun _ _ _ _ _ _ ws h => match ws, h with | [_, _], _ => rfl⟩, trivial⟩
theorem kb9 : T.KBs ("part", [(["spots", "net"], [1, 0])]) := KBs_of (f := 47) (ps := inf47.ps) (e := inf47) rfl rfl ⟨⟨rfl, fun _ _ _ _ _ _ ws h => match ws, h with | [_, _], _ => rfl⟩, trivial⟩
theorem kb10 : T.KBs ("degree", [(["place", "lot", "net"], [2, 1, 0])]) := KBs_of (f := 28) (ps := inf28.ps) (e := inf28) rfl rfl ⟨⟨rfl, fun _ _ _ _ _ _ ws h => match ws, h with | [_, _, _], _ => rfl⟩, trivial⟩
theorem kb11 : T.KBs ("way", [(["other", "place", "lot", "net"], [3, 2, 1, 0])]) := KBs_of (f := 33) (ps := inf33.ps) (e := inf33) rfl rfl ⟨⟨rfl, fun _ _ _ _ _ _ ws h => match ws, h with | [_, _, _, _], _ => rfl⟩, trivial⟩
theorem kb12 : T.KBs ("round_with", [(["road", "net"], [1, 0])]) := KBs_of (f := 59) (ps := inf59.ps) (e := inf59) rfl rfl ⟨⟨rfl, fun _ _ _ _ _ _ ws h => match ws, h with | [_, _], _ => rfl⟩, trivial⟩
theorem kb13 : T.KBs ("renamed", [(["names", "net"], [1, 0])]) := KBs_of (f := 39) (ps := inf39.ps) (e := inf39) rfl rfl ⟨⟨rfl, fun _ _ _ _ _ _ ws h => match ws, h with | [_, _], _ => rfl⟩, trivial⟩
theorem kb14 : T.KBs ("resequenced", [(["sequence", "net"], [1, 0])]) := KBs_of (f := 40) (ps := inf40.ps) (e := inf40) rfl rfl ⟨⟨rfl, fun _ _ _ _ _ _ ws h => match ws, h with | [_, _], _ => rfl⟩, trivial⟩
theorem kb : AllP T.KBs T.kws := ⟨kb0, kb1, kb2, kb3, kb4, kb5, kb6, kb7, kb8, kb9, kb10, kb11, kb12, kb13, kb14, trivial⟩
theorem ini : IniOk T := ⟨⟨_, _, _, _, rfl⟩, by decide +kernel, fun _ _ _ _ _ _ _ us its h1 h2 => match us, its, h1, h2 with | [_, _], [_], _, _ => ⟨_, rfl, rfl⟩, fun _ _ _ _ _ _ _ us its ws h1 h2 h3 => match us, its, ws, h1, h2, h3 with | [_], [_], [_], _, _, _ => ⟨_, rfl, rfl⟩⟩
theorem ini2 : Ini2Ok T := ⟨⟨_, _, _, _, _, _, _, _, rfl⟩, by decide +kernel, fun _ _ _ _ _ _ us h => match us, h with | [_, _, _], _ => rfl⟩
end Law
end

section
set_option maxHeartbeats 0
namespace Law
open PySem PySem.Spec L2 PyC PyProof.Rows
def loose0 : List Str := ["is_integer", "is_within", "is_list", "is_tuple", "are_rising", "is_lot_of", "NetError", "StateError", "LimitError", "InvalidNet", "InvalidPlace", "InvalidRoad", "InvalidLot", "InvalidSpots", "InvalidEnds", "InvalidNames", "InvalidSequence", "NoPlace", "TooMany", "MOST_PLACES", "MOST_ROADS", "NET", "is_road_of", "is_net_value", "want_net", "want_place", "want_road", "want_lot", "want_spots", "made"]
def loose1 : List Str := ["all_roads", "roads_at", "other_end", "degree_in", "odd_in", "sum_of", "pieces_by", "cut_by", "first_tree_of", "way_in", "end_of", "are_roads", "ends", "roads_of", "degree", "odd_places", "pieces", "pieces_of", "is_walk", "way", "first_tree", "is_row_of", "road_of", "want_room", "made_one_of", "renamed", "resequenced", "without", "with_road", "doubled"]
def loose2 : List Str := ["made_one", "halved", "beside", "part", "is_round_in", "sides_of", "is_bond_in", "lot_sum", "is_even", "is_round", "cut", "is_cut", "sides", "is_bond", "bridges", "round_with", "is_tree", "_law_pot", "_law_draw", "_law_pick", "_law_heard", "_law_are", "_law_first_calls", "_law_second_calls", "_law_lots_right", "_law_rest_right", "_law_behind_right"]
def loose : List Str := loose0 ++ loose1 ++ loose2
abbrev R : PySem.W.OpenRow := PySem.W.OpenLaw.row PySem.Challenge.rw_oncearound_k14_first_stages_refused
def adrs : List Addr := (List.range 700).reverse
abbrev hk : PySem.W.Hook := hookA adrs T.fa T.fn [] T.tf T.ex
def ob (s : PySem.W.SharedT) : He.AlX := obsA adrs T.fa T.fn [] T.tf T.ex (HandSHeadRun.getT s)
theorem ob_eq (s : PySem.W.SharedT) : ob s = hk.obs s.abs := obsA_eq (HandSHeadRun.getT_eq s)
theorem run (w : World) : HandSHeadRun.RunEq R (PySem.W.view R.prog [93]) hk ob 6000 loose w := by
  intro os
  kernel_rfl
end Law
end

section
set_option maxHeartbeats 0
namespace Law
open PySem PySem.Spec L2 PyC
def good : PyData := .tuple [.str (sN [110, 101, 116]), .int 3, .tuple [.tuple [.int 0, .int 1], .tuple [.int 1, .int 2], .tuple [.int 0, .int 2], .tuple [.int 0, .int 1]]]
def opns (l : List (Nat × List Nat)) : PyData := .list (l.map fun p => opn p.1 p.2)
def menE : CS → CE
  | .seq (.asg _ (.callIOC _ _ (.cons e .nil))) _ => e
  | .seq (.asg _ (.callIO _ _ (.cons e .nil))) _ => e
  | _ => .bad
theorem draws (d : Nat) : Draws (callF tbl (d + 1)) 62 := draw_ok (m := 40692) (c := 11173) (p := 2147483587) (q := 2147483549) (s := 17) rfl (by decide +kernel) d
theorem picks (d : Nat) : Picks (callF tbl (d + 2)) 63 := pick_ok rfl (draws d)
def mA : List PyData := [.none, .int 0, .list [], .list [.int 0], .tuple [.int 4], .tuple [.int 1, .int 0], .tuple [.int 0, .int 0], .tuple [.bool true], .dict []]
def mB : List PyData := [.none, .int 0, .list [], .list [.int 0], .tuple [.int 3], .tuple [.int 1, .int 0], .tuple [.int 0, .int 0], .tuple [.bool true], .dict []]
def mC : List PyData := [.none, .int 3, .int (-1), .bool true, .str (sN [48]), .tuple [.int 0]]
def cA : PyData := opns [(101, [1, 2]), (102, [1, 2]), (103, [1, 2]), (104, [1, 2]), (105, [1, 2]), (106, [1, 2]), (107, [1, 2]), (108, [1, 2]), (109, [1, 2]), (110, [1, 2])]
def cB : PyData := opns [(111, [1, 2]), (112, [1, 2])]
def cC : PyData := opns [(113, [1, 2]), (114, [1, 2]), (115, [1, 2]), (116, [1, 2]), (117, [1, 2]), (118, [1, 2])]
abbrev q4 (a b : Int) (x c : Slot) : Rho := [.my (potD a b), .fz good, x, c]
theorem lotsA (a b : Int) : ∀ (i : Nat) (x : PyData), mA[i]? = some x → evS (callF tbl 18) true (takeS 12 (dropS 1 b68)) (q4 a b (.fz x) .un) = .nx (q4 a b (.fz x) (.my cA))
  | 0, _, h => by cases h; kernel_rfl
  | 1, _, h => by cases h; kernel_rfl
  | 2, _, h => by cases h; kernel_rfl
  | 3, _, h => by cases h; kernel_rfl
  | 4, _, h => by cases h; kernel_rfl
  | 5, _, h => by cases h; kernel_rfl
  | 6, _, h => by cases h; kernel_rfl
  | 7, _, h => by cases h; kernel_rfl
  | 8, _, h => by cases h; kernel_rfl
  | n + 9, _, h => by simp [mA] at h
theorem lotsB (a b : Int) : ∀ (i : Nat) (x : PyData), mB[i]? = some x → evS (callF tbl 18) true (takeS 4 (dropS 14 b68)) (q4 a b (.fz x) (.my cA)) = .nx (q4 a b (.fz x) (.my cB))
  | 0, _, h => by cases h; kernel_rfl
  | 1, _, h => by cases h; kernel_rfl
  | 2, _, h => by cases h; kernel_rfl
  | 3, _, h => by cases h; kernel_rfl
  | 4, _, h => by cases h; kernel_rfl
  | 5, _, h => by cases h; kernel_rfl
  | 6, _, h => by cases h; kernel_rfl
  | 7, _, h => by cases h; kernel_rfl
  | 8, _, h => by cases h; kernel_rfl
  | n + 9, _, h => by simp [mB] at h
theorem lotsC (a b : Int) : ∀ (i : Nat) (x : PyData), mC[i]? = some x → evS (callF tbl 18) true (dropS 19 b68) (q4 a b (.fz x) (.my cB)) = .rt false (.bool true) (q4 a b (.fz x) (.my cC))
  | 0, _, h => by cases h; kernel_rfl
  | 1, _, h => by cases h; kernel_rfl
  | 2, _, h => by cases h; kernel_rfl
  | 3, _, h => by cases h; kernel_rfl
  | 4, _, h => by cases h; kernel_rfl
  | 5, _, h => by cases h; kernel_rfl
  | n + 6, _, h => by simp [mC] at h
theorem lots (a b : Int) (ha : 0 ≤ a) (hb : 0 ≤ b) : ∃ a' b', callF tbl 19 68 [(true, potD a b), (false, good)] = .ok false (.bool true) (some [.int a', .int b']) ∧ 0 ≤ a' ∧ 0 ≤ b' := by
  obtain ⟨i1, x1, a1, b1, e1, m1, ha1, hb1⟩ := asg_pickC (i := 2) (io := true) (ρ := q4 a b .un .un) (xs := mA) (e := menE b68) (picks 16) ha hb rfl rfl (by decide) (by decide) (by decide) (by decide) (fun s => by rfl) (by show 2 < 4; decide)
  obtain ⟨i2, x2, a2, b2, e2, m2, ha2, hb2⟩ := asg_pickC (i := 2) (io := true) (ρ := q4 a1 b1 (.fz x1) (.my cA)) (xs := mB) (e := menE (dropS 13 b68)) (picks 16) ha1 hb1 rfl rfl (by decide) (by decide) (by decide) (by decide) (fun s => by rfl) (by show 2 < 4; decide)
  obtain ⟨i3, x3, a3, b3, e3, m3, ha3, hb3⟩ := asg_pickC (i := 2) (io := true) (ρ := q4 a2 b2 (.fz x2) (.my cB)) (xs := mC) (e := menE (dropS 18 b68)) (picks 16) ha2 hb2 rfl rfl (by decide) (by decide) (by decide) (by decide) (fun s => by rfl) (by show 2 < 4; decide)
  refine ⟨a3, b3, ?_, ha3, hb3⟩
  have h : evS (callF tbl 18) true b68 (q4 a b .un .un) = .rt false (.bool true) (q4 a3 b3 (.fz x3) (.my cC)) := by
    refine (evS_step (b := dropS 1 b68) e1).trans ?_
    refine (evS_at (n := 12) (lotsA a1 b1 i1 x1 m1)).trans ?_
    refine (evS_step (b := dropS 14 b68) e2).trans ?_
    refine (evS_at (n := 4) (lotsB a2 b2 i2 x2 m2)).trans ?_
    refine (evS_step (b := dropS 19 b68) e3).trans ?_
    exact lotsC a3 b3 i3 x3 m3
  have hF : tbl 68 = some F68 := rfl
  simp [callF, hF, F68, ioOk, entry, potD, flatL, flatD] at h ⊢
  rw [show ([Slot.my (.list [.int a, .int b]), .fz good, .un, .un] : Rho) = q4 a b .un .un from rfl, h]
  rfl
def nA : List PyData := [.none, .int 4, .int (-1), .bool true, .str (sN [48]), .tuple [.int 0]]
def nB : List PyData := [.none, .list [], .list [.int 0, .int 1], .list [.int 0, .int 1, .int 3], .list [.int 0, .int 0, .int 1], .list [.int 0, .int 1, .bool true], .str (sN [48, 49, 50]), .dict []]
def nC : List PyData := [.none, .list [], .list [.int 0, .int 1, .int 2], .list [.int 0, .int 1, .int 2, .int 4], .list [.int 0, .int 0, .int 1, .int 2], .list [.int 0, .int 1, .int 2, .bool true], .str (sN [48, 49, 50, 51]), .dict []]
def nD : List PyData := [.tuple [.none, .int 0], .tuple [.int 0, .int 3], .tuple [.int 1, .int 1], .tuple [.bool true, .int 0], .tuple [.int 0, .str (sN [49])], .tuple [.int (-1), .int 0], .tuple [.tuple [.int 0], .int 1], .tuple [.int 2, .int 2]]
def dA : PyData := opns [(119, [1, 2]), (120, [1, 2]), (121, [1, 2])]
abbrev q5 (a b : Int) (x c l : Slot) : Rho := [.my (potD a b), .fz good, x, c, l]
theorem restA (a b : Int) : ∀ (i : Nat) (x : PyData), nA[i]? = some x → evS (callF tbl 18) true (takeS 5 (dropS 1 b69)) (q5 a b (.fz x) .un .un) = .nx (q5 a b (.fz x) (.my dA) .un)
  | 0, _, h => by cases h; kernel_rfl
  | 1, _, h => by cases h; kernel_rfl
  | 2, _, h => by cases h; kernel_rfl
  | 3, _, h => by cases h; kernel_rfl
  | 4, _, h => by cases h; kernel_rfl
  | 5, _, h => by cases h; kernel_rfl
  | n + 6, _, h => by simp [nA] at h
theorem restB (a b : Int) : ∀ (i : Nat) (x : PyData), nB[i]? = some x → evS (callF tbl 18) true (takeS 2 (dropS 7 b69)) (q5 a b (.fz x) (.my dA) .un) = .nx (q5 a b (.fz x) (.my dA) .un)
  | 0, _, h => by cases h; kernel_rfl
  | 1, _, h => by cases h; kernel_rfl
  | 2, _, h => by cases h; kernel_rfl
  | 3, _, h => by cases h; kernel_rfl
  | 4, _, h => by cases h; kernel_rfl
  | 5, _, h => by cases h; kernel_rfl
  | 6, _, h => by cases h; kernel_rfl
  | 7, _, h => by cases h; kernel_rfl
  | n + 8, _, h => by simp [nB] at h
theorem restC (a b : Int) : ∀ (i : Nat) (x : PyData), nC[i]? = some x → evS (callF tbl 18) true (takeS 2 (dropS 10 b69)) (q5 a b (.fz x) (.my dA) .un) = .nx (q5 a b (.fz x) (.my dA) .un)
  | 0, _, h => by cases h; kernel_rfl
  | 1, _, h => by cases h; kernel_rfl
  | 2, _, h => by cases h; kernel_rfl
  | 3, _, h => by cases h; kernel_rfl
  | 4, _, h => by cases h; kernel_rfl
  | 5, _, h => by cases h; kernel_rfl
  | 6, _, h => by cases h; kernel_rfl
  | 7, _, h => by cases h; kernel_rfl
  | n + 8, _, h => by simp [nC] at h
theorem restD (a b : Int) : ∀ (i : Nat) (u v : PyData), nD[i]? = some (.tuple [u, v]) → evS (callF tbl 18) true (dropS 13 b69) (q5 a b (.fz u) (.my dA) (.fz v)) = .rt false (.bool true) (q5 a b (.fz u) (.my dA) (.fz v))
  | 0, _, _, h => by cases h; kernel_rfl
  | 1, _, _, h => by cases h; kernel_rfl
  | 2, _, _, h => by cases h; kernel_rfl
  | 3, _, _, h => by cases h; kernel_rfl
  | 4, _, _, h => by cases h; kernel_rfl
  | 5, _, _, h => by cases h; kernel_rfl
  | 6, _, _, h => by cases h; kernel_rfl
  | 7, _, _, h => by cases h; kernel_rfl
  | n + 8, _, _, h => by simp [nD] at h
theorem nD2 : ∀ (k : Nat) (x : PyData), nD[k]? = some x → ∃ u v, x = .tuple [u, v]
  | 0, _, h => by cases h; exact ⟨_, _, rfl⟩
  | 1, _, h => by cases h; exact ⟨_, _, rfl⟩
  | 2, _, h => by cases h; exact ⟨_, _, rfl⟩
  | 3, _, h => by cases h; exact ⟨_, _, rfl⟩
  | 4, _, h => by cases h; exact ⟨_, _, rfl⟩
  | 5, _, h => by cases h; exact ⟨_, _, rfl⟩
  | 6, _, h => by cases h; exact ⟨_, _, rfl⟩
  | 7, _, h => by cases h; exact ⟨_, _, rfl⟩
  | n + 8, _, h => by simp [nD] at h
theorem rest (a b : Int) (ha : 0 ≤ a) (hb : 0 ≤ b) : ∃ a' b', callF tbl 19 69 [(true, potD a b), (false, good)] = .ok false (.bool true) (some [.int a', .int b']) ∧ 0 ≤ a' ∧ 0 ≤ b' := by
  obtain ⟨i1, x1, a1, b1, e1, m1, ha1, hb1⟩ := asg_pickC (i := 2) (io := true) (ρ := q5 a b .un .un .un) (xs := nA) (e := menE b69) (picks 16) ha hb rfl rfl (by decide) (by decide) (by decide) (by decide) (fun s => by rfl) (by show 2 < 5; decide)
  obtain ⟨i2, x2, a2, b2, e2, m2, ha2, hb2⟩ := asg_pickC (i := 2) (io := true) (ρ := q5 a1 b1 (.fz x1) (.my dA) .un) (xs := nB) (e := menE (dropS 6 b69)) (picks 16) ha1 hb1 rfl rfl (by decide) (by decide) (by decide) (by decide) (fun s => by rfl) (by show 2 < 5; decide)
  obtain ⟨i3, x3, a3, b3, e3, m3, ha3, hb3⟩ := asg_pickC (i := 2) (io := true) (ρ := q5 a2 b2 (.fz x2) (.my dA) .un) (xs := nC) (e := menE (dropS 9 b69)) (picks 16) ha2 hb2 rfl rfl (by decide) (by decide) (by decide) (by decide) (fun s => by rfl) (by show 2 < 5; decide)
  obtain ⟨i4, u, v, a4, b4, e4, m4, ha4, hb4⟩ := asg_pickC2 (i := 2) (j := 4) (io := true) (ρ := q5 a3 b3 (.fz x3) (.my dA) .un) (xs := nD) (e := menE (dropS 12 b69)) (picks 16) ha3 hb3 rfl rfl (by decide) (by decide) (by decide) (by decide) (fun s => by rfl) (by show 2 < 5; decide) (by show 4 < 5; decide) nD2
  refine ⟨a4, b4, ?_, ha4, hb4⟩
  have h : evS (callF tbl 18) true b69 (q5 a b .un .un .un) = .rt false (.bool true) (q5 a4 b4 (.fz u) (.my dA) (.fz v)) := by
    refine (evS_step (b := dropS 1 b69) e1).trans ?_
    refine (evS_at (n := 5) (restA a1 b1 i1 x1 m1)).trans ?_
    refine (evS_step (b := dropS 7 b69) e2).trans ?_
    refine (evS_at (n := 2) (restB a2 b2 i2 x2 m2)).trans ?_
    refine (evS_step (b := dropS 10 b69) e3).trans ?_
    refine (evS_at (n := 2) (restC a3 b3 i3 x3 m3)).trans ?_
    refine (evS_step (b := dropS 13 b69) e4).trans ?_
    exact restD a4 b4 i4 u v m4
  have hF : tbl 69 = some F69 := rfl
  simp [callF, hF, F69, ioOk, entry, potD, flatL, flatD] at h ⊢
  rw [show ([Slot.my (.list [.int a, .int b]), .fz good, .un, .un, .un] : Rho) = q5 a b .un .un .un from rfl, h]
  rfl
theorem behind : callF tbl 19 70 [(false, good)] = .ok false (.bool true) none := by kernel_rfl
def m6 : List PyData := [.none, .tuple [], .list [], .dict [], .str (sN [118, 97, 108, 117, 101]), .int 0]
def m9 : List PyData := [.none, .int 0, .tuple [], .list [.str (sN [110, 101, 116]), .int 3, .tuple [.tuple [.int 0, .int 1], .tuple [.int 1, .int 2], .tuple [.int 0, .int 2], .tuple [.int 0, .int 1]]], .tuple [.str (sN [110, 101, 116]), .int 3], .tuple [.str (sN [78, 101, 116]), .int 3, .tuple [.tuple [.int 0, .int 1], .tuple [.int 1, .int 2], .tuple [.int 0, .int 2], .tuple [.int 0, .int 1]]], .tuple [.str (sN [110, 101, 116]), .int 2, .tuple [.tuple [.int 1, .int 0]]], .tuple [.str (sN [110, 101, 116]), .int 9, .tuple []], .dict []]
def shown : PyData := .str (sN (shL good))
def made (x : PyData) : PyData := .list [excD 0 [x], excD 1 [x], excD 2 [x], excD 3 [x], excD 4 [x], excD 6 [x], excD 7 [x]]
abbrev q8 (s : PyData) (a b : Int) (o sh m t : Slot) : Rho := [.fz s, .my (potD a b), .fz good, o, sh, m, t, .un]
def loopB : CS → CS
  | .seq (.for_ _ _ b) _ => b
  | _ => .bad
def turnB : CS := loopB (dropS 4 b71)
def menP : CS → CE
  | .seq (.par _ (.cons (.callIO _ _ (.cons e .nil)) _)) _ => e
  | _ => .bad
theorem madeS (ns : List Int) (a b : Int) : ∀ (i : Nat) (x : PyData), m6[i]? = some x → evS (callF tbl 19) false (takeS 2 (dropS 2 b71)) (q8 (scriptD ns) a b (.fz x) (.fz shown) .un .un) = .nx (q8 (scriptD ns) a b (.fz x) (.fz shown) (.my (made x)) .un)
  | 0, _, h => by cases h; kernel_rfl
  | 1, _, h => by cases h; kernel_rfl
  | 2, _, h => by cases h; kernel_rfl
  | 3, _, h => by cases h; kernel_rfl
  | 4, _, h => by cases h; kernel_rfl
  | 5, _, h => by cases h; kernel_rfl
  | n + 6, _, h => by simp [m6] at h
theorem turnA (s : PyData) (a b : Int) (m t : Slot) : ∀ (i : Nat) (x : PyData), m9[i]? = some x → evS (callF tbl 19) false (takeS 1 (dropS 1 turnB)) (q8 s a b (.fz x) (.fz shown) m t) = .nx (q8 s a b (.fz x) (.fz shown) m t)
  | 0, _, h => by cases h; kernel_rfl
  | 1, _, h => by cases h; kernel_rfl
  | 2, _, h => by cases h; kernel_rfl
  | 3, _, h => by cases h; kernel_rfl
  | 4, _, h => by cases h; kernel_rfl
  | 5, _, h => by cases h; kernel_rfl
  | 6, _, h => by cases h; kernel_rfl
  | 7, _, h => by cases h; kernel_rfl
  | 8, _, h => by cases h; kernel_rfl
  | n + 9, _, h => by simp [m9] at h
theorem turn (s : PyData) (a b : Int) (o m t : Slot) (ha : 0 ≤ a) (hb : 0 ≤ b) : ∃ x a' b', evS (callF tbl 19) false turnB (q8 s a b o (.fz shown) m t) = .nx (q8 s a' b' (.fz x) (.fz shown) m t) ∧ 0 ≤ a' ∧ 0 ≤ b' := by
  obtain ⟨i1, x1, a1, b1, e1, m1, ha1, hb1⟩ := evE_pick (j := 1) (ρ := q8 s a b o (.fz shown) m t) (xs := m9) (e := menE turnB) (picks 17) ha hb rfl (by rfl) (by decide) (by decide) (by decide)
  obtain ⟨a2, b2, e2, ha2, hb2⟩ := lots a1 b1 ha1 hb1
  obtain ⟨a3, b3, e3, ha3, hb3⟩ := rest a2 b2 ha2 hb2
  refine ⟨x1, a3, b3, ?_, ha3, hb3⟩
  refine (evS_step (b := dropS 1 turnB) (evS_asg (i := 3) e1 (by rfl) (by show 3 < 8; decide))).trans ?_
  refine (evS_at (n := 1) (turnA s a1 b1 m t i1 x1 m1)).trans ?_
  refine (evS_step (b := .skip) (ρ' := q8 s a3 b3 (.fz x1) (.fz shown) m t) ((evS_if0 (evE_or (k := false) (evE_not (evE_io (j := 1) (ρ := q8 s a1 b1 (.fz x1) (.fz shown) m t) (es := .cons (.var 2) .nil) rfl rfl (by decide) e2)) (evE_not (evE_io (j := 1) (ρ := q8 s a2 b2 (.fz x1) (.fz shown) m t) (es := .cons (.var 2) .nil) rfl rfl (by decide) e3)))).trans rfl)).trans ?_
  rfl
theorem turns5 (s : PyData) (m : Slot) : ∀ (l : List PyData) (a b : Int) (o t : Slot), 0 ≤ a → 0 ≤ b → ∃ o' t' a' b', forL (fun x ρ => (asgT (callF tbl 19) (.nm 6) (false, x) ρ).calm.s fun _ ρ => evS (callF tbl 19) false turnB ρ) l (q8 s a b o (.fz shown) m t) = .nx (q8 s a' b' o' (.fz shown) m t')
  | [], a, b, o, t, _, _ => ⟨o, t, a, b, rfl⟩
  | x :: l, a, b, o, t, ha, hb => by
    obtain ⟨x1, a1, b1, e1, ha1, hb1⟩ := turn s a b o m (.fz x) ha hb
    obtain ⟨o', t', a', b', e2⟩ := turns5 s m l a1 b1 (.fz x1) (.fz x) ha1 hb1
    refine ⟨o', t', a', b', ?_⟩
    have h : (asgT (callF tbl 19) (.nm 6) (false, x) (q8 s a b o (.fz shown) m t)).calm.s (fun _ ρ => evS (callF tbl 19) false turnB ρ) = .nx (q8 s a1 b1 (.fz x1) (.fz shown) m (.fz x)) := e1
    rw [forL, h]
    exact e2
theorem last (s : PyData) (a b : Int) (o m t : Slot) : evS (callF tbl 19) false (dropS 5 b71) (q8 s a b o (.fz shown) m t) = .rt false (.bool true) (q8 s a b o (.fz shown) m t) := by kernel_rfl
theorem pot0 (d : Nat) (ns : List Int) : ∃ a b, callF tbl (d + 1) 61 [(false, scriptD ns), (false, .int 0)] = .ok true (potD a b) none ∧ 0 ≤ a ∧ 0 ≤ b := by
  have h61 : tbl 61 = some F61 := rfl
  have gen : ∀ c : Int, 0 ≤ (if c - 1000000000000000000 > 0 then c - 1000000000000000000 else 0) ∧ 0 ≤ (c % 2147483549 * 40014 + 1879) % 2147483563 + 1 := fun c => by
    have := Int.emod_nonneg (c % 2147483549 * 40014 + 1879) (show (2147483563 : Int) ≠ 0 by decide)
    constructor
    · split <;> omega
    · omega
  cases ns with
  | nil =>
    refine ⟨_, _, ?_, (gen 1033).1, (gen 1033).2⟩
    simp [callF, h61, F61, b61, evS, evB, evE, evEs, Out.bind, Out.s, Out.calm, opSem, sem2, sem1, semIdx, semMul, semAdd, semLen, scriptD, scrOf, itemAt, place, oBool, oInt, entry, ioOk, flatL, flatD, potD, rd, Slot.val?, asgT, asgTs, isMy, al, alEs, alL, keep, anyMine, setNew, SOut.thn, evR, ioEnd, CE.isVar, muts, mutsL, meets_nil, small, powOk]
  | cons n r =>
    refine ⟨_, _, ?_, (gen (if n < 0 then -n else n)).1, (gen (if n < 0 then -n else n)).2⟩
    have hl : decide ((0 : Int) < (r.length : Int) + 1) = true := by simp
    simp [callF, h61, F61, b61, evS, evB, evE, evEs, Out.bind, Out.s, Out.calm, opSem, sem2, sem1, semIdx, semMul, semAdd, semLen, scriptD, scrOf, itemAt, place, oBool, oInt, entry, ioOk, flatL, flatD, potD, rd, Slot.val?, asgT, asgTs, isMy, al, alEs, alL, keep, anyMine, setNew, SOut.thn, evR, ioEnd, CE.isVar, muts, mutsL, meets_nil, small, powOk, hl]
theorem goodE (call : CallT) (ρ : Rho) : ∃ e1, b71 = .seq (.par [1, 2] (.cons (.call 61 (.cons (.var 0) (.cons (.cst (.int 0)) .nil))) (.cons e1 .nil))) (dropS 1 b71) ∧ evE call e1 ρ = .ok (false, good) ρ ∧ al e1 = [] ∧ muts e1 = [] := ⟨_, rfl, by rfl, rfl, rfl⟩
theorem st0 (ns : List Int) (a b : Int) (h : callF tbl 19 61 [(false, scriptD ns), (false, .int 0)] = .ok true (potD a b) none) : evS (callF tbl 19) false b71 (.fz (scriptD ns) :: List.replicate 7 .un) = evS (callF tbl 19) false (dropS 1 b71) (q8 (scriptD ns) a b .un .un .un .un) := by
  obtain ⟨e1, h1, _, h3, h4⟩ := goodE (callF tbl 19) []
  have h2 : ∀ ρ, evE (callF tbl 19) e1 ρ = .ok (false, good) ρ := fun ρ => by
    have : b71 = .seq (.par [1, 2] (.cons (.call 61 (.cons (.var 0) (.cons (.cst (.int 0)) .nil))) (.cons e1 .nil))) (dropS 1 b71) := h1
    unfold b71 at this
    injection this with q1 q2
    injection q1 with q3 q4
    injection q4 with q5 q6
    injection q6 with q7 q8
    subst q7
    rfl
  rw [h1]
  refine evS_step ?_
  simp [evS, evE, evEs, Out.bind, Out.s, Out.calm, rd, Slot.val?, h, h2, al, alL, h3, h4, muts, mutsL, meets_nil, keepAll, keep, anyMine, setAll, setNew]
theorem run_law (ns : List Int) (_ : ns.length ≤ 63) : ∃ fr io, callF tbl 20 71 [(false, scriptD ns)] = .ok fr (.bool true) io := by
  obtain ⟨a, b, e1, ha, hb⟩ := pot0 18 ns
  obtain ⟨i1, x1, a1, b1, e2, m1, ha1, hb1⟩ := evE_pick (j := 1) (ρ := q8 (scriptD ns) a b .un .un .un .un) (xs := m6) (e := menP (dropS 1 b71)) (picks 17) ha hb rfl (by rfl) (by decide) (by decide) (by decide)
  obtain ⟨o', t', a2, b2, e3⟩ := turns5 (scriptD ns) (.my (made x1)) (rngD 0 5) a1 b1 (.fz x1) .un ha1 hb1
  have h71 : tbl 71 = some F71 := rfl
  have s1 : evS (callF tbl 19) false (takeS 1 (dropS 1 b71)) (q8 (scriptD ns) a b .un .un .un .un) = .nx (q8 (scriptD ns) a1 b1 (.fz x1) (.fz shown) .un .un) := by
    have : evEs (callF tbl 19) (.cons (.callIO 63 1 (.cons (menP (dropS 1 b71)) .nil)) (.cons (.op .repr (.cons (.var 2) .nil)) .nil)) (q8 (scriptD ns) a b .un .un .un .un) = .ok [(false, x1), (false, shown)] (q8 (scriptD ns) a1 b1 .un .un .un .un) := by
      rw [evEs, e2]
      rfl
    show (SOut.thn (Out.s (evEs (callF tbl 19) _ _) _) _) = _
    erw [this]
    rfl
  have s4 : evS (callF tbl 19) false (takeS 1 (dropS 4 b71)) (q8 (scriptD ns) a1 b1 (.fz x1) (.fz shown) (.my (made x1)) .un) = .nx (q8 (scriptD ns) a2 b2 o' (.fz shown) (.my (made x1)) t') := by
    show (SOut.thn (SOut.unl (forL _ _ _) _) _) = _
    erw [e3]
    rfl
  have all : evS (callF tbl 19) false b71 (.fz (scriptD ns) :: List.replicate 7 .un) = .rt false (.bool true) (q8 (scriptD ns) a2 b2 o' (.fz shown) (.my (made x1)) t') := by
    refine (st0 ns a b e1).trans ?_
    refine (evS_at (n := 1) s1).trans ?_
    refine (evS_at (n := 2) (madeS ns a1 b1 i1 x1 m1)).trans ?_
    refine (evS_at (n := 1) s4).trans ?_
    exact last _ _ _ _ _ _
  refine ⟨false, none, ?_⟩
  exact call_rt (F := F71) h71 rfl rfl rfl rfl all
end Law
end
set_option maxHeartbeats 0
open PySem PySem.Spec PySem.W PySem.Calls PyProof.Rows
theorem PySem.Challenge.cw_oncearound_k14_first_stages_refused_holds : PySem.Challenge.rw_oncearound_k14_first_stages_refused.Holds := by
  w_on; o_law
  refine HandSHeadRun.head_any (r := OpenLaw.row PySem.Challenge.rw_oncearound_k14_first_stages_refused) (q := view (OpenLaw.row PySem.Challenge.rw_oncearound_k14_first_stages_refused).prog [93]) (H := Law.hk) (ob := Law.ob) (M := 6000) (loose := Law.loose) (d := HandSHeadRun.topDef (OpenLaw.row PySem.Challenge.rw_oncearound_k14_first_stages_refused).prog 93) (kwd := []) Law.ob_eq
    (by kernel_rfl) (fun s => by kernel_rfl) Law.run (by kernel_rfl) (by kernel_rfl) (by kernel_rfl) (by rfl) (by first | assumption | decide +kernel) (by decide +kernel) ⟨rfl, rfl, rfl, rfl, rfl, by decide +kernel⟩ ?hw ?hc
  case hw => w_witness2
  case hc =>
    exact PyC.walk_T (m := 0) (T := Law.T) (l := PySem.Challenge.rw_oncearound_k14_first_stages_refused) (n := 63) (D := 20) (f := 71) (e := Law.inf71) (x := "script") rfl (by decide) (by kernel_rfl) ⟨rfl, by decide, by decide⟩ (by kernel_rfl) rfl rfl (by decide +kernel) Law.stat Law.defs Law.bn Law.kb Law.ini Law.ini2 Law.run_law

