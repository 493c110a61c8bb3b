import PyProof.Rows.All
import Wide.All
import OpenK.AllK
import Wide.FinOn
import HandS.ForMost
import HandS.ForExc
import KE.SortData
import KE.DataCmp
import KE.DataMinMax
import KE.DataFind
import KE.DataAny
import HandS.IsInst
import HandS.Zip
import HandS.Conv
import HandS.Wide
import HandS.ExcIs
import HandS.IterVal
import HandS.SetFor
import HandS.Dict
import HandS.Flow
import HandS.List
import HandS.Style
import HandS.Iter
import KE.GoesMore
import HandS.Comp
import HandS.WordsExc
import HandS.Defaults
import HandS.Ends
import HandS.ExcOwn
import PyProof.ExcBaseAll.RuntimeError
import KE.GoesEnum
import HandS.Strs
import HandS.More
import KE.KDictDisplayH
import KE.KDictKeyed
import KE.KDictCopyH
import HandS.DictTup
import HandS.SortInts
import PySem.Challenge.RW_cardpacks_k68_whole_dealt_and_riffled_by
set_option Elab.async false
set_option linter.all false
set_option maxRecDepth 100000
/-! DL0: values as trees in the slots of a frame, the monad over the slots, the combinators. Pure Lean. -/
namespace L2.DL
open PySem

inductive Sl where
  | non
  | frz (d : PyData)
  | own (d : PyData)
  | bor (d : PyData)
  | lck (b : Bool) (d : PyData)
abbrev L := List Sl
inductive Opd where
  | v (d : PyData)
  | t (d : PyData)
  | s (i : Nat)
structure Exn where
  cls : Str
  fs : List (Str × PyData)
inductive R (α : Type) where
  | ok (a : α) (l : L)
  | err (x : Exn) (l : L)
  | stk
abbrev M (α : Type) := L → R α

section
variable {α β : Type}
def bd (m : M α) (f : α → M β) : M β := fun l => match m l with
  | .ok a l' => f a l'
  | .err x l' => .err x l'
  | .stk => .stk
def rt (a : α) : M α := fun l => .ok a l
def stuck : M α := fun _ => .stk
def lft : Option α → M α
  | some a => rt a
  | none => stuck
end

def Sl.get : Sl → Option PyData
  | .non => none
  | .frz d => some d
  | .own d => some d
  | .bor d => some d
  | .lck _ d => some d

/-! operands -/
def getO (l : L) : Opd → Option PyData
  | .v d => some d
  | .t d => some d
  | .s i => (l.getD i .non).get
def readO (o : Opd) : M PyData := fun l => match getO l o with
  | some d => .ok d l
  | none => .stk
def isList : PyData → Bool
  | .list _ => true
  | _ => false
/-- the slot is frozen -/
def frzS (i : Nat) : M PyData := fun l => match l.getD i .non with
  | .frz d => .ok d l
  | .own (.list xs) => .ok (.list xs) (l.set i (.frz (.list xs)))
  | .lck false (.list xs) => .ok (.list xs) (l.set i (.frz (.list xs)))
  | _ => .stk
def shareO : Opd → M PyData
  | .v d => rt d
  | .t (.list xs) => rt (.list xs)
  | .t _ => stuck
  | .s i => frzS i
def readAll : List Opd → M (List PyData)
  | [] => rt []
  | o :: os => bd (readO o) fun d => bd (readAll os) fun ds => rt (d :: ds)
def shareAll : List Opd → M (List PyData)
  | [] => rt []
  | o :: os => bd (shareO o) fun d => bd (shareAll os) fun ds => rt (d :: ds)
def evs : List (M Opd) → M (List Opd)
  | [] => rt []
  | m :: ms => bd m fun o => bd (evs ms) fun os => rt (o :: os)
/-- a value made: a new list that is nobody's else (true), or any other value -/
def mkO : PyData × Bool → Opd
  | (d, true) => .t d
  | (d, false) => .v d

/-! expressions -/
def eV (i : Nat) : M Opd := fun l => match l.getD i .non with
  | .non => .stk
  | .frz d => .ok (.v d) l
  | _ => .ok (.s i) l
def eK (d : PyData) : M Opd := rt (.v d)
def eOps (f : List PyData → Option (PyData × Bool)) (es : List (M Opd)) : M Opd :=
  bd (evs es) fun os => bd (readAll os) fun ds => bd (lft (f ds)) fun z => rt (mkO z)
def eTup (es : List (M Opd)) : M Opd := bd (evs es) fun os => bd (shareAll os) fun ds => rt (.v (.tuple ds))
def eLst (es : List (M Opd)) : M Opd := bd (evs es) fun os => bd (shareAll os) fun ds => rt (.t (.list ds))
def truth : PyData → Option Bool
  | .none => some false
  | .bool b => some b
  | .int i => some (i != 0)
  | .str x => if x.length ≤ 1000000 then some (x.length != 0) else none
  | .list xs => some (!xs.isEmpty)
  | .tuple xs => some (!xs.isEmpty)
  | .dict _ => none
def tOf (m : M Opd) : M Bool := bd m fun o => bd (readO o) fun d => lft (truth d)
/-- a test's value as an operand -/
def eT (t : M Bool) : M Opd := bd t fun b => rt (.v (.bool b))
def tAnd (a b : M Bool) : M Bool := bd a fun k => match k with | true => b | false => rt false
def tOr (a b : M Bool) : M Bool := bd a fun k => match k with | true => rt true | false => b
def tNot (a : M Bool) : M Bool := bd a fun k => rt (!k)
def tIte {α : Type} (t : M Bool) (a b : M α) : M α := bd t fun k => match k with | true => a | false => b
/-- a and b, a or b as values -/
def eAnd (a b : M Opd) : M Opd := bd a fun o => bd (readO o) fun d => bd (lft (truth d)) fun k => match k with | true => b | false => rt o
def eOr (a b : M Opd) : M Opd := bd a fun o => bd (readO o) fun d => bd (lft (truth d)) fun k => match k with | true => rt o | false => b
def eNot (a : M Opd) : M Opd := bd a fun o => bd (readO o) fun d => bd (lft (truth d)) fun k => rt (.v (.bool (!k)))
/-- a bool as a test -/
def tB' (m : M Opd) : M Bool := bd m fun o => match o with
  | .v (.bool k) => rt k
  | _ => stuck
/-- a slice's part -/
def evP : Option (M Opd) → M (Option Int)
  | none => rt none
  | some m => bd m fun o => match o with
    | .v (.int i) => rt (some i)
    | _ => stuck
def eSlc (f : PyData → Option Int → Option Int → Option Int → Option (PyData × Bool)) (m : M Opd) (lo hi st : Option (M Opd)) : M Opd :=
  bd m fun o => bd (evP lo) fun a => bd (evP hi) fun b => bd (evP st) fun c => bd (readO o) fun d => bd (lft (f d a b c)) fun z => rt (mkO z)
/-- a op b op' c -/
def eChain (f g : List PyData → Option (PyData × Bool)) (a b c : M Opd) : M Opd :=
  bd a fun x => bd b fun y => bd (readAll [x, y]) fun ds => bd (lft (f ds)) fun z => match z with
    | (.bool true, false) => bd c fun w => bd (readAll [y, w]) fun es => bd (lft (g es)) fun u => rt (mkO u)
    | (.bool false, false) => rt (.v (.bool false))
    | _ => stuck

/-! what is walked -/
structure Its where
  xs : List PyData
  src : List Nat
  /-- the items are pairs made by the walk -/
  pl : Bool := false
def seqOf : PyData → Option (List PyData)
  | .list xs => some xs
  | .tuple xs => some xs
  | _ => none
def srcOf : Opd → List Nat
  | .s i => [i]
  | _ => []
def iSeq (m : M Opd) : M Its := bd m fun o => bd (readO o) fun d => bd (lft (seqOf d)) fun xs => rt ⟨xs, srcOf o, false⟩
def rangeL (a b c : Int) : List PyData :=
  if 0 < c then (List.range ((b - a + c - 1) / c).toNat).map fun k => .int (a + (k : Nat) * c)
  else if c < 0 then (List.range ((a - b - c - 1) / (-c)).toNat).map fun k => .int (a + (k : Nat) * c)
  else []
def small (i : Int) : Bool := decide (-1000000000000 ≤ i) && decide (i ≤ 1000000000000)
def rangeOf : List PyData → Option (List PyData)
  | [.int b] => if small b then some (rangeL 0 b 1) else none
  | [.int a, .int b] => if small a && small b then some (rangeL a b 1) else none
  | [.int a, .int b, .int c] => if small a && small b && c != 0 && decide (c.natAbs < 1000000000) then some (rangeL a b c) else none
  | _ => none
def iRange (es : List (M Opd)) : M Its := bd (evs es) fun os => bd (readAll os) fun ds => bd (lft (rangeOf ds)) fun xs => rt ⟨xs, [], false⟩
def enumL (k : Nat) : List PyData → List PyData
  | [] => []
  | x :: xs => .tuple [.int k, x] :: enumL (k + 1) xs
def iEnum (m : M Opd) : M Its := bd m fun o => bd (readO o) fun d => bd (lft (seqOf d)) fun xs => rt ⟨enumL 0 xs, srcOf o, true⟩
def zipL : List PyData → List PyData → List PyData
  | x :: xs, y :: ys => .tuple [x, y] :: zipL xs ys
  | _, _ => []
def zipOf : List PyData → Option (List PyData)
  | [.list xs, .list ys] => some (zipL xs ys)
  | [.tuple xs, .tuple ys] => some (zipL xs ys)
  | _ => none
def iZip (es : List (M Opd)) : M Its := bd (evs es) fun os => bd (readAll os) fun ds => bd (lft (zipOf ds)) fun xs => rt ⟨xs, os.flatMap srcOf, true⟩
/-- the slots that are locked by a walk (those that are owned), from the first on -/
def lock1 (i : Nat) : M Bool := fun l => match l.getD i .non with
  | .own d => .ok true (l.set i (.lck false d))
  | .bor d => .ok true (l.set i (.lck true d))
  | .lck _ _ => .ok false l
  | .frz _ => .ok false l
  | .non => .stk
def lockAll : List Nat → M (List Nat)
  | [] => rt []
  | i :: is => bd (lock1 i) fun b => bd (lockAll is) fun js => rt (if b then i :: js else js)
def unlock1 (l : L) (i : Nat) : L := match l.getD i .non with
  | .lck false d => l.set i (.own d)
  | .lck true d => l.set i (.bor d)
  | _ => l
def unlockL : List Nat → L → L
  | [], l => l
  | i :: is, l => unlockL is (unlock1 l i)

/-! targets -/
inductive Tg where
  | nm (i : Nat)
  | tp (ts : List Tg)
def setF (i : Nat) (x : Sl) : M Unit := fun l => if i < l.length then match l.getD i .non with
  | .bor _ => .stk
  | .lck true _ => .stk
  | _ => .ok () (l.set i x)
  else .stk
def Tg.fits : Tg → Bool → Bool
  | .nm _, pl => !pl
  | .tp _, _ => true
mutual
def asgT : Tg → PyData → M Unit
  | .nm i, d => setF i (.frz d)
  | .tp ts, .tuple ds => if ts.length = ds.length then asgTs ts ds else stuck
  | .tp _, _ => stuck
def asgTs : List Tg → List PyData → M Unit
  | [], [] => rt ()
  | t :: ts, d :: ds => bd (asgT t d) fun _ => asgTs ts ds
  | _, _ => stuck
end

/-! comprehensions -/
def wipeL (vs : List Nat) (l : L) : L := vs.foldl (fun l i => l.set i .non) l
def backL (vs : List Nat) (l0 l : L) : L := vs.foldl (fun l i => l.set i (l0.getD i .non)) l
def wipeM (vs : List Nat) : M Unit := fun l => .ok () (wipeL vs l)
def compL (vs : List Nat) (tg : Tg) (t : M Bool) (e : M Opd) : List PyData → List PyData → M (List PyData)
  | [], acc => rt acc.reverse
  | x :: xs, acc => bd (asgT tg x) fun _ => bd t fun k => match k with
    | true => bd e fun o => bd (shareO o) fun d => bd (wipeM vs) fun _ => compL vs tg t e xs (d :: acc)
    | false => bd (wipeM vs) fun _ => compL vs tg t e xs acc
mutual
def Tg.slots : Tg → List Nat
  | .nm i => [i]
  | .tp ts => Tg.slotss ts
def Tg.slotss : List Tg → List Nat
  | [] => []
  | t :: ts => t.slots ++ Tg.slotss ts
end
/-- nothing is raised out of it -/
def noErr {α : Type} (m : M α) : M α := fun l => match m l with
  | .ok a l' => .ok a l'
  | _ => .stk
def lim : Nat := 4000000
def cEnd (js vs : List Nat) (l : L) : R (List PyData) → R Opd
  | .ok acc l' => .ok (.t (.list acc)) (unlockL js (backL vs l l'))
  | _ => .stk
def eComp (vs : List Nat) (tg : Tg) (it : M Its) (t : M Bool) (e : M Opd) : M Opd :=
  bd it fun xs => if xs.xs.length ≤ lim ∧ tg.fits xs.pl = true ∧ tg.slots.all vs.contains = true then bd (lockAll xs.src) fun js => fun l => cEnd js vs l (compL vs tg t e xs.xs [] (wipeL vs l))
  else stuck

/-! statements -/
inductive Fl where
  | nx
  | rt (o : Opd)
  | bk
  | ct
abbrev C := M Fl
def sNx : C := rt .nx
def sStk : C := stuck
def sq (a b : C) : C := bd a fun f => match f with
  | .nx => b
  | f => rt f
def seqs : List C → C
  | [] => sNx
  | [c] => c
  | c :: cs => sq c (seqs cs)
/-- what is given back: one's own leaves its slot -/
def retS (i : Nat) : M Opd := fun l => match l.getD i .non with
  | .frz d => .ok (.v d) l
  | .own d => .ok (.t d) (l.set i .non)
  | .lck false d => .ok (.t d) (l.set i .non)
  | _ => .stk
def retO : Opd → M Opd
  | .v d => rt (.v d)
  | .t d => rt (.t d)
  | .s i => retS i
def sRet (m : M Opd) : C := bd m fun o => bd (retO o) fun x => rt (.rt x)
def sRetN : C := rt (.rt (.v .none))
def sBk : C := rt .bk
def sCt : C := rt .ct
def sEx (m : M Opd) : C := bd m fun _ => sNx
inductive TgA where
  | nm (i : Nat)
  | ix (i : Nat) (e : M Opd)
  | tp (ts : List TgA)
def normO : Opd → M Opd
  | .s i => bd (shareO (.s i)) fun d => rt (.v d)
  | o => rt o
def normAll : List Opd → M (List Opd)
  | [] => rt []
  | o :: os => bd (normO o) fun x => bd (normAll os) fun xs => rt (x :: xs)
def slOf : Opd → Sl
  | .v d => .frz d
  | .t d => .own d
  | .s _ => .non
/-- the place of an item: from the end if below nought -/
def ixOf (n : Nat) (i : Int) : Option Nat := if 0 ≤ i then (if i < n then some i.toNat else none) else if -(n : Int) ≤ i then some (i + n).toNat else none
/-! dicts -/
/-- the keys of a dict: ints and texts -/
def keyP : PyData → Option Key
  | .int i => some (.inl i)
  | .str x => some (.inr x)
  | _ => none
def intsP : List PyData → Option (List Int)
  | [] => some []
  | .int i :: ds => (intsP ds).map (i :: ·)
  | _ => none
/-- a key that is a tuple of ints -/
def keyI : PyData → Option (List Int)
  | .tuple ds => intsP ds
  | _ => none
section
variable {κ : Type} [DecidableEq κ]
def lookD (kf : PyData → Option κ) (kvs : List (PyData × PyData)) (k : κ) : Option PyData := (kvs.find? fun p => decide (kf p.1 = some k)).map (·.2)
def putD (kf : PyData → Option κ) (kvs : List (PyData × PyData)) (kd vd : PyData) (k : κ) : List (PyData × PyData) :=
  if (kvs.any fun p => decide (kf p.1 = some k)) = true then kvs.map (fun p => if kf p.1 = some k then (p.1, vd) else p) else kvs ++ [(kd, vd)]
end
/-- what stands under a key: of a right kind? there? -/
def dGet : List (PyData × PyData) → PyData → Option (Option PyData)
  | (.none, .none) :: r, k => (keyI k).map fun ks => lookD keyI r ks
  | kvs, k => (keyP k).map fun kk => lookD keyP kvs kk
def dPut : List (PyData × PyData) → PyData → PyData → Option PyData
  | (.none, .none) :: r, k, d => (keyI k).bind fun ks => if r.length < lim then some (.dict ((.none, .none) :: putD keyI r k d ks)) else none
  | kvs, k, d => (keyP k).bind fun kk => if kvs.length < lim then some (.dict (putD keyP kvs k d kk)) else none
/-- a store of an item -/
def putAt : PyData → PyData → PyData → Option PyData
  | .list xs, .int i, d => (ixOf xs.length i).map fun k => .list (xs.set k d)
  | .dict kvs, n, d => dPut kvs n d
  | _, _, _ => none
def upS (i : Nat) (f : PyData → Option PyData) : M Unit := fun l => match l.getD i .non with
  | .own c => match f c with
    | some c' => .ok () (l.set i (.own c'))
    | none => .stk
  | .bor c => match f c with
    | some c' => .ok () (l.set i (.bor c'))
    | none => .stk
  | _ => .stk
mutual
def asgA : TgA → Opd → M Unit
  | .nm i, o => bd (normO o) fun x => setF i (slOf x)
  | .ix i e, o => bd (shareO o) fun d => bd (eV i) fun _ => bd e fun k => bd (readO k) fun n => upS i fun c => putAt c n d
  | .tp ts, .v (.tuple ds) => if ts.length = ds.length then asgAs ts (ds.map .v) else stuck
  | .tp _, _ => stuck
def asgAs : List TgA → List Opd → M Unit
  | [], [] => rt ()
  | t :: ts, o :: os => bd (asgA t o) fun _ => asgAs ts os
  | _, _ => stuck
end
def sAsg (g : TgA) (m : M Opd) : C := bd m fun o => bd (asgA g o) fun _ => sNx
/-- a, b = x, y: plain names, no tuple is made -/
def setAll : List Nat → List Opd → M Unit
  | [], [] => rt ()
  | i :: is, o :: os => bd (setF i (slOf o)) fun _ => setAll is os
  | _, _ => stuck
def sPar (is : List Nat) (es : List (M Opd)) : C :=
  bd (evs es) fun os => bd (normAll os) fun xs => bd (setAll is xs) fun _ => sNx
def sIf (t : M Bool) (a b : C) : C := tIte t a b
def forL (tg : Tg) (b : C) : List PyData → C
  | [] => sNx
  | x :: xs => bd (asgT tg x) fun _ => bd b fun f => match f with
    | .nx => forL tg b xs
    | .ct => forL tg b xs
    | .bk => sNx
    | .rt o => rt (.rt o)
/-- unlocked behind it, however it ends -/
def thenU {α : Type} (js : List Nat) (m : M α) : M α := fun l => match m l with
  | .ok a l' => .ok a (unlockL js l')
  | .err x l' => .err x (unlockL js l')
  | .stk => .stk
def sFor (tg : Tg) (it : M Its) (b : C) : C :=
  bd it fun xs => if tg.fits xs.pl = true then bd (lockAll xs.src) fun js => thenU js (forL tg b xs.xs) else stuck
def whL (t : M Bool) (b : C) : Nat → C
  | 0 => stuck
  | n + 1 => bd t fun k => match k with
    | false => sNx
    | true => bd b fun f => match f with
      | .nx => whL t b n
      | .ct => whL t b n
      | .bk => sNx
      | .rt o => rt (.rt o)
def fuel : Nat := 1000000
def sWh (t : M Bool) (b : C) : C := whL t b fuel
/-- a method that changes the list in a slot: what it gives, the new content -/
def upM (i : Nat) (f : PyData → Option (PyData × PyData)) : M PyData := fun l => match l.getD i .non with
  | .own c => match f c with
    | some (z, c') => .ok z (l.set i (.own c'))
    | none => .stk
  | .bor c => match f c with
    | some (z, c') => .ok z (l.set i (.bor c'))
    | none => .stk
  | _ => .stk
/-- a list that may be changed lies in the slot -/
def chkL (i : Nat) : M Unit := fun l => match l.getD i .non with
  | .own (.list _) => .ok () l
  | .bor (.list _) => .ok () l
  | _ => .stk
def onL (f : PyData → List PyData → Option (PyData × PyData)) (ds : List PyData) : PyData → Option (PyData × PyData)
  | .list xs => f (.list xs) ds
  | _ => none
def eMut (i : Nat) (f : PyData → List PyData → Option (PyData × PyData)) (es : List (M Opd)) : M Opd :=
  bd (chkL i) fun _ => bd (evs es) fun os => bd (shareAll os) fun ds => bd (upM i (onL f ds)) fun z => rt (.v z)
/-- on a list (true), on a tuple -/
def onS (b : Bool) (f : List PyData → Option (PyData × Bool)) : List PyData → Option (PyData × Bool)
  | .list xs :: ds => if b = true then f (.list xs :: ds) else none
  | .tuple xs :: ds => if b = false then f (.tuple xs :: ds) else none
  | _ => none
/-- a method of a list or a tuple that changes nothing -/
def eMeth (f : List PyData → Option (PyData × Bool)) (m : M Opd) (es : List (M Opd)) : M Opd :=
  bd m fun o => bd (readO o) fun d => bd (lft (seqOf d)) fun _ => bd (evs es) fun os => bd (readO o) fun d2 => bd (readAll os) fun ds => bd (lft (onS (isList d) f (d2 :: ds))) fun z => rt (mkO z)

/-! functions -/
/-- what a def does: its arguments' slots, then what it gives (a new list that is nobody's else: true) and the arguments' slots behind it -/
abbrev FSem := List Sl → R (PyData × Bool)
def endF (n : Nat) : R Fl → R (PyData × Bool)
  | .ok .nx l => .ok (.none, false) (l.take n)
  | .ok (.rt (.v d)) l => .ok (d, false) (l.take n)
  | .ok (.rt (.t d)) l => .ok (d, true) (l.take n)
  | .ok _ _ => .stk
  | .err x l => .err x (l.take n)
  | .stk => .stk
/-- n parameters, k slots -/
def mkF (n k : Nat) (b : C) : FSem := fun args => endF n (b (args ++ List.replicate (k - n) .non))
/-- what may be handed on to be read: no dict -/
def handed : Sl → Option Sl
  | .frz d => some (.frz d)
  | .own (.list xs) => some (.frz (.list xs))
  | .bor (.list xs) => some (.frz (.list xs))
  | .lck _ (.list xs) => some (.frz (.list xs))
  | _ => none
def argOf (l : L) : Bool → Opd → Option Sl
  | true, .s i => match l.getD i .non with
    | .own d => some (.bor d)
    | .bor d => some (.bor d)
    | _ => none
  | true, _ => none
  | false, .v d => some (.frz d)
  | false, .t (.list xs) => some (.frz (.list xs))
  | false, .t _ => none
  | false, .s i => handed (l.getD i .non)
def argsOf (l : L) : List Bool → List Opd → Option (List Sl)
  | [], [] => some []
  | b :: bs, o :: os => match argOf l b o, argsOf l bs os with
    | some a, some as => some (a :: as)
    | _, _ => none
  | _, _ => none
/-- the slots that are lent to be changed, and those lent to be read -/
def mutS : List Bool → List Opd → List Nat
  | true :: bs, .s i :: os => i :: mutS bs os
  | _ :: bs, _ :: os => mutS bs os
  | _, _ => []
def lentS : List Bool → List Opd → List Nat
  | false :: bs, .s i :: os => i :: lentS bs os
  | _ :: bs, _ :: os => lentS bs os
  | _, _ => []
mutual
/-- no list, no dict lies within -/
def pure0 : PyData → Bool
  | .none => true
  | .bool _ => true
  | .int _ => true
  | .str _ => true
  | .tuple xs => pure0s xs
  | .list _ => false
  | .dict _ => false
def pure0s : List PyData → Bool
  | [] => true
  | x :: xs => pure0 x && pure0s xs
end
/-- the changed arguments go back to their slots -/
def backS : List Bool → List Opd → List Sl → L → Option L
  | [], [], [], l => some l
  | true :: bs, .s i :: os, .bor d :: as, l => match l.getD i .non with
    | .own _ => backS bs os as (l.set i (.own d))
    | .bor _ => backS bs os as (l.set i (.bor d))
    | _ => none
  | false :: bs, _ :: os, _ :: as, l => backS bs os as l
  | _, _, _, _ => none
/-- lent slots are frozen -/
def frzAll : List Nat → M Unit
  | [] => rt ()
  | i :: is => bd (frzS i) fun _ => frzAll is
def distinct : List Nat → Bool
  | [] => true
  | i :: is => !is.contains i && distinct is
def okArgs (ms ls : List Nat) : Bool := distinct ms && ms.all fun i => !ls.contains i
/-- behind the call: the result, the caller's slots -/
def afterE (bs : List Bool) (os : List Opd) (l : L) (x : Exn) (as : List Sl) : R Opd := match backS bs os as l with
  | some l1 => bd (frzAll (lentS bs os)) (fun _ l2 => .err x l2) l1
  | none => .stk
def afterK (bs : List Bool) (os : List Opd) (l : L) (z : PyData × Bool) (as : List Sl) : R Opd := match backS bs os as l with
  | some l1 => if ((mutS bs os).isEmpty && pure0 z.1) = true then .ok (mkO z) l1 else bd (frzAll (lentS bs os)) (fun _ => rt (mkO z)) l1
  | none => .stk
def afterC (bs : List Bool) (os : List Opd) (l : L) : R (PyData × Bool) → R Opd
  | .ok z as => afterK bs os l z as
  | .err x as => afterE bs os l x as
  | .stk => .stk
def callM (f : FSem) (bs : List Bool) (os : List Opd) : M Opd := fun l =>
  if okArgs (mutS bs os) (lentS bs os) then match argsOf l bs os with
    | some as => afterC bs os l (f as)
    | none => .stk
  else .stk
def eCall (f : FSem) (bs : List Bool) (es : List (M Opd)) : M Opd := bd (evs es) fun os => callM f bs os
/-- perm: which written argument stands at each parameter -/
def eCallK (f : FSem) (bs : List Bool) (perm : List Nat) (es : List (M Opd)) : M Opd :=
  bd (evs es) fun os => callM f bs (perm.map fun k => os.getD k (.v .none))
end L2.DL
/-! DL1: how the slots' trees lie in the abstract heap -/
namespace L2.DL
open PySem PySem.Spec PyProof.Rows

/-- a tuple that may be asked for its methods: it has no dict of its own -/
def TupD (K : PySem.W.Frag) (H : Hp) (a : Addr) (xs : List V) : Prop :=
  (∃ o : Obj, H a = some (.frz o (.tup xs)) ∧ o.dict = none) ∨
    ∃ (o : Obj) (its : Array Value) (n : Nat), K.lookup a = some o ∧ o.cls = .type "tuple" ∧ o.dict = none ∧ o.data = .seq its n ∧ its.size ≤ sizeLine ∧ Vals xs its.toList
theorem TupD.sq {K : PySem.W.Frag} {H : Hp} {a : Addr} {xs : List V} (h : TupD K H a xs) : SqT K H a xs := by
  rcases h with ⟨o, h, _⟩ | ⟨o, its, n, h1, h2, _, h4, h5, h6⟩
  · exact .inl (.inr ⟨o, h⟩)
  · exact .inr ⟨o, its, n, h1, h2, h4, h5, h6⟩
/-- a list that stands in the module -/
def LstK (K : PySem.W.Frag) (a : Addr) (xs : List V) : Prop := ∃ (o : Obj) (its : Array Value) (n : Nat), K.lookup a = some o ∧ o.cls = .type "list" ∧ o.dict = none ∧ o.data = .seq its n ∧ its.size ≤ sizeLine ∧ Vals xs its.toList
mutual
/-- a value that nobody changes: F holds the lists that are frozen -/
inductive RF (K : PySem.W.Frag) (F : Addr → Prop) (H : Hp) : V → PyData → Prop
  | non : RF K F H .non .none
  | bl (b : Bool) : RF K F H (.bl b) (.bool b)
  | int (i : Int) : RF K F H (.int i) (.int i)
  | str (x : Str) : RF K F H (.str x) (.str x)
  | lst {a : Addr} {vs : List V} {ds : List PyData} : F a → Rd H a (.lst vs) → RFs K F H vs ds → RF K F H (.ref a) (.list ds)
  | lstK {a : Addr} {vs : List V} {ds : List PyData} : LstK K a vs → RFs K F H vs ds → RF K F H (.ref a) (.list ds)
  | tup {a : Addr} {vs : List V} {ds : List PyData} : TupD K H a vs → RFs K F H vs ds → RF K F H (.ref a) (.tuple ds)
inductive RFs (K : PySem.W.Frag) (F : Addr → Prop) (H : Hp) : List V → List PyData → Prop
  | nil : RFs K F H [] []
  | cons {v : V} {vs : List V} {d : PyData} {ds : List PyData} : RF K F H v d → RFs K F H vs ds → RFs K F H (v :: vs) (d :: ds)
end
section
variable {K : PySem.W.Frag} {F F' : Addr → Prop} {H H' : Hp}
theorem RFs.length {vs : List V} {ds : List PyData} (r : RFs K F H vs ds) : vs.length = ds.length := by
  induction vs generalizing ds with
  | nil => cases r; rfl
  | cons v vs ih => cases r with | cons _ t => simp [ih t]
theorem RFs.append {vs ws : List V} {ds es : List PyData} (r : RFs K F H vs ds) (q : RFs K F H ws es) : RFs K F H (vs ++ ws) (ds ++ es) := by
  induction vs generalizing ds with
  | nil => cases r; exact q
  | cons v vs ih => cases r with | cons h t => exact .cons h (ih t)
theorem RFs.get {vs : List V} {ds : List PyData} {i : Nat} {d : PyData} (r : RFs K F H vs ds) (e : ds[i]? = some d) : ∃ v, vs[i]? = some v ∧ RF K F H v d := by
  induction vs generalizing ds i with
  | nil => cases r; simp at e
  | cons v vs ih =>
    cases r with
    | cons h t =>
      cases i with
      | zero => simp at e; subst e; exact ⟨v, rfl, h⟩
      | succ i => simpa using ih t (by simpa using e)
theorem RFs.getV {vs : List V} {ds : List PyData} {i : Nat} {v : V} (r : RFs K F H vs ds) (e : vs[i]? = some v) : ∃ d, ds[i]? = some d ∧ RF K F H v d := by
  induction vs generalizing ds i with
  | nil => simp at e
  | cons w vs ih =>
    cases r with
    | cons h t =>
      cases i with
      | zero => simp at e; subst e; exact ⟨_, rfl, h⟩
      | succ i => simpa using ih t (by simpa using e)
theorem RFs.set {vs : List V} {ds : List PyData} (r : RFs K F H vs ds) (i : Nat) {v : V} {d : PyData} (h : RF K F H v d) : RFs K F H (vs.set i v) (ds.set i d) := by
  induction vs generalizing ds i with
  | nil => cases r; exact .nil
  | cons w vs ih =>
    cases r with
    | cons q t =>
      cases i with
      | zero => exact .cons h t
      | succ i => exact .cons q (ih t i)
theorem RFs.take {vs : List V} {ds : List PyData} (r : RFs K F H vs ds) (n : Nat) : RFs K F H (vs.take n) (ds.take n) := by
  induction vs generalizing ds n with
  | nil => cases r; simp; exact .nil
  | cons w vs ih =>
    cases r with
    | cons q t =>
      cases n with
      | zero => exact .nil
      | succ n => exact .cons q (ih t n)
theorem RFs.drop {vs : List V} {ds : List PyData} (r : RFs K F H vs ds) (n : Nat) : RFs K F H (vs.drop n) (ds.drop n) := by
  induction vs generalizing ds n with
  | nil => cases r; simp; exact .nil
  | cons w vs ih =>
    cases r with
    | cons q t =>
      cases n with
      | zero => exact .cons q t
      | succ n => exact ih t n
theorem RFs.reverse {vs : List V} {ds : List PyData} (r : RFs K F H vs ds) : RFs K F H vs.reverse ds.reverse := by
  induction vs generalizing ds with
  | nil => cases r; exact .nil
  | cons w vs ih =>
    cases r with
    | cons q t =>
      rw [List.reverse_cons, List.reverse_cons]
      exact (ih t).append (.cons q .nil)

/-- carried to another heap -/
structure Keeps (K : PySem.W.Frag) (F F' : Addr → Prop) (H H' : Hp) : Prop where
  lst : ∀ a vs, F a → Rd H a (.lst vs) → F' a ∧ Rd H' a (.lst vs)
  tup : ∀ a vs, TupD K H a vs → TupD K H' a vs
mutual
theorem RF.keep (k : Keeps K F F' H H') : ∀ {v : V} {d : PyData}, RF K F H v d → RF K F' H' v d
  | _, .none, h => by cases h; exact .non
  | _, .bool _, h => by cases h; exact .bl _
  | _, .int _, h => by cases h; exact .int _
  | _, .str _, h => by cases h; exact .str _
  | _, .list ds, h => by
    cases h with
    | lst hF hs ha =>
      obtain ⟨h1, h2⟩ := k.lst _ _ hF hs
      exact .lst h1 h2 (RFs.keep k ha)
    | lstK hs ha => exact .lstK hs (RFs.keep k ha)
  | _, .tuple ds, h => by
    cases h with
    | tup hs ha => exact .tup (k.tup _ _ hs) (RFs.keep k ha)
  | _, .dict _, h => by cases h
theorem RFs.keep (k : Keeps K F F' H H') : ∀ {vs : List V} {ds : List PyData}, RFs K F H vs ds → RFs K F' H' vs ds
  | _, [], h => by cases h; exact .nil
  | _, d :: ds, h => by
    cases h with
    | cons h1 h2 => exact .cons (RF.keep k h1) (RFs.keep k h2)
end
mutual
theorem RF.dp : ∀ {v : V} {d : PyData}, RF K F H v d → Dp K H v d
  | _, .none, h => by cases h; exact .non
  | _, .bool _, h => by cases h; exact .bl _
  | _, .int _, h => by cases h; exact .int _
  | _, .str _, h => by cases h; exact .str _
  | _, .list ds, h => by
    cases h with
    | lst hF hs ha => exact .lst (.inl hs) (RFs.dp ha)
    | lstK hs ha => exact .lst (.inr hs) (RFs.dp ha)
  | _, .tuple ds, h => by
    cases h with
    | tup hs ha => exact .tup hs.sq (RFs.dp ha)
  | _, .dict _, h => by cases h
theorem RFs.dp : ∀ {vs : List V} {ds : List PyData}, RFs K F H vs ds → DpAll K H vs ds
  | _, [], h => by cases h; exact .nil
  | _, d :: ds, h => by
    cases h with
    | cons h1 h2 => exact .cons (RF.dp h1) (RFs.dp h2)
end
end

/-- an entry under a tuple of ints; its hash hangs on no World -/
def entI (x : List Int × Addr × Value) : DictEntry := ⟨reduceHash (Builtin.Tuple.tupleHashOf (x.1.map hashInt)), .ref x.2.1, x.2.2⟩
theorem entI_eq {P : Program} {w : World} : entI = entryOfKey (tupleKind (PySem.intKind P w)) := rfl
/-- a dict with tuples of ints for keys -/
def DXat (xs : List (List Int × Addr × Value)) (a : Addr) (h : Heap) : Prop := (a == sysModules) = false ∧ xs.length ≤ sizeLine ∧ (xs.map (·.1)).Nodup ∧ ∃ o es ep, h.get? a = some o ∧ o.ExactDict ∧ o.data = .dict es ep ∧ es.toList = xs.map entI
inductive DXs (K : PySem.W.Frag) (F : Addr → Prop) (H : Hp) : List (PyData × PyData) → List (List Int × Addr × Value) → Prop
  | nil : DXs K F H [] []
  | cons {kd vd : PyData} {ks : List Int} {b : Addr} {v : V} {u : Value} {kvs : List (PyData × PyData)} {xs : List (List Int × Addr × Value)} : keyI kd = some ks → TupD K H b (ks.map V.int) → RF K F H v vd → RelV v u → DXs K F H kvs xs → DXs K F H ((kd, vd) :: kvs) ((ks, b, u) :: xs)
/-- a dict with ints and texts for keys -/
inductive DKs (K : PySem.W.Frag) (F : Addr → Prop) (H : Hp) : List (PyData × PyData) → List (Key × V) → Prop
  | nil : DKs K F H [] []
  | cons {kd vd : PyData} {k : Key} {v : V} {kvs : List (PyData × PyData)} {es : List (Key × V)} : keyP kd = some k → RF K F H v vd → DKs K F H kvs es → DKs K F H ((kd, vd) :: kvs) ((k, v) :: es)
theorem DKs.keep {K : PySem.W.Frag} {F F' : Addr → Prop} {H H' : Hp} (k : Keeps K F F' H H') {kvs : List (PyData × PyData)} {es : List (Key × V)} (h : DKs K F H kvs es) : DKs K F' H' kvs es := by
  induction h with
  | nil => exact .nil
  | cons h1 h2 _ ih => exact .cons h1 (h2.keep k) ih
theorem DXs.keep {K : PySem.W.Frag} {F F' : Addr → Prop} {H H' : Hp} (k : Keeps K F F' H H') {kvs : List (PyData × PyData)} {xs : List (List Int × Addr × Value)} (h : DXs K F H kvs xs) : DXs K F' H' kvs xs := by
  induction h with
  | nil => exact .nil
  | cons h1 h2 h3 h4 _ ih => exact .cons h1 (k.tup _ _ h2) (h3.keep k) h4 ih

/-- an object that may be changed, at a -/
inductive RT (K : PySem.W.Frag) (F : Addr → Prop) (H : Hp) : PyData → Addr → Prop
  | lst {a : Addr} {vs : List V} {ds : List PyData} : H a = some (.lst vs) → RFs K F H vs ds → RT K F H (.list ds) a
  | dK {a : Addr} {es : List (Key × V)} {kvs : List (PyData × PyData)} : H a = some (.dK es) → DKs K F H kvs es → RT K F H (.dict kvs) a
  | dX {a : Addr} {xs : List (List Int × Addr × Value)} {kvs : List (PyData × PyData)} : H a = some (.ext (DXat xs a)) → DXs K F H kvs xs → RT K F H (.dict ((.none, .none) :: kvs)) a

def Sl.ownish : Sl → Bool
  | .own _ => true
  | .bor _ => true
  | .lck _ _ => true
  | _ => false
def Sl.mut : Sl → Bool
  | .own _ => true
  | .bor _ => true
  | _ => false
theorem Sl.mut_ownish {s : Sl} (h : s.mut = true) : s.ownish = true := by cases s <;> simp [Sl.mut, Sl.ownish] at *

def SlOk (K : PySem.W.Frag) (F : Addr → Prop) (H : Hp) : Sl → Option (Option V) → Prop
  | .non, _ => True
  | .frz d, v => ∃ x, v = some (some x) ∧ RF K F H x d
  | .own d, v => ∃ a, v = some (some (.ref a)) ∧ ¬ F a ∧ RT K F H d a
  | .bor d, v => ∃ a, v = some (some (.ref a)) ∧ ¬ F a ∧ RT K F H d a
  | .lck _ d, v => ∃ a, v = some (some (.ref a)) ∧ ¬ F a ∧ RT K F H d a

/-- slot i has the object at a for its own -/
def Mine (l : L) (σ : St) (a : Addr) : Prop := ∃ (i : Nat) (s : Sl), l[i]? = some s ∧ s.ownish = true ∧ σ[i]? = some (some (.ref a))
def Own (l : L) (σ : St) (a : Addr) : Prop := ∃ (i : Nat) (s : Sl), l[i]? = some s ∧ s.mut = true ∧ σ[i]? = some (some (.ref a))
theorem Own.mine {l : L} {σ : St} {a : Addr} (h : Own l σ a) : Mine l σ a := by
  obtain ⟨i, s, h1, h2, h3⟩ := h
  exact ⟨i, s, h1, Sl.mut_ownish h2, h3⟩

/-- one's own, not borrowed -/
def Sl.ownT : Sl → Bool
  | .own _ => true
  | .lck b _ => !b
  | _ => false
/-- borrowed -/
def Sl.borT : Sl → Bool
  | .bor _ => true
  | .lck b _ => b
  | _ => false
def Sl.lckT : Sl → Bool
  | .lck _ _ => true
  | _ => false
def LckT (l : L) (σ : St) (i : Nat) (a : Addr) : Prop := ∃ s : Sl, l[i]? = some s ∧ s.lckT = true ∧ σ[i]? = some (some (.ref a))
def OwnT (l : L) (σ : St) (a : Addr) : Prop := ∃ (i : Nat) (s : Sl), l[i]? = some s ∧ s.ownT = true ∧ σ[i]? = some (some (.ref a))
def BorT (l : L) (σ : St) (i : Nat) (a : Addr) : Prop := ∃ s : Sl, l[i]? = some s ∧ s.borT = true ∧ σ[i]? = some (some (.ref a))
theorem Sl.ownT_ownish {s : Sl} (h : s.ownT = true) : s.ownish = true := by cases s <;> simp [Sl.ownT, Sl.ownish] at *
theorem Sl.borT_ownish {s : Sl} (h : s.borT = true) : s.ownish = true := by cases s <;> simp [Sl.borT, Sl.ownish] at *
structure Rel (K : PySem.W.Frag) (F : Addr → Prop) (l : L) (σ : St) (H : Hp) : Prop where
  len : l.length = σ.length
  at' : ∀ (i : Nat) (s : Sl), l[i]? = some s → SlOk K F H s σ[i]?
  inj : ∀ (i j : Nat) (s t : Sl) (a : Addr), l[i]? = some s → l[j]? = some t → s.ownish = true → t.ownish = true → σ[i]? = some (some (.ref a)) → σ[j]? = some (some (.ref a)) → i = j
  frz : ∀ a, F a → ∃ vs, Rd H a (.lst vs)
theorem SlOk.ref {K : PySem.W.Frag} {F : Addr → Prop} {H : Hp} {s : Sl} {v : Option (Option V)} (h : SlOk K F H s v) (o : s.ownish = true) : ∃ a d, v = some (some (.ref a)) ∧ ¬ F a ∧ RT K F H d a ∧ s.get = some d := by
  cases s with
  | non => cases o
  | frz _ => cases o
  | own d => obtain ⟨a, h1, h2, h3⟩ := h; exact ⟨a, d, h1, h2, h3, rfl⟩
  | bor d => obtain ⟨a, h1, h2, h3⟩ := h; exact ⟨a, d, h1, h2, h3, rfl⟩
  | lck b d => obtain ⟨a, h1, h2, h3⟩ := h; exact ⟨a, d, h1, h2, h3, rfl⟩
section
variable {K : PySem.W.Frag} {F F' F1 F2 : Addr → Prop} {l l' l1 l2 : L} {σ σ' σ1 σ2 : St} {H H' H1 H2 : Hp} {a : Addr}
theorem RT.there {d : PyData} (h : RT K F H d a) : ∃ o, H a = some o ∧ Mut (some o) := by
  cases h with
  | lst e _ => exact ⟨_, e, trivial⟩
  | dK e _ => exact ⟨_, e, trivial⟩
  | dX e _ => exact ⟨_, e, trivial⟩
theorem Rel.mine (r : Rel K F l σ H) (h : Mine l σ a) : ¬ F a ∧ ∃ d, RT K F H d a := by
  obtain ⟨i, s, h1, h2, h3⟩ := h
  obtain ⟨b, d, e, nf, t, _⟩ := (r.at' i s h1).ref h2
  rw [h3] at e
  cases e
  exact ⟨nf, d, t⟩
theorem Rel.mineT (r : Rel K F l σ H) (h : Mine l σ a) : ∃ o, H a = some o ∧ Mut (some o) := by
  obtain ⟨_, d, t⟩ := r.mine h
  exact t.there

/-- from the one state to the other: what is not one's own stands -/
structure Step (F : Addr → Prop) (l : L) (σ : St) (H : Hp) (F' : Addr → Prop) (l' : L) (σ' : St) (H' : Hp) : Prop where
  frame : ∀ a o, H a = some o → ¬ Own l σ a → H' a = some o
  there : ∀ a o, H a = some o → ∃ o', H' a = some o'
  own : ∀ a, Own l' σ' a → Own l σ a ∨ H a = none
  mine : ∀ a, Mine l' σ' a → Mine l σ a ∨ H a = none
  up : ∀ a, F a → F' a
  down : ∀ a, F' a → F a ∨ Mine l σ a ∨ H a = none
  ownT : ∀ a, OwnT l' σ' a → OwnT l σ a ∨ H a = none
  bor : ∀ i a, BorT l' σ' i a → BorT l σ i a
  lck : ∀ i a, LckT l' σ' i a → LckT l σ i a
theorem Step.refl : Step F l σ H F l σ H := ⟨fun _ _ h _ => h, fun _ o h => ⟨o, h⟩, fun _ h => .inl h, fun _ h => .inl h, fun _ h => h, fun _ h => .inl h, fun _ h => .inl h, fun _ _ h => h, fun _ _ h => h⟩
theorem Step.none_of (s : Step F l σ H F1 l1 σ1 H1) (h : H1 a = none) : H a = none := by
  cases e : H a with
  | none => rfl
  | some o =>
    obtain ⟨o', e'⟩ := s.there a o e
    rw [h] at e'; cases e'
theorem Step.trans (s : Step F l σ H F1 l1 σ1 H1) (t : Step F1 l1 σ1 H1 F2 l2 σ2 H2) : Step F l σ H F2 l2 σ2 H2 where
  frame := fun a o h n => t.frame a o (s.frame a o h n) fun q => by
    rcases s.own a q with z | z
    · exact n z
    · rw [z] at h; cases h
  there := fun a o h => by
    obtain ⟨o1, h1⟩ := s.there a o h
    exact t.there a o1 h1
  own := fun a h => by
    rcases t.own a h with z | z
    · exact s.own a z
    · exact .inr (s.none_of z)
  mine := fun a h => by
    rcases t.mine a h with z | z
    · exact s.mine a z
    · exact .inr (s.none_of z)
  up := fun a h => t.up a (s.up a h)
  down := fun a h => by
    rcases t.down a h with z | z | z
    · exact s.down a z
    · rcases s.mine a z with y | y
      · exact .inr (.inl y)
      · exact .inr (.inr y)
    · exact .inr (.inr (s.none_of z))
  ownT := fun a h => by
    rcases t.ownT a h with z | z
    · exact s.ownT a z
    · exact .inr (s.none_of z)
  bor := fun i a h => s.bor i a (t.bor i a h)
  lck := fun i a h => s.lck i a (t.lck i a h)
theorem Step.keeps (s : Step F l σ H F' l' σ' H') (r : Rel K F l σ H) : Keeps K F F' H H' where
  lst := fun a vs hF h => by
    refine ⟨s.up a hF, ?_⟩
    have n : ¬ Own l σ a := fun q => (r.mine q.mine).1 hF
    rcases h with h | ⟨o, h⟩
    · exact .inl (s.frame a _ h n)
    · exact .inr ⟨o, s.frame a _ h n⟩
  tup := fun a vs h => by
    rcases h with ⟨o, h, hd⟩ | h
    · refine .inl ⟨o, s.frame a _ h fun q => ?_, hd⟩
      obtain ⟨o, e, m⟩ := r.mineT q.mine
      rw [h] at e; cases e; exact m
    · exact .inr h
theorem Step.rf (s : Step F l σ H F' l' σ' H') (r : Rel K F l σ H) {v : V} {d : PyData} (h : RF K F H v d) : RF K F' H' v d := h.keep (s.keeps r)
theorem Step.rfs (s : Step F l σ H F' l' σ' H') (r : Rel K F l σ H) {vs : List V} {ds : List PyData} (h : RFs K F H vs ds) : RFs K F' H' vs ds := h.keep (s.keeps r)
/-- an object that is not one's own keeps its content -/
theorem Step.rt (s : Step F l σ H F' l' σ' H') (r : Rel K F l σ H) {d : PyData} (h : RT K F H d a) (n : ¬ Own l σ a) : RT K F' H' d a := by
  cases h with
  | lst e q => exact .lst (s.frame a _ e n) (s.rfs r q)
  | dK e q => exact .dK (s.frame a _ e n) (q.keep (s.keeps r))
  | dX e q => exact .dX (s.frame a _ e n) (q.keep (s.keeps r))
theorem RT.keep (k : Keeps K F F' H H') {d : PyData} (e : H' a = H a) (h : RT K F H d a) : RT K F' H' d a := by
  cases h with
  | lst e1 q => exact .lst (e.trans e1) (q.keep k)
  | dK e1 q => exact .dK (e.trans e1) (q.keep k)
  | dX e1 q => exact .dX (e.trans e1) (q.keep k)
end
end L2.DL
/-! DL2: readings made of the monad's runs -/
namespace L2.DL
open PySem PySem.Spec PyProof.Rows

section
variable {α β : Type} {m : M α} {f : α → M β}
theorem bd_ok {l l1 : L} {a : α} (h : m l = .ok a l1) : bd m f l = f a l1 := by unfold bd; rw [h]
theorem bd_err {l l1 : L} {x : Exn} (h : m l = .err x l1) : bd m f l = .err x l1 := by unfold bd; rw [h]
theorem bd_stk {l : L} (h : m l = .stk) : bd m f l = .stk := by unfold bd; rw [h]
end

/-- how an exception's tree lies: its class by name, its fields -/
def XRel (K : PySem.W.Frag) (mg : Str → Option Value) (F : Addr → Prop) (H : Hp) (x : Exn) (c : Value) (d : Option Addr) : Prop :=
  ∃ C, mg x.cls = some (.ref C) ∧ c = .ref C ∧ ((x.fs = [] ∧ d = none) ∨ x.fs ≠ [] ∧ ∃ (dd : Addr) (vs : List V), d = some dd ∧ H dd = some (.xd ((x.fs.map (·.1)).zip vs)) ∧ RFs K F H vs (x.fs.map (·.2)))

/-- a state that steps are reckoned from -/
structure Bs where
  F : Addr → Prop
  l : L
  σ : St
  H : Hp
/-- from the base to here -/
abbrev Bs.to (b : Bs) (F : Addr → Prop) (l : L) (σ : St) (H : Hp) : Prop := Step b.F b.l b.σ b.H F l σ H
section
variable (K : PySem.W.Frag) (mg : Str → Option Value) (B : WX)
/-- a run's end: whatever state the result may lie in -/
def Run {α : Type} (b : Bs) (m : M α) (l : L) (σ : St) (Q : α → (Addr → Prop) → L → Hp → Prop) : Prop :=
  match m l with
  | .ok a l' => ∀ F' H', Rel K F' l' σ H' → b.to F' l' σ H' → Q a F' l' H'
  | .err x l' => ∀ F' H' c d, Rel K F' l' σ H' → b.to F' l' σ H' → XRel K mg F' H' x c d → B c d σ H'
  | .stk => False
end
section
variable {K : PySem.W.Frag} {mg : Str → Option Value} {B : WX} {α β : Type} {b : Bs} {F F1 F' : Addr → Prop} {l l1 l' : L} {σ : St} {H H0 H1 H' : Hp}
theorem Run.mono {m : M α} {Q Q' : α → (Addr → Prop) → L → Hp → Prop} (h : Run K mg B b m l σ Q) (k : ∀ a F' l' H', m l = .ok a l' → Rel K F' l' σ H' → b.to F' l' σ H' → Q a F' l' H' → Q' a F' l' H') : Run K mg B b m l σ Q' := by
  unfold Run at *
  cases e : m l with
  | ok a l' => rw [e] at h; exact fun F' H' r s => k a F' l' H' e r s (h F' H' r s)
  | err x l' => rw [e] at h; exact h
  | stk => rw [e] at h; exact h
/-- from a later base -/
theorem Run.rebase {m : M α} {Q : α → (Addr → Prop) → L → Hp → Prop} (h : Run K mg B b m l σ Q) (s : b.to F l σ H) : Run K mg B ⟨F, l, σ, H⟩ m l σ fun a F' l' H' => b.to F' l' σ H' ∧ Q a F' l' H' := by
  unfold Run at *
  cases e : m l with
  | ok a l' => rw [e] at h; exact fun F' H' r t => ⟨s.trans t, h F' H' r (s.trans t)⟩
  | err x l' => rw [e] at h; exact fun F' H' c d r t q => h F' H' c d r (s.trans t) q
  | stk => rw [e] at h; exact h
theorem Run.bd {m : M α} {f : α → M β} {Q : β → (Addr → Prop) → L → Hp → Prop} (h : Run K mg B b (DL.bd m f) l σ Q) : Run K mg B b m l σ fun a F1 l1 H1 => Run K mg B b (f a) l1 σ Q := by
  unfold Run at *
  cases e : m l with
  | stk => rw [bd_stk e] at h; exact h
  | err x l1 => rw [bd_err e] at h; exact h
  | ok a l1 =>
    rw [bd_ok e] at h
    intro F1 H1 r1 s1
    exact h
/-- a part that is pure -/
theorem Run.get {m : M α} {f : α → M β} {Q : β → (Addr → Prop) → L → Hp → Prop} {a : α} {l1 : L} (h : Run K mg B b (DL.bd m f) l σ Q) (e : m l = .ok a l1) : Run K mg B b (f a) l1 σ Q := by
  unfold Run at *
  rw [bd_ok e] at h
  exact h
theorem Run.there {m : M α} {Q : α → (Addr → Prop) → L → Hp → Prop} (h : Run K mg B b m l σ Q) : m l ≠ .stk := by
  intro e
  unfold Run at h
  rw [e] at h
  exact h
theorem Run.rt {a : α} {Q : α → (Addr → Prop) → L → Hp → Prop} (h : Run K mg B b (DL.rt a) l σ Q) {F' : Addr → Prop} {H' : Hp} (r : Rel K F' l σ H') (s : b.to F' l σ H') : Q a F' l H' := h F' H' r s
theorem Run.ok {m : M α} {a : α} {Q : α → (Addr → Prop) → L → Hp → Prop} (h : Run K mg B b m l σ Q) (e : m l = .ok a l') {F' : Addr → Prop} {H' : Hp} (r : Rel K F' l' σ H') (s : b.to F' l' σ H') : Q a F' l' H' := by
  unfold Run at h
  rw [e] at h
  exact h F' H' r s

/-- an operand at a value -/
def ROp (K : PySem.W.Frag) (F : Addr → Prop) (l : L) (σ : St) (H : Hp) : Opd → V → Prop
  | .v d, v => RF K F H v d
  | .t d, v => ∃ a, v = .ref a ∧ ¬ F a ∧ ¬ Mine l σ a ∧ RT K F H d a
  | .s i, v => σ[i]? = some (some v) ∧ i < l.length
def NewO (H : Hp) : Opd → V → Prop
  | .t _, v => ∀ a, v = .ref a → H a = none
  | _, _ => True
theorem NewO.back {σ' : St} {o : Opd} {v : V} (s : Step F l σ H F' l' σ' H') (h : NewO H' o v) : NewO H o v := by
  cases o with
  | v _ => trivial
  | s _ => trivial
  | t d => exact fun a e => s.none_of (h a e)
theorem ROp.step {o : Opd} {v : V} (s : Step F l σ H F' l' σ H') (r : Rel K F l σ H) (r' : Rel K F' l' σ H') (h : ROp K F l σ H o v) : ROp K F' l' σ H' o v := by
  cases o with
  | v d => exact s.rf r h
  | s i =>
    obtain ⟨h1, h2⟩ := h
    exact ⟨h1, by rw [r'.len]; rw [r.len] at h2; exact h2⟩
  | t d =>
    obtain ⟨a, e, nf, nm, q⟩ := h
    obtain ⟨o, ho, _⟩ := q.there
    refine ⟨a, e, fun z => ?_, fun z => ?_, s.rt r q fun z => nm z.mine⟩
    · rcases s.down a z with y | y | y
      · exact nf y
      · exact nm y
      · rw [ho] at y; cases y
    · rcases s.mine a z with y | y
      · exact nm y
      · rw [ho] at y; cases y
/-- operands in a row: no two new lists are one -/
inductive ROps (K : PySem.W.Frag) (F : Addr → Prop) (l : L) (σ : St) (H : Hp) : List Opd → List V → Prop
  | nil : ROps K F l σ H [] []
  | cons {o : Opd} {v : V} {os : List Opd} {vs : List V} : ROp K F l σ H o v → ROps K F l σ H os vs → (∀ d d' a, o = .t d → v = .ref a → (Opd.t d', V.ref a) ∉ os.zip vs) → ROps K F l σ H (o :: os) (v :: vs)
theorem ROps.length {os : List Opd} {vs : List V} (h : ROps K F l σ H os vs) : os.length = vs.length := by
  induction h with
  | nil => rfl
  | cons _ _ _ ih => simp [ih]
theorem ROps.step {os : List Opd} {vs : List V} (s : Step F l σ H F' l' σ H') (r : Rel K F l σ H) (r' : Rel K F' l' σ H') (h : ROps K F l σ H os vs) : ROps K F' l' σ H' os vs := by
  induction h with
  | nil => exact .nil
  | cons h1 _ h3 ih => exact .cons (h1.step s r r') ih h3
def NewOs (H : Hp) (os : List Opd) (vs : List V) : Prop := ∀ p ∈ os.zip vs, NewO H p.1 p.2

/-! the readings -/
variable (K mg B) in
def tM (m : M Opd) : TE := fun σ H Q => ∃ F l, Rel K F l σ H ∧ Run K mg B ⟨F, l, σ, H⟩ m l σ fun o F' l' H' => ∀ v, ROp K F' l' σ H' o v → NewO H o v → Q v H'
variable (K mg B) in
def tMT (t : M Bool) : TT := fun σ H Q => ∃ F l, Rel K F l σ H ∧ Run K mg B ⟨F, l, σ, H⟩ t l σ fun b F' l' H' => Q b H'
variable (K mg B) in
def tMA (ms : List (M Opd)) : TA := fun σ H Q => ∃ F l, Rel K F l σ H ∧ Run K mg B ⟨F, l, σ, H⟩ (evs ms) l σ fun os F' l' H' => ∀ vs, ROps K F' l' σ H' os vs → NewOs H os vs → Q vs H'
theorem tM_of {m : M Opd} {Q : V → Hp → Prop} {Q0 : Opd → (Addr → Prop) → L → Hp → Prop} (r : Rel K F l σ H) (s : b.to F l σ H) (h : Run K mg B b m l σ Q0)
    (k : ∀ o F' l' H' v, Rel K F' l' σ H' → Step F l σ H F' l' σ H' → b.to F' l' σ H' → ROp K F' l' σ H' o v → NewO H o v → Q0 o F' l' H' → Q v H') : tM K mg B m σ H Q :=
  ⟨F, l, r, (h.rebase s).mono fun o F' l' H' e r' s' q v ro nw => k o F' l' H' v r' s' q.1 ro nw q.2⟩
theorem tMT_of {m : M Bool} {Q : Bool → Hp → Prop} {Q0 : Bool → (Addr → Prop) → L → Hp → Prop} (r : Rel K F l σ H) (s : b.to F l σ H) (h : Run K mg B b m l σ Q0)
    (k : ∀ c F' l' H', Rel K F' l' σ H' → Step F l σ H F' l' σ H' → b.to F' l' σ H' → Q0 c F' l' H' → Q c H') : tMT K mg B m σ H Q :=
  ⟨F, l, r, (h.rebase s).mono fun c F' l' H' e r' s' q => k c F' l' H' r' s' q.1 q.2⟩
theorem evs_len : ∀ (ms : List (M Opd)) {l l' : L} {os : List Opd}, evs ms l = .ok os l' → os.length = ms.length
  | [], l, l', os, e => by cases e; rfl
  | m :: ms, l, l', os, e => by
    have e : bd m (fun o => bd (evs ms) fun os => DL.rt (o :: os)) l = .ok os l' := e
    cases h : m l with
    | stk => rw [bd_stk h] at e; cases e
    | err x l1 => rw [bd_err h] at e; cases e
    | ok o l1 =>
      rw [bd_ok h] at e
      cases h2 : evs ms l1 with
      | stk => rw [bd_stk h2] at e; cases e
      | err x l2 => rw [bd_err h2] at e; cases e
      | ok os2 l2 =>
        rw [bd_ok h2] at e
        cases e
        simp [evs_len ms h2]
theorem tMA_of {ms : List (M Opd)} {Q : List V → Hp → Prop} {Q0 : List Opd → (Addr → Prop) → L → Hp → Prop} (r : Rel K F l σ H) (s : b.to F l σ H) (h : Run K mg B b (evs ms) l σ Q0)
    (k : ∀ os F' l' H' vs, os.length = ms.length → Rel K F' l' σ H' → Step F l σ H F' l' σ H' → b.to F' l' σ H' → ROps K F' l' σ H' os vs → NewOs H os vs → Q0 os F' l' H' → Q vs H') : tMA K mg B ms σ H Q :=
  ⟨F, l, r, (h.rebase s).mono fun os F' l' H' e r' s' q vs ro nw => k os F' l' H' vs (evs_len ms e) r' s' q.1 ro nw q.2⟩
theorem tMA_nil {Q : List V → Hp → Prop} (h : tMA K mg B [] σ H Q) : Q [] H := by
  obtain ⟨F, l, r, h⟩ := h
  exact h F H r Step.refl [] .nil (fun p hp => by simp at hp)
theorem ROps.snoc1 {o : Opd} {v : V} {os : List Opd} {vs : List V} (s2 : Step F1 l1 σ H1 F' l' σ H') (r1 : Rel K F1 l1 σ H1) (r2 : Rel K F' l' σ H') (ro : ROp K F1 l1 σ H1 o v) (ros : ROps K F' l' σ H' os vs) (nws : NewOs H1 os vs) : ROps K F' l' σ H' (o :: os) (v :: vs) :=
  .cons (ro.step s2 r1 r2) ros fun d d' a e1 e2 hm => by
    subst e1 e2
    obtain ⟨b, eb, _, _, q⟩ := ro
    cases eb
    obtain ⟨o', ho, _⟩ := q.there
    have z := nws _ hm
    have z' := z a rfl
    rw [ho] at z'; cases z'
theorem NewOs.cons' {o : Opd} {v : V} {os : List Opd} {vs : List V} (s1 : Step F l σ H F1 l1 σ H1) (nw : NewO H o v) (nws : NewOs H1 os vs) : NewOs H (o :: os) (v :: vs) := fun p hp => by
  rcases List.mem_cons.mp (show p ∈ (o, v) :: os.zip vs from hp) with e | e
  · subst e; exact nw
  · exact (nws p e).back s1
theorem tMA_cons {m : M Opd} {ms : List (M Opd)} {Q : List V → Hp → Prop} (h : tMA K mg B (m :: ms) σ H Q) : tM K mg B m σ H fun v H1 => tMA K mg B ms σ H1 fun vs H2 => Q (v :: vs) H2 := by
  obtain ⟨F, l, r, h⟩ := h
  have h1 := Run.bd h
  refine tM_of r Step.refl h1 fun o F1 l1 H1 v r1 s1 b1 ro nw q => ?_
  have q1 := Run.bd q
  refine tMA_of r1 b1 q1 fun os F2 l2 H2 vs _ r2 s2 b2 ros nws q2 => ?_
  exact q2 F2 H2 r2 b2 (v :: vs) (ROps.snoc1 s2 r1 r2 ro ros nws) (NewOs.cons' s1 nw nws)
end
/-- the judgements' readings may be made stronger -/
theorem PE.imp {X : Cx} {e : Expr} {t t' : TE} (h : PE X e t) (k : ∀ σ H Q, t' σ H Q → t σ H Q) : PE X e t' := ⟨fun pins s σ H Q I q => h.run pins s σ H Q I (k σ H Q q)⟩
theorem PT.imp {X : Cx} {e : Expr} {t t' : TT} (h : PT X e t) (k : ∀ σ H Q, t' σ H Q → t σ H Q) : PT X e t' := ⟨fun pins s σ H Q I q => h.run pins s σ H Q I (k σ H Q q)⟩
theorem PA.imp {X : Cx} {e : List Expr} {t t' : TA} (h : PA X e t) (k : ∀ σ H Q, t' σ H Q → t σ H Q) : PA X e t' := ⟨fun pos pins s σ H Q I q => h.run pos pins s σ H Q I (k σ H Q q)⟩
theorem PS.imp {X : Cx} {e : Stmt} {t t' : TS} (h : PS X e t) (k : ∀ D σ H, t' D σ H → t D σ H) : PS X e t' := ⟨fun pins s σ H D I q => h.run pins s σ H D I (k D σ H q)⟩
theorem PSs.imp {X : Cx} {e : List Stmt} {t t' : TS} (h : PSs X e t) (k : ∀ D σ H, t' D σ H → t D σ H) : PSs X e t' := ⟨fun pins s σ H D I q => h.run pins s σ H D I (k D σ H q)⟩
end L2.DL
/-! DL3: reading, sharing, making -/
namespace L2.DL
open PySem PySem.Spec PyProof.Rows
section
variable {K : PySem.W.Frag} {mg : Str → Option Value} {B : WX} {F F1 F' : Addr → Prop} {l l1 l' : L} {σ σ' : St} {H H0 H1 H' : Hp}

theorem getD_some {i : Nat} (h : i < l.length) : l[i]? = some (l.getD i .non) := by
  rw [List.getD_eq_getElem?_getD, List.getElem?_eq_getElem h]; rfl
theorem getD_at {i : Nat} {s : Sl} (h : l.getD i .non = s) (n : s ≠ .non) : l[i]? = some s := by
  rw [List.getD_eq_getElem?_getD] at h
  cases e : l[i]? with
  | none => rw [e] at h; exact absurd h.symm n
  | some t => rw [e] at h; exact congrArg some h

/-- what may be read as d -/
def RD (K : PySem.W.Frag) (F : Addr → Prop) (H : Hp) (v : V) (d : PyData) : Prop := RF K F H v d ∨ ∃ a, v = .ref a ∧ RT K F H d a
inductive RDs (K : PySem.W.Frag) (F : Addr → Prop) (H : Hp) : List V → List PyData → Prop
  | nil : RDs K F H [] []
  | cons {v : V} {vs : List V} {d : PyData} {ds : List PyData} : RD K F H v d → RDs K F H vs ds → RDs K F H (v :: vs) (d :: ds)
theorem ROp.read {o : Opd} {v : V} {d : PyData} (r : Rel K F l σ H) (h : ROp K F l σ H o v) (e : getO l o = some d) : RD K F H v d := by
  cases o with
  | v d' => cases e; exact .inl h
  | t d' => cases e; obtain ⟨a, e, _, _, q⟩ := h; exact .inr ⟨a, e, q⟩
  | s i =>
    obtain ⟨h1, h2⟩ := h
    have hs := getD_some h2
    have ok := r.at' i _ hs
    have e : (l.getD i .non).get = some d := e
    revert ok e
    generalize l.getD i .non = s
    intro ok e
    cases s with
    | non => cases e
    | frz d' => cases e; obtain ⟨x, e1, q⟩ := ok; rw [h1] at e1; cases e1; exact .inl q
    | own d' => cases e; obtain ⟨a, e1, _, q⟩ := ok; rw [h1] at e1; cases e1; exact .inr ⟨a, rfl, q⟩
    | bor d' => cases e; obtain ⟨a, e1, _, q⟩ := ok; rw [h1] at e1; cases e1; exact .inr ⟨a, rfl, q⟩
    | lck b d' => cases e; obtain ⟨a, e1, _, q⟩ := ok; rw [h1] at e1; cases e1; exact .inr ⟨a, rfl, q⟩
theorem readO_eq {o : Opd} {d : PyData} : readO o l = .ok d l' ↔ getO l o = some d ∧ l' = l := by
  unfold readO
  cases e : getO l o with
  | none => simp
  | some d' => simp; exact fun _ => eq_comm
theorem readO_cases (o : Opd) : (∃ d, getO l o = some d ∧ readO o l = .ok d l) ∨ readO o l = .stk := by
  unfold readO
  cases e : getO l o with
  | none => exact .inr rfl
  | some d' => exact .inl ⟨d', rfl, rfl⟩
theorem readAll_cases : ∀ os : List Opd, (∃ ds, readAll os l = .ok ds l ∧ ∀ {K : PySem.W.Frag} {F : Addr → Prop} {σ : St} {H : Hp} {vs : List V}, Rel K F l σ H → ROps K F l σ H os vs → RDs K F H vs ds) ∨ readAll os l = .stk
  | [] => .inl ⟨[], rfl, fun _ h => by cases h; exact .nil⟩
  | o :: os => by
    rcases readO_cases (l := l) o with ⟨d, e, e1⟩ | e1
    · rcases readAll_cases os with ⟨ds, e2, k⟩ | e2
      · refine .inl ⟨d :: ds, ?_, fun r h => ?_⟩
        · show bd (readO o) _ l = _
          rw [bd_ok e1, bd_ok e2]; rfl
        · cases h with
          | cons h1 h2 _ => exact .cons (h1.read r e) (k r h2)
      · refine .inr ?_
        show bd (readO o) _ l = _
        rw [bd_ok e1, bd_stk e2]
    · refine .inr ?_
      show bd (readO o) _ l = _
      rw [bd_stk e1]
theorem lft_cases {α : Type} (o : Option α) : (∃ a, o = some a ∧ lft o l = .ok a l) ∨ lft o l = .stk := by
  cases o with
  | none => exact .inr rfl
  | some a => exact .inl ⟨a, rfl, rfl⟩

/-- from F to F', only new -/
theorem Keeps.up (h : ∀ a, F a → F' a) : Keeps K F F' H H := ⟨fun a vs hF q => ⟨h a hF, q⟩, fun _ _ q => q⟩
theorem SlOk.up {s : Sl} {v : Option (Option V)} (h : ∀ a, F a → F' a) (n : ∀ a, v = some (some (.ref a)) → s.ownish = true → ¬ F' a) (k : SlOk K F H s v) : SlOk K F' H s v := by
  cases s with
  | non => trivial
  | frz d => obtain ⟨x, e, q⟩ := k; exact ⟨x, e, q.keep (Keeps.up h)⟩
  | own d => obtain ⟨a, e, _, q⟩ := k; exact ⟨a, e, n a e rfl, q.keep (Keeps.up h) rfl⟩
  | bor d => obtain ⟨a, e, _, q⟩ := k; exact ⟨a, e, n a e rfl, q.keep (Keeps.up h) rfl⟩
  | lck b d => obtain ⟨a, e, _, q⟩ := k; exact ⟨a, e, n a e rfl, q.keep (Keeps.up h) rfl⟩
theorem RT.frz {a : Addr} {d : PyData} (h : RT K F H d a) (ls : ∃ xs, d = .list xs) : ∃ vs, Rd H a (.lst vs) ∧ ∀ F' : Addr → Prop, (∀ b, F b → F' b) → F' a → RF K F' H (.ref a) d := by
  obtain ⟨xs, rfl⟩ := ls
  cases h with
  | lst e q => exact ⟨_, .inl e, fun F' u hF => .lst hF (.inl e) (q.keep (Keeps.up u))⟩
theorem isList_ex {d : PyData} (h : isList d = true) : ∃ xs, d = .list xs := by
  cases d <;> simp [isList] at h; exact ⟨_, rfl⟩
/-- an address is frozen -/
def addF (F : Addr → Prop) (a : Addr) : Addr → Prop := fun b => F b ∨ b = a
theorem Mine.set_sub {i : Nat} {s : Sl} (hs : s.ownish = true → ∃ t, l[i]? = some t ∧ t.ownish = true) {a : Addr} (h : Mine (l.set i s) σ a) : Mine l σ a := by
  obtain ⟨j, t, h1, h2, h3⟩ := h
  by_cases e : i = j
  · subst e
    by_cases hl : i < l.length
    · rw [List.getElem?_set_self hl] at h1
      cases h1
      obtain ⟨t', e1, e2⟩ := hs h2
      exact ⟨i, t', e1, e2, h3⟩
    · rw [List.getElem?_eq_none (by simpa using hl)] at h1; cases h1
  · rw [List.getElem?_set_ne e] at h1
    exact ⟨j, t, h1, h2, h3⟩
theorem Own.set_sub {i : Nat} {s : Sl} (hs : s.mut = true → ∃ t, l[i]? = some t ∧ t.mut = true) {a : Addr} (h : Own (l.set i s) σ a) : Own l σ a := by
  obtain ⟨j, t, h1, h2, h3⟩ := h
  by_cases e : i = j
  · subst e
    by_cases hl : i < l.length
    · rw [List.getElem?_set_self hl] at h1
      cases h1
      obtain ⟨t', e1, e2⟩ := hs h2
      exact ⟨i, t', e1, e2, h3⟩
    · rw [List.getElem?_eq_none (by simpa using hl)] at h1; cases h1
  · rw [List.getElem?_set_ne e] at h1
    exact ⟨j, t, h1, h2, h3⟩
theorem set_at {i j : Nat} {s t : Sl} (h : (l.set i s)[j]? = some t) : (j = i ∧ t = s) ∨ (j ≠ i ∧ l[j]? = some t) := by
  by_cases e : i = j
  · subst e
    by_cases hl : i < l.length
    · rw [List.getElem?_set_self hl] at h; cases h; exact .inl ⟨rfl, rfl⟩
    · rw [List.getElem?_eq_none (by simpa using hl)] at h; cases h
  · rw [List.getElem?_set_ne e] at h; exact .inr ⟨fun z => e z.symm, h⟩
/-- what a sharing leaves -/
structure Shared' (K : PySem.W.Frag) (b : Bs) (F : Addr → Prop) (l : L) (σ : St) (H : Hp) (o : Opd) (v : V) (d : PyData) (F' : Addr → Prop) (l' : L) : Prop where
  rel : Rel K F' l' σ H
  to : b.to F' l' σ H
  up : ∀ a, F a → F' a
  only : ∀ a, F' a → F a ∨ (v = .ref a ∧ ((∃ d, o = .t d) ∨ Mine l σ a))
  rf : RF K F' H v d
  sub : ∀ a, Mine l' σ a → Mine l σ a
/-- a new list that is nobody's is frozen -/
theorem freezeT {b : Bs} {a : Addr} {xs : List PyData} (r : Rel K F l σ H) (s : b.to F l σ H) (nm : ¬ Mine l σ a) (q : RT K F H (.list xs) a) (nw : b.H a = none) : Shared' K b F l σ H (.t (.list xs)) (.ref a) (.list xs) (addF F a) l := by
  obtain ⟨vs, h1, h2⟩ := q.frz ⟨_, rfl⟩
  refine ⟨⟨r.len, fun i s e => (r.at' i s e).up (fun _ z => .inl z) fun b eb ob z => ?_, r.inj, fun b z => ?_⟩, ⟨s.frame, s.there, s.own, s.mine, fun b z => .inl (s.up b z), fun b z => ?_, s.ownT, s.bor, s.lck⟩, fun _ z => .inl z, fun b z => ?_, h2 _ (fun _ z => .inl z) (.inr rfl), fun _ z => z⟩
  · rcases z with z | z
    · exact (r.mine ⟨i, s, e, ob, eb⟩).1 z
    · subst z; exact nm ⟨i, s, e, ob, eb⟩
  · rcases z with z | z
    · exact r.frz b z
    · subst z; exact ⟨vs, h1⟩
  · rcases z with z | z
    · exact s.down b z
    · subst z; exact .inr (.inr nw)
  · rcases z with z | z
    · exact .inl z
    · subst z; exact .inr ⟨rfl, .inl ⟨_, rfl⟩⟩
/-- one's own list is frozen -/
theorem freezeS {b : Bs} {i : Nat} {a : Addr} {s0 : Sl} {xs : List PyData} (r : Rel K F l σ H) (s : b.to F l σ H) (hs : l[i]? = some s0) (ho : s0.ownish = true) (hg : s0.get = some (.list xs)) (hv : σ[i]? = some (some (.ref a))) :
    Shared' K b F l σ H (.s i) (.ref a) (.list xs) (addF F a) (l.set i (.frz (.list xs))) := by
  obtain ⟨a', d', e1, nf, q, e2⟩ := (r.at' i s0 hs).ref ho
  rw [hv] at e1; cases e1
  rw [hg] at e2; cases e2
  have mi : Mine l σ a := ⟨i, s0, hs, ho, hv⟩
  obtain ⟨vs, h1, h2⟩ := q.frz ⟨_, rfl⟩
  have sub : ∀ c, Mine (l.set i (.frz (.list xs))) σ c → Mine l σ c ∧ c ≠ a := fun c ⟨j, t, g1, g2, g3⟩ => by
    rcases set_at g1 with ⟨_, e⟩ | ⟨nj, g⟩
    · subst e; cases g2
    · refine ⟨⟨j, t, g, g2, g3⟩, fun z => nj ?_⟩
      subst z
      exact r.inj j i t s0 c g hs g2 ho g3 hv
  have subO : ∀ c, Own (l.set i (.frz (.list xs))) σ c → Own l σ c := fun c h => Own.set_sub (by intro z; cases z) h
  have subT : ∀ c, OwnT (l.set i (.frz (.list xs))) σ c → OwnT l σ c := fun c ⟨j, t, g1, g2, g3⟩ => by
    rcases set_at g1 with ⟨_, e⟩ | ⟨nj, g⟩
    · subst e; cases g2
    · exact ⟨j, t, g, g2, g3⟩
  have subB : ∀ j c, BorT (l.set i (.frz (.list xs))) σ j c → BorT l σ j c := fun j c ⟨t, g1, g2, g3⟩ => by
    rcases set_at g1 with ⟨_, e⟩ | ⟨nj, g⟩
    · subst e; cases g2
    · exact ⟨t, g, g2, g3⟩
  have subL : ∀ j c, LckT (l.set i (.frz (.list xs))) σ j c → LckT l σ j c := fun j c ⟨t, g1, g2, g3⟩ => by
    rcases set_at g1 with ⟨_, e⟩ | ⟨nj, g⟩
    · subst e; cases g2
    · exact ⟨t, g, g2, g3⟩
  refine ⟨⟨by rw [List.length_set]; exact r.len, fun j t g => ?_, fun j k t u c g1 g2 o1 o2 => ?_, fun c z => ?_⟩, ⟨s.frame, s.there, fun c z => s.own c (subO c z), fun c z => s.mine c (sub c z).1, fun c z => .inl (s.up c z), fun c z => ?_, fun c z => s.ownT c (subT c z), fun j c z => s.bor j c (subB j c z), fun j c z => s.lck j c (subL j c z)⟩, fun _ z => .inl z, fun c z => ?_, h2 _ (fun _ z => .inl z) (.inr rfl), fun c z => (sub c z).1⟩
  · rcases set_at g with ⟨ej, e⟩ | ⟨nj, g'⟩
    · subst e ej
      exact ⟨.ref a, hv, h2 _ (fun _ z => .inl z) (.inr rfl)⟩
    · refine (r.at' j t g').up (fun _ z => .inl z) fun c ec oc z => ?_
      rcases z with z | z
      · exact (r.mine ⟨j, t, g', oc, ec⟩).1 z
      · subst z; exact nj (r.inj j i t s0 c g' hs oc ho ec hv)
  · intro e1 e2
    rcases set_at g1 with ⟨_, e⟩ | ⟨_, g1'⟩
    · subst e; cases o1
    · rcases set_at g2 with ⟨_, e⟩ | ⟨_, g2'⟩
      · subst e; cases o2
      · exact r.inj j k t u c g1' g2' o1 o2 e1 e2
  · rcases z with z | z
    · exact r.frz c z
    · subst z; exact ⟨vs, h1⟩
  · rcases z with z | z
    · exact s.down c z
    · subst z
      rcases s.mine c mi with y | y
      · exact .inr (.inl y)
      · exact .inr (.inr y)
  · rcases z with z | z
    · exact .inl z
    · subst z; exact .inr ⟨rfl, .inr mi⟩
theorem frzS_cases (i : Nat) : (∃ d l', frzS i l = .ok d l' ∧ ∀ {K : PySem.W.Frag} {b : Bs} {F : Addr → Prop} {σ : St} {H : Hp} {v : V}, Rel K F l σ H → b.to F l σ H → ROp K F l σ H (.s i) v → ∃ F', Shared' K b F l σ H (.s i) v d F' l') ∨ frzS i l = .stk := by
  unfold frzS
  cases e : l.getD i .non with
  | non => exact .inr rfl
  | bor _ => exact .inr rfl
  | frz d =>
    refine .inl ⟨d, l, rfl, fun {K b F σ H v} r s ro => ⟨F, r, s, fun _ z => z, fun _ z => .inl z, ?_, fun _ z => z⟩⟩
    obtain ⟨x, e1, q⟩ := r.at' i _ (getD_at e (by simp))
    rw [ro.1] at e1; cases e1; exact q
  | own d =>
    cases d with
    | list xs =>
      refine .inl ⟨_, _, rfl, fun {K b F σ H v} r s ro => ?_⟩
      have hs := getD_at e (by simp)
      obtain ⟨a, d, ea, _⟩ := (r.at' i _ hs).ref rfl
      rw [ro.1] at ea; cases ea
      exact ⟨_, freezeS r s hs rfl rfl ro.1⟩
    | none => exact .inr rfl
    | bool _ => exact .inr rfl
    | int _ => exact .inr rfl
    | str _ => exact .inr rfl
    | tuple _ => exact .inr rfl
    | dict _ => exact .inr rfl
  | lck bb d =>
    cases bb with
    | true => exact .inr rfl
    | false =>
      cases d with
      | list xs =>
        refine .inl ⟨_, _, rfl, fun {K b F σ H v} r s ro => ?_⟩
        have hs := getD_at e (by simp)
        obtain ⟨a, d, ea, _⟩ := (r.at' i _ hs).ref rfl
        rw [ro.1] at ea; cases ea
        exact ⟨_, freezeS r s hs rfl rfl ro.1⟩
      | none => exact .inr rfl
      | bool _ => exact .inr rfl
      | int _ => exact .inr rfl
      | str _ => exact .inr rfl
      | tuple _ => exact .inr rfl
      | dict _ => exact .inr rfl
theorem shareO_cases (o : Opd) : (∃ d l', shareO o l = .ok d l' ∧ ∀ {K : PySem.W.Frag} {b : Bs} {F : Addr → Prop} {σ : St} {H : Hp} {v : V}, Rel K F l σ H → b.to F l σ H → ROp K F l σ H o v → NewO b.H o v → ∃ F', Shared' K b F l σ H o v d F' l') ∨ shareO o l = .stk := by
  cases o with
  | v d => exact .inl ⟨d, l, rfl, fun {K b F σ H v} r s ro nw => ⟨F, r, s, fun _ z => z, fun _ z => .inl z, ro, fun _ z => z⟩⟩
  | t d =>
    cases d with
    | list xs =>
      refine .inl ⟨_, _, rfl, fun {K b F σ H v} r s ro nw => ?_⟩
      obtain ⟨a, rfl, _, nm, q⟩ := ro
      exact ⟨_, freezeT r s nm q (nw a rfl)⟩
    | none => exact .inr rfl
    | bool _ => exact .inr rfl
    | int _ => exact .inr rfl
    | str _ => exact .inr rfl
    | tuple _ => exact .inr rfl
    | dict _ => exact .inr rfl
  | s i =>
    rcases frzS_cases (l := l) i with ⟨d, l', e, k⟩ | e
    · exact .inl ⟨d, l', e, fun r s ro _ => k r s ro⟩
    · exact .inr e
/-- the other operands behind a sharing -/
theorem Shared'.rops {b : Bs} {o : Opd} {v : V} {d : PyData} {os : List Opd} {vs : List V} (h : Shared' K b F l σ H o v d F' l') (ap : ∀ d d' a, o = .t d → v = .ref a → (Opd.t d', V.ref a) ∉ os.zip vs) (hl : l'.length = l.length) (ros : ROps K F l σ H os vs) : ROps K F' l' σ H os vs := by
  induction ros with
  | nil => exact .nil
  | @cons o2 v2 os vs h1 h2 h3 ih =>
    refine .cons ?_ (ih fun d d' a e1 e2 hm => ap d d' a e1 e2 (by simp [hm])) h3
    cases o2 with
    | v d2 => exact RF.keep (Keeps.up h.up) h1
    | s i => exact ⟨h1.1, by rw [hl]; exact h1.2⟩
    | t d2 =>
      obtain ⟨a, e, nf, nm, q⟩ := h1
      refine ⟨a, e, fun z => ?_, fun z => nm (h.sub a z), q.keep (Keeps.up h.up) rfl⟩
      rcases h.only a z with y | ⟨y1, y2 | y2⟩
      · exact nf y
      · obtain ⟨d3, e3⟩ := y2
        exact ap d3 d2 a e3 y1 (by simp [e])
      · exact nm y2
theorem shareO_len {o : Opd} {d : PyData} (e : shareO o l = .ok d l') : l'.length = l.length := by
  cases o with
  | v d => cases e; rfl
  | t d => cases d <;> first | (cases e; rfl) | cases e
  | s i =>
    have e : frzS i l = .ok d l' := e
    unfold frzS at e
    split at e <;> first | (cases e; rfl) | (cases e; simp) | cases e
theorem shareAll_cases : ∀ (os : List Opd) (l : L), (∃ ds l', shareAll os l = .ok ds l' ∧ ∀ {K : PySem.W.Frag} {b : Bs} {F : Addr → Prop} {σ : St} {H : Hp} {vs : List V}, Rel K F l σ H → b.to F l σ H → ROps K F l σ H os vs → NewOs b.H os vs → ∃ F', Rel K F' l' σ H ∧ b.to F' l' σ H ∧ (∀ a, F a → F' a) ∧ RFs K F' H vs ds) ∨ shareAll os l = .stk
  | [], l => .inl ⟨[], l, rfl, fun {K b F σ H vs} r s ro nw => by cases ro; exact ⟨F, r, s, fun _ z => z, .nil⟩⟩
  | o :: os, l => by
    rcases shareO_cases (l := l) o with ⟨d, l1, e1, k1⟩ | e1
    · rcases shareAll_cases os l1 with ⟨ds, l2, e2, k2⟩ | e2
      · refine .inl ⟨d :: ds, l2, ?_, fun {K b F σ H vs} r s ro nw => ?_⟩
        · show bd (shareO o) _ l = _
          rw [bd_ok e1, bd_ok e2]; rfl
        · cases ro with
          | @cons _ v _ vs h1 h2 h3 =>
            have nw1 : NewO b.H o v := nw (o, v) (by simp)
            have nw2 : NewOs b.H os vs := fun p hp => nw p (by simp [hp])
            obtain ⟨F1, sh⟩ := k1 r s h1 nw1
            obtain ⟨F2, r2, s2, u2, q2⟩ := k2 sh.rel sh.to (sh.rops h3 (shareO_len e1) h2) nw2
            exact ⟨F2, r2, s2, fun a z => u2 a (sh.up a z), .cons (sh.rf.keep (Keeps.up u2)) q2⟩
      · refine .inr ?_
        show bd (shareO o) _ l = _
        rw [bd_ok e1, bd_stk e2]
    · refine .inr ?_
      show bd (shareO o) _ l = _
      rw [bd_stk e1]

/-! new objects -/
/-- nothing stood there -/
theorem Rel.noF (r : Rel K F l σ H) {p : Addr} (h : H p = none) : ¬ F p := fun z => by
  obtain ⟨vs, q | ⟨o, q⟩⟩ := r.frz p z <;> rw [h] at q <;> cases q
theorem Rel.noMine (r : Rel K F l σ H) {p : Addr} (h : H p = none) : ¬ Mine l σ p := fun z => by
  obtain ⟨o, e, _⟩ := r.mineT z
  rw [h] at e; cases e
theorem Keeps.laid {p : Addr} {o : HO} (h : H p = none) : Keeps K F F H (upd H p o) where
  lst := fun a vs hF q => by
    refine ⟨hF, ?_⟩
    rcases q with q | ⟨u, q⟩
    · exact .inl (by rw [upd_ne (ne_of_none q h)]; exact q)
    · exact .inr ⟨u, by rw [upd_ne (ne_of_none q h)]; exact q⟩
  tup := fun a vs q => by
    rcases q with ⟨u, q, hd⟩ | q
    · exact .inl ⟨u, by rw [upd_ne (ne_of_none q h)]; exact q, hd⟩
    · exact .inr q
theorem RT.laid {p a : Addr} {o : HO} {d : PyData} (h : H p = none) (q : RT K F H d a) : RT K F (upd H p o) d a := by
  obtain ⟨u, e, _⟩ := q.there
  exact q.keep (Keeps.laid h) (upd_ne (ne_of_none e h))
theorem Rel.laid {p : Addr} {o : HO} (r : Rel K F l σ H) (h : H p = none) : Rel K F l σ (upd H p o) where
  len := r.len
  at' := fun i s e => by
    have k := r.at' i s e
    cases s with
    | non => trivial
    | frz d => obtain ⟨x, e1, q⟩ := k; exact ⟨x, e1, q.keep (Keeps.laid h)⟩
    | own d => obtain ⟨a, e1, n, q⟩ := k; exact ⟨a, e1, n, q.laid h⟩
    | bor d => obtain ⟨a, e1, n, q⟩ := k; exact ⟨a, e1, n, q.laid h⟩
    | lck b d => obtain ⟨a, e1, n, q⟩ := k; exact ⟨a, e1, n, q.laid h⟩
  inj := r.inj
  frz := fun a hF => by
    obtain ⟨vs, q⟩ := r.frz a hF
    exact ⟨vs, ((Keeps.laid (K := K) (F := F) h).lst a vs hF q).2⟩
theorem Bs.to.laid {b : Bs} {p : Addr} {o : HO} (s : b.to F l σ H) (h : H p = none) : b.to F l σ (upd H p o) where
  frame := fun a u e n => by
    have q := s.frame a u e n
    rw [upd_ne (ne_of_none q h)]; exact q
  there := fun a u e => by
    obtain ⟨u', q⟩ := s.there a u e
    exact ⟨u', by rw [upd_ne (ne_of_none q h)]; exact q⟩
  own := s.own
  mine := s.mine
  up := s.up
  down := s.down
  ownT := s.ownT
  bor := s.bor
  lck := s.lck

/-- what a value's making leaves: the heap as it was, or with one new object -/
inductive ResOk (K : PySem.W.Frag) (F : Addr → Prop) (H : Hp) : PyData × Bool → Hp → V → Prop
  | same {d : PyData} {w : V} : RF K F H w d → ResOk K F H (d, false) H w
  | junk {d : PyData} {w : V} {p : Addr} {o : HO} : H p = none → RF K F H w d → ResOk K F H (d, false) (upd H p o) w
  | tup {ds : List PyData} {vs : List V} {p : Addr} {o : Obj} : H p = none → o.dict = none → RFs K F H vs ds → ResOk K F H (.tuple ds, false) (upd H p (.frz o (.tup vs))) (.ref p)
  | lst {ds : List PyData} {vs : List V} {p : Addr} : H p = none → RFs K F H vs ds → ResOk K F H (.list ds, true) (upd H p (.lst vs)) (.ref p)
  | new {d : PyData} {p : Addr} {o : HO} : H p = none → RT K F (upd H p o) d p → ResOk K F H (d, true) (upd H p o) (.ref p)
  | lst2 {ds : List PyData} {vs : List V} {p q : Addr} {o : HO} : H q = none → upd H q o p = none → RFs K F (upd H q o) vs ds → ResOk K F H (.list ds, true) (upd (upd H q o) p (.lst vs)) (.ref p)
theorem ResOk.fin {b : Bs} {z : PyData × Bool} {w : V} (h : ResOk K F H z H' w) (r : Rel K F l σ H) (s : b.to F l σ H) : Rel K F l σ H' ∧ b.to F l σ H' ∧ ROp K F l σ H' (mkO z) w ∧ NewO b.H (mkO z) w := by
  cases h with
  | same q => exact ⟨r, s, q, trivial⟩
  | junk hp q => exact ⟨r.laid hp, s.laid hp, q.keep (Keeps.laid hp), trivial⟩
  | @tup ds vs p o hp hd q => exact ⟨r.laid hp, s.laid hp, .tup (.inl ⟨o, upd_same, hd⟩) (q.keep (Keeps.laid hp)), trivial⟩
  | @lst ds vs p hp q =>
    refine ⟨r.laid hp, s.laid hp, ⟨p, rfl, r.noF hp, r.noMine hp, .lst upd_same (q.keep (Keeps.laid hp))⟩, fun a e => ?_⟩
    cases e; exact s.none_of hp
  | @new d p o hp q =>
    refine ⟨r.laid hp, s.laid hp, ⟨p, rfl, r.noF hp, r.noMine hp, q⟩, fun a e => ?_⟩
    cases e; exact s.none_of hp
  | @lst2 ds vs p c o hc hp q =>
    have r1 := r.laid (o := o) hc
    have s1 := Bs.to.laid (o := o) s hc
    refine ⟨r1.laid hp, Bs.to.laid s1 hp, ⟨p, rfl, r1.noF hp, r1.noMine hp, .lst upd_same (q.keep (Keeps.laid hp))⟩, fun a e => ?_⟩
    cases e; exact s1.none_of hp

/-- an operation upon values: the rule's wish r is met where the trees' function f gives something -/
def OpsOk (K : PySem.W.Frag) (r : List V → Hp → VK → Prop) (f : List PyData → Option (PyData × Bool)) : Prop :=
  ∀ (F : Addr → Prop) (l : L) (σ : St) (H : Hp) (vs : List V) (ds : List PyData) (z : PyData × Bool) (Q : VK), Rel K F l σ H → RDs K F H vs ds → f ds = some z → (∀ w H', ResOk K F H z H' w → Q w H') → r vs H Q
/-- behind the operands -/
theorem ops_fin {b : Bs} {r : List V → Hp → VK → Prop} {f : List PyData → Option (PyData × Bool)} (ok : OpsOk K r f) {os : List Opd} {vs : List V} {Q : VK} {Q0 : Opd → (Addr → Prop) → L → Hp → Prop} (rl : Rel K F l σ H) (s : b.to F l σ H) (ro : ROps K F l σ H os vs)
    (h : Run K mg B b (bd (readAll os) fun ds => bd (lft (f ds)) fun z => rt (mkO z)) l σ Q0)
    (k : ∀ (z : PyData × Bool) w H', Rel K F l σ H' → b.to F l σ H' → ROp K F l σ H' (mkO z) w → NewO b.H (mkO z) w → Q0 (mkO z) F l H' → Q w H') : r vs H Q := by
  rcases readAll_cases (l := l) os with ⟨ds, e, rd⟩ | e
  · have h1 := h.get e
    rcases lft_cases (l := l) (f ds) with ⟨z, e2, e3⟩ | e3
    · have h2 := h1.get e3
      refine ok F l σ H vs ds z Q rl (rd rl ro) e2 fun w H' res => ?_
      obtain ⟨r1, s1, o1, n1⟩ := res.fin rl s
      exact k z w H' r1 s1 o1 n1 (h2.rt r1 s1)
    · exact absurd (bd_stk e3) h1.there
  · exact absurd (bd_stk e) h.there
end
end L2.DL
/-! DLop: the operations upon trees -/
namespace L2.DL
open PySem
abbrev Op := List PyData → Option (PyData × Bool)
def rV (d : PyData) : Option (PyData × Bool) := some (d, false)
def rT (d : PyData) : Option (PyData × Bool) := some (d, true)
def rB (b : Bool) : Option (PyData × Bool) := some (.bool b, false)
def rI' (i : Int) : Option (PyData × Bool) := some (.int i, false)
/-- below 2 ^ 64 -/
def sm64 (i : Int) : Bool := decide (-18446744073709551616 < i) && decide (i < 18446744073709551616)
/-- a great number, below some 100,000 bits -/
def gr (i : Int) : Bool := decide (i.natAbs.log2 < 100000)
def addD : Op
  | [.int i, .int j] => rI' (i + j)
  | [.tuple xs, .tuple ys] => if xs.length + ys.length ≤ lim then rV (.tuple (xs ++ ys)) else none
  | [.list xs, .list ys] => if xs.length + ys.length ≤ lim then rT (.list (xs ++ ys)) else none
  | _ => none
def subD : Op
  | [.int i, .int j] => rI' (i - j)
  | _ => none
def mulD : Op
  | [.int i, .int j] => if sm64 i || sm64 j || decide (i.natAbs.log2 + j.natAbs.log2 < 1000000) then rI' (i * j) else none
  | [.list xs, .int k] => if decide (-1000000 ≤ k) && decide (k ≤ 1000000) && decide (xs.length * k.toNat ≤ lim) then rT (.list (List.replicate k.toNat xs).flatten) else none
  | _ => none
def fdivD : Op
  | [.int i, .int j] => if decide (0 < j) && (decide (j < 1073741824) || decide (j.natAbs.log2 < 9000)) then rI' (i / j) else none
  | _ => none
def modD : Op
  | [.int i, .int j] => if 0 < j then rI' (i % j) else none
  | _ => none
def powD : Op
  | [.int i, .int j] => if 0 ≤ j ∧ j ≤ 1000 ∧ sm64 i = true then rI' (i ^ j.toNat) else none
  | _ => none
def negD : Op
  | [.int i] => rI' (-i)
  | _ => none
/-- not too deep -/
def dOk (d : PyData) : Bool := decide (d.depth ≤ 60)
def isDict : PyData → Bool
  | .dict _ => true
  | _ => false
def eqD : Op
  | [d, e] => if (dOk d || dOk e) && !isDict d && !isDict e then rB (PyData.eqv d e) else none
  | _ => none
def neD : Op
  | [d, e] => if (dOk d || dOk e) && !isDict d && !isDict e then rB (!PyData.eqv d e) else none
  | _ => none
def ltD : Op
  | [.int i, .int j] => rB (decide (i < j))
  | _ => none
def leD : Op
  | [.int i, .int j] => rB (decide (i ≤ j))
  | _ => none
def gtD : Op
  | [.int i, .int j] => rB (decide (j < i))
  | _ => none
def geD : Op
  | [.int i, .int j] => rB (decide (j ≤ i))
  | _ => none
def inD : Op
  | [x, .list xs] => if dOk x && !isDict x then rB (xs.any fun y => PyData.eqv y x) else none
  | [x, .tuple xs] => if dOk x && !isDict x then rB (xs.any fun y => PyData.eqv y x) else none
  | _ => none
def notInD : Op
  | [x, .list xs] => if dOk x && !isDict x then rB (!xs.any fun y => PyData.eqv y x) else none
  | [x, .tuple xs] => if dOk x && !isDict x then rB (!xs.any fun y => PyData.eqv y x) else none
  | _ => none
def isNoneB : PyData → Bool
  | .none => true
  | _ => false
def isBoolB (b : Bool) : PyData → Bool
  | .bool c => c == b
  | _ => false
/-- x is None, x is True .. -/
def isD (neg : Bool) (p : PyData → Bool) : Op
  | [d] => rB (if neg then !p d else p d)
  | _ => none
def idxD : Op
  | [.list xs, .int i] => ((ixOf xs.length i).bind fun k => xs[k]?).map fun d => (d, false)
  | [.tuple xs, .int i] => ((ixOf xs.length i).bind fun k => xs[k]?).map fun d => (d, false)
  | _ => none
/-- the items of xs[lo:hi] -/
def cutL {α : Type} (xs : List α) (lo hi : Option Int) : List α := (xs.drop (HT.sIx xs.length 0 lo)).take (HT.sIx xs.length xs.length hi - HT.sIx xs.length 0 lo)
def pickAt {α : Type} (xs : List α) (is : List Nat) : List α := is.filterMap fun i => xs[i]?
/-- the places of t[lo:hi:c], of a tuple; of a list -/
def stepT (n : Nat) (lo hi : Option Int) (c : Int) : List Nat := let ab := Builtin.Slice.sliceAdjust lo hi c n; (List.range (Builtin.Slice.slicePlaces ab.1 ab.2 c)).map fun (m : Nat) => (ab.1 + (m : Int) * c).toNat
def stepL (n : Nat) (lo hi : Option Int) (c : Int) : List Nat := let b := sliceBounds lo hi (some c) n; sliceRange b.1 b.2.1 b.2.2
/-- the written parts of a slice, in their places -/
def parts : Bool → Bool → Bool → List PyData → Option (Option Int × Option Int × Option Int)
  | false, false, false, [] => some (none, none, none)
  | true, false, false, [.int a] => some (some a, none, none)
  | false, true, false, [.int b] => some (none, some b, none)
  | true, true, false, [.int a, .int b] => some (some a, some b, none)
  | false, false, true, [.int c] => some (none, none, some c)
  | true, false, true, [.int a, .int c] => some (some a, none, some c)
  | false, true, true, [.int b, .int c] => some (none, some b, some c)
  | true, true, true, [.int a, .int b, .int c] => some (some a, some b, some c)
  | _, _, _, _ => none
def sliceO : PyData → Option Int → Option Int → Option Int → Option (PyData × Bool)
  | .list xs, a, b, none => rT (.list (cutL xs a b))
  | .list xs, a, b, some c => if c = 0 then none else rT (.list (pickAt xs (stepL xs.length a b c)))
  | .tuple xs, a, b, none => rV (.tuple (cutL xs a b))
  | .tuple xs, a, b, some c => if c = 0 then none else if (stepT xs.length a b c).length ≤ lim then rV (.tuple (pickAt xs (stepT xs.length a b c))) else none
  | _, _, _, _ => none
def sliceD (lo hi st : Bool) : Op
  | d :: r => match parts lo hi st r with
    | some (a, b, c) => sliceO d a b c
    | none => none
  | _ => none
def lenD : Op
  | [.list xs] => rI' (xs.length : Nat)
  | [.tuple xs] => rI' (xs.length : Nat)
  | _ => none
def tyName : PyData → String
  | .none => "NoneType"
  | .bool _ => "bool"
  | .int _ => "int"
  | .str _ => "str"
  | .list _ => "list"
  | .tuple _ => "tuple"
  | .dict _ => "dict"
def isiB (T : String) (d : PyData) : Bool := tyName d == T || (tyName d == "bool" && T == "int")
/-- isinstance(x, T), isinstance(x, (T, ..)) -/
def isiD (Ts : List String) : Op
  | [.dict _] => none
  | [d] => rB (Ts.any fun T => isiB T d)
  | _ => none
def tupleD : Op
  | [.list xs] => rV (.tuple xs)
  | [.tuple xs] => rV (.tuple xs)
  | _ => none
def listD : Op
  | [.list xs] => rT (.list xs)
  | [.tuple xs] => rT (.list xs)
  | _ => none
def rngTupD : Op := fun ds => match rangeOf ds with
  | some xs => if xs.length ≤ lim then rV (.tuple xs) else none
  | none => none
def rngLstD : Op := fun ds => match rangeOf ds with
  | some xs => if xs.length ≤ lim then rT (.list xs) else none
  | none => none
def intsOf : List PyData → Option (List Int)
  | [] => some []
  | .int i :: ds => (intsOf ds).map (i :: ·)
  | _ => none
def boolsOf : List PyData → Option (List Bool)
  | [] => some []
  | .bool b :: ds => (boolsOf ds).map (b :: ·)
  | _ => none
def maxI : Int → List Int → Int := fun n ns => ns.foldl max n
def minI : Int → List Int → Int := fun n ns => ns.foldl min n
def maxD' : Op
  | [.int i, .int j] => rI' (if j > i then j else i)
  | [.list (.int n :: xs)] => (intsOf xs).map fun ns => (.int (maxI n ns), false)
  | _ => none
def minD' : Op
  | [.int i, .int j] => rI' (if j < i then j else i)
  | [.list (.int n :: xs)] => (intsOf xs).map fun ns => (.int (minI n ns), false)
  | _ => none
def absD : Op
  | [.int i] => rI' (if i < 0 then -i else i)
  | _ => none
def intD : Op
  | [.int i] => rI' i
  | [.bool b] => rI' (if b then 1 else 0)
  | _ => none
def divmodD : Op
  | [.int i, .int j] => if 0 < j ∧ j < 1073741824 then rV (.tuple [.int (i / j), .int (i % j)]) else none
  | _ => none
def allD : Op
  | [.list xs] => (boolsOf xs).map fun bs => (.bool (bs.all id), false)
  | _ => none
def anyD : Op
  | [.list xs] => (boolsOf xs).map fun bs => (.bool (bs.any id), false)
  | _ => none
def sumD : Op
  | [.list xs] => (intsOf xs).map fun ns => (.int ns.sum, false)
  | _ => none
/-- how many unlike ones -/
def dedup : List Int → List Int
  | [] => []
  | i :: is => if is.contains i then dedup is else i :: dedup is
/-- len(set(x)), x of ints -/
def lenSetD : Op
  | [.list xs] => match intsOf xs with
    | some ns => if ns.length ≤ 4000 then rI' ((dedup ns).length : Nat) else none
    | none => none
  | [.tuple xs] => match intsOf xs with
    | some ns => if ns.length ≤ 4000 then rI' ((dedup ns).length : Nat) else none
    | none => none
  | _ => none
def findD (xs : List PyData) (d : PyData) : Option Nat := xs.findIdx? fun y => PyData.eqv y d
def indexD : Op
  | [.list xs, d] => if dOk d && !isDict d then (SeqAt.dataPlace xs d).map fun k => (.int (k : Nat), false) else none
  | [.tuple xs, d] => if dOk d && !isDict d then (SeqAt.dataPlace xs d).map fun k => (.int (k : Nat), false) else none
  | _ => none
def countD : Op
  | [.list xs, d] => if dOk d && !isDict d then rI' ((xs.countP fun y => PyData.eqv y d : Nat) : Int) else none
  | [.tuple xs, d] => if dOk d && !isDict d then rI' ((xs.countP fun y => PyData.eqv y d : Nat) : Int) else none
  | _ => none
/-! methods that change a list -/
def appendU : PyData → List PyData → Option (PyData × PyData)
  | .list xs, [d] => if xs.length < lim then some (.none, .list (xs ++ [d])) else none
  | _, _ => none
def extendU : PyData → List PyData → Option (PyData × PyData)
  | .list xs, [.list ys] => if xs.length + ys.length ≤ lim then some (.none, .list (xs ++ ys)) else none
  | _, _ => none
def popU : PyData → List PyData → Option (PyData × PyData)
  | .list xs, [.int i] => (ixOf xs.length i).bind fun k => (xs[k]?).map fun d => (d, .list (xs.eraseIdx k))
  | _, _ => none
def insertU : PyData → List PyData → Option (PyData × PyData)
  | .list xs, [.int i, d] => if xs.length < lim ∧ 0 ≤ i ∧ i ≤ 1000000 then some (.none, .list (xs.take i.toNat ++ [d] ++ xs.drop i.toNat)) else none
  | _, _ => none
def removeU : PyData → List PyData → Option (PyData × PyData)
  | .list xs, [d] => if dOk d && !isDict d then (SeqAt.dataPlace xs d).map fun k => (.none, .list (xs.eraseIdx k)) else none
  | _, _ => none
end L2.DL
/-! DL4: the operations' soundness -/
namespace L2.DL
open PySem PySem.Spec PyProof.Rows
section
variable {K : PySem.W.Frag} {F : Addr → Prop} {l : L} {σ : St} {H : Hp}
/-- the wish of an operation upon trees -/
def rD (K : PySem.W.Frag) (g : Op) : List V → Hp → VK → Prop := fun vs H Q => ∃ (F : Addr → Prop) (l : L) (σ : St) (ds : List PyData) (z : PyData × Bool), Rel K F l σ H ∧ RDs K F H vs ds ∧ g ds = some z ∧ ∀ w H', ResOk K F H z H' w → Q w H'
def rD2 (K : PySem.W.Frag) (g : Op) : R2 := fun x y H Q => rD K g [x, y] H Q
def rD1 (K : PySem.W.Frag) (g : Op) : V → Hp → VK → Prop := fun x H Q => rD K g [x] H Q
theorem rD_ok (g : Op) : OpsOk K (rD K g) g := fun F l σ H vs ds z Q r rd e q => ⟨F, l, σ, ds, z, r, rd, e, q⟩
theorem rd_none {x : V} (h : RD K F H x .none) : x = .non := by
  rcases h with h | ⟨a, e, q⟩
  · cases h; rfl
  · cases q
theorem rd_bool {x : V} {b : Bool} (h : RD K F H x (.bool b)) : x = .bl b := by
  rcases h with h | ⟨a, e, q⟩
  · cases h; rfl
  · cases q
theorem rd_int {x : V} {i : Int} (h : RD K F H x (.int i)) : x = .int i := by
  rcases h with h | ⟨a, e, q⟩
  · cases h; rfl
  · cases q
theorem rd_str {x : V} {i : Str} (h : RD K F H x (.str i)) : x = .str i := by
  rcases h with h | ⟨a, e, q⟩
  · cases h; rfl
  · cases q
theorem rd_tup {x : V} {ds : List PyData} (h : RD K F H x (.tuple ds)) : ∃ a vs, x = .ref a ∧ TupD K H a vs ∧ RFs K F H vs ds := by
  rcases h with h | ⟨a, e, q⟩
  · cases h with | tup h1 h2 => exact ⟨_, _, rfl, h1, h2⟩
  · cases q
theorem rd_lst {x : V} {ds : List PyData} (h : RD K F H x (.list ds)) : ∃ a vs, x = .ref a ∧ SqL K H a vs ∧ RFs K F H vs ds := by
  rcases h with h | ⟨a, e, q⟩
  · cases h with
    | lst h0 h1 h2 => exact ⟨_, _, rfl, .inl h1, h2⟩
    | lstK h1 h2 => exact ⟨_, _, rfl, .inr h1, h2⟩
  · cases q with | lst h1 h2 => exact ⟨_, _, e, .inl (.inl h1), h2⟩
theorem RDs.one {vs : List V} {d : PyData} (h : RDs K F H vs [d]) : ∃ x, vs = [x] ∧ RD K F H x d := by
  cases h with | cons h1 t => cases t; exact ⟨_, rfl, h1⟩
theorem RDs.two {vs : List V} {d e : PyData} (h : RDs K F H vs [d, e]) : ∃ x y, vs = [x, y] ∧ RD K F H x d ∧ RD K F H y e := by
  cases h with | cons h1 t => cases t with | cons h2 t => cases t; exact ⟨_, _, rfl, h1, h2⟩
theorem RDs.len {vs : List V} {ds : List PyData} (h : RDs K F H vs ds) : vs.length = ds.length := by
  induction h with
  | nil => rfl
  | cons _ _ ih => simp [ih]
theorem rfs_ints : ∀ {ds : List PyData} {ns : List Int} {vs : List V}, intsOf ds = some ns → RFs K F H vs ds → vs = ns.map V.int
  | [], ns, vs, e, h => by cases e; cases h; rfl
  | d :: ds, ns, vs, e, h => by
    cases h with
    | cons h1 h2 =>
      cases d with
      | int i =>
        simp only [intsOf, Option.map_eq_some_iff] at e
        obtain ⟨ms, e1, e2⟩ := e
        subst e2
        cases h1
        rw [rfs_ints e1 h2]; rfl
      | _ => simp [intsOf] at e
theorem rfs_bools : ∀ {ds : List PyData} {ns : List Bool} {vs : List V}, boolsOf ds = some ns → RFs K F H vs ds → vs = ns.map V.bl
  | [], ns, vs, e, h => by cases e; cases h; rfl
  | d :: ds, ns, vs, e, h => by
    cases h with
    | cons h1 h2 =>
      cases d with
      | bool i =>
        simp only [boolsOf, Option.map_eq_some_iff] at e
        obtain ⟨ms, e1, e2⟩ := e
        subst e2
        cases h1
        rw [rfs_bools e1 h2]; rfl
      | _ => simp [boolsOf] at e
mutual
theorem RF.plain : ∀ {v : V} {d : PyData}, RF K F H v d → d.plain = true
  | _, .none, h => rfl
  | _, .bool _, h => rfl
  | _, .int _, h => rfl
  | _, .str _, h => rfl
  | _, .list ds, h => by
    cases h with
    | lst hF hs ha => simp only [PyData.plain]; exact RFs.plain ha
    | lstK hs ha => simp only [PyData.plain]; exact RFs.plain ha
  | _, .tuple ds, h => by
    cases h with
    | tup hs ha => simp only [PyData.plain]; exact RFs.plain ha
  | _, .dict _, h => by cases h
theorem RFs.plain : ∀ {vs : List V} {ds : List PyData}, RFs K F H vs ds → PyData.plainAll ds = true
  | _, [], h => rfl
  | _, d :: ds, h => by
    cases h with
    | cons h1 h2 => simp only [PyData.plainAll, RF.plain h1, RFs.plain h2]; rfl
end
theorem lim_line : lim < sizeLine := by rw [sizeLine_eq]; decide
theorem lim_le {n : Nat} (h : n ≤ lim) : n ≤ sizeLine := Nat.le_trans h (Nat.le_of_lt lim_line)
end
section
variable {X : Cx} {pins : List (Addr × Obj)} {σ σ' : St} {H : Hp} {s : Shared} {F : Addr → Prop} {l : L}
theorem Inv.lstR (I : Inv X pins σ H s) {a : Addr} {xs : List V} (h : SqL X.K H a xs) : xs.length ≤ sizeLine ∧ ∃ (its : List Value) (n : Nat) (sl : Array (Option Value)), Vals xs its ∧ xs.length = its.length ∧ s.heap.get? a = some { cls := .type "list", dict := none, data := .seq its.toArray n, slots := sl } := by
  obtain ⟨its, r, ⟨o, n, e, hc, hd, hdt⟩, hz⟩ := I.list h
  obtain ⟨cls, dd, data, sl⟩ := o
  simp only at hc hd hdt
  subst hc hd hdt
  exact ⟨hz, its, n, sl, r, r.length, e⟩
/-- a new tuple's object -/
abbrev tupO (its : List Value) : Obj := { cls := .type "tuple", data := .seq its.toArray }
theorem Inv.tnewA {its : List Value} {ys : List V} {a : Addr} {h' : Heap} {t' : Nat} (I : Inv X pins σ H s) (k : ∀ b o, s.heap.get? b = some o → h'.get? b = some o) (ha : s.heap.objs.size ≤ a) (e : h'.get? a = some (tupO its)) (hv : Vals ys its) (hz : ys.length ≤ sizeLine) :
    Inv X pins σ (upd H a (.frz (tupO its) (.tup ys))) { s with heap := h', toks := t' } :=
  I.laid k ha ⟨e, hz, its, hv, ⟨_, e, rfl, _, rfl⟩⟩
theorem Inv.tnew {its : List Value} {ys : List V} {t' : Nat} (I : Inv X pins σ H s) (hv : Vals ys its) (hz : ys.length ≤ sizeLine) :
    Inv X pins σ (upd H s.heap.objs.size (.frz (tupO its) (.tup ys))) { s with heap := s.heap.push (tupO its), toks := t' } :=
  Inv.tnewA I (fun _ _ q => Heap.get?_push_of_some _ q) (Nat.le_refl _) (Heap.get?_push_size _ rfl) hv hz
theorem RD.reads (I : Inv X pins σ H s) {d : PyData} {v : V} {u : Value} (h : RD X.K F H v d) (r : RelV v u) (nd : isDict d = false) : (∃ as, Reads s.heap u d as) ∧ d.plain = true := by
  rcases h with h | ⟨a, e, q⟩
  · exact ⟨Dp.reads I d v u h.dp r, h.plain⟩
  · cases q with
    | lst h1 h2 =>
      subst e
      exact ⟨Dp.reads I _ _ u (.lst (.inl (.inl h1)) h2.dp) r, by simp only [PyData.plain]; exact h2.plain⟩
    | dK _ _ => cases nd
    | dX _ _ => cases nd
end
end L2.DL
/-! DL5: the operators' rules upon trees -/
namespace L2.DL
open PySem PySem.Spec PyProof.Rows
theorem RDs.two' {K : PySem.W.Frag} {F : Addr → Prop} {H : Hp} {x y : V} {ds : List PyData} (h : RDs K F H [x, y] ds) : ∃ d e, ds = [d, e] ∧ RD K F H x d ∧ RD K F H y e := by
  cases h with | cons h1 t => cases t with | cons h2 t => cases t; exact ⟨_, _, rfl, h1, h2⟩
theorem RDs.one' {K : PySem.W.Frag} {F : Addr → Prop} {H : Hp} {x : V} {ds : List PyData} (h : RDs K F H [x] ds) : ∃ d, ds = [d] ∧ RD K F H x d := by
  cases h with | cons h1 t => cases t; exact ⟨_, rfl, h1⟩
section
variable {X : Cx} {pins : List (Addr × Obj)} {σ : St} {H : Hp} {s : Shared} {F : Addr → Prop} {l : L}
/-- an int comes -/
theorem EP.int {Q : VK} {i : Int} (I : Inv X pins σ H s) (q : Q (.int i) H) : EP X pins σ Q (.int i s.toks) { s with toks := s.toks + 1 } := ⟨.int i, H, I.tok _, ⟨_, rfl⟩, q⟩
theorem cat_tup0 {prog : Program} {w : World} {A : Around} {E : Value → Shared → Prop} {s : Shared} {t b : Addr} {vs ws : List Value} {Q : Value → Shared → Prop} (ht : IsTup s.heap t vs.toArray) (hb : IsTup s.heap b ws.toArray) (hv : vs = []) (h0 : Q (.ref b) s) :
    wpAny (model prog w) A (binaryOp .Add (.ref t) (.ref b)) Q E s := by
  obtain ⟨⟨cls, dd, data, sl⟩, ho, hc, n, hd⟩ := id ht
  obtain ⟨⟨cls2, dd2, data2, sl2⟩, ho2, hc2, n2, hd2⟩ := id hb
  simp only at hc hd hc2 hd2
  subst hc hd hc2 hd2
  exact concat_meets ⟨_, ho, rfl⟩ ⟨_, ho2, rfl⟩ noFill_tuple_add seq_tuple_add PySem.F.slot_tuple_add PySem.F.entry_tuple_add (PySem.F.args_tuple_add_2 _ _)
      (tuple_addW0 t b vs.toArray ws.toArray n n2 dd dd2 sl sl2 (by simp [hv])) ⟨ho, ho2, h0⟩
theorem opd_add : OpR X (binaryOp .Add) (rD2 X.K addD) := by
  intro pins s σ H x y v u Q I rx ry h
  obtain ⟨F0, l, σ', ds, z, rl, rd, e, k⟩ := h
  obtain ⟨d1, d2, rfl, r1, r2⟩ := rd.two'
  unfold addD at e
  split at e
  · rename_i i j heq
    simp only [List.cons.injEq] at heq
    obtain ⟨rfl, rfl, _⟩ := heq
    cases e
    have ex := rd_int r1; have ey := rd_int r2
    subst ex ey
    exact op_add pins s σ H _ _ v u Q I rx ry ⟨i, j, rfl, rfl, k _ _ (.same (.int _))⟩
  · rename_i xs ys heq
    simp only [List.cons.injEq] at heq
    obtain ⟨rfl, rfl, _⟩ := heq
    split at e
    · rename_i hz
      cases e
      obtain ⟨a, vs, rfl, hs, fs⟩ := rd_tup r1
      obtain ⟨b, ws, rfl, ht, ft⟩ := rd_tup r2
      have hlen : vs.length + ws.length ≤ sizeLine := by rw [fs.length, ft.length]; exact lim_le hz
      by_cases e1 : vs = []
      · subst e1
        cases fs
        cases rx
        cases ry
        obtain ⟨its, p1, q1, _⟩ := I.tuple hs.sq
        obtain ⟨its2, p2, q2, _⟩ := I.tuple ht.sq
        refine cat_tup0 q1 q2 (by cases p1; rfl) ⟨.ref b, H, I, rfl, k _ _ (.same ?_)⟩
        exact .tup ht ft
      · cases rx
        cases ry
        obtain ⟨its, p1, q1, _⟩ := I.tuple hs.sq
        obtain ⟨its2, p2, q2, _⟩ := I.tuple ht.sq
        refine HT.cat_tup q1 q2 (fun z => e1 (p1.nil_iff.mp z)) (fun z => ⟨.ref a, H, I, rfl, ?_⟩) (fun z => ?_) (by rw [← p1.length, ← p2.length]; exact hlen)
        · have z := p2.nil_iff.mp z
          subst z
          cases ft
          rw [List.append_nil] at k
          exact k _ _ (.same (.tup hs fs))
        · exact ⟨.ref _, _, Inv.tnew (t' := s.toks) I (p1.append p2) (by rw [List.length_append]; exact hlen), rfl, k _ _ (.tup I.fresh rfl (fs.append ft))⟩
    · cases e
  · rename_i xs ys heq
    simp only [List.cons.injEq] at heq
    obtain ⟨rfl, rfl, _⟩ := heq
    split at e
    · rename_i hz
      cases e
      obtain ⟨a, vs, rfl, hs, fs⟩ := rd_lst r1
      obtain ⟨b, ws, rfl, ht, ft⟩ := rd_lst r2
      cases rx
      cases ry
      obtain ⟨z, its, n, sl, r, hl, e⟩ := Inv.lstR I hs
      obtain ⟨z2, its2, n2, sl2, r2, hl2, e2⟩ := Inv.lstR I ht
      have hlen : vs.length + ws.length ≤ sizeLine := by rw [fs.length, ft.length]; exact lim_le hz
      refine concat_meets ⟨_, e, rfl⟩ ⟨_, e2, rfl⟩ noFill_list_add seq_list_add PySem.F.slot_list_add PySem.F.entry_list_add (PySem.F.args_list_add_2 _ _) (list_addW a b its.toArray its2.toArray n n2 none none sl sl2 (by rw [List.size_toArray, List.size_toArray]; omega)) ⟨e, e2, ?_⟩
      have ea : its.toArray ++ its2.toArray = (its ++ its2).toArray := by simp
      rw [ea]
      exact ⟨.ref _, _, I.lnew (t' := s.toks) (r.append r2) (by rw [List.length_append]; omega), rfl, k _ _ (.lst I.fresh (fs.append ft))⟩
    · cases e
  · cases e
theorem opd_sub : OpR X (binaryOp .Sub) (rD2 X.K subD) := by
  intro pins s σ H x y v u Q I rx ry h
  obtain ⟨F0, l, σ', ds, z, rl, rd, e, k⟩ := h
  obtain ⟨d1, d2, rfl, r1, r2⟩ := rd.two'
  unfold subD at e
  split at e
  · rename_i i j heq
    simp only [List.cons.injEq] at heq
    obtain ⟨rfl, rfl, _⟩ := heq
    cases e
    have ex := rd_int r1; have ey := rd_int r2
    subst ex ey
    exact op_sub pins s σ H _ _ v u Q I rx ry ⟨i, j, rfl, rfl, k _ _ (.same (.int _))⟩
  · cases e
theorem sm64_iff {i : Int} : sm64 i = true ↔ -(2 ^ 64) < i ∧ i < 2 ^ 64 := by
  unfold sm64
  rw [Bool.and_eq_true, decide_eq_true_eq, decide_eq_true_eq]
  constructor <;> intro h <;> omega
theorem RFs.rep {K : PySem.W.Frag} {F : Addr → Prop} {H : Hp} {vs : List V} {ds : List PyData} (h : RFs K F H vs ds) : ∀ k : Nat, RFs K F H (List.replicate k vs).flatten (List.replicate k ds).flatten
  | 0 => .nil
  | k + 1 => by
    rw [List.replicate_succ, List.replicate_succ, List.flatten_cons, List.flatten_cons]
    exact h.append (RFs.rep h k)
theorem list_mulW (l : Addr) (items : Array Value) (n : Nat) (sl : Array (Option Value)) (x : Int) (u : Tok) (hc0 : ¬(!Builtin.List.listFitsIndex x) = true) (hc1 : ¬items.size * x.toNat > (2 ^ 63 - 1) / 8) (hc2 : ¬Builtin.List.listTooLong (items.size * x.toNat) = true) :
    Meets (Builtin.«list.__mul__» ⟨[.ref l, .int x u], []⟩) (fun _ R s => s.heap.get? l = some { cls := .type "list", dict := none, data := .seq items n, slots := sl } ∧ R (.ok (.ret (Value.ref s.heap.objs.size))) { s with heap := s.heap.push { cls := Value.type "list", data := Data.seq (List.foldl (fun x1 x2 => x1 ++ x2) #[] (List.replicate (if items.isEmpty = true then 0 else x.toNat) items)) }, toks := s.toks }) :=
  .of_wp fun prog w A R s h => by
    obtain ⟨hp, g, d, tk, os⟩ := s; obtain ⟨hl, h⟩ := h
    have hsz := AutoListH.joined_fits hc2
    wp_walk using AutoSeq1.wpAny_loadPart' hl; refine wpAny_ite_false (decide_eq_false (Nat.not_lt.mpr hsz)) ?_; wp_walk using AutoSeq1.wpAny_loadPart' hl; exact ⟨_, rfl, h⟩
theorem int_rmulW (a : Int) (t : Tok) (l : Addr) (items : Array Value) (n : Nat) (sl : Array (Option Value)) :
    Meets (Builtin.«int.__rmul__» ⟨[.int a t, .ref l], []⟩) (fun _ R s => s.heap.get? l = some { cls := .type "list", dict := none, data := .seq items n, slots := sl } ∧ R (.ok (.ret Value.notImplemented)) s) :=
  .of_wp fun prog w A R s h => by obtain ⟨hp, g, d, tk, os⟩ := s; obtain ⟨hl, h⟩ := h; wp_walk using AutoSeq1.wpAny_loadPart' hl; exact ⟨_, rfl, h⟩
theorem opd_mul : OpR X (binaryOp .Mult) (rD2 X.K mulD) := by
  intro pins s σ H x y v u Q I rx ry h
  obtain ⟨F0, l, σ', ds, z, rl, rd, e, k⟩ := h
  obtain ⟨d1, d2, rfl, r1, r2⟩ := rd.two'
  unfold mulD at e
  split at e
  · rename_i i j heq
    simp only [List.cons.injEq] at heq
    obtain ⟨rfl, rfl, _⟩ := heq
    split at e
    · rename_i hc
      cases e
      have ex := rd_int r1; have ey := rd_int r2
      subst ex ey
      rw [Bool.or_eq_true, Bool.or_eq_true] at hc
      rcases hc with (hc | hc) | hc
      · exact op_mul pins s σ H _ _ v u Q I rx ry ⟨i, j, rfl, rfl, .inl (sm64_iff.mp hc), k _ _ (.same (.int _))⟩
      · exact op_mul pins s σ H _ _ v u Q I rx ry ⟨i, j, rfl, rfl, .inr (sm64_iff.mp hc), k _ _ (.same (.int _))⟩
      · exact op_mulW pins s σ H _ _ v u Q I rx ry ⟨i, j, rfl, rfl, (by simpa [CMulW] using hc), k _ _ (.same (.int _))⟩
    · cases e
  · rename_i xs n heq
    simp only [List.cons.injEq] at heq
    obtain ⟨rfl, rfl, _⟩ := heq
    split at e
    · rename_i hc
      cases e
      rw [Bool.and_eq_true, Bool.and_eq_true, decide_eq_true_eq, decide_eq_true_eq, decide_eq_true_eq] at hc
      obtain ⟨⟨h1, h2⟩, h3⟩ := hc
      have ey := rd_int r2
      subst ey
      obtain ⟨a, vs, rfl, hs, fs⟩ := rd_lst r1
      cases rx
      obtain ⟨t, rfl⟩ := ry
      obtain ⟨z, its, m, sl, r, hl, e⟩ := Inv.lstR I hs
      have hz : vs.length * n.toNat ≤ sizeLine := by rw [fs.length]; exact lim_le h3
      have hlen : its.toArray.size * n.toNat ≤ sizeLine := by rw [List.size_toArray, ← hl]; exact hz
      have hcap : ¬ its.toArray.size * n.toNat > (2 ^ 63 - 1) / 8 := by
        have : (sizeLine : Nat) ≤ (2 ^ 63 - 1) / 8 := by decide
        omega
      have hfit : ¬ (!Builtin.List.listFitsIndex n) = true := by
        rw [fitsIndex_both (by omega) (by omega)]
        exact Bool.false_ne_true
      have hlong : ¬ Builtin.List.listTooLong (its.toArray.size * n.toNat) = true := by
        rw [notLongL hlen]
        exact Bool.false_ne_true
      have hnew : List.foldl (fun x1 x2 => x1 ++ x2) #[] (List.replicate (if its.toArray.isEmpty = true then 0 else n.toNat) its.toArray) = (List.replicate n.toNat its).flatten.toArray := by
        have f0 : ∀ m : Nat, List.foldl (fun x1 x2 => x1 ++ x2) #[] (List.replicate m its.toArray) = (List.replicate m its).flatten.toArray := fun m => by
          have := foldl_rep its m []
          rw [List.nil_append] at this
          exact this
        rw [f0]
        cases its with
        | nil => simp
        | cons a r' => rw [if_neg (by simp)]
      refine wpAny_binaryOp_repeat_ref (T := "list") (U := "int") (by decide) ⟨_, e, rfl⟩ (fun s' => typeIs_int s' n t) noFill_list_mul F.fills_int_mul F.slot_int_rmul repeat_list F.slot_int_index.lookup
        (call_meets F.slot_int_rmul (typeIs_int s n t) F.entry_int_rmul (F.args_int_rmul_2 _ _) (int_rmulW n t a its.toArray m sl)
          ⟨e, rfl, ⟨_, e, rfl⟩, call_meets F.slot_list_mul ⟨_, e, rfl⟩ F.entry_list_mul (F.args_list_mul_2 _ _) (list_mulW a its.toArray m sl n t hfit hcap hlong) ⟨e, ?_⟩⟩)
      rw [hnew]
      exact ⟨.ref _, _, I.lnew (t' := s.toks) (r.rep n.toNat) (by rw [PyProof.Rows.lm_len_rep_flat, Nat.mul_comm]; exact hz), rfl, k _ _ (.lst I.fresh (fs.rep n.toNat))⟩
    · cases e
  · cases e
theorem opd_fdiv : OpR X (binaryOp .FloorDiv) (rD2 X.K fdivD) := by
  intro pins s σ H x y v u Q I rx ry h
  obtain ⟨F0, l, σ', ds, z, rl, rd, e, k⟩ := h
  obtain ⟨d1, d2, rfl, r1, r2⟩ := rd.two'
  unfold fdivD at e
  split at e
  · rename_i i j heq
    simp only [List.cons.injEq] at heq
    obtain ⟨rfl, rfl, _⟩ := heq
    split at e
    · rename_i hc
      cases e
      have ex := rd_int r1; have ey := rd_int r2
      subst ex ey
      rw [Bool.and_eq_true, Bool.or_eq_true, decide_eq_true_eq, decide_eq_true_eq, decide_eq_true_eq] at hc
      obtain ⟨h1, h2 | h2⟩ := hc
      · exact op_fdiv pins s σ H _ _ v u Q I rx ry ⟨i, j, rfl, rfl, ⟨h1, h2⟩, k _ _ (.same (.int _))⟩
      · exact op_fdivW pins s σ H _ _ v u Q I rx ry ⟨i, j, rfl, rfl, ⟨h1, h2⟩, k _ _ (.same (.int _))⟩
    · cases e
  · cases e
theorem opd_mod : OpR X (binaryOp .Mod) (rD2 X.K modD) := by
  intro pins s σ H x y v u Q I rx ry h
  obtain ⟨F0, l, σ', ds, z, rl, rd, e, k⟩ := h
  obtain ⟨d1, d2, rfl, r1, r2⟩ := rd.two'
  unfold modD at e
  split at e
  · rename_i i j heq
    simp only [List.cons.injEq] at heq
    obtain ⟨rfl, rfl, _⟩ := heq
    split at e
    · rename_i hc
      cases e
      have ex := rd_int r1; have ey := rd_int r2
      subst ex ey
      exact op_mod pins s σ H _ _ v u Q I rx ry ⟨i, j, rfl, rfl, hc, k _ _ (.same (.int _))⟩
    · cases e
  · cases e
theorem opd_pow : OpR X (binaryOp .Pow) (rD2 X.K powD) := by
  intro pins s σ H x y v u Q I rx ry h
  obtain ⟨F0, l, σ', ds, z, rl, rd, e, k⟩ := h
  obtain ⟨d1, d2, rfl, r1, r2⟩ := rd.two'
  unfold powD at e
  split at e
  · rename_i i j heq
    simp only [List.cons.injEq] at heq
    obtain ⟨rfl, rfl, _⟩ := heq
    split at e
    · rename_i hc
      cases e
      have ex := rd_int r1; have ey := rd_int r2
      subst ex ey
      obtain ⟨h1, h2, h3⟩ := hc
      have h4 := sm64_iff.mp h3
      exact op_pow pins s σ H _ _ v u Q I rx ry ⟨i, j, rfl, rfl, ⟨h1, by omega, by omega⟩, k _ _ (.same (.int _))⟩
    · cases e
  · cases e
theorem opd_neg : UnR X (unaryOp .USub) (rD1 X.K negD) := by
  intro pins s σ H x v Q I rx h
  obtain ⟨F0, l, σ', ds, z, rl, rd, e, k⟩ := h
  obtain ⟨d1, rfl, r1⟩ := rd.one'
  unfold negD at e
  split at e
  · rename_i i heq
    simp only [List.cons.injEq] at heq
    obtain ⟨rfl, _⟩ := heq
    cases e
    have ex := rd_int r1
    subst ex
    exact un_neg pins s σ H _ v Q I rx ⟨i, rfl, k _ _ (.same (.int _))⟩
  · cases e
end
end L2.DL
/-! DL6: comparisons, membership, items, slices, built-in functions -/
namespace L2.DL
open PySem PySem.Spec PyProof.Rows
theorem depth_min {A : Around} {d e : PyData} (h : (dOk d || dOk e) = true) (hu : A.units + 64 < cLine) : A.units + min d.depth e.depth < cLine := by
  rw [Bool.or_eq_true] at h
  unfold dOk at h
  rw [decide_eq_true_eq, decide_eq_true_eq] at h
  omega
section
variable {X : Cx} {pins : List (Addr × Obj)} {σ : St} {H : Hp} {s : Shared} {F : Addr → Prop} {l : L}
theorem opd_eq (hu : X.A.units + 64 < cLine) : OpR X (compareOp .Eq) (rD2 X.K eqD) := by
  intro pins s σ H x y v u Q I rx ry h
  obtain ⟨F0, l, σ', ds, z, rl, rd, e, k⟩ := h
  obtain ⟨d1, d2, rfl, r1, r2⟩ := rd.two'
  simp only [eqD] at e
  split at e
  · rename_i hc
    cases e
    simp only [Bool.and_eq_true, Bool.not_eq_true'] at hc
    obtain ⟨⟨as, a1⟩, p1⟩ := RD.reads I r1 rx hc.1.2
    obtain ⟨⟨bs, b1⟩, p2⟩ := RD.reads I r2 ry hc.2
    exact PySem.SeqAt.eq_plain a1 b1 p1 p2 (depth_min hc.1.1 hu) ⟨.bl _, H, I, rfl, k _ _ (.same (.bl _))⟩
  · cases e
theorem opd_ne (hu : X.A.units + 64 < cLine) : OpR X (compareOp .NotEq) (rD2 X.K neD) := by
  intro pins s σ H x y v u Q I rx ry h
  obtain ⟨F0, l, σ', ds, z, rl, rd, e, k⟩ := h
  obtain ⟨d1, d2, rfl, r1, r2⟩ := rd.two'
  simp only [neD] at e
  split at e
  · rename_i hc
    cases e
    simp only [Bool.and_eq_true, Bool.not_eq_true'] at hc
    obtain ⟨⟨as, a1⟩, p1⟩ := RD.reads I r1 rx hc.1.2
    obtain ⟨⟨bs, b1⟩, p2⟩ := RD.reads I r2 ry hc.2
    exact PySem.SeqAt.ne_plain a1 b1 p1 p2 (depth_min hc.1.1 hu) ⟨.bl _, H, I, rfl, k _ _ (.same (.bl _))⟩
  · cases e
/-- a comparison of two ints -/
theorem opd_cmp {f : Value → Value → Sem Value} {g : Int → Int → Bool} {op : Op} (ho : OpR X f (rI0 fun i j => .bl (g i j))) (hop : ∀ d e z, op [d, e] = some z → ∃ i j, d = .int i ∧ e = .int j ∧ z = (.bool (g i j), false)) : OpR X f (rD2 X.K op) := by
  intro pins s σ H x y v u Q I rx ry h
  obtain ⟨F0, l, σ', ds, z, rl, rd, e, k⟩ := h
  obtain ⟨d1, d2, rfl, r1, r2⟩ := rd.two'
  obtain ⟨i, j, rfl, rfl, rfl⟩ := hop _ _ _ e
  have ex := rd_int r1; have ey := rd_int r2
  subst ex ey
  exact ho pins s σ H _ _ v u Q I rx ry ⟨i, j, rfl, rfl, k _ _ (.same (.bl _))⟩
theorem opd_lt : OpR X (compareOp .Lt) (rD2 X.K ltD) := opd_cmp op_lt fun d e z h => by
  unfold ltD at h
  split at h
  · rename_i i j heq
    simp only [List.cons.injEq] at heq
    obtain ⟨rfl, rfl, _⟩ := heq
    cases h; exact ⟨_, _, rfl, rfl, rfl⟩
  · cases h
theorem opd_le : OpR X (compareOp .LtE) (rD2 X.K leD) := opd_cmp op_le fun d e z h => by
  unfold leD at h
  split at h
  · rename_i i j heq
    simp only [List.cons.injEq] at heq
    obtain ⟨rfl, rfl, _⟩ := heq
    cases h; exact ⟨_, _, rfl, rfl, rfl⟩
  · cases h
theorem opd_gt : OpR X (compareOp .Gt) (rD2 X.K gtD) := opd_cmp op_gt fun d e z h => by
  unfold gtD at h
  split at h
  · rename_i i j heq
    simp only [List.cons.injEq] at heq
    obtain ⟨rfl, rfl, _⟩ := heq
    cases h; exact ⟨_, _, rfl, rfl, rfl⟩
  · cases h
theorem opd_ge : OpR X (compareOp .GtE) (rD2 X.K geD) := opd_cmp op_ge fun d e z h => by
  unfold geD at h
  split at h
  · rename_i i j heq
    simp only [List.cons.injEq] at heq
    obtain ⟨rfl, rfl, _⟩ := heq
    cases h; exact ⟨_, _, rfl, rfl, rfl⟩
  · cases h
theorem plain_list {xs : List PyData} (h : (PyData.list xs).plain = true) : PyData.plainAll xs = true := by simpa only [PyData.plain] using h
theorem plain_tup {xs : List PyData} (h : (PyData.tuple xs).plain = true) : PyData.plainAll xs = true := by simpa only [PyData.plain] using h
theorem depth_in {A : Around} {d : PyData} {n : Nat} (h : dOk d = true) (hu : A.units + 64 < cLine) : A.units + 1 + min n d.depth < cLine := by
  unfold dOk at h
  rw [decide_eq_true_eq] at h
  omega
theorem opd_in (hu : X.A.units + 64 < cLine) : OpR X (compareOp .In) (rD2 X.K inD) := by
  intro pins s σ H x y v u Q I rx ry h
  obtain ⟨F0, l, σ', ds, z, rl, rd, e, k⟩ := h
  obtain ⟨d1, d2, rfl, r1, r2⟩ := rd.two'
  unfold inD at e
  split at e
  · rename_i d xs heq
    simp only [List.cons.injEq] at heq
    obtain ⟨rfl, rfl, _⟩ := heq
    split at e
    · rename_i hc
      cases e
      simp only [Bool.and_eq_true, Bool.not_eq_true'] at hc
      obtain ⟨⟨as, a1⟩, p1⟩ := RD.reads I r1 rx hc.2
      obtain ⟨⟨bs, b1⟩, p2⟩ := RD.reads I r2 ry rfl
      exact PySem.SeqAt.in_list_data b1 a1 (plain_list p2) p1 (depth_in hc.1 hu) ⟨.bl _, H, I, rfl, k _ _ (.same (.bl _))⟩
    · cases e
  · rename_i d xs heq
    simp only [List.cons.injEq] at heq
    obtain ⟨rfl, rfl, _⟩ := heq
    split at e
    · rename_i hc
      cases e
      simp only [Bool.and_eq_true, Bool.not_eq_true'] at hc
      obtain ⟨⟨as, a1⟩, p1⟩ := RD.reads I r1 rx hc.2
      obtain ⟨⟨bs, b1⟩, p2⟩ := RD.reads I r2 ry rfl
      exact PySem.SeqAt.in_tuple_data b1 a1 (plain_tup p2) p1 (depth_in hc.1 hu) ⟨.bl _, H, I, rfl, k _ _ (.same (.bl _))⟩
    · cases e
  · cases e
theorem opd_notIn (hu : X.A.units + 64 < cLine) : OpR X (compareOp .NotIn) (rD2 X.K notInD) := by
  intro pins s σ H x y v u Q I rx ry h
  obtain ⟨F0, l, σ', ds, z, rl, rd, e, k⟩ := h
  obtain ⟨d1, d2, rfl, r1, r2⟩ := rd.two'
  unfold notInD at e
  split at e
  · rename_i d xs heq
    simp only [List.cons.injEq] at heq
    obtain ⟨rfl, rfl, _⟩ := heq
    split at e
    · rename_i hc
      cases e
      simp only [Bool.and_eq_true, Bool.not_eq_true'] at hc
      obtain ⟨⟨as, a1⟩, p1⟩ := RD.reads I r1 rx hc.2
      obtain ⟨⟨bs, b1⟩, p2⟩ := RD.reads I r2 ry rfl
      exact PySem.SeqAt.notIn_list_data b1 a1 (plain_list p2) p1 (depth_in hc.1 hu) ⟨.bl _, H, I, rfl, k _ _ (.same (.bl _))⟩
    · cases e
  · rename_i d xs heq
    simp only [List.cons.injEq] at heq
    obtain ⟨rfl, rfl, _⟩ := heq
    split at e
    · rename_i hc
      cases e
      simp only [Bool.and_eq_true, Bool.not_eq_true'] at hc
      obtain ⟨⟨as, a1⟩, p1⟩ := RD.reads I r1 rx hc.2
      obtain ⟨⟨bs, b1⟩, p2⟩ := RD.reads I r2 ry rfl
      exact PySem.SeqAt.notIn_tuple_data b1 a1 (plain_tup p2) p1 (depth_in hc.1 hu) ⟨.bl _, H, I, rfl, k _ _ (.same (.bl _))⟩
    · cases e
  · cases e
/-! items -/
theorem atI_of {vs : List V} {i : Int} {k : Nat} {w : V} (e : ixOf vs.length i = some k) (h : vs[k]? = some w) : atI vs i = some w := by
  unfold atI
  have : ixN vs.length i = some k := e
  rw [this]
  exact h
theorem ixd : IxR X (rD2 X.K idxD) := by
  intro value slice pins s σ H x y v u Q I rx ry h hs
  obtain ⟨F0, l, σ', ds, z, rl, rd, e, k⟩ := h
  obtain ⟨d1, d2, rfl, r1, r2⟩ := rd.two'
  unfold idxD at e
  split at e
  · rename_i xs i heq
    simp only [List.cons.injEq] at heq
    obtain ⟨rfl, rfl, _⟩ := heq
    rw [Option.map_eq_some_iff] at e
    obtain ⟨d, e1, e2⟩ := e
    rw [Option.bind_eq_some_iff] at e1
    obtain ⟨j, e3, e4⟩ := e1
    subst e2
    have ey := rd_int r2
    subst ey
    obtain ⟨a, vs, rfl, hs', fs⟩ := rd_lst r1
    obtain ⟨w, hw, rw'⟩ := fs.get e4
    exact ix_list value slice pins s σ H _ _ v u Q I rx ry ⟨a, vs, i, w, rfl, rfl, hs', atI_of (by rw [fs.length]; exact e3) hw, k _ _ (.same rw')⟩ hs
  · rename_i xs i heq
    simp only [List.cons.injEq] at heq
    obtain ⟨rfl, rfl, _⟩ := heq
    rw [Option.map_eq_some_iff] at e
    obtain ⟨d, e1, e2⟩ := e
    rw [Option.bind_eq_some_iff] at e1
    obtain ⟨j, e3, e4⟩ := e1
    subst e2
    have ey := rd_int r2
    subst ey
    obtain ⟨a, vs, rfl, hs', fs⟩ := rd_tup r1
    obtain ⟨w, hw, rw'⟩ := fs.get e4
    exact ix_tup value slice pins s σ H _ _ v u Q I rx ry ⟨a, vs, i, w, rfl, rfl, hs'.sq, atI_of (by rw [fs.length]; exact e3) hw, k _ _ (.same rw')⟩ hs
  · cases e
end
end L2.DL
/-! DL7: slices -/
namespace L2.DL
open PySem PySem.Spec PyProof.Rows
theorem Vals.pick {xs : List V} {us : List Value} (r : Vals xs us) : ∀ is : List Nat, Vals (pickAt xs is) (pickAt us is)
  | [] => .nil
  | i :: is => by
    unfold pickAt
    rw [List.filterMap_cons, List.filterMap_cons]
    cases e : xs[i]? with
    | none =>
      rw [r.none_of e]
      exact Vals.pick r is
    | some x =>
      obtain ⟨u, hu, ru⟩ := r.get e
      rw [hu]
      exact .cons ru (Vals.pick r is)
theorem RFs.pick {K : PySem.W.Frag} {F : Addr → Prop} {H : Hp} {vs : List V} {ds : List PyData} (r : RFs K F H vs ds) : ∀ is : List Nat, RFs K F H (pickAt vs is) (pickAt ds is)
  | [] => .nil
  | i :: is => by
    unfold pickAt
    rw [List.filterMap_cons, List.filterMap_cons]
    cases e : vs[i]? with
    | none =>
      have : ds[i]? = none := by
        rw [List.getElem?_eq_none_iff] at e ⊢
        rw [← r.length]; exact e
      rw [this]
      exact RFs.pick r is
    | some x =>
      obtain ⟨u, hu, ru⟩ := r.getV e
      rw [hu]
      exact .cons ru (RFs.pick r is)
theorem RFs.cut {K : PySem.W.Frag} {F : Addr → Prop} {H : Hp} {vs : List V} {ds : List PyData} (r : RFs K F H vs ds) (lo hi : Option Int) : RFs K F H (cutV vs lo hi) (cutL ds lo hi) := by
  unfold cutV cutL
  rw [r.length]
  exact (r.drop _).take _
section
variable {prog : Program} {w : World} {A : Around} {E : Value → Shared → Prop} {s : Shared}
theorem sliceApplied_st {sl : Addr} {vl vu vs : Value} {lo hi : Option Int} {c : Int} {n : Nat} {Q : Int × Int × Nat → Shared → Prop} (hs : s.heap.IsSliceOf sl vl vu vs) (pl : IsPart vl lo) (pu : IsPart vu hi) (ps : IsPart vs (some c)) (h0 : c ≠ 0)
    (h : Q ((Builtin.Slice.sliceAdjust lo hi c n).1, c, Builtin.Slice.slicePlaces (Builtin.Slice.sliceAdjust lo hi c n).1 (Builtin.Slice.sliceAdjust lo hi c n).2 c) s) : wpAny (model prog w) A (Builtin.Slice.sliceApplied (.ref sl) (pure (n : Int))) Q E s := by
  obtain ⟨os, hos, hcs, hds⟩ := id hs
  unfold Builtin.Slice.sliceApplied Builtin.Slice.sliceFields
  refine wpAny_bind (wpAny_bind (wpAny_field hos hds (x := vl) rfl (wpAny_bind (wpAny_field hos hds (x := vu) rfl (wpAny_bind (wpAny_field hos hds (x := vs) rfl (wpAny_pure ?_)))))))
  refine wpAny_bind (HT.slicePart_ ps ?_)
  show wpAny _ _ (if (c == 0) = true then _ else _) _ _ s
  rw [if_neg (by simpa using h0)]
  refine wpAny_bind (HT.slicePart_ pl (wpAny_bind (HT.slicePart_ pu (wpAny_bind (wpAny_pure ?_)))))
  exact wpAny_pure h
theorem pickAt_arr (xs : Array Value) (a c : Int) (k : Nat) : ((List.range k).filterMap fun (m : Nat) => xs[(a + (m : Int) * c).toNat]?).toArray = (pickAt xs.toList ((List.range k).map fun (m : Nat) => (a + (m : Int) * c).toNat)).toArray := by
  unfold pickAt
  rw [List.filterMap_map]
  congr 2
  funext m
  simp
theorem pickAt_le {α : Type} (xs : List α) (is : List Nat) : (pickAt xs is).length ≤ is.length := List.length_filterMap_le _ _
theorem getItem_tuple_st {t sl : Addr} {items : Array Value} {vl vu vs : Value} {lo hi : Option Int} {c : Int} {Q : Value → Shared → Prop} (ht : IsTup s.heap t items) (hs : s.heap.IsSliceOf sl vl vu vs) (pl : IsPart vl lo) (pu : IsPart vu hi) (ps : IsPart vs (some c)) (h0 : c ≠ 0)
    (hsame : (pickAt items.toList (stepT items.size lo hi c)) = items.toList → Q (.ref t) s)
    (h : Q (.ref s.heap.objs.size) { s with heap := s.heap.push { cls := .type "tuple", data := .seq (pickAt items.toList (stepT items.size lo hi c)).toArray } })
    (hsz : (stepT items.size lo hi c).length ≤ sizeLine) : wpAny (model prog w) A (getItem (.ref t) (.ref sl)) Q E s := by
  have htake : sizeOk (.seq (pickAt items.toList (stepT items.size lo hi c)).toArray) := by
    show (pickAt items.toList (stepT items.size lo hi c)).toArray.size ≤ sizeLine
    rw [List.size_toArray]
    exact Nat.le_trans (pickAt_le _ _) hsz
  obtain ⟨os, hos, hcs, hds⟩ := id hs
  have hTs : s.TypeIs (.ref sl) "slice" := ⟨os, hos, hcs⟩
  unfold getItem
  try with_reducible refine wpAny_holding ?_
  first | refine wpAny_bind (wpAny_pure ?_) | skip
  refine wpAny_bind (wpAny_sequenceKey ht.typeIs (by decide) ?_)
  refine wpAny_bind (wpAny_callSpecial?_slot (name := Str.ofString "__getitem__") ht.typeIs PyProof.Rows.slot_tuple_getitem
    (wpAny_call_entry PyProof.Rows.slot_tuple_getitem ht.typeIs entry_tuple_getitem ?_ (args_tuple_getitem _ _)))
  show wpAny _ _ (Builtin.Tuple.tupleItemsOf (.ref t) >>= _) _ _ s
  refine wpAny_bind (tupleItemsOf_ ht ?_)
  refine wpAny_bind (wpAny_typeOf hTs ?_)
  rw [if_pos (by decide)]
  refine wpAny_bind (sliceApplied_st hs pl pu ps h0 ?_)
  generalize hab : Builtin.Slice.sliceAdjust lo hi c (items.size : Int) = ab at *
  have hst : stepT items.size lo hi c = (List.range (Builtin.Slice.slicePlaces ab.1 ab.2 c)).map fun (m : Nat) => (ab.1 + (m : Int) * c).toNat := by
    unfold stepT
    rw [hab]
  show wpAny _ _ (if (ab.1 == 0 && c == 1 && (Builtin.Slice.slicePlaces ab.1 ab.2 c) == items.size) = true then _ else _) _ _ s
  by_cases hw : (ab.1 == 0 && c == 1 && (Builtin.Slice.slicePlaces ab.1 ab.2 c) == items.size) = true
  · rw [if_pos hw]
    rw [Bool.and_eq_true, Bool.and_eq_true] at hw
    have q1 : ab.1 = 0 := eq_of_beq hw.1.1
    have q2 : c = 1 := eq_of_beq hw.1.2
    have q3 : Builtin.Slice.slicePlaces ab.1 ab.2 c = items.size := eq_of_beq hw.2
    have hall : pickAt items.toList (stepT items.size lo hi c) = items.toList := by
      rw [hst, q3, q1, q2]
      have e := pickAt_arr items 0 1 items.size
      have e2 := HT.pick_gen items 0 items.size
      have e3 : ((List.range items.size).filterMap fun (m : Nat) => items[((0 : Int) + (m : Int) * 1).toNat]?).toArray = (pickAt items.toList ((List.range items.size).map fun (m : Nat) => ((0 : Int) + (m : Int) * 1).toNat)).toArray := e
      have e4 : ((List.range items.size).filterMap fun (m : Nat) => items[((0 : Int) + (m : Int) * 1).toNat]?).toArray = ((items.toList.drop 0).take items.size).toArray := e2
      rw [e3] at e4
      have e5 := congrArg Array.toList e4
      have e6 : List.take items.size items.toList = items.toList := List.take_of_length_le (by simp)
      simp only [List.drop_zero, e6] at e5
      simpa using e5
    have hq := hsame hall
    refine wpAny_bind (wpAny_bind (wpAny_typeOf ht.typeIs (wpAny_pure ?_)))
    rw [if_pos (by decide)]
    refine wpAny_bind (wpAny_rule (wpAny_pure ?_))
    exact ⟨_, rfl, wpAny_pure hq⟩
  · rw [if_neg hw, pickAt_arr, ← hst]
    first
      | exact wpAny_bind (m := Builtin.Tuple.tupleExact _) (wpAny_newObj_type (wpAny_pure ⟨_, rfl, wpAny_pure h⟩) htake)
      | exact wpAny_bind (m := Builtin.Tuple.tupleExact _) (wpAny_newObj_type (wpAny_bind (wpAny_pure (wpAny_pure ⟨_, rfl, wpAny_pure h⟩))) htake)
      | exact wpAny_bind (wpAny_bind (m := Builtin.Tuple.tupleExact _) (wpAny_newObj_type (wpAny_pure (wpAny_pure ⟨_, rfl, wpAny_pure h⟩)) htake))
      | exact wpAny_bind (wpAny_bind (m := Builtin.Tuple.tupleExact _) (wpAny_newObj_type (wpAny_pure ⟨_, rfl, wpAny_pure h⟩) htake))
theorem getItem_tuple_whole {t sl : Addr} {items : Array Value} {vl vu : Value} {lo hi : Option Int} {Q : Value → Shared → Prop} (ht : IsTup s.heap t items) (hs : s.heap.IsSliceOf sl vl vu .none) (pl : IsPart vl lo) (pu : IsPart vu hi)
    (hw : HT.sIx items.size 0 lo = 0 ∧ HT.sIx items.size items.size hi = items.size) (h : Q (.ref t) s) : wpAny (model prog w) A (getItem (.ref t) (.ref sl)) Q E s := by
  obtain ⟨os, hos, hcs, hds⟩ := id hs
  have hTs : s.TypeIs (.ref sl) "slice" := ⟨os, hos, hcs⟩
  unfold getItem
  try with_reducible refine wpAny_holding ?_
  first | refine wpAny_bind (wpAny_pure ?_) | skip
  refine wpAny_bind (wpAny_sequenceKey ht.typeIs (by decide) ?_)
  refine wpAny_bind (wpAny_callSpecial?_slot (name := Str.ofString "__getitem__") ht.typeIs PyProof.Rows.slot_tuple_getitem
    (wpAny_call_entry PyProof.Rows.slot_tuple_getitem ht.typeIs entry_tuple_getitem ?_ (args_tuple_getitem _ _)))
  show wpAny _ _ (Builtin.Tuple.tupleItemsOf (.ref t) >>= _) _ _ s
  refine wpAny_bind (tupleItemsOf_ ht ?_)
  refine wpAny_bind (wpAny_typeOf hTs ?_)
  rw [if_pos (by decide)]
  refine wpAny_bind (HT.sliceApplied_gen hs pl pu ?_)
  show wpAny _ _ (if (((HT.sIx items.size 0 lo : Nat) : Int) == 0 && (1 : Int) == 1 && (HT.sIx items.size items.size hi - HT.sIx items.size 0 lo) == items.size) = true then _ else _) _ _ s
  rw [hw.1, hw.2]
  rw [if_pos (by simp)]
  refine wpAny_bind (wpAny_bind (wpAny_typeOf ht.typeIs (wpAny_pure ?_)))
  rw [if_pos (by decide)]
  refine wpAny_bind (wpAny_rule (wpAny_pure ?_))
  exact ⟨_, rfl, wpAny_pure h⟩
end
/-- a slice's wish -/
def rSl (K : PySem.W.Frag) : V → Option Int → Option Int → Option Int → Hp → VK → Prop := fun x a b c H Q => ∃ (F : Addr → Prop) (l : L) (σ : St) (d : PyData) (z : PyData × Bool), Rel K F l σ H ∧ RD K F H x d ∧ sliceO d a b c = some z ∧ ∀ w H', ResOk K F H z H' w → Q w H'
section
variable {X : Cx} {e : Expr} {te : TE} {lo hi st : Option Expr} {tl th ts : TO} {pos p2 : Pos}
theorem slicePick_at (items : Array Value) (lo hi : Option Int) (c : Int) : slicePick items lo hi (some c) = (pickAt items.toList (stepL items.size lo hi c)).toArray := by
  unfold slicePick pickAt stepL
  congr 2
  funext i
  simp
theorem sl_any {pins : List (Addr × Obj)} {s : Shared} {σ : St} {H : Hp} {x : V} {v vl vu vs : Value} {a b c : Option Int} {sl : Addr} {Q : VK} (I : Inv X pins σ H s) (rx : RelV x v) (hs : s.heap.IsSliceOf sl vl vu vs) (pl : IsPart vl a) (pu : IsPart vu b) (ps : IsPart vs c)
    (h : rSl X.K x a b c H Q) : ∃ T id, typeLookup (.type T) "__getitem__" = pure (some (.builtin id)) ∧ s.TypeIs v T ∧ wpAny (model X.prog X.w) X.A (getItem v (.ref sl)) (EP X pins σ Q) X.xe s := by
  obtain ⟨F0, l, σ', d, z, rl, rd, e, k⟩ := h
  unfold sliceO at e
  split at e
  · -- a list, no step
    cases e
    cases ps
    obtain ⟨p, ws, rfl, hR, fs⟩ := rd_lst rd
    exact sl_list pins s σ H _ v vl vu a b sl Q I rx hs pl pu ⟨p, ws, rfl, hR, fun q hq => k _ _ (.lst hq (fs.cut a b))⟩
  · split at e
    · cases e
    · rename_i xs c hc
      cases e
      obtain ⟨p, ws, rfl, hR, fs⟩ := rd_lst rd
      cases rx
      obtain ⟨its, r, ht, hz⟩ := I.list hR
      refine ⟨"list", _, slot_list_getitem.lookup, ht.isList.typeIs, ?_⟩
      refine wpAny_getItem_list_slice ht.isList hs pl pu ps (by simpa using hc) ?_ (by rw [List.size_toArray, ← r.length]; exact hz)
      rw [slicePick_at]
      have hlen : its.toArray.size = xs.length := by rw [List.size_toArray, ← r.length, fs.length]
      rw [hlen]
      have hle : (pickAt ws (stepL xs.length a b c)).length ≤ sizeLine := by
        rw [(Vals.pick r _).length]
        have q := slicePick_size_le its.toArray a b (some c)
        rw [slicePick_at, hlen, List.size_toArray] at q
        have q2 := fs.length
        have q3 : (pickAt its (stepL xs.length a b c)).length ≤ xs.length := q
        omega
      refine ⟨.ref s.heap.objs.size, _, I.laid (t' := s.toks) (o := .lst (pickAt ws (stepL xs.length a b c))) (fun b ob q => Heap.get?_push_of_some _ q) (Nat.le_refl _) ?_, rfl, k _ _ (.lst (I.hok.fresh (Nat.le_refl _)) (fs.pick _))⟩
      exact ⟨hle, _, 0, Vals.pick r _, Heap.get?_push_size _ rfl⟩
  · -- a tuple, no step
    rename_i xs
    cases e
    cases ps
    obtain ⟨p, ws, rfl, hR, fs⟩ := rd_tup rd
    by_cases hw : HT.sIx ws.length 0 a = 0 ∧ HT.sIx ws.length ws.length b = ws.length
    · cases rx
      obtain ⟨its, r, ht, hz⟩ := I.tuple hR.sq
      have hlen : its.toArray.size = ws.length := by rw [List.size_toArray]; exact r.length.symm
      refine ⟨"tuple", _, PyProof.Rows.slot_tuple_getitem.lookup, ht.typeIs, ?_⟩
      refine getItem_tuple_whole ht hs pl pu (by rw [hlen]; exact hw) ⟨.ref p, H, I, rfl, k _ _ (.same ?_)⟩
      have e : cutL xs a b = xs := by
        unfold cutL
        rw [← fs.length, hw.1, hw.2, fs.length]
        simp
      rw [e]
      exact .tup hR fs
    · cases rx
      obtain ⟨its, r, ht, hz⟩ := I.tuple hR.sq
      have hlen : its.toArray.size = ws.length := by rw [List.size_toArray]; exact r.length.symm
      refine ⟨"tuple", _, PyProof.Rows.slot_tuple_getitem.lookup, ht.typeIs, ?_⟩
      refine HT.getItem_tuple_cut ht hs pl pu (by rw [hlen]; exact hw) ?_ (by rw [hlen]; exact hz)
      rw [hlen]
      exact ⟨.ref _, _, Inv.tnew (t' := s.toks) I (ys := cutV ws a b) ((r.drop (HT.sIx ws.length 0 a)).take (HT.sIx ws.length ws.length b - HT.sIx ws.length 0 a)) (Nat.le_trans (cutV_length ws a b) hz), rfl, k _ _ (.tup I.fresh rfl (fs.cut a b))⟩
  · split at e
    · cases e
    · rename_i xs c hc
      split at e
      · rename_i hle
        cases e
        obtain ⟨p, ws, rfl, hR, fs⟩ := rd_tup rd
        cases rx
        obtain ⟨its, r, ht, hz⟩ := I.tuple hR.sq
        have hlen : its.toArray.size = xs.length := by rw [List.size_toArray, ← fs.length]; exact r.length.symm
        refine ⟨"tuple", _, PyProof.Rows.slot_tuple_getitem.lookup, ht.typeIs, ?_⟩
        refine getItem_tuple_st ht hs pl pu ps hc (fun he => ⟨.ref p, H, I, rfl, k _ _ (.same ?_)⟩) ?_ (by rw [hlen]; exact lim_le hle)
        · rw [hlen] at he
          have he : pickAt its (stepT xs.length a b c) = its := by simpa using he
          have e : pickAt ws (stepT xs.length a b c) = ws := by
            have q := Vals.pick r (stepT xs.length a b c)
            rw [he] at q
            exact Vals.inj q r
          have e2 := fs.pick (stepT xs.length a b c)
          rw [e] at e2
          exact .tup hR e2
        · rw [hlen]
          exact ⟨.ref _, _, Inv.tnew (t' := s.toks) I (Vals.pick r _) (Nat.le_trans (pickAt_le _ _) (lim_le hle)), rfl, k _ _ (.tup I.fresh rfl (fs.pick _))⟩
      · cases e
  · cases e
def tSl3 (K : PySem.W.Frag) (te : TE) (tl th ts : TO) : TE := fun σ H Q => te σ H fun x H1 => tl σ H1 fun a H2 => th σ H2 fun b H3 => ts σ H3 fun c H4 => rSl K x a b c H4 Q
theorem pe_slice3 (he : PE X e te) (hl : PO X lo tl) (hu : PO X hi th) (hs : PO X st ts) : PE X (.Subscript e (.Slice lo hi st p2) pos) (tSl3 X.K te tl th ts) := by
  refine ⟨fun pins s σ H Q I h => ?_⟩
  refine Subscript_ (thn (he.run pins s σ H _ I h) fun v s1 ⟨x, H1, I1, r1, q1⟩ => ?_)
  refine wpAny_Slice (thn (hl.run pins s1 σ H1 _ I1 q1) fun vl s2 ⟨l, H2, I2, pl, q2⟩ => thn (hu.run pins s2 σ H2 _ I2 q2) fun vu s3 ⟨u, H3, I3, pu, q3⟩ => thn (hs.run pins s3 σ H3 _ I3 q3) fun vs s4 ⟨c, H4, I4, ps, q4⟩ => ?_)
  have I5 : Inv X pins σ H4 { s4 with heap := s4.heap.push { cls := .type "slice", data := .fields #[vl, vu, vs] } } := I4.kept (t' := s4.toks) fun b ob q => Heap.get?_push_of_some _ q
  obtain ⟨T, id, hT, ht, hg⟩ := sl_any (s := { s4 with heap := s4.heap.push { cls := .type "slice", data := .fields #[vl, vu, vs] } }) (sl := s4.heap.objs.size) I5 r1 (Heap.IsSliceOf.new ..) pl pu ps q4
  show wpAny (model X.prog X.w) X.A (subscriptTail e (.Slice lo hi st p2) v (.ref s4.heap.objs.size)) (EP X pins σ Q) X.xe { s4 with heap := s4.heap.push { cls := .type "slice", data := .fields #[vl, vu, vs] } }
  cases st with
  | none => exact tail_any (ops := [.ref s4.heap.objs.size, v]) ht hT hg (by with_unfolding_all rfl)
  | some _ => exact tail_any (ops := [v, .ref s4.heap.objs.size]) ht hT hg (by with_unfolding_all rfl)
end
end L2.DL
/-! DL8: built-in functions -/
namespace L2.DL
open PySem PySem.Spec PyProof.Rows
section
variable {X : Cx} {pins : List (Addr × Obj)} {σ : St} {H : Hp} {s : Shared} {F : Addr → Prop} {l : L}
theorem opd_len : CallR X (.builtin "len") (rD X.K lenD) := by
  intro pins s σ H vs us Q I rv h
  obtain ⟨F0, l, σ', ds, z, rl, rd, e, k⟩ := h
  unfold lenD at e
  split at e
  · cases e
    obtain ⟨x, rfl, r1⟩ := rd.one
    obtain ⟨a, ws, rfl, hR, fs⟩ := rd_lst r1
    refine call_len_seq pins s σ H _ us Q I rv ⟨a, ws, rfl, .inl hR, ?_⟩
    rw [fs.length]; exact k _ _ (.same (.int _))
  · cases e
    obtain ⟨x, rfl, r1⟩ := rd.one
    obtain ⟨a, ws, rfl, hR, fs⟩ := rd_tup r1
    refine call_len_seq pins s σ H _ us Q I rv ⟨a, ws, rfl, .inr hR.sq, ?_⟩
    rw [fs.length]; exact k _ _ (.same (.int _))
  · cases e
theorem opd_tuple : CallR X (.type "tuple") (rD X.K tupleD) := by
  intro pins s σ H vs us Q I rv h
  obtain ⟨F0, l, σ', ds, z, rl, rd, e, k⟩ := h
  unfold tupleD at e
  split at e
  · cases e
    obtain ⟨x, rfl, r1⟩ := rd.one
    obtain ⟨a, ws, rfl, hR, fs⟩ := rd_lst r1
    obtain ⟨u, rfl, rx⟩ := vals1 rv
    cases rx
    obtain ⟨its, r', pl, hz⟩ := I.list hR
    have hlen := r'.length
    refine call_tuple_list pl.isList (fun h' kp => ?_) (by simp only [List.size_toArray] <;> omega)
    have I1 : Inv X pins σ H { s with heap := h' } := I.kept (t' := s.toks) kp
    exact ⟨.ref _, _, Inv.tnew (t' := s.toks) I1 r' hz, rfl, k _ _ (.tup I1.fresh rfl fs)⟩
  · cases e
    obtain ⟨x, rfl, r1⟩ := rd.one
    obtain ⟨a, ws, rfl, hR, fs⟩ := rd_tup r1
    exact call_tuple_of pins s σ H _ us Q I rv ⟨a, ws, rfl, .inr ⟨hR.sq, k _ _ (.same (.tup hR fs))⟩⟩
  · cases e
theorem opd_list : CallR X (.type "list") (rD X.K listD) := by
  intro pins s σ H vs us Q I rv h
  obtain ⟨F0, l, σ', ds, z, rl, rd, e, k⟩ := h
  unfold listD at e
  split at e
  · cases e
    obtain ⟨x, rfl, r1⟩ := rd.one
    obtain ⟨a, ws, rfl, hR, fs⟩ := rd_lst r1
    exact call_list_of pins s σ H _ us Q I rv ⟨a, ws, rfl, .inl hR, fun p hp => k _ _ (.lst hp fs)⟩
  · cases e
    obtain ⟨x, rfl, r1⟩ := rd.one
    obtain ⟨a, ws, rfl, hR, fs⟩ := rd_tup r1
    exact call_list_of pins s σ H _ us Q I rv ⟨a, ws, rfl, .inr hR.sq, fun p hp => k _ _ (.lst hp fs)⟩
  · cases e
theorem opd_abs : CallR X (.builtin "abs") (rD X.K absD) := by
  intro pins s σ H vs us Q I rv h
  obtain ⟨F0, l, σ', ds, z, rl, rd, e, k⟩ := h
  unfold absD at e
  split at e
  · cases e
    obtain ⟨x, rfl, r1⟩ := rd.one
    have := rd_int r1
    subst this
    exact call_abs pins s σ H _ us Q I rv ⟨_, rfl, k _ _ (.same (.int _))⟩
  · cases e
theorem opd_int : CallR X (.type "int") (rD X.K intD) := by
  intro pins s σ H vs us Q I rv h
  obtain ⟨F0, l, σ', ds, z, rl, rd, e, k⟩ := h
  unfold intD at e
  split at e
  · cases e
    obtain ⟨x, rfl, r1⟩ := rd.one
    have := rd_int r1
    subst this
    exact call_int1 pins s σ H _ us Q I rv (.inl ⟨_, rfl, k _ _ (.same (.int _))⟩)
  · cases e
    obtain ⟨x, rfl, r1⟩ := rd.one
    have := rd_bool r1
    subst this
    exact call_int1 pins s σ H _ us Q I rv (.inr ⟨_, rfl, k _ _ (.same (.int _))⟩)
  · cases e
theorem opd_divmod : CallR X (.builtin "divmod") (rD X.K divmodD) := by
  intro pins s σ H vs us Q I rv h
  obtain ⟨F0, l, σ', ds, z, rl, rd, e, k⟩ := h
  unfold divmodD at e
  split at e
  · rename_i i j
    split at e
    · rename_i hc
      cases e
      obtain ⟨x, y, rfl, r1, r2⟩ := rd.two
      have ex := rd_int r1; have ey := rd_int r2
      subst ex ey
      obtain ⟨u, w', rfl, ⟨t, rfl⟩, ⟨t', rfl⟩⟩ := vals2 rv
      obtain ⟨h1, h2⟩ := hc
      refine divmod_int (by omega) ?_ (.inl (PyProof.noPylong_small (by omega)))
      rw [Int.fdiv_eq_ediv_of_nonneg i (by omega), Int.fmod_eq_emod_of_nonneg i (by omega)]
      refine ⟨.ref s.heap.objs.size, _, Inv.tnewA (its := [.int (i / j) s.toks, .int (i % j) (s.toks + 1)]) (ys := [.int (i / j), .int (i % j)]) I (fun b o e => Heap.get?_push_of_some _ e) (Nat.le_refl _) (Heap.get?_push_size s.heap rfl) (.cons ⟨_, rfl⟩ (.cons ⟨_, rfl⟩ .nil)) (by show 2 ≤ sizeLine; decide), rfl, k _ _ (.tup I.fresh rfl (.cons (.int _) (.cons (.int _) .nil)))⟩
    · cases e
  · cases e
theorem foldl_max_le : ∀ (ns : List Int) (n : Int), n ≤ ns.foldl max n ∧ ∀ y ∈ ns, y ≤ ns.foldl max n
  | [], n => ⟨Int.le_refl _, fun y h => by simp at h⟩
  | m :: ns, n => by
    obtain ⟨h1, h2⟩ := foldl_max_le ns (max n m)
    refine ⟨?_, fun y h => ?_⟩
    · exact Int.le_trans (Int.le_max_left n m) h1
    · rcases List.mem_cons.mp h with rfl | h
      · exact Int.le_trans (Int.le_max_right n y) h1
      · exact h2 y h
theorem foldl_max_mem : ∀ (ns : List Int) (n : Int), ns.foldl max n ∈ n :: ns
  | [], n => by simp
  | m :: ns, n => by
    have h := foldl_max_mem ns (max n m)
    rw [List.foldl_cons]
    rcases List.mem_cons.mp h with h | h
    · rw [h]
      by_cases c : n ≤ m
      · rw [Int.max_eq_right c]; simp
      · rw [Int.max_eq_left (by omega)]; simp
    · simp [h]
theorem foldl_min_le : ∀ (ns : List Int) (n : Int), ns.foldl min n ≤ n ∧ ∀ y ∈ ns, ns.foldl min n ≤ y
  | [], n => ⟨Int.le_refl _, fun y h => by simp at h⟩
  | m :: ns, n => by
    obtain ⟨h1, h2⟩ := foldl_min_le ns (min n m)
    refine ⟨?_, fun y h => ?_⟩
    · exact Int.le_trans h1 (Int.min_le_left n m)
    · rcases List.mem_cons.mp h with rfl | h
      · exact Int.le_trans h1 (Int.min_le_right n y)
      · exact h2 y h
theorem foldl_min_mem : ∀ (ns : List Int) (n : Int), ns.foldl min n ∈ n :: ns
  | [], n => by simp
  | m :: ns, n => by
    have h := foldl_min_mem ns (min n m)
    rw [List.foldl_cons]
    rcases List.mem_cons.mp h with h | h
    · rw [h]
      by_cases c : n ≤ m
      · rw [Int.min_eq_left c]; simp
      · rw [Int.min_eq_right (by omega)]; simp
    · simp [h]
theorem opd_max (hc : X.calm = true) : CallR X (.builtin "max") (rD X.K maxD') := by
  intro pins s σ H vs us Q I rv h
  obtain ⟨F0, l, σ', ds, z, rl, rd, e, k⟩ := h
  unfold maxD' at e
  split at e
  · cases e
    obtain ⟨x, y, rfl, r1, r2⟩ := rd.two
    have ex := rd_int r1; have ey := rd_int r2
    subst ex ey
    exact call_max2 hc pins s σ H _ us Q I rv ⟨_, _, rfl, k _ _ (.same (.int _))⟩
  · rename_i n xs
    rw [Option.map_eq_some_iff] at e
    obtain ⟨ns, e1, e2⟩ := e
    subst e2
    obtain ⟨x, rfl, r1⟩ := rd.one
    obtain ⟨a, ws, rfl, hR, fs⟩ := rd_lst r1
    have ew := rfs_ints (ds := .int n :: xs) (ns := n :: ns) (by simp [intsOf, e1]) fs
    subst ew
    refine cr_max hc pins s σ H _ us Q I rv ⟨a, n :: ns, rfl, hR, by simp, fun m hm hle => ?_⟩
    have e3 : m = ns.foldl max n := by
      obtain ⟨h1, h2⟩ := foldl_max_le ns n
      have h3 := hle _ (foldl_max_mem ns n)
      rcases List.mem_cons.mp hm with rfl | hm
      · omega
      · have := h2 m hm; omega
    subst e3
    exact k _ _ (.same (.int _))
  · cases e
theorem opd_min (hc : X.calm = true) : CallR X (.builtin "min") (rD X.K minD') := by
  intro pins s σ H vs us Q I rv h
  obtain ⟨F0, l, σ', ds, z, rl, rd, e, k⟩ := h
  unfold minD' at e
  split at e
  · cases e
    obtain ⟨x, y, rfl, r1, r2⟩ := rd.two
    have ex := rd_int r1; have ey := rd_int r2
    subst ex ey
    exact call_min2 hc pins s σ H _ us Q I rv ⟨_, _, rfl, k _ _ (.same (.int _))⟩
  · rename_i n xs
    rw [Option.map_eq_some_iff] at e
    obtain ⟨ns, e1, e2⟩ := e
    subst e2
    obtain ⟨x, rfl, r1⟩ := rd.one
    obtain ⟨a, ws, rfl, hR, fs⟩ := rd_lst r1
    have ew := rfs_ints (ds := .int n :: xs) (ns := n :: ns) (by simp [intsOf, e1]) fs
    subst ew
    refine cr_min hc pins s σ H _ us Q I rv ⟨a, n :: ns, rfl, hR, by simp, fun m hm hle => ?_⟩
    have e3 : m = ns.foldl min n := by
      obtain ⟨h1, h2⟩ := foldl_min_le ns n
      have h3 := hle _ (foldl_min_mem ns n)
      rcases List.mem_cons.mp hm with rfl | hm
      · omega
      · have := h2 m hm; omega
    subst e3
    exact k _ _ (.same (.int _))
  · cases e
theorem opd_all (hc : X.calm = true) : CallR X (.builtin "all") (rD X.K allD) := by
  intro pins s σ H vs us Q I rv h
  obtain ⟨F0, l, σ', ds, z, rl, rd, e, k⟩ := h
  unfold allD at e
  split at e
  · rw [Option.map_eq_some_iff] at e
    obtain ⟨bs, e1, e2⟩ := e
    subst e2
    obtain ⟨x, rfl, r1⟩ := rd.one
    obtain ⟨a, ws, rfl, hR, fs⟩ := rd_lst r1
    have ew := rfs_bools e1 fs
    subst ew
    exact cr_all hc pins s σ H _ us Q I rv ⟨a, bs, rfl, hR, k _ _ (.same (.bl _))⟩
  · cases e
theorem opd_any (hc : X.calm = true) : CallR X (.builtin "any") (rD X.K anyD) := by
  intro pins s σ H vs us Q I rv h
  obtain ⟨F0, l, σ', ds, z, rl, rd, e, k⟩ := h
  unfold anyD at e
  split at e
  · rw [Option.map_eq_some_iff] at e
    obtain ⟨bs, e1, e2⟩ := e
    subst e2
    obtain ⟨x, rfl, r1⟩ := rd.one
    obtain ⟨a, ws, rfl, hR, fs⟩ := rd_lst r1
    have ew := rfs_bools e1 fs
    subst ew
    exact cr_any hc pins s σ H _ us Q I rv ⟨a, bs, rfl, hR, k _ _ (.same (.bl _))⟩
  · cases e
theorem opd_sum (hc : X.calm = true) : CallR X (.builtin "sum") (rD X.K sumD) := by
  intro pins s σ H vs us Q I rv h
  obtain ⟨F0, l, σ', ds, z, rl, rd, e, k⟩ := h
  unfold sumD at e
  split at e
  · rw [Option.map_eq_some_iff] at e
    obtain ⟨ns, e1, e2⟩ := e
    subst e2
    obtain ⟨x, rfl, r1⟩ := rd.one
    obtain ⟨a, ws, rfl, hR, fs⟩ := rd_lst r1
    have ew := rfs_ints e1 fs
    subst ew
    exact cr_sum hc pins s σ H _ us Q I rv ⟨a, ns, rfl, hR, k _ _ (.same (.int _))⟩
  · cases e
/-! how many unlike ints -/
theorem mem_dedup {i : Int} : ∀ {ns : List Int}, i ∈ dedup ns ↔ i ∈ ns
  | [] => by simp [dedup]
  | n :: ns => by
    unfold dedup
    split
    · rename_i h
      rw [mem_dedup (ns := ns), List.mem_cons]
      constructor
      · exact .inr
      · rintro (rfl | h')
        · simpa using h
        · exact h'
    · rw [List.mem_cons, List.mem_cons, mem_dedup (ns := ns)]
theorem nodup_dedup : ∀ ns : List Int, (dedup ns).Nodup
  | [] => by simp [dedup]
  | n :: ns => by
    unfold dedup
    split
    · exact nodup_dedup ns
    · rename_i h
      refine List.nodup_cons.mpr ⟨fun z => h ?_, nodup_dedup ns⟩
      have := mem_dedup.mp z
      simpa using this
theorem nodup_le : ∀ {as bs : List Int}, as.Nodup → (∀ x, x ∈ as → x ∈ bs) → as.length ≤ bs.length
  | [], _, _, _ => Nat.zero_le _
  | a :: as, bs, hn, hs => by
    obtain ⟨h1, h2⟩ := List.nodup_cons.mp hn
    have ha : a ∈ bs := hs a (by simp)
    have h3 := nodup_le (as := as) (bs := bs.erase a) h2 fun x hx => by
      have ne : x ≠ a := fun e => h1 (e ▸ hx)
      exact (List.mem_erase_of_ne ne).mpr (hs x (by simp [hx]))
    rw [List.length_erase_of_mem ha] at h3
    have := List.length_pos_of_mem ha
    simp only [List.length_cons]
    omega
theorem nodup_len {as bs : List Int} (ha : as.Nodup) (hb : bs.Nodup) (h : ∀ x, x ∈ as ↔ x ∈ bs) : as.length = bs.length :=
  Nat.le_antisymm (nodup_le ha fun x => (h x).mp) (nodup_le hb fun x => (h x).mpr)
theorem nodup_dedup_eq {ns : List Int} (h : ns.Nodup) : (dedup ns).length = ns.length := nodup_len (nodup_dedup ns) h fun _ => mem_dedup
theorem foldl_dedup_nodup : ∀ (xs acc : List Int), acc.Nodup → (xs.foldl PyProof.Rows.step_dedup acc).Nodup ∧ ∀ x, x ∈ xs.foldl PyProof.Rows.step_dedup acc ↔ x ∈ acc ∨ x ∈ xs
  | [], acc, h => ⟨h, fun x => by simp⟩
  | y :: xs, acc, h => by
    have hs : (PyProof.Rows.step_dedup acc y).Nodup ∧ ∀ x, x ∈ PyProof.Rows.step_dedup acc y ↔ x ∈ acc ∨ x = y := by
      unfold PyProof.Rows.step_dedup
      split
      · rename_i hc
        rw [List.any_eq_true] at hc
        obtain ⟨z, hz, e⟩ := hc
        have e := eq_of_beq e
        subst e
        exact ⟨h, fun x => ⟨.inl, fun q => q.elim id fun q => q ▸ hz⟩⟩
      · rename_i hc
        refine ⟨?_, fun x => by simp⟩
        rw [List.nodup_append]
        refine ⟨h, by simp, fun a ha b hb e => hc ?_⟩
        rw [List.mem_singleton] at hb
        subst hb e
        rw [List.any_eq_true]
        exact ⟨a, ha, by simp⟩
    obtain ⟨h1, h2⟩ := foldl_dedup_nodup xs _ hs.1
    refine ⟨h1, fun x => ?_⟩
    rw [List.foldl_cons, h2, hs.2, List.mem_cons]
    constructor
    · rintro ((a | a) | a)
      · exact .inl a
      · exact .inr (.inl a)
      · exact .inr (.inr a)
    · rintro (a | a | a)
      · exact .inl (.inl a)
      · exact .inl (.inr a)
      · exact .inr a
theorem firstMet_len (ns : List Int) : (PyProof.Rows.firstMet (fun i => ns.getD i 0) ns.length).length = (dedup ns).length := by
  unfold PyProof.Rows.firstMet
  have e : (List.range ns.length).map (fun i => ns.getD i 0) = ns := by
    apply List.ext_getElem (by simp)
    intro i h1 h2
    have h2' : i < ns.length := h2
    simp [List.getD_eq_getElem?_getD, h2']
  rw [e]
  obtain ⟨h1, h2⟩ := foldl_dedup_nodup ns [] List.nodup_nil
  exact nodup_len h1 (nodup_dedup ns) fun x => by rw [h2, mem_dedup]; simp
end
/-! len(set(x)), x a list or a tuple of ints -/
section
variable {X : Cx}
theorem pe_lenSet {a : Expr} {ta : TE} {p p2 q pos : Pos} (hg : Gl X "len") (hm : X.mg "len" = none) (hg2 : Gl X "set") (hm2 : X.mg "set" = none) (ha : PE X a ta) (hc : X.calm = true)
    (na : starEach [a] X.env = (false, eval a X.env) :: starEach [] X.env) : PE X (.Call (.Name "len" p) [.Call (.Name "set" p2) [a] [] q] [] pos) (fun σ H Q => ta σ H fun x H1 => rD X.K lenSetD [x] H1 Q) := by
  refine ⟨fun pins s σ H Q I h => ?_⟩
  refine Call_ (ld_blt I hg hm boot_len ?_)
  refine PyProof.Rows.callWith_builtin1 (PyProof.Rows.args_cons ?_ rfl) rfl rfl
  refine Call_ (ld_blt I hg2 hm2 boot_set ?_)
  refine PyProof.Rows.callWith_type1 (PyProof.Rows.args_cons (thn (ha.run pins s σ H _ I h) fun v s1 ⟨x, H1, I1, r1, q1⟩ => PyProof.Rows.args_nil ?_) na) na rfl
  obtain ⟨F0, l, σ', ds, z, rl, rd, e, k⟩ := q1
  unfold lenSetD at e
  split at e
  · split at e
    · rename_i xs ns hns
      split at e
      · rename_i hl
        cases e
        obtain ⟨x', e0, rd1⟩ := rd.one
        cases e0
        obtain ⟨b, ws, rfl, hR, fs⟩ := rd_lst rd1
        have ew := rfs_ints hns fs
        subst ew
        cases r1
        obtain ⟨its, r, pl, hz⟩ := I1.list hR
        have hlen : its.toArray.size = ns.length := by rw [List.size_toArray, ← r.length, List.length_map]
        refine call_set_list (I1.ok.hd hc) pl.isList (by simpa using intsAre_of r) (by rw [hlen]; unfold scanBound; omega) fun h' tk hS hk => ?_
        refine PyProof.Rows.args_nil ?_
        rw [hlen] at hS
        obtain ⟨o, es, ep, t, ho, hex, hd, _, _, _, hf, hn⟩ := hS
        have I2 : Inv X pins σ H1 { s1 with heap := h', toks := tk } := I1.kept fun b o e => hk b o (Heap.lt_size e) e
        have hd2 := firstMet_len ns
        have hd3 := PyProof.Rows.firstMet_length_le (fun i => ns.getD i 0) ns.length
        rw [hd2] at hn hd3
        exact call_len_set ho hex hd hf (by rw [hn]; omega) ⟨.int ((dedup ns).length : Nat), H1, I2.tok _, ⟨_, by rw [hn]⟩, k _ _ (.same (.int _))⟩
      · cases e
    · cases e
  · split at e
    · rename_i xs ns hns
      split at e
      · rename_i hl
        cases e
        obtain ⟨x', e0, rd1⟩ := rd.one
        cases e0
        obtain ⟨b, ws, rfl, hR, fs⟩ := rd_tup rd1
        have ew := rfs_ints hns fs
        subst ew
        cases r1
        obtain ⟨its, r, pl, hz⟩ := I1.tuple hR.sq
        refine call_set_tupI ns (I1.ok.hd hc) pl (by simpa using intsAre_of r) (by unfold scanBound; omega) fun h' tk c hS hcl hk => ?_
        refine PyProof.Rows.args_nil ?_
        obtain ⟨o, es, ep, t, ho, hex, hd, _, hnd, hmem, _, hf, hn, _⟩ := hS
        have I2 : Inv X pins σ H1 { s1 with heap := h', toks := tk } := I1.kept hk
        have e2 : es.size = (dedup ns).length := by
          have q := nodup_len hnd (nodup_dedup ns) fun x => by rw [← hmem x, mem_dedup]; simp
          rw [← q]; simp
        exact call_len_set ho hex hd hf (by omega) ⟨.int ((dedup ns).length : Nat), H1, I2.tok _, ⟨_, by rw [e2]⟩, k _ _ (.same (.int _))⟩
      · cases e
    · cases e
  · cases e
end
end L2.DL
/-! DLd: dicts -/
namespace L2.DL
open PySem PySem.Spec PyProof.Rows
section
variable {K : PySem.W.Frag} {F : Addr → Prop} {H : Hp}
theorem DXs.look {kvs : List (PyData × PyData)} {xs : List (List Int × Addr × Value)} (h : DXs K F H kvs xs) (ks : List Int) :
    (lookD keyI kvs ks = none ∧ atKey xs ks = none) ∨ ∃ d b u v, lookD keyI kvs ks = some d ∧ atKey xs ks = some (b, u) ∧ RelV v u ∧ RF K F H v d := by
  induction h with
  | nil => exact .inl ⟨rfl, rfl⟩
  | @cons kd vd ks0 b v u kvs xs h1 h2 h3 h4 _ ih =>
    by_cases e : ks0 = ks
    · subst e
      exact .inr ⟨vd, b, u, v, by simp [lookD, List.find?_cons, h1], by simp [atKey, List.find?_cons], h4, h3⟩
    · have e1 : lookD keyI ((kd, vd) :: kvs) ks = lookD keyI kvs ks := by simp [lookD, List.find?_cons, h1, e]
      have e2 : atKey ((ks0, b, u) :: xs) ks = atKey xs ks := by simp [atKey, List.find?_cons, e]
      rw [e1, e2]
      exact ih
theorem DXs.any {kvs : List (PyData × PyData)} {xs : List (List Int × Addr × Value)} (h : DXs K F H kvs xs) (ks : List Int) : (kvs.any fun p => decide (keyI p.1 = some ks)) = (atKey xs ks).isSome := by
  induction h with
  | nil => rfl
  | @cons kd vd ks0 b v u kvs xs h1 h2 h3 h4 _ ih =>
    by_cases e : ks0 = ks
    · subst e
      simp [atKey, List.find?_cons, h1]
    · have e2 : atKey ((ks0, b, u) :: xs) ks = atKey xs ks := by simp [atKey, List.find?_cons, e]
      rw [e2, List.any_cons, ih]
      simp [h1, e]
theorem DXs.map {kvs : List (PyData × PyData)} {xs : List (List Int × Addr × Value)} (h : DXs K F H kvs xs) (ks : List Int) {v : V} {u : Value} {vd : PyData} (r : RelV v u) (rf : RF K F H v vd) :
    DXs K F H (kvs.map fun p => if keyI p.1 = some ks then (p.1, vd) else p) (xs.map (PySem.putAt ks u)) := by
  induction h with
  | nil => exact .nil
  | @cons kd vd0 ks0 b v0 u0 kvs xs h1 h2 h3 h4 _ ih =>
    rw [List.map_cons, List.map_cons]
    by_cases e : ks0 = ks
    · subst e
      have e1 : (if keyI (kd, vd0).1 = some ks0 then ((kd, vd0).1, vd) else (kd, vd0)) = (kd, vd) := by simp [h1]
      have e2 : PySem.putAt ks0 u (ks0, b, u0) = (ks0, b, u) := by simp [PySem.putAt]
      rw [e1, e2]
      exact .cons h1 h2 rf r ih
    · have e1 : (if keyI (kd, vd0).1 = some ks then ((kd, vd0).1, vd) else (kd, vd0)) = (kd, vd0) := by simp [h1, e]
      have e2 : PySem.putAt ks u (ks0, b, u0) = (ks0, b, u0) := by simp [PySem.putAt, e]
      rw [e1, e2]
      exact .cons h1 h2 h3 h4 ih
theorem DXs.snoc {kvs : List (PyData × PyData)} {xs : List (List Int × Addr × Value)} (h : DXs K F H kvs xs) {kd vd : PyData} {ks : List Int} {b : Addr} {v : V} {u : Value} (h1 : keyI kd = some ks) (h2 : TupD K H b (ks.map V.int)) (h3 : RF K F H v vd) (h4 : RelV v u) :
    DXs K F H (kvs ++ [(kd, vd)]) (xs ++ [(ks, b, u)]) := by
  induction h with
  | nil => exact .cons h1 h2 h3 h4 .nil
  | cons g1 g2 g3 g4 _ ih => exact .cons g1 g2 g3 g4 ih
theorem DXs.put {kvs : List (PyData × PyData)} {xs : List (List Int × Addr × Value)} (h : DXs K F H kvs xs) {kd vd : PyData} {ks : List Int} {b : Addr} {v : V} {u : Value} (h1 : keyI kd = some ks) (h2 : TupD K H b (ks.map V.int)) (h3 : RF K F H v vd) (h4 : RelV v u) :
    DXs K F H (putD keyI kvs kd vd ks) (storedH xs ks b u) := by
  unfold putD storedH
  rw [h.any ks]
  by_cases e : (atKey xs ks).isSome = true
  · rw [if_pos e, if_pos e]; exact h.map ks h4 h3
  · rw [if_neg e, if_neg e]; exact h.snoc h1 h2 h3 h4
theorem DKs.look {kvs : List (PyData × PyData)} {es : List (Key × V)} (h : DKs K F H kvs es) (k : Key) :
    (lookD keyP kvs k = none ∧ valV es k = none) ∨ ∃ d v, lookD keyP kvs k = some d ∧ valV es k = some v ∧ RF K F H v d := by
  induction h with
  | nil => exact .inl ⟨rfl, rfl⟩
  | @cons kd vd k0 v kvs es h1 h2 _ ih =>
    by_cases e : k0 = k
    · subst e
      exact .inr ⟨vd, v, by simp [lookD, List.find?_cons, h1], by simp [valV, List.find?_cons], h2⟩
    · have e1 : lookD keyP ((kd, vd) :: kvs) k = lookD keyP kvs k := by simp [lookD, List.find?_cons, h1, e]
      have e2 : valV ((k0, v) :: es) k = valV es k := by simp [valV, List.find?_cons, e]
      rw [e1, e2]
      exact ih
theorem DKs.any {kvs : List (PyData × PyData)} {es : List (Key × V)} (h : DKs K F H kvs es) (k : Key) : (kvs.any fun p => decide (keyP p.1 = some k)) = (es.any fun kv => decide (kv.1 = k)) := by
  induction h with
  | nil => rfl
  | @cons kd vd k0 v kvs es h1 h2 _ ih =>
    rw [List.any_cons, List.any_cons, ih]
    simp [h1]
theorem DKs.put {kvs : List (PyData × PyData)} {es : List (Key × V)} (h : DKs K F H kvs es) {kd vd : PyData} {k : Key} {v : V} (h1 : keyP kd = some k) (h2 : RF K F H v vd) : DKs K F H (putD keyP kvs kd vd k) (putK es k v) := by
  unfold putD putK
  rw [h.any k]
  by_cases e : (es.any fun kv => decide (kv.1 = k)) = true
  · rw [if_pos e, if_pos e]
    clear e
    induction h with
    | nil => exact .nil
    | @cons kd0 vd0 k0 v0 kvs es g1 g2 _ ih =>
      rw [List.map_cons, List.map_cons]
      by_cases e : k0 = k
      · subst e
        have e1 : (if keyP (kd0, vd0).1 = some k0 then ((kd0, vd0).1, vd) else (kd0, vd0)) = (kd0, vd) := by simp [g1]
        have e2 : (if (k0, v0).1 = k0 then ((k0, v0).1, v) else (k0, v0)) = (k0, v) := by simp
        rw [e1, e2]
        exact .cons g1 h2 ih
      · have e1 : (if keyP (kd0, vd0).1 = some k then ((kd0, vd0).1, vd) else (kd0, vd0)) = (kd0, vd0) := by simp [g1, e]
        have e2 : (if (k0, v0).1 = k then ((k0, v0).1, v) else (k0, v0)) = (k0, v0) := by simp [e]
        rw [e1, e2]
        exact .cons g1 g2 ih
  · rw [if_neg e, if_neg e]
    clear e
    induction h with
    | nil => exact .cons h1 h2 .nil
    | cons g1 g2 _ ih => exact .cons g1 g2 ih
theorem DXs.len {kvs : List (PyData × PyData)} {xs : List (List Int × Addr × Value)} (h : DXs K F H kvs xs) : kvs.length = xs.length := by
  induction h with
  | nil => rfl
  | cons _ _ _ _ _ ih => simp [ih]
theorem DKs.len {kvs : List (PyData × PyData)} {es : List (Key × V)} (h : DKs K F H kvs es) : kvs.length = es.length := by
  induction h with
  | nil => rfl
  | cons _ _ _ ih => simp [ih]
end
section
variable {X : Cx} {pins : List (Addr × Obj)} {σ : St} {H : Hp} {s : Shared} {F : Addr → Prop}
theorem ints_are {P : Program} {w : World} : ∀ {ks : List Int} {us : List Value}, Vals (ks.map V.int) us → ItemsAre (PySem.intKind P w) ks us
  | [], _, r => by rw [List.map_nil] at r; cases r; exact .nil
  | k :: ks, _, r => by
    rw [List.map_cons] at r
    cases r with
    | cons h t =>
      obtain ⟨tk, rfl⟩ := h
      exact .cons (by show Value.isInt k (.int k tk) = true; simp [Value.isInt]) (ints_are t)
theorem keyT_of (I : Inv X pins σ H s) {b : Addr} {ks : List Int} (h : TupD X.K H b (ks.map V.int)) : (tupleKind (PySem.intKind X.prog X.w)).is s.heap ks b := by
  obtain ⟨its, r, ht, _⟩ := I.tuple h.sq
  obtain ⟨o, h1, h2, n, h3⟩ := ht
  exact ⟨o, its.toArray, n, h1, h2, h3, by simpa using ints_are r⟩
theorem DXs.keys (I : Inv X pins σ H s) {kvs : List (PyData × PyData)} {xs : List (List Int × Addr × Value)} (h : DXs X.K F H kvs xs) : ∀ x ∈ xs, (tupleKind (PySem.intKind X.prog X.w)).is s.heap x.1 x.2.1 := by
  induction h with
  | nil => intro x hx; simp at hx
  | cons g1 g2 g3 g4 _ ih =>
    intro x hx
    rcases List.mem_cons.mp hx with e | hx
    · subst e; exact keyT_of I g2
    · exact ih x hx
theorem DXs.dict (I : Inv X pins σ H s) {a : Addr} {kvs : List (PyData × PyData)} {xs : List (List Int × Addr × Value)} (e : H a = some (.ext (DXat xs a))) (h : DXs X.K F H kvs xs) : (a == sysModules) = false ∧ xs.length ≤ sizeLine ∧ s.heap.DictOfH (tupleKind (PySem.intKind X.prog X.w)) a xs := by
  obtain ⟨⟨h1, h2, h3, o, es, ep, h4, h5, h6, h7⟩, _⟩ := (show ObjOk X.prog X.w H s.heap a (.ext (DXat xs a)) from I.hok a _ e)
  exact ⟨h1, h2, o, es, ep, h4, h5, h6, by rw [h7, entI_eq], DXs.keys I h, h3⟩
theorem dx_new {P : Program} {w : World} {h' : Heap} {H' : Hp} {a : Addr} {xs : List (List Int × Addr × Value)} (hd : (a == sysModules) = false) (hl : xs.length ≤ sizeLine) (dd : h'.DictOfH (tupleKind (PySem.intKind P w)) a xs) : ObjOk P w H' h' a (.ext (DXat xs a)) := by
  obtain ⟨o, es, ep, h4, h5, h6, h7, _, h3⟩ := dd
  refine ⟨⟨hd, hl, h3, o, es, ep, h4, h5, h6, by rw [h7, entI_eq]⟩, ⟨o, h4⟩, fun h1 h2 g k => ?_⟩
  obtain ⟨g1, g2, g3, o', es', ep', g4, g5⟩ := g
  exact ⟨g1, g2, g3, o', es', ep', k _ g4, g5⟩
end
end L2.DL
/-! DLe: operations on dicts -/
namespace L2.DL
open PySem PySem.Spec PyProof.Rows
section
variable {K : PySem.W.Frag} {F : Addr → Prop} {H : Hp}
theorem dict_cases {x : V} {kvs : List (PyData × PyData)} (h : RD K F H x (.dict kvs)) : ∃ a, x = .ref a ∧ ((∃ r xs, kvs = (.none, .none) :: r ∧ H a = some (.ext (DXat xs a)) ∧ DXs K F H r xs) ∨ ∃ es, H a = some (.dK es) ∧ DKs K F H kvs es) := by
  rcases h with h | ⟨a, rfl, q⟩
  · cases h
  · cases q with
    | dK e q => exact ⟨a, rfl, .inr ⟨_, e, q⟩⟩
    | dX e q => exact ⟨a, rfl, .inl ⟨_, _, rfl, e, q⟩⟩
theorem dGet_K {kvs : List (PyData × PyData)} {es : List (Key × V)} (h : DKs K F H kvs es) (k : PyData) : dGet kvs k = (keyP k).map fun kk => lookD keyP kvs kk := by
  unfold dGet
  split
  · cases h with
    | cons h1 _ _ => cases h1
  · rfl
theorem rfs_intsP : ∀ {ds : List PyData} {ns : List Int} {vs : List V}, intsP ds = some ns → RFs K F H vs ds → vs = ns.map V.int
  | [], ns, vs, e, h => by cases e; cases h; rfl
  | d :: ds, ns, vs, e, h => by
    cases h with
    | cons h1 h2 =>
      cases d with
      | int i =>
        simp only [intsP, Option.map_eq_some_iff] at e
        obtain ⟨ms, e1, e2⟩ := e
        subst e2
        cases h1
        rw [rfs_intsP e1 h2]; rfl
      | _ => simp [intsP] at e
theorem rd_keyI {y : V} {k : PyData} {ks : List Int} (h : RD K F H y k) (e : keyI k = some ks) : ∃ b, y = .ref b ∧ TupD K H b (ks.map V.int) := by
  cases k with
  | tuple ds =>
    obtain ⟨b, vs, rfl, hs, fs⟩ := rd_tup h
    have e : intsP ds = some ks := e
    rw [rfs_intsP e fs] at hs
    exact ⟨b, rfl, hs⟩
  | _ => cases e
theorem rd_keyP {y : V} {k : PyData} {kk : Key} (h : RD K F H y k) (e : keyP k = some kk) : y = kV kk := by
  cases k with
  | int i => cases e; exact rd_int h
  | str x => cases e; exact rd_str h
  | _ => cases e
end
def idxX : Op
  | [.dict kvs, k] => match dGet kvs k with
    | some (some d) => some (d, false)
    | _ => none
  | ds => idxD ds
def inX : Op
  | [k, .dict kvs] => (dGet kvs k).map fun o => (.bool o.isSome, false)
  | ds => inD ds
def notInX : Op
  | [k, .dict kvs] => (dGet kvs k).map fun o => (.bool (!o.isSome), false)
  | ds => notInD ds
section
variable {X : Cx} {pins : List (Addr × Obj)} {σ : St} {H : Hp} {s : Shared} {F : Addr → Prop}
theorem ixX (hu : X.A.units + 1 < cLine) : IxR X (rD2 X.K idxX) := by
  intro value slice pins s σ H x y v u Q I rx ry h hs
  obtain ⟨F0, l, σ', ds, z, rl, rd, e, k⟩ := h
  obtain ⟨d1, d2, rfl, r1, r2⟩ := rd.two'
  have old : (∀ kvs, d1 ≠ .dict kvs) → wpAny (model X.prog X.w) X.A (subscriptTail value slice v u) (EP X pins σ Q) X.xe s := fun hn => by
    refine ixd value slice pins s σ H x y v u Q I rx ry ⟨F0, l, σ', [d1, d2], z, rl, .cons r1 (.cons r2 .nil), ?_, k⟩ hs
    cases d1 <;> first | exact e | exact absurd rfl (hn _)
  cases d1 with
  | dict kvs =>
    have e : (match dGet kvs d2 with | some (some d) => some (d, false) | _ => none) = some z := e
    obtain ⟨a, rfl, hc⟩ := dict_cases r1
    cases rx
    rcases hc with ⟨r, xs, rfl, he, hx⟩ | ⟨es, he, hk⟩
    · have eg : dGet ((.none, .none) :: r) d2 = (keyI d2).map fun ks => lookD keyI r ks := rfl
      rw [eg] at e
      cases ek : keyI d2 with
      | none => rw [ek] at e; cases e
      | some ks =>
        rw [ek] at e
        obtain ⟨b, rfl, ht⟩ := rd_keyI r2 ek
        cases ry
        obtain ⟨h1, h2, dd⟩ := DXs.dict I he hx
        rcases hx.look ks with ⟨n1, _⟩ | ⟨d, b2, u2, v2, n1, n2, n3, n4⟩
        · simp only [Option.map_some, n1] at e; cases e
        · simp only [Option.map_some, n1] at e
          cases e
          exact tail_any dd.typeIs slot_dict_getitem.lookup (wpAny_getItem_heap (tupleKind_room_in1 hu) (keyT_of I ht) dd n2 ⟨v2, H, I.tok _, n3, k _ _ (.same n4)⟩) hs
    · rw [dGet_K hk] at e
      cases ek : keyP d2 with
      | none => rw [ek] at e; cases e
      | some kk =>
        rw [ek] at e
        have ey := rd_keyP r2 ek
        subst ey
        obtain ⟨_, _, _, _, dd⟩ := dk_rd I.hok (.inl he)
        rcases hk.look kk with ⟨n1, _⟩ | ⟨d, v2, n1, n2, n4⟩
        · simp only [Option.map_some, n1] at e; cases e
        · simp only [Option.map_some, n1] at e
          cases e
          have g := DGet.k (k := kk) he
          rw [n2] at g
          exact tail_any dd.typeIs slot_dict_getitem.lookup (d_getItem hu I g ry fun w' s' I' rw' => ⟨v2, H, I', rw', k _ _ (.same n4)⟩) hs
  | _ => exact old (fun _ z => by cases z)
theorem opX_in (hu : X.A.units + 64 < cLine) : OpR X (compareOp .In) (rD2 X.K inX) := by
  intro pins s σ H x y v u Q I rx ry h
  obtain ⟨F0, l, σ', ds, z, rl, rd, e, k⟩ := h
  obtain ⟨d1, d2, rfl, r1, r2⟩ := rd.two'
  have hu1 : X.A.units + 1 < cLine := by omega
  have old : (∀ kvs, d2 ≠ .dict kvs) → wpAny (model X.prog X.w) X.A (compareOp .In v u) (EP X pins σ Q) X.xe s := fun hn => by
    refine opd_in hu pins s σ H x y v u Q I rx ry ⟨F0, l, σ', [d1, d2], z, rl, .cons r1 (.cons r2 .nil), ?_, k⟩
    cases d2 <;> first | exact e | exact absurd rfl (hn _)
  cases d2 with
  | dict kvs =>
    have e : ((dGet kvs d1).map fun o => (PyData.bool o.isSome, false)) = some z := e
    obtain ⟨a, rfl, hc⟩ := dict_cases r2
    cases ry
    rcases hc with ⟨r, xs, rfl, he, hx⟩ | ⟨es, he, hk⟩
    · have eg : dGet ((.none, .none) :: r) d1 = (keyI d1).map fun ks => lookD keyI r ks := rfl
      rw [eg] at e
      cases ek : keyI d1 with
      | none => rw [ek] at e; cases e
      | some ks =>
        rw [ek] at e
        cases e
        obtain ⟨b, rfl, ht⟩ := rd_keyI r1 ek
        cases rx
        obtain ⟨h1, h2, dd⟩ := DXs.dict I he hx
        refine wpAny_in_heap (tupleKind_room_in1 hu1) (keyT_of I ht) h1 dd ?_
        have es : (atKey xs ks).isSome = (lookD keyI r ks).isSome := by
          rcases hx.look ks with ⟨n1, n2⟩ | ⟨d, b2, u2, v2, n1, n2, n3, n4⟩ <;> rw [n1, n2] <;> rfl
        rw [es]
        exact ⟨.bl _, H, I.tok _, rfl, k _ _ (.same (.bl _))⟩
    · rw [dGet_K hk] at e
      cases ek : keyP d1 with
      | none => rw [ek] at e; cases e
      | some kk =>
        rw [ek] at e
        cases e
        have ey := rd_keyP r1 ek
        subst ey
        refine d_in hu1 I (DGet.k (k := kk) he) rx fun s' I' => ?_
        have es : (valV es kk).isSome = (lookD keyP kvs kk).isSome := by
          rcases hk.look kk with ⟨n1, n2⟩ | ⟨d, v2, n1, n2, n4⟩ <;> rw [n1, n2] <;> rfl
        rw [es]
        exact ⟨.bl _, H, I', rfl, k _ _ (.same (.bl _))⟩
  | _ => exact old (fun _ z => by cases z)
theorem opX_notIn (hu : X.A.units + 64 < cLine) : OpR X (compareOp .NotIn) (rD2 X.K notInX) := by
  intro pins s σ H x y v u Q I rx ry h
  obtain ⟨F0, l, σ', ds, z, rl, rd, e, k⟩ := h
  obtain ⟨d1, d2, rfl, r1, r2⟩ := rd.two'
  have hu1 : X.A.units + 1 < cLine := by omega
  have old : (∀ kvs, d2 ≠ .dict kvs) → wpAny (model X.prog X.w) X.A (compareOp .NotIn v u) (EP X pins σ Q) X.xe s := fun hn => by
    refine opd_notIn hu pins s σ H x y v u Q I rx ry ⟨F0, l, σ', [d1, d2], z, rl, .cons r1 (.cons r2 .nil), ?_, k⟩
    cases d2 <;> first | exact e | exact absurd rfl (hn _)
  cases d2 with
  | dict kvs =>
    have e : ((dGet kvs d1).map fun o => (PyData.bool (!o.isSome), false)) = some z := e
    obtain ⟨a, rfl, hc⟩ := dict_cases r2
    cases ry
    rcases hc with ⟨r, xs, rfl, he, hx⟩ | ⟨es, he, hk⟩
    · have eg : dGet ((.none, .none) :: r) d1 = (keyI d1).map fun ks => lookD keyI r ks := rfl
      rw [eg] at e
      cases ek : keyI d1 with
      | none => rw [ek] at e; cases e
      | some ks =>
        rw [ek] at e
        cases e
        obtain ⟨b, rfl, ht⟩ := rd_keyI r1 ek
        cases rx
        obtain ⟨h1, h2, dd⟩ := DXs.dict I he hx
        refine wpAny_notIn_heap (tupleKind_room_in1 hu1) (keyT_of I ht) h1 dd ?_
        have es : (atKey xs ks).isSome = (lookD keyI r ks).isSome := by
          rcases hx.look ks with ⟨n1, n2⟩ | ⟨d, b2, u2, v2, n1, n2, n3, n4⟩ <;> rw [n1, n2] <;> rfl
        rw [es]
        exact ⟨.bl _, H, I.tok _, rfl, k _ _ (.same (.bl _))⟩
    · rw [dGet_K hk] at e
      cases ek : keyP d1 with
      | none => rw [ek] at e; cases e
      | some kk =>
        rw [ek] at e
        cases e
        have ey := rd_keyP r1 ek
        subst ey
        refine d_notIn hu1 I (DGet.k (k := kk) he) rx fun s' I' => ?_
        have es : (valV es kk).isSome = (lookD keyP kvs kk).isSome := by
          rcases hk.look kk with ⟨n1, n2⟩ | ⟨d, v2, n1, n2, n4⟩ <;> rw [n1, n2] <;> rfl
        rw [es]
        exact ⟨.bl _, H, I', rfl, k _ _ (.same (.bl _))⟩
  | _ => exact old (fun _ z => by cases z)
end
end L2.DL
/-! DL9: expressions: names, constants, operations, displays, tests -/
namespace L2.DL
open PySem PySem.Spec PyProof.Rows
section
variable {K : PySem.W.Frag} {mg : Str → Option Value} {B : WX} {b : Bs} {F F' : Addr → Prop} {l l' : L} {σ : St} {H H' : Hp}
theorem tM_mono {m : M Opd} {Q Q' : VK} (h : tM K mg B m σ H Q) (k : ∀ v H', Q v H' → Q' v H') : tM K mg B m σ H Q' := by
  obtain ⟨F, l, r, h⟩ := h
  exact ⟨F, l, r, h.mono fun o F' l' H' _ _ _ q v ro nw => k v H' (q v ro nw)⟩
theorem tMA_mono {ms : List (M Opd)} {Q Q' : List V → Hp → Prop} (h : tMA K mg B ms σ H Q) (k : ∀ v H', Q v H' → Q' v H') : tMA K mg B ms σ H Q' := by
  obtain ⟨F, l, r, h⟩ := h
  exact ⟨F, l, r, h.mono fun o F' l' H' _ _ _ q v ro nw => k v H' (q v ro nw)⟩
/-- the operands, then the operation -/
theorem ops_ma {f : Op} {ms : List (M Opd)} {Q : VK} (h : tM K mg B (eOps f ms) σ H Q) : tMA K mg B ms σ H fun vs H1 => rD K f vs H1 Q := by
  obtain ⟨F, l, r, h⟩ := h
  refine tMA_of r Step.refl (Run.bd h) fun os F1 l1 H1 vs _ r1 s1 b1 ro nw q => ?_
  exact ops_fin (b := ⟨F, l, σ, H⟩) (rD_ok f) r1 b1 ro q fun z w H' r2 s2 o2 n2 q2 => q2 w o2 n2
theorem ops_1 {f : Op} {m : M Opd} {Q : VK} (h : tM K mg B (eOps f [m]) σ H Q) : tM K mg B m σ H fun x H1 => rD K f [x] H1 Q :=
  tM_mono (tMA_cons (ops_ma h)) fun _ _ q => tMA_nil q
theorem ops_2 {f : Op} {m n : M Opd} {Q : VK} (h : tM K mg B (eOps f [m, n]) σ H Q) : tM K mg B m σ H fun x H1 => tM K mg B n σ H1 fun y H2 => rD K f [x, y] H2 Q :=
  tM_mono (tMA_cons (ops_ma h)) fun _ _ q => tM_mono (tMA_cons q) fun _ _ q2 => tMA_nil q2
end
section
variable {X : Cx} {B : WX} {e a b c : Expr} {m ma mb mc : M Opd} {pos : Pos} {x : Str} {i : Nat}
/-- the judgements -/
def ME (X : Cx) (B : WX) (e : Expr) (m : M Opd) : Prop := PE X e (tM X.K X.mg B m)
def MT (X : Cx) (B : WX) (e : Expr) (t : M Bool) : Prop := PT X e (tMT X.K X.mg B t)
def MW (X : Cx) (B : WX) (e : Expr) (t : M Bool) : Prop := PW X e (tMT X.K X.mg B t)
def MA (X : Cx) (B : WX) (es : List Expr) (ms : List (M Opd)) : Prop := PA X es (tMA X.K X.mg B ms)
theorem me_name (hN : X.N[i]? = some x) (hv : Vis X.env.scope x) (hd : (x == ("__debug__" : Str)) = false) (hcd : (x == ("__classdict__" : Str)) = false) : ME X B (.Name x pos) (eV i) := by
  refine PE.imp (pe_var hN hv hd hcd) fun σ H Q h => ?_
  obtain ⟨F, l, r, h⟩ := h
  unfold Run eV at h
  cases e : l.getD i .non with
  | non => simp only [e] at h
  | frz d =>
    simp only [e] at h
    obtain ⟨v, ev, q⟩ := r.at' i _ (getD_at e (by simp))
    exact ⟨v, ev, h F H r Step.refl v q trivial⟩
  | own d =>
    simp only [e] at h
    have hs := getD_at e (by simp)
    obtain ⟨a, ea, _, _⟩ := r.at' i _ hs
    exact ⟨.ref a, ea, h F H r Step.refl (.ref a) ⟨ea, (List.getElem?_eq_some_iff.mp hs).1⟩ trivial⟩
  | bor d =>
    simp only [e] at h
    have hs := getD_at e (by simp)
    obtain ⟨a, ea, _, _⟩ := r.at' i _ hs
    exact ⟨.ref a, ea, h F H r Step.refl (.ref a) ⟨ea, (List.getElem?_eq_some_iff.mp hs).1⟩ trivial⟩
  | lck bb d =>
    simp only [e] at h
    have hs := getD_at e (by simp)
    obtain ⟨a, ea, _, _⟩ := r.at' i _ hs
    exact ⟨.ref a, ea, h F H r Step.refl (.ref a) ⟨ea, (List.getElem?_eq_some_iff.mp hs).1⟩ trivial⟩
/-- a constant -/
theorem me_k {v : V} {d : PyData} (h : PE X e (tC v)) (hv : ∀ K F H, RF K F H v d) : ME X B e (eK d) := by
  refine PE.imp h fun σ H Q h => ?_
  obtain ⟨F, l, r, h⟩ := h
  exact h F H r Step.refl v (hv _ _ _) trivial
theorem me_int {i : Int} {j} : ME X B (.Constant (.int i) j pos) (eK (.int i)) := me_k pe_int fun _ _ _ => .int _
theorem me_bl {i : Bool} {j} : ME X B (.Constant (.bool i) j pos) (eK (.bool i)) := me_k pe_bl fun _ _ _ => .bl _
theorem me_non {j} : ME X B (.Constant .none j pos) (eK .none) := me_k pe_non fun _ _ _ => .non
theorem me_str {i : Str} {j} : ME X B (.Constant (.str i) j pos) (eK (.str i)) := me_k pe_str fun _ _ _ => .str _
theorem me_bin {op : Operator} {f : Op} (ho : OpR X (binaryOp op) (rD2 X.K f)) (ha : ME X B a ma) (hb : ME X B b mb) : ME X B (.BinOp a op b pos) (eOps f [ma, mb]) :=
  PE.imp (pe_op ho ha hb) fun σ H Q h => ops_2 h
theorem me_un {op : UnaryOp} {f : Op} (ho : UnR X (unaryOp op) (rD1 X.K f)) (ha : ME X B a ma) : ME X B (.UnaryOp op a pos) (eOps f [ma]) :=
  PE.imp (pe_un ho ha) fun σ H Q h => ops_1 h
theorem me_cmp {op : CmpOp} {f : Op} (ho : OpR X (compareOp op) (rD2 X.K f)) (ha : ME X B a ma) (hb : ME X B b mb) (hm : behindInMarks op b = false) : ME X B (.Compare a [op] [b] pos) (eOps f [ma, mb]) :=
  PE.imp (pe_cmpR ho ha hb hm) fun σ H Q h => ops_2 h
theorem relV_bool {x : V} {v : Value} {d : Bool} (r : RelV x v) : (v == Value.bool d) = decide (x = .bl d) := by
  cases x with
  | bl y => cases r; cases y <;> cases d <;> rfl
  | non => cases r; rfl
  | int _ => obtain ⟨t, rfl⟩ := r; rfl
  | str _ => obtain ⟨t, rfl⟩ := r; rfl
  | byt _ => obtain ⟨t, rfl⟩ := r; rfl
  | flt _ => obtain ⟨t, rfl⟩ := r; rfl
  | ref _ => cases r; rfl
  | ty _ => cases r; rfl
theorem is_bool_gen {M : Model} {A : Around} {E : Value → Shared → Prop} {s : Shared} {Q : Value → Shared → Prop} {x : V} {v : Value} {d : Bool} (r : RelV x v) (h : Q (.bool (decide (x = .bl d))) s) : wpAny M A (compareOp .Is v (.bool d)) Q E s := by
  rw [← relV_bool r] at h
  cases x with
  | non => cases r; exact wpAny_pure h
  | bl _ => cases r; exact wpAny_pure h
  | int _ => obtain ⟨t, rfl⟩ := r; exact wpAny_pure h
  | str _ => obtain ⟨t, rfl⟩ := r; exact wpAny_pure h
  | byt _ => obtain ⟨t, rfl⟩ := r; exact wpAny_pure h
  | flt _ => obtain ⟨t, rfl⟩ := r; exact wpAny_pure h
  | ref _ => cases r; exact wpAny_pure h
  | ty _ => cases r; exact wpAny_pure h
theorem isnot_bool_gen {M : Model} {A : Around} {E : Value → Shared → Prop} {s : Shared} {Q : Value → Shared → Prop} {x : V} {v : Value} {d : Bool} (r : RelV x v) (h : Q (.bool (!decide (x = .bl d))) s) : wpAny M A (compareOp .IsNot v (.bool d)) Q E s := by
  rw [← relV_bool r] at h
  cases x with
  | non => cases r; exact wpAny_pure h
  | bl _ => cases r; exact wpAny_pure h
  | int _ => obtain ⟨t, rfl⟩ := r; exact wpAny_pure h
  | str _ => obtain ⟨t, rfl⟩ := r; exact wpAny_pure h
  | byt _ => obtain ⟨t, rfl⟩ := r; exact wpAny_pure h
  | flt _ => obtain ⟨t, rfl⟩ := r; exact wpAny_pure h
  | ref _ => cases r; exact wpAny_pure h
  | ty _ => cases r; exact wpAny_pure h
theorem rd_isNone {K : PySem.W.Frag} {F : Addr → Prop} {H : Hp} {x : V} {d : PyData} (h : RD K F H x d) : decide (x = .non) = isNoneB d := by
  cases d with
  | none => rw [rd_none h]; rfl
  | bool b => rw [rd_bool h]; rfl
  | int b => rw [rd_int h]; rfl
  | str b => rw [rd_str h]; rfl
  | list b => obtain ⟨a, _, rfl, _⟩ := rd_lst h; rfl
  | tuple b => obtain ⟨a, _, rfl, _⟩ := rd_tup h; rfl
  | dict b =>
    rcases h with h | ⟨a, rfl, _⟩
    · cases h
    · rfl
theorem rd_isBool {K : PySem.W.Frag} {F : Addr → Prop} {H : Hp} {x : V} {d : PyData} {c : Bool} (h : RD K F H x d) : decide (x = .bl c) = isBoolB c d := by
  cases d with
  | none => rw [rd_none h]; rfl
  | bool b => rw [rd_bool h]; cases b <;> cases c <;> rfl
  | int b => rw [rd_int h]; rfl
  | str b => rw [rd_str h]; rfl
  | list b => obtain ⟨a, _, rfl, _⟩ := rd_lst h; rfl
  | tuple b => obtain ⟨a, _, rfl, _⟩ := rd_tup h; rfl
  | dict b =>
    rcases h with h | ⟨a, rfl, _⟩
    · cases h
    · rfl
theorem me_isN {j} {pos' : Pos} (ha : ME X B a ma) : ME X B (.Compare a [.Is] [.Constant .none j pos'] pos) (eOps (isD false isNoneB) [ma]) := by
  refine PE.imp (pe_cmp (pc_isN ha)) fun σ H Q h => tM_mono (ops_1 h) fun x H1 q => ?_
  obtain ⟨F0, l, σ', ds, z, rl, rd, e, k⟩ := q
  obtain ⟨d, rfl, r1⟩ := rd.one'
  cases e
  rw [rd_isNone r1]
  exact k _ _ (.same (.bl _))
theorem me_notN {j} {pos' : Pos} (ha : ME X B a ma) : ME X B (.Compare a [.IsNot] [.Constant .none j pos'] pos) (eOps (isD true isNoneB) [ma]) := by
  refine PE.imp (pe_cmp (pc_notN ha)) fun σ H Q h => tM_mono (ops_1 h) fun x H1 q => ?_
  obtain ⟨F0, l, σ', ds, z, rl, rd, e, k⟩ := q
  obtain ⟨d, rfl, r1⟩ := rd.one'
  cases e
  rw [rd_isNone r1]
  exact k _ _ (.same (.bl _))
theorem me_isB {j} {d : Bool} {pos' : Pos} (ha : ME X B a ma) : ME X B (.Compare a [.Is] [.Constant (.bool d) j pos'] pos) (eOps (isD false (isBoolB d)) [ma]) := by
  have h : PE X (.Compare a [.Is] [.Constant (.bool d) j pos'] pos) (fun σ H Q => tM X.K X.mg B ma σ H fun x H1 => Q (.bl (decide (x = .bl d))) H1) := by
    refine pe_cmp (op := .Is) ⟨fun pins s σ H Q I hw => ?_⟩
    refine thn (ha.run pins s σ H _ I hw) fun v s1 ⟨x, H1, I1, r1, q1⟩ => ?_
    exact Constant_bool (is_bool_gen r1 ⟨.bl _, H1, I1, rfl, q1⟩)
  refine PE.imp h fun σ H Q h => tM_mono (ops_1 h) fun x H1 q => ?_
  obtain ⟨F0, l, σ', ds, z, rl, rd, e, k⟩ := q
  obtain ⟨d', rfl, r1⟩ := rd.one'
  cases e
  rw [rd_isBool r1]
  exact k _ _ (.same (.bl _))
theorem me_notB {j} {d : Bool} {pos' : Pos} (ha : ME X B a ma) : ME X B (.Compare a [.IsNot] [.Constant (.bool d) j pos'] pos) (eOps (isD true (isBoolB d)) [ma]) := by
  have h : PE X (.Compare a [.IsNot] [.Constant (.bool d) j pos'] pos) (fun σ H Q => tM X.K X.mg B ma σ H fun x H1 => Q (.bl (!decide (x = .bl d))) H1) := by
    refine pe_cmp (op := .IsNot) ⟨fun pins s σ H Q I hw => ?_⟩
    refine thn (ha.run pins s σ H _ I hw) fun v s1 ⟨x, H1, I1, r1, q1⟩ => ?_
    exact Constant_bool (isnot_bool_gen r1 ⟨.bl _, H1, I1, rfl, q1⟩)
  refine PE.imp h fun σ H Q h => tM_mono (ops_1 h) fun x H1 q => ?_
  obtain ⟨F0, l, σ', ds, z, rl, rd, e, k⟩ := q
  obtain ⟨d', rfl, r1⟩ := rd.one'
  cases e
  rw [rd_isBool r1]
  exact k _ _ (.same (.bl _))
theorem me_idx (hu : X.A.units + 1 < cLine) (ha : ME X B a ma) (hb : ME X B b mb) (hs : PlainIx b) : ME X B (.Subscript a b pos) (eOps idxX [ma, mb]) :=
  PE.imp (pe_ix (ixX hu) ha hb hs) fun σ H Q h => ops_2 h
/-! built-in functions -/
theorem me_callB {g : Op} {id : String} {p : Pos} {es : List Expr} {ms : List (M Opd)} (hc : CallR X (.builtin id) (rD X.K g)) (hg : Gl X x) (hm : X.mg x = none) (hv : bootBuiltins x = some (.builtin id)) (ha : MA X B (e :: es) ms) (hn : x ≠ "__name__") (hdb : (x == ("__debug__" : Str)) = false)
    (he : starEach (e :: es) X.env = (false, eval e X.env) :: starEach es X.env) (hpl : (backTo pos (starEach es X.env)).any (·.1) = false) : ME X B (.Call (.Name x p) (e :: es) [] pos) (eOps g ms) :=
  PE.imp (pe_callB hc hg hm hv ha hn hdb he hpl) fun σ H Q h => ops_ma h
theorem me_callTy {g : Op} {T : String} {p : Pos} {es : List Expr} {ms : List (M Opd)} (hc : CallR X (.type T) (rD X.K g)) (hg : Gl X x) (hm : X.mg x = none) (hv : bootBuiltins x = some (.type T)) (ha : MA X B (e :: es) ms) (hn : x ≠ "__name__") (hdb : (x == ("__debug__" : Str)) = false)
    (he : starEach (e :: es) X.env = (false, eval e X.env) :: starEach es X.env) (hpl : (backTo pos (starEach es X.env)).any (·.1) = false) : ME X B (.Call (.Name x p) (e :: es) [] pos) (eOps g ms) :=
  PE.imp (pe_callTy hc hg hm hv ha hn hdb he hpl) fun σ H Q h => ops_ma h
theorem me_lenSet {p p2 q : Pos} (hg : Gl X "len") (hm : X.mg "len" = none) (hg2 : Gl X "set") (hm2 : X.mg "set" = none) (ha : ME X B a ma) (hc : X.calm = true)
    (na : starEach [a] X.env = (false, eval a X.env) :: starEach [] X.env) : ME X B (.Call (.Name "len" p) [.Call (.Name "set" p2) [a] [] q] [] pos) (eOps lenSetD [ma]) :=
  PE.imp (pe_lenSet hg hm hg2 hm2 ha hc na) fun σ H Q h => ops_1 h
/-! argument lists, displays -/
theorem ma_nil : MA X B [] [] := PA.imp pa_nil fun σ H Q h => tMA_nil h
theorem ma_cons {es : List Expr} {ms : List (M Opd)} (ha : ME X B e m) (hr : MA X B es ms) (hs : starEach (e :: es) X.env = (false, eval e X.env) :: starEach es X.env) : MA X B (e :: es) (m :: ms) :=
  PA.imp (pa_cons ha hr hs) fun σ H Q h => tMA_cons h
def tTupF (t : TA) : TE := fun σ H Q => t σ H fun xs H1 => xs.length ≤ sizeLine ∧ ∀ (p : Addr) (o : Obj), H1 p = none → o.dict = none → Q (.ref p) (upd H1 p (.frz o (.tup xs)))
theorem pe_tupF {es : List Expr} {t : TA} {x1} (h : PA X es t) : PE X (.Tuple es x1 pos) (tTupF t) := by
  refine ⟨fun pins s σ H Q I hq => ?_⟩
  refine wpAny_Tuple_spliced (thn (h.run pos pins s σ H _ I hq) fun us s1 ⟨xs, H1, I1, r, z, q⟩ => ⟨by rw [← r.length]; exact z, ?_⟩)
  exact ⟨.ref _, _, Inv.tnew (t' := s1.toks) I1 r z, rfl, q _ _ I1.fresh rfl⟩
theorem me_tup {es : List Expr} {ms : List (M Opd)} {x1} (h : MA X B es ms) (hl : es.length ≤ 1000000) (hm : ms.length = es.length) : ME X B (.Tuple es x1 pos) (eTup ms) := by
  refine PE.imp (pe_tupF h) fun σ H Q h => ?_
  obtain ⟨F, l, r, h⟩ := h
  refine tMA_of r Step.refl (Run.bd h) fun os F1 l1 H1 vs hos r1 s1 b1 ro nw q => ?_
  rcases shareAll_cases os l1 with ⟨ds, l2, e2, k2⟩ | e2
  · obtain ⟨F2, r2, s2, u2, q2⟩ := k2 r1 b1 ro nw
    have h2 := Run.get q e2
    have hvs : vs.length ≤ sizeLine := by
      have e1 := ro.length
      have e2 : (1000000 : Nat) ≤ sizeLine := by decide
      omega
    refine ⟨hvs, fun p o hp hd => ?_⟩
    exact h2.rt (r2.laid hp) (Bs.to.laid s2 hp) _ (.tup (.inl ⟨o, upd_same, hd⟩) (q2.keep (Keeps.laid hp))) trivial
  · exact absurd (bd_stk e2) (Run.there q)
theorem me_lst {es : List Expr} {ms : List (M Opd)} (h : MA X B es ms) (hl : es.length ≤ 1000000) (hm : ms.length = es.length) : ME X B (.List es pos) (eLst ms) := by
  refine PE.imp (pe_lst h) fun σ H Q h => ?_
  obtain ⟨F, l, r, h⟩ := h
  refine tMA_of r Step.refl (Run.bd h) fun os F1 l1 H1 vs hos r1 s1 b1 ro nw q => ?_
  rcases shareAll_cases os l1 with ⟨ds, l2, e2, k2⟩ | e2
  · obtain ⟨F2, r2, s2, u2, q2⟩ := k2 r1 b1 ro nw
    have h2 := Run.get q e2
    refine ⟨?_, fun p hp => ?_⟩
    · have e1 := ro.length
      have e2 : (1000000 : Nat) ≤ sizeLine := by decide
      omega
    · exact h2.rt (r2.laid hp) (Bs.to.laid s2 hp) _ ⟨p, rfl, r2.noF hp, r2.noMine hp, .lst upd_same (q2.keep (Keeps.laid hp))⟩ fun a e => by cases e; exact (b1.none_of hp)
  · exact absurd (bd_stk e2) (Run.there q)
end
end L2.DL
/-! DL10: tests, and/or/not, chains, slices -/
namespace L2.DL
open PySem PySem.Spec PyProof.Rows
section
variable {K : PySem.W.Frag} {mg : Str → Option Value} {B : WX} {b : Bs} {F F' : Addr → Prop} {l l' : L} {σ : St} {H H' : Hp}
theorem tMT_mono {m : M Bool} {Q Q' : Bool → Hp → Prop} (h : tMT K mg B m σ H Q) (k : ∀ v H', Q v H' → Q' v H') : tMT K mg B m σ H Q' := by
  obtain ⟨F, l, r, h⟩ := h
  exact ⟨F, l, r, h.mono fun o F' l' H' _ _ _ q => k o H' q⟩
/-- a read value's truth -/
theorem RD.tru {v : V} {d : PyData} {k : Bool} (h : RD K F H v d) (e : truth d = some k) : TruV K v H k := by
  cases d with
  | none => rw [rd_none h]; cases e; rfl
  | bool b => rw [rd_bool h]; cases e; rfl
  | int i => rw [rd_int h]; cases e; rfl
  | str x =>
    rw [rd_str h]
    have e : (if x.length ≤ 1000000 then some (x.length != 0) else none) = some k := e
    split at e
    · rename_i hz
      cases e
      have hl : x.length ≤ sizeLine := by
        have : (1000000 : Nat) ≤ sizeLine := by rw [sizeLine_eq]; decide
        omega
      refine ⟨hl, ?_⟩
      cases q : x.length with
      | zero => rfl
      | succ n =>
        have e1 : (n + 1 != 0) = true := by simp
        have e2 : (((n + 1 : Nat) : Int) != 0) = true := by simp; omega
        rw [e1, e2]
    · cases e
  | list xs =>
    obtain ⟨a, vs, rfl, hs, fs⟩ := rd_lst h
    cases e
    refine .inl ⟨vs, hs, ?_⟩
    have := fs.length
    cases vs <;> cases xs <;> first | rfl | (simp at this)
  | tuple xs =>
    obtain ⟨a, vs, rfl, hs, fs⟩ := rd_tup h
    cases e
    refine .inr (.inl ⟨vs, hs.sq, ?_⟩)
    have := fs.length
    cases vs <;> cases xs <;> first | rfl | (simp at this)
  | dict kvs => cases e
/-- behind a value's truth -/
theorem tru_fin {α : Type} {o : Opd} {v : V} {g : Bool → M α} {Q0 : α → (Addr → Prop) → L → Hp → Prop} (rl : Rel K F l σ H) (ro : ROp K F l σ H o v)
    (h : Run K mg B b (bd (readO o) fun d => bd (lft (truth d)) g) l σ Q0) : ∃ k, TruV K v H k ∧ Run K mg B b (g k) l σ Q0 := by
  rcases readO_cases (l := l) o with ⟨d, e1, e2⟩ | e
  · have h1 := h.get e2
    rcases lft_cases (l := l) (truth d) with ⟨k, e3, e4⟩ | e4
    · exact ⟨k, (ro.read rl e1).tru e3, h1.get e4⟩
    · exact absurd (bd_stk e4) h1.there
  · exact absurd (bd_stk e) h.there
theorem tOf_of {m : M Opd} {Q : Bool → Hp → Prop} (h : tMT K mg B (tOf m) σ H Q) : tM K mg B m σ H fun x H1 => ∃ k, TruV K x H1 k ∧ Q k H1 := by
  obtain ⟨F, l, r, h⟩ := h
  refine tM_of r Step.refl (Run.bd h) fun o F1 l1 H1 v r1 s1 b1 ro nw q => ?_
  rcases readO_cases (l := l1) o with ⟨d, e1, e2⟩ | e
  · have h1 := Run.get q e2
    rcases lft_cases (l := l1) (truth d) with ⟨k, e3, e4⟩ | e4
    · exact ⟨k, (ro.read r1 e1).tru e3, h1.ok e4 r1 b1⟩
    · exact absurd e4 h1.there
  · exact absurd (bd_stk e) (Run.there q)
theorem tB'_of {m : M Opd} {Q : Bool → Hp → Prop} (h : tMT K mg B (tB' m) σ H Q) : tM K mg B m σ H fun x H1 => ∃ k, x = .bl k ∧ Q k H1 := by
  obtain ⟨F, l, r, h⟩ := h
  refine tM_of r Step.refl (Run.bd h) fun o F1 l1 H1 v r1 s1 b1 ro nw q => ?_
  cases o with
  | t _ => exact q.elim
  | s _ => exact q.elim
  | v d =>
    cases d with
    | bool k =>
      have ro : RF K F1 H1 v (.bool k) := ro
      cases ro
      exact ⟨k, rfl, q.rt r1 b1⟩
    | _ => exact q.elim
/-- a test, then one of two -/
theorem tIte_of {t : M Bool} {a c : M Opd} {Q : VK} (h : tM K mg B (tIte t a c) σ H Q) : tMT K mg B t σ H fun k H1 => if k = true then tM K mg B a σ H1 Q else tM K mg B c σ H1 Q := by
  obtain ⟨F, l, r, h⟩ := h
  refine tMT_of r Step.refl (Run.bd h) fun k F1 l1 H1 r1 s1 b1 q => ?_
  cases k with
  | true => rw [if_pos rfl]; exact tM_of r1 b1 q fun o F2 l2 H2 v r2 s2 b2 ro nw q2 => q2 v ro (nw.back s1)
  | false => rw [if_neg Bool.false_ne_true]; exact tM_of r1 b1 q fun o F2 l2 H2 v r2 s2 b2 ro nw q2 => q2 v ro (nw.back s1)
theorem tIteT_of {t a c : M Bool} {Q : Bool → Hp → Prop} (h : tMT K mg B (tIte t a c) σ H Q) : tMT K mg B t σ H fun k H1 => if k = true then tMT K mg B a σ H1 Q else tMT K mg B c σ H1 Q := by
  obtain ⟨F, l, r, h⟩ := h
  refine tMT_of r Step.refl (Run.bd h) fun k F1 l1 H1 r1 s1 b1 q => ?_
  cases k with
  | true => rw [if_pos rfl]; exact tMT_of r1 b1 q fun o F2 l2 H2 r2 s2 b2 q2 => q2
  | false => rw [if_neg Bool.false_ne_true]; exact tMT_of r1 b1 q fun o F2 l2 H2 r2 s2 b2 q2 => q2
theorem tAnd_of {a c : M Bool} {Q : Bool → Hp → Prop} (h : tMT K mg B (DL.tAnd a c) σ H Q) : L2.tAnd (tMT K mg B a) (tMT K mg B c) σ H Q := by
  obtain ⟨F, l, r, h⟩ := h
  refine tMT_of r Step.refl (Run.bd h) fun k F1 l1 H1 r1 s1 b1 q => ?_
  cases k with
  | true => rw [if_pos rfl]; exact tMT_of r1 b1 q fun o F2 l2 H2 r2 s2 b2 q2 => q2
  | false => rw [if_neg Bool.false_ne_true]; exact q.rt r1 b1
theorem tOr_of {a c : M Bool} {Q : Bool → Hp → Prop} (h : tMT K mg B (DL.tOr a c) σ H Q) : L2.tOr (tMT K mg B a) (tMT K mg B c) σ H Q := by
  obtain ⟨F, l, r, h⟩ := h
  refine tMT_of r Step.refl (Run.bd h) fun k F1 l1 H1 r1 s1 b1 q => ?_
  cases k with
  | true => rw [if_pos rfl]; exact q.rt r1 b1
  | false => rw [if_neg Bool.false_ne_true]; exact tMT_of r1 b1 q fun o F2 l2 H2 r2 s2 b2 q2 => q2
theorem tNot_of {a : M Bool} {Q : Bool → Hp → Prop} (h : tMT K mg B (DL.tNot a) σ H Q) : L2.tNot (tMT K mg B a) σ H Q := by
  obtain ⟨F, l, r, h⟩ := h
  refine tMT_of r Step.refl (Run.bd h) fun k F1 l1 H1 r1 s1 b1 q => ?_
  exact q.rt r1 b1
end
section
variable {X : Cx} {B : WX} {e a b c : Expr} {m ma mb mc : M Opd} {t ta tb tc : M Bool} {pos : Pos}
def plainT : Expr → Bool
  | .UnaryOp .Not _ _ => false
  | .BoolOp .. => false
  | .IfExp .. => false
  | .Compare .. => false
  | _ => true
theorem plainT_eq {e : Expr} (h : plainT e = true) (env : Env) (whole : Sem Value) : isTrue e env whole = (do let v ← whole; standAt e.pos; holding [v] (truthy v)) := by
  cases e with
  | UnaryOp op x p => cases op <;> first | rfl | cases h
  | BoolOp _ _ _ => cases h
  | IfExp _ _ _ _ => cases h
  | Compare _ _ _ _ => cases h
  | _ => rfl
theorem mt_val (h : ME X B e m) (hp : plainT e = true) : MT X B e (tOf m) :=
  PT.imp (pt_truth h (plainT_eq hp X.env)) fun σ H Q q => tOf_of q
theorem mt_valB (h : ME X B e m) (hp : plainT e = true) : MT X B e (tB' m) :=
  PT.imp (pt_val h (plainT_eq hp X.env)) fun σ H Q q => tB'_of q
theorem mt_cmp {op : CmpOp} {f : Op} (ho : OpR X (compareOp op) (rD2 X.K f)) (ha : ME X B a ma) (hb : ME X B b mb) (hm : behindInMarks op b = false) : MT X B (.Compare a [op] [b] pos) (tB' (eOps f [ma, mb])) :=
  PT.imp (pt_cmpR ho ha hb hm) fun σ H Q h => ops_2 (tB'_of h)
theorem nomark' (op : CmpOp) (b : Expr) (h : (match b with | .Set .. => false | _ => true) = true) : behindInMarks op b = false := by
  cases b <;> first | rfl | cases h
/-- any comparison whose rule is one of a value -/
theorem mt_pc {op : CmpOp} {f : Op} (hv : PC X op a b (tM X.K X.mg B (eOps f [ma]))) (hm : behindInMarks op b = false) : MT X B (.Compare a [op] [b] pos) (tB' (eOps f [ma])) :=
  PT.imp (pt_cmp hv hm) fun σ H Q h => tB'_of h
theorem PC.imp {X : Cx} {op : CmpOp} {a b : Expr} {t t' : TE} (h : PC X op a b t) (k : ∀ σ H Q, t' σ H Q → t σ H Q) : PC X op a b t' := ⟨fun pins s σ H Q I q => h.run pins s σ H Q I (k σ H Q q)⟩
theorem mc_isN {j} {pos' : Pos} (ha : ME X B a ma) : PC X .Is a (.Constant .none j pos') (tM X.K X.mg B (eOps (isD false isNoneB) [ma])) := by
  refine PC.imp (pc_isN ha) fun σ H Q h => tM_mono (ops_1 h) fun x H1 q => ?_
  obtain ⟨F0, l, σ', ds, z, rl, rd, e, k⟩ := q
  obtain ⟨d, rfl, r1⟩ := rd.one'
  cases e
  rw [rd_isNone r1]
  exact k _ _ (.same (.bl _))
theorem mc_notN {j} {pos' : Pos} (ha : ME X B a ma) : PC X .IsNot a (.Constant .none j pos') (tM X.K X.mg B (eOps (isD true isNoneB) [ma])) := by
  refine PC.imp (pc_notN ha) fun σ H Q h => tM_mono (ops_1 h) fun x H1 q => ?_
  obtain ⟨F0, l, σ', ds, z, rl, rd, e, k⟩ := q
  obtain ⟨d, rfl, r1⟩ := rd.one'
  cases e
  rw [rd_isNone r1]
  exact k _ _ (.same (.bl _))
theorem mc_isB {j} {d : Bool} {pos' : Pos} (ha : ME X B a ma) : PC X .Is a (.Constant (.bool d) j pos') (tM X.K X.mg B (eOps (isD false (isBoolB d)) [ma])) := by
  have h : PC X .Is a (.Constant (.bool d) j pos') (fun σ H Q => tM X.K X.mg B ma σ H fun x H1 => Q (.bl (decide (x = .bl d))) H1) := by
    refine ⟨fun pins s σ H Q I hw => ?_⟩
    refine thn (ha.run pins s σ H _ I hw) fun v s1 ⟨x, H1, I1, r1, q1⟩ => ?_
    exact Constant_bool (is_bool_gen r1 ⟨.bl _, H1, I1, rfl, q1⟩)
  refine PC.imp h fun σ H Q h => tM_mono (ops_1 h) fun x H1 q => ?_
  obtain ⟨F0, l, σ', ds, z, rl, rd, e, k⟩ := q
  obtain ⟨d', rfl, r1⟩ := rd.one'
  cases e
  rw [rd_isBool r1]
  exact k _ _ (.same (.bl _))
theorem mc_notB {j} {d : Bool} {pos' : Pos} (ha : ME X B a ma) : PC X .IsNot a (.Constant (.bool d) j pos') (tM X.K X.mg B (eOps (isD true (isBoolB d)) [ma])) := by
  have h : PC X .IsNot a (.Constant (.bool d) j pos') (fun σ H Q => tM X.K X.mg B ma σ H fun x H1 => Q (.bl (!decide (x = .bl d))) H1) := by
    refine ⟨fun pins s σ H Q I hw => ?_⟩
    refine thn (ha.run pins s σ H _ I hw) fun v s1 ⟨x, H1, I1, r1, q1⟩ => ?_
    exact Constant_bool (isnot_bool_gen r1 ⟨.bl _, H1, I1, rfl, q1⟩)
  refine PC.imp h fun σ H Q h => tM_mono (ops_1 h) fun x H1 q => ?_
  obtain ⟨F0, l, σ', ds, z, rl, rd, e, k⟩ := q
  obtain ⟨d', rfl, r1⟩ := rd.one'
  cases e
  rw [rd_isBool r1]
  exact k _ _ (.same (.bl _))
theorem mt_not (ha : MT X B a ta) : MT X B (.UnaryOp .Not a pos) (DL.tNot ta) := PT.imp (pt_not ha) fun σ H Q h => tNot_of h
theorem mt_ite (hc : MT X B c tc) (ha : MT X B a ta) (hb : MT X B b tb) : MT X B (.IfExp c a b pos) (tIte tc ta tb) := by
  refine ⟨fun pins s σ H Q I h => ?_⟩
  refine isTrue_IfExp (thn (hc.run pins s σ H _ I (tIteT_of h)) fun d s1 ⟨H1, I1, q1⟩ => ?_)
  cases d with
  | true => exact ha.run pins s1 σ H1 Q I1 q1
  | false => exact hb.run pins s1 σ H1 Q I1 q1
theorem mw_pt {e : Expr} (h : MW X B e t) : MT X B e t := h.pt
theorem mw_and1 (ha : MT X B a ta) : MW X B (.BoolOp .And [a] pos) ta := pw_and1 ha
theorem mw_or1 (ha : MT X B a ta) : MW X B (.BoolOp .Or [a] pos) ta := pw_or1 ha
theorem PW.imp {X : Cx} {e : Expr} {t t' : TT} (h : PW X e t) (k : ∀ σ H Q, t' σ H Q → t σ H Q) : PW X e t' := ⟨fun wh pins s σ H Q I q => h.run wh pins s σ H Q I (k σ H Q q)⟩
theorem mw_and {rest : List Expr} (ha : MT X B a ta) (hb : MW X B (.BoolOp .And (b :: rest) pos) tb) : MW X B (.BoolOp .And (a :: b :: rest) pos) (DL.tAnd ta tb) :=
  PW.imp (pw_and ha hb) fun σ H Q h => tAnd_of h
theorem mw_or {rest : List Expr} (ha : MT X B a ta) (hb : MW X B (.BoolOp .Or (b :: rest) pos) tb) : MW X B (.BoolOp .Or (a :: b :: rest) pos) (DL.tOr ta tb) :=
  PW.imp (pw_or ha hb) fun σ H Q h => tOr_of h
/-! as values -/
theorem me_one {op} (ha : ME X B a ma) : ME X B (.BoolOp op [a] pos) ma := pe_one ha
theorem me_and {rest : List Expr} (ha : ME X B a ma) (hb : ME X B (.BoolOp .And (b :: rest) pos) mb) : ME X B (.BoolOp .And (a :: b :: rest) pos) (eAnd ma mb) := by
  refine PE.imp (pe_andT ha hb) fun σ H Q h => ?_
  obtain ⟨F, l, r, h⟩ := h
  refine tM_of r Step.refl (Run.bd h) fun o F1 l1 H1 v r1 s1 b1 ro nw q => ?_
  obtain ⟨k, tk, hk⟩ := tru_fin r1 ro q
  refine ⟨k, tk, ?_⟩
  cases k with
  | true => rw [if_pos rfl]; exact tM_of r1 b1 hk fun o F2 l2 H2 v r2 s2 b2 ro nw q2 => q2 v ro (nw.back s1)
  | false => rw [if_neg Bool.false_ne_true]; exact hk.rt r1 b1 v ro nw
theorem me_or {rest : List Expr} (ha : ME X B a ma) (hb : ME X B (.BoolOp .Or (b :: rest) pos) mb) : ME X B (.BoolOp .Or (a :: b :: rest) pos) (eOr ma mb) := by
  refine PE.imp (pe_orT ha hb) fun σ H Q h => ?_
  obtain ⟨F, l, r, h⟩ := h
  refine tM_of r Step.refl (Run.bd h) fun o F1 l1 H1 v r1 s1 b1 ro nw q => ?_
  obtain ⟨k, tk, hk⟩ := tru_fin r1 ro q
  refine ⟨k, tk, ?_⟩
  cases k with
  | false => rw [if_neg Bool.false_ne_true]; exact tM_of r1 b1 hk fun o F2 l2 H2 v r2 s2 b2 ro nw q2 => q2 v ro (nw.back s1)
  | true => rw [if_pos rfl]; exact hk.rt r1 b1 v ro nw
theorem me_not (ha : ME X B a ma) : ME X B (.UnaryOp .Not a pos) (eNot ma) := by
  refine PE.imp (pe_notT ha) fun σ H Q h => ?_
  obtain ⟨F, l, r, h⟩ := h
  refine tM_of r Step.refl (Run.bd h) fun o F1 l1 H1 v r1 s1 b1 ro nw q => ?_
  obtain ⟨k, tk, hk⟩ := tru_fin r1 ro q
  exact ⟨k, tk, hk.rt r1 b1 _ (.bl _) trivial⟩
theorem me_ite (hc : MT X B c tc) (ha : ME X B a ma) (hb : ME X B b mb) : ME X B (.IfExp c a b pos) (tIte tc ma mb) :=
  PE.imp (pe_ifExp hc ha hb) fun σ H Q h => tIte_of h
/-! chains -/
theorem chain_of {K : PySem.W.Frag} {mg : Str → Option Value} {σ : St} {H : Hp} {f g : Op} {Q : VK} (h : tM K mg B (eChain f g ma mb mc) σ H Q) : tChain (rD2 K f) (rD2 K g) (tM K mg B ma) (tM K mg B mb) (tM K mg B mc) σ H Q := by
  obtain ⟨F, l, r, h⟩ := h
  refine tM_of r Step.refl (Run.bd h) fun o1 F1 l1 H1 x r1 s1 b1 ro1 nw1 q1 => ?_
  refine tM_of r1 b1 (Run.bd q1) fun o2 F2 l2 H2 y r2 s2 b2 ro2 nw2 q2 => ?_
  rcases readAll_cases (l := l2) [o1, o2] with ⟨ds, e2, k2⟩ | e2
  · have q3 := q2.get e2
    have ros : ROps K F2 l2 σ H2 [o1, o2] [x, y] := ROps.snoc1 s2 r1 r2 ro1 (.cons ro2 .nil (by intro _ _ _ _ _ z; simp at z)) (fun p hp => by
      simp only [List.zip_cons_cons, List.zip_nil_right, List.mem_singleton] at hp
      subst hp; exact nw2)
    have rds := k2 r2 ros
    rcases lft_cases (l := l2) (f ds) with ⟨z, e4, e5⟩ | e5
    · have q4 := q3.get e5
      refine ⟨F2, l2, σ, ds, z, r2, rds, e4, fun w H' res => ?_⟩
      obtain ⟨r3, s3, o3, n3⟩ := res.fin r2 b2
      obtain ⟨d, fresh⟩ := z
      cases d with
      | bool k =>
        cases fresh with
        | true => cases k <;> exact q4.elim
        | false =>
          have o3 : RF K F2 H' w (.bool k) := o3
          cases o3
          refine ⟨k, rfl, ?_⟩
          cases k with
          | false => rw [if_neg Bool.false_ne_true]; exact q4.rt r3 s3 _ (.bl false) trivial
          | true =>
            rw [if_pos rfl]
            refine tM_of r3 s3 (Run.bd q4) fun o4 F4 l4 H4 u r4 s4 b4 ro4 nw4 q5 => ?_
            have ro2' : ROp K F2 l2 σ H' o2 y := by
              cases res with
              | same _ => exact ro2
              | junk hp _ => exact ro2.step (Bs.to.laid (b := ⟨F2, l2, σ, H2⟩) Step.refl hp) r2 r3
            have ros4 : ROps K F4 l4 σ H4 [o2, o4] [y, u] := ROps.snoc1 s4 r3 r4 ro2' (.cons ro4 .nil (by intro _ _ _ _ _ z; simp at z)) (fun p hp => by
              simp only [List.zip_cons_cons, List.zip_nil_right, List.mem_singleton] at hp
              subst hp; exact nw4)
            exact ops_fin (b := ⟨F, l, σ, H⟩) (rD_ok g) r4 b4 ros4 q5 fun z w H' r2 s2 o2 n2 q2 => q2 w o2 n2
      | none => cases fresh <;> exact q4.elim
      | int _ => cases fresh <;> exact q4.elim
      | str _ => cases fresh <;> exact q4.elim
      | list _ => cases fresh <;> exact q4.elim
      | tuple _ => cases fresh <;> exact q4.elim
      | dict _ => cases fresh <;> exact q4.elim
    · exact absurd (bd_stk e5) q3.there
  · exact absurd (bd_stk e2) q2.there
theorem lastMarks2 (op op' : CmpOp) (b c : Expr) (h : (match c with | .Set .. => false | _ => true) = true) : lastMarks [op, op'] [b, c] = false := nomark' op' c h
theorem me_chain {op op' : CmpOp} {f g : Op} (ho : OpR X (compareOp op) (rD2 X.K f)) (ho' : OpR X (compareOp op') (rD2 X.K g)) (ha : ME X B a ma) (hb : ME X B b mb) (hc : ME X B c mc) (hm : lastMarks [op, op'] [b, c] = false) :
    ME X B (.Compare a [op, op'] [b, c] pos) (eChain f g ma mb mc) := PE.imp (pe_chain ho ho' ha hb hc hm) fun σ H Q h => chain_of h
theorem mt_chain {op op' : CmpOp} {f g : Op} (ho : OpR X (compareOp op) (rD2 X.K f)) (ho' : OpR X (compareOp op') (rD2 X.K g)) (ha : ME X B a ma) (hb : ME X B b mb) (hc : ME X B c mc) (hm : lastMarks [op, op'] [b, c] = false) :
    MT X B (.Compare a [op, op'] [b, c] pos) (tB' (eChain f g ma mb mc)) := PT.imp (pt_chain ho ho' ha hb hc hm) fun σ H Q h => chain_of (tB'_of h)
/-! slices -/
def tMP (K : PySem.W.Frag) (mg : Str → Option Value) (B : WX) (m : M (Option Int)) : TO := fun σ H Q => ∃ F l, Rel K F l σ H ∧ Run K mg B ⟨F, l, σ, H⟩ m l σ fun b F' l' H' => Q b H'
def MP (X : Cx) (B : WX) (e : Option Expr) (m : Option (M Opd)) : Prop := PO X e (tMP X.K X.mg B (evP m))
theorem PO.imp {X : Cx} {e : Option Expr} {t t' : TO} (h : PO X e t) (k : ∀ σ H Q, t' σ H Q → t σ H Q) : PO X e t' := ⟨fun pins s σ H Q I q => h.run pins s σ H Q I (k σ H Q q)⟩
theorem mp_none : MP X B none none := PO.imp po_none fun σ H Q h => by
  obtain ⟨F, l, r, h⟩ := h
  exact h.rt r Step.refl
theorem mp_some (ha : ME X B a ma) : MP X B (some a) (some ma) := PO.imp (po_some ha) fun σ H Q h => by
  obtain ⟨F, l, r, h⟩ := h
  refine tM_of r Step.refl (Run.bd h) fun o F1 l1 H1 v r1 s1 b1 ro nw q => ?_
  cases o with
  | t _ => exact q.elim
  | s _ => exact q.elim
  | v d =>
    cases d with
    | int k =>
      have ro : RF X.K F1 H1 v (.int k) := ro
      cases ro
      exact ⟨k, rfl, q.rt r1 b1⟩
    | _ => exact q.elim
theorem tMP_of {K : PySem.W.Frag} {mg : Str → Option Value} {F : Addr → Prop} {l : L} {σ : St} {H : Hp} {b : Bs} {m : M (Option Int)} {Q : Option Int → Hp → Prop} {Q0 : Option Int → (Addr → Prop) → L → Hp → Prop} (r : Rel K F l σ H) (s : b.to F l σ H) (h : Run K mg B b m l σ Q0)
    (k : ∀ c F' l' H', Rel K F' l' σ H' → Step F l σ H F' l' σ H' → b.to F' l' σ H' → Q0 c F' l' H' → Q c H') : tMP K mg B m σ H Q :=
  ⟨F, l, r, (h.rebase s).mono fun c F' l' H' e r' s' q => k c F' l' H' r' s' q.1 q.2⟩
theorem me_slice {lo hi st : Option Expr} {ml mh ms : Option (M Opd)} {p2 : Pos} (ha : ME X B a ma) (hl : MP X B lo ml) (hu : MP X B hi mh) (hs : MP X B st ms) : ME X B (.Subscript a (.Slice lo hi st p2) pos) (eSlc sliceO ma ml mh ms) := by
  refine PE.imp (pe_slice3 ha hl hu hs) fun σ H Q h => ?_
  obtain ⟨F, l, r, h⟩ := h
  refine tM_of r Step.refl (Run.bd h) fun o F1 l1 H1 v r1 s1 b1 ro nw q1 => ?_
  refine tMP_of r1 b1 (Run.bd q1) fun x1 F2 l2 H2 r2 s2 b2 q2 => ?_
  refine tMP_of r2 b2 (Run.bd q2) fun x2 F3 l3 H3 r3 s3 b3 q3 => ?_
  refine tMP_of r3 b3 (Run.bd q3) fun x3 F4 l4 H4 r4 s4 b4 q4 => ?_
  have ro4 := ((ro.step s2 r1 r2).step s3 r2 r3).step s4 r3 r4
  rcases readO_cases (l := l4) o with ⟨d, e1, e2⟩ | e2
  · have q5 := q4.get e2
    rcases lft_cases (l := l4) (sliceO d x1 x2 x3) with ⟨z, e4, e5⟩ | e5
    · have q6 := q5.get e5
      refine ⟨F4, l4, σ, d, z, r4, ro4.read r4 e1, e4, fun w H' res => ?_⟩
      obtain ⟨r5, s5, o5, n5⟩ := res.fin r4 b4
      exact q6.rt r5 s5 w o5 n5
    · exact absurd (bd_stk e5) q5.there
  · exact absurd (bd_stk e2) q4.there
end
end L2.DL
/-! DL11: statements' runs; stores -/
namespace L2.DL
open PySem PySem.Spec PyProof.Rows
section
variable (K : PySem.W.Frag) (mg : Str → Option Value) (B : WX)
def RunS {α : Type} (b : Bs) (m : M α) (l : L) (Q : α → (Addr → Prop) → L → St → Hp → Prop) : Prop :=
  match m l with
  | .ok a l' => ∀ F' σ' H', Rel K F' l' σ' H' → b.to F' l' σ' H' → Q a F' l' σ' H'
  | .err x l' => ∀ F' σ' H' c d, Rel K F' l' σ' H' → b.to F' l' σ' H' → XRel K mg F' H' x c d → B c d σ' H'
  | .stk => False
/-- what may be given back -/
def RetO (b : Bs) : Opd → V → Prop
  | .t _, v => ∀ a, v = .ref a → OwnT b.l b.σ a ∨ b.H a = none
  | .v _, _ => True
  | .s _, _ => False
/-- the statement's ends -/
def SD (b : Bs) (D : Ends) : Fl → (Addr → Prop) → L → St → Hp → Prop
  | .nx, _, _, σ, H => D.nx σ H
  | .bk, _, _, σ, H => D.bk σ H
  | .ct, _, _, σ, H => D.ct σ H
  | .rt o, F, l, σ, H => ∀ v, ROp K F l σ H o v → RetO b o v → D.rt v H
def tS (c : C) : TS := fun D σ H => ∃ F l, Rel K F l σ H ∧ RunS K mg B ⟨F, l, σ, H⟩ c l (SD K ⟨F, l, σ, H⟩ D)
end
section
variable {K : PySem.W.Frag} {mg : Str → Option Value} {B : WX} {α β : Type} {b : Bs} {F F1 F' : Addr → Prop} {l l1 l' : L} {σ σ1 σ' : St} {H H0 H1 H' : Hp}
theorem RunS.mono {m : M α} {Q Q' : α → (Addr → Prop) → L → St → Hp → Prop} (h : RunS K mg B b m l Q) (k : ∀ a F' l' σ' H', m l = .ok a l' → Rel K F' l' σ' H' → b.to F' l' σ' H' → Q a F' l' σ' H' → Q' a F' l' σ' H') : RunS K mg B b m l Q' := by
  unfold RunS at *
  cases e : m l with
  | ok a l' => rw [e] at h; exact fun F' σ' H' r s => k a F' l' σ' H' e r s (h F' σ' H' r s)
  | err x l' => rw [e] at h; exact h
  | stk => rw [e] at h; exact h
theorem RunS.rebase {m : M α} {Q : α → (Addr → Prop) → L → St → Hp → Prop} (h : RunS K mg B b m l Q) (s : b.to F l1 σ H) : RunS K mg B ⟨F, l1, σ, H⟩ m l fun a F' l' σ' H' => b.to F' l' σ' H' ∧ Q a F' l' σ' H' := by
  unfold RunS at *
  cases e : m l with
  | ok a l' => rw [e] at h; exact fun F' σ' H' r t => ⟨s.trans t, h F' σ' H' r (s.trans t)⟩
  | err x l' => rw [e] at h; exact fun F' σ' H' c d r t q => h F' σ' H' c d r (s.trans t) q
  | stk => rw [e] at h; exact h
theorem RunS.bd {m : M α} {f : α → M β} {Q : β → (Addr → Prop) → L → St → Hp → Prop} (h : RunS K mg B b (DL.bd m f) l Q) : RunS K mg B b m l fun a F1 l1 σ1 H1 => RunS K mg B b (f a) l1 Q := by
  unfold RunS at *
  cases e : m l with
  | stk => rw [bd_stk e] at h; exact h
  | err x l1 => rw [bd_err e] at h; exact h
  | ok a l1 =>
    rw [bd_ok e] at h
    intro F1 σ1 H1 r1 s1
    exact h
/-- an expression's part -/
theorem RunS.bdE {m : M α} {f : α → M β} {Q : β → (Addr → Prop) → L → St → Hp → Prop} (h : RunS K mg B b (DL.bd m f) l Q) : Run K mg B b m l σ fun a F1 l1 H1 => RunS K mg B b (f a) l1 Q := by
  unfold RunS at h
  unfold Run
  cases e : m l with
  | stk => rw [bd_stk e] at h; exact h
  | err x l1 => rw [bd_err e] at h; exact fun F' H' c d r s q => h F' σ H' c d r s q
  | ok a l1 =>
    rw [bd_ok e] at h
    intro F1 H1 r1 s1
    exact h
theorem RunS.get {m : M α} {f : α → M β} {Q : β → (Addr → Prop) → L → St → Hp → Prop} {a : α} {l1 : L} (h : RunS K mg B b (DL.bd m f) l Q) (e : m l = .ok a l1) : RunS K mg B b (f a) l1 Q := by
  unfold RunS at *
  rw [bd_ok e] at h
  exact h
theorem RunS.there {m : M α} {Q : α → (Addr → Prop) → L → St → Hp → Prop} (h : RunS K mg B b m l Q) : m l ≠ .stk := by
  intro e
  unfold RunS at h
  rw [e] at h
  exact h
theorem RunS.rt {a : α} {Q : α → (Addr → Prop) → L → St → Hp → Prop} (h : RunS K mg B b (DL.rt a) l Q) {F' : Addr → Prop} {σ' : St} {H' : Hp} (r : Rel K F' l σ' H') (s : b.to F' l σ' H') : Q a F' l σ' H' := h F' σ' H' r s
theorem RunS.ok {m : M α} {a : α} {Q : α → (Addr → Prop) → L → St → Hp → Prop} (h : RunS K mg B b m l Q) (e : m l = .ok a l') {F' : Addr → Prop} {σ' : St} {H' : Hp} (r : Rel K F' l' σ' H') (s : b.to F' l' σ' H') : Q a F' l' σ' H' := by
  unfold RunS at h
  rw [e] at h
  exact h F' σ' H' r s
/-- a reading from a later state -/
theorem tS_of {c : C} {D : Ends} {Q0 : Fl → (Addr → Prop) → L → St → Hp → Prop} (r : Rel K F l σ H) (s : b.to F l σ H) (h : RunS K mg B b c l Q0)
    (k : ∀ fl F' l' σ' H', Rel K F' l' σ' H' → Step F l σ H F' l' σ' H' → b.to F' l' σ' H' → Q0 fl F' l' σ' H' → SD K ⟨F, l, σ, H⟩ D fl F' l' σ' H') : tS K mg B c D σ H :=
  ⟨F, l, r, (h.rebase s).mono fun fl F' l' σ' H' e r' s' q => k fl F' l' σ' H' r' s' q.1 q.2⟩
theorem RetO.back {o : Opd} {v : V} (s : Step F l σ H F1 l1 σ1 H1) (h : RetO ⟨F1, l1, σ1, H1⟩ o v) : RetO ⟨F, l, σ, H⟩ o v := by
  cases o with
  | v _ => trivial
  | s _ => exact h
  | t d =>
    intro a e
    rcases h a e with z | z
    · exact s.ownT a z
    · exact .inr (s.none_of z)
theorem SD.back {D : Ends} {fl : Fl} (s : Step F l σ H F1 l1 σ1 H1) (h : SD K ⟨F, l, σ, H⟩ D fl F' l' σ' H') : SD K ⟨F1, l1, σ1, H1⟩ D fl F' l' σ' H' := by
  cases fl with
  | nx => exact h
  | bk => exact h
  | ct => exact h
  | rt o => exact fun v ro nw => h v ro (nw.back s)
theorem SD.nx' {D : Ends} {N : St → Hp → Prop} {fl : Fl} (h : SD K b D fl F l σ H) (hn : fl ≠ .nx) : SD K b { D with nx := N } fl F l σ H := by
  cases fl with
  | nx => exact absurd rfl hn
  | bk => exact h
  | ct => exact h
  | rt o => exact h
/-- a tail from a later state -/
theorem tS_tail {c : C} {D : Ends} (r : Rel K F1 l1 σ1 H1) (s : Step F l σ H F1 l1 σ1 H1) (h : RunS K mg B ⟨F, l, σ, H⟩ c l1 (SD K ⟨F, l, σ, H⟩ D)) : tS K mg B c D σ1 H1 :=
  tS_of (b := ⟨F, l, σ, H⟩) r s h fun fl F' l' σ' H' _ _ _ q => SD.back s q
theorem tSeq_of {a c : C} {D : Ends} (h : tS K mg B (sq a c) D σ H) : tSeq (tS K mg B a) (tS K mg B c) D σ H := by
  obtain ⟨F, l, r, h⟩ := h
  refine ⟨F, l, r, (RunS.bd h).mono fun fl F' l' σ' H' e r' s' q => ?_⟩
  cases fl with
  | nx => exact tS_tail r' s' q
  | bk => exact q.rt r' s'
  | ct => exact q.rt r' s'
  | rt o => exact q.rt r' s'

/-! stores into slots -/
theorem getD_set {i j : Nat} {s : Sl} : (l.set i s).getD j .non = if i = j ∧ i < l.length then s else l.getD j .non := by
  rw [List.getD_eq_getElem?_getD, List.getD_eq_getElem?_getD]
  by_cases e : i = j
  · subst e
    by_cases h : i < l.length
    · rw [List.getElem?_set_self h, if_pos ⟨rfl, h⟩]; rfl
    · rw [if_neg (fun z => h z.2), List.getElem?_eq_none (by simpa using h), List.getElem?_eq_none (by simpa using h)]
  · rw [List.getElem?_set_ne e, if_neg (fun z => e z.1)]
theorem setF_cases (i : Nat) (x : Sl) : (setF i x l = .ok () (l.set i x) ∧ i < l.length ∧ ∀ s, l[i]? = some s → s.borT = false) ∨ setF i x l = .stk := by
  unfold setF
  by_cases h : i < l.length
  · rw [if_pos h]
    have hs := getD_some h
    cases e : l.getD i .non with
    | non => exact .inl ⟨rfl, h, fun s z => by rw [hs, e] at z; cases z; rfl⟩
    | frz d => exact .inl ⟨rfl, h, fun s z => by rw [hs, e] at z; cases z; rfl⟩
    | own d => exact .inl ⟨rfl, h, fun s z => by rw [hs, e] at z; cases z; rfl⟩
    | bor d => exact .inr rfl
    | lck bb d =>
      cases bb with
      | true => exact .inr rfl
      | false => exact .inl ⟨rfl, h, fun s z => by rw [hs, e] at z; cases z; rfl⟩
  · rw [if_neg h]; exact .inr rfl
theorem σset_at {i j : Nat} {v w : V} (hi : i < σ.length) (h : (σ.set i (some v))[j]? = some (some w)) : (j = i ∧ w = v) ∨ (j ≠ i ∧ σ[j]? = some (some w)) := by
  by_cases e : i = j
  · subst e
    rw [List.getElem?_set_self hi] at h; cases h; exact .inl ⟨rfl, rfl⟩
  · rw [List.getElem?_set_ne e] at h; exact .inr ⟨fun z => e z.symm, h⟩
theorem mineX_set {p : Sl → Bool} {i : Nat} {x : Opd} {v : V} {a : Addr} (hi : i < σ.length) (hp : ∀ d, p (.frz d) = false) (hn : p .non = false) (h : ∃ (j : Nat) (s : Sl), (l.set i (slOf x))[j]? = some s ∧ p s = true ∧ (σ.set i (some v))[j]? = some (some (.ref a))) :
    (∃ (j : Nat) (s : Sl), j ≠ i ∧ l[j]? = some s ∧ p s = true ∧ σ[j]? = some (some (.ref a))) ∨ ((∃ d, x = .t d) ∧ v = .ref a) := by
  obtain ⟨j, s, h1, h2, h3⟩ := h
  rcases set_at h1 with ⟨e, es⟩ | ⟨nj, g⟩
  · subst e es
    rcases σset_at hi h3 with ⟨_, e⟩ | ⟨n, _⟩
    · cases x with
      | v d => rw [show slOf (.v d) = .frz d from rfl, hp] at h2; cases h2
      | s k => rw [show slOf (.s k) = .non from rfl, hn] at h2; cases h2
      | t d => exact .inr ⟨⟨d, rfl⟩, e.symm⟩
    · exact absurd rfl n
  · rcases σset_at hi h3 with ⟨e, _⟩ | ⟨_, e⟩
    · exact absurd e nj
    · exact .inl ⟨j, s, nj, g, h2, e⟩
theorem set_rel {i : Nat} {x : Opd} {v : V} (r : Rel K F l σ H) (ro : ROp K F l σ H x v) (hi : i < l.length) : Rel K F (l.set i (slOf x)) (σ.set i (some v)) H := by
  have hσ : i < σ.length := by rw [← r.len]; exact hi
  refine ⟨by rw [List.length_set, List.length_set]; exact r.len, fun j s e => ?_, fun j k s t a e1 e2 o1 o2 => ?_, r.frz⟩
  · rcases set_at e with ⟨ej, es⟩ | ⟨nj, g⟩
    · subst ej es
      rw [List.getElem?_set_self hσ]
      cases x with
      | v d => exact ⟨v, rfl, ro⟩
      | s k => trivial
      | t d => obtain ⟨a, e, nf, nm, q⟩ := ro; exact ⟨a, by rw [e], nf, q⟩
    · rw [List.getElem?_set_ne (fun z => nj z.symm)]
      exact r.at' j s g
  · intro e3 e4
    have tnew : ∀ (k : Nat) (t : Sl), k ≠ i → l[k]? = some t → t.ownish = true → σ[k]? = some (some (.ref a)) → (slOf x).ownish = true → v = .ref a → False := fun k t nk g ot gk ox ev => by
      cases x with
      | v d => cases ox
      | s k => cases ox
      | t d =>
        obtain ⟨a', e, nf, nm, q⟩ := ro
        rw [ev] at e; cases e
        exact nm ⟨k, t, g, ot, gk⟩
    rcases set_at e1 with ⟨ej, es⟩ | ⟨nj, g1⟩
    · subst ej es
      rcases set_at e2 with ⟨ek, es⟩ | ⟨nk, g2⟩
      · exact ek.symm
      · rcases σset_at hσ e3 with ⟨_, ev⟩ | ⟨n, _⟩
        · rcases σset_at hσ e4 with ⟨ek, _⟩ | ⟨_, e4'⟩
          · exact absurd ek nk
          · exact (tnew k t nk g2 o2 e4' o1 ev.symm).elim
        · exact absurd rfl n
    · rcases σset_at hσ e3 with ⟨ej, _⟩ | ⟨_, e3'⟩
      · exact absurd ej nj
      · rcases set_at e2 with ⟨ek, es⟩ | ⟨nk, g2⟩
        · subst ek es
          rcases σset_at hσ e4 with ⟨_, ev⟩ | ⟨n, _⟩
          · exact (tnew j s nj g1 o1 e3' o2 ev.symm).elim
          · exact absurd rfl n
        · rcases σset_at hσ e4 with ⟨ek, _⟩ | ⟨_, e4'⟩
          · exact absurd ek nk
          · exact r.inj j k s t a g1 g2 o1 o2 e3' e4'
theorem set_to {i : Nat} {x : Opd} {v : V} (r : Rel K F l σ H) (s : b.to F l σ H) (nw : NewO b.H x v) (hi : i < l.length) : b.to F (l.set i (slOf x)) (σ.set i (some v)) H := by
  have hσ : i < σ.length := by rw [← r.len]; exact hi
  have nwa : ∀ a, ((∃ d, x = .t d) ∧ v = .ref a) → b.H a = none := fun a ⟨⟨d, e⟩, ev⟩ => by
    subst e; exact nw a ev
  refine ⟨s.frame, s.there, fun a z => ?_, fun a z => ?_, s.up, s.down, fun a z => ?_, fun j a z => ?_, fun j a z => ?_⟩
  · rcases mineX_set (p := Sl.mut) hσ (fun _ => rfl) rfl z with ⟨j, t, _, h⟩ | h
    · exact s.own a ⟨j, t, h⟩
    · exact .inr (nwa a h)
  · rcases mineX_set (p := Sl.ownish) hσ (fun _ => rfl) rfl z with ⟨j, t, _, h⟩ | h
    · exact s.mine a ⟨j, t, h⟩
    · exact .inr (nwa a h)
  · rcases mineX_set (p := Sl.ownT) hσ (fun _ => rfl) rfl z with ⟨j, t, _, h⟩ | h
    · exact s.ownT a ⟨j, t, h⟩
    · exact .inr (nwa a h)
  · obtain ⟨t, g1, g2, g3⟩ := z
    rcases set_at g1 with ⟨ej, es⟩ | ⟨nj, g⟩
    · subst ej es
      cases x <;> cases g2
    · rcases σset_at hσ g3 with ⟨e, _⟩ | ⟨_, e⟩
      · exact absurd e nj
      · exact s.bor j a ⟨t, g, g2, e⟩
  · obtain ⟨t, g1, g2, g3⟩ := z
    rcases set_at g1 with ⟨ej, es⟩ | ⟨nj, g⟩
    · subst ej es
      cases x <;> cases g2
    · rcases σset_at hσ g3 with ⟨e, _⟩ | ⟨_, e⟩
      · exact absurd e nj
      · exact s.lck j a ⟨t, g, g2, e⟩
/-- the other operands behind a store -/
theorem set_rops {i : Nat} {x : Opd} {v : V} {os : List Opd} {vs : List V} (r : Rel K F l σ H) (hi : i < l.length) (hx : ∀ k, x ≠ .s k) (ap : ∀ d d' a, x = .t d → v = .ref a → (Opd.t d', V.ref a) ∉ os.zip vs) (hos : ∀ o ∈ os, ∀ k, o ≠ .s k) (ros : ROps K F l σ H os vs) :
    ROps K F (l.set i (slOf x)) (σ.set i (some v)) H os vs := by
  have hσ : i < σ.length := by rw [← r.len]; exact hi
  induction ros with
  | nil => exact .nil
  | @cons o2 v2 os vs h1 h2 h3 ih =>
    refine .cons ?_ (ih (fun d d' a e1 e2 hm => ap d d' a e1 e2 (by simp [hm])) (fun o ho => hos o (by simp [ho]))) h3
    cases o2 with
    | v d2 => exact h1
    | s k => exact absurd rfl (hos _ (by simp) k)
    | t d2 =>
      obtain ⟨a, e, nf, nm, q⟩ := h1
      refine ⟨a, e, nf, fun z => ?_, q⟩
      rcases mineX_set (p := Sl.ownish) hσ (fun _ => rfl) rfl z with ⟨j, t, _, h⟩ | ⟨⟨d, ed⟩, ev⟩
      · exact nm ⟨j, t, h⟩
      · exact ap d d2 a ed ev (by simp [e])
/-- normalized -/
theorem normO_cases (o : Opd) : (∃ x l', normO o l = .ok x l' ∧ (∀ k, x ≠ .s k) ∧ ∀ {K : PySem.W.Frag} {b : Bs} {F : Addr → Prop} {σ : St} {H : Hp} {v : V}, Rel K F l σ H → b.to F l σ H → ROp K F l σ H o v → NewO b.H o v →
    ∃ F', Rel K F' l' σ H ∧ b.to F' l' σ H ∧ ROp K F' l' σ H x v ∧ NewO b.H x v ∧ ∀ (os : List Opd) (vs : List V), ROps K F l σ H (o :: os) (v :: vs) → ROps K F' l' σ H (x :: os) (v :: vs)) ∨ normO o l = .stk := by
  cases o with
  | v d => exact .inl ⟨.v d, l, rfl, fun k z => (by cases z), fun {K b F σ H v} r s ro nw => ⟨F, r, s, ro, nw, fun _ _ h => h⟩⟩
  | t d => exact .inl ⟨.t d, l, rfl, fun k z => (by cases z), fun {K b F σ H v} r s ro nw => ⟨F, r, s, ro, nw, fun _ _ h => h⟩⟩
  | s i =>
    rcases shareO_cases (l := l) (.s i) with ⟨d, l', e, k⟩ | e
    · refine .inl ⟨.v d, l', ?_, fun k z => (by cases z), fun {K b F σ H v} r s ro nw => ?_⟩
      · show bd (shareO (.s i)) _ l = _
        rw [bd_ok e]; rfl
      · obtain ⟨F', sh⟩ := k r s ro nw
        refine ⟨F', sh.rel, sh.to, sh.rf, trivial, fun os vs h => ?_⟩
        cases h with
        | cons h1 h2 h3 => exact .cons sh.rf (sh.rops (by intro _ _ _ z; cases z) (shareO_len e) h2) (by intro _ _ _ z; cases z)
    · refine .inr ?_
      show bd (shareO (.s i)) _ l = _
      rw [bd_stk e]
theorem NewOs.cons2 {o x : Opd} {v : V} {os : List Opd} {vs : List V} (nw : NewO H x v) (h : NewOs H (o :: os) (v :: vs)) : NewOs H (x :: os) (v :: vs) := fun p hp => by
  rcases List.mem_cons.mp (show p ∈ (x, v) :: os.zip vs from hp) with e | e
  · subst e; exact nw
  · exact h p (by simp [e])
theorem ROps.zmem {os : List Opd} {vs : List V} (h : ROps K F l σ H os vs) : ∀ p ∈ os.zip vs, ROp K F l σ H p.1 p.2 := by
  induction h with
  | nil => intro p hp; simp at hp
  | cons h1 _ _ ih =>
    intro p hp
    rcases List.mem_cons.mp (by simpa using hp) with e | e
    · subst e; exact h1
    · exact ih p e
end
end L2.DL
/-! DL12: statements: return, if, names, tuples of targets, items of lists, while -/
namespace L2.DL
open PySem PySem.Spec PyProof.Rows
section
variable {K : PySem.W.Frag} {mg : Str → Option Value} {B : WX} {α β : Type} {b : Bs} {F F1 F' : Addr → Prop} {l l1 l' : L} {σ σ1 σ' : St} {H H0 H1 H' : Hp}
theorem unset_rel {i : Nat} (r : Rel K F l σ H) : Rel K F (l.set i .non) σ H := by
  refine ⟨by rw [List.length_set]; exact r.len, fun j s e => ?_, fun j k s t a e1 e2 o1 o2 => ?_, r.frz⟩
  · rcases set_at e with ⟨_, es⟩ | ⟨_, g⟩
    · subst es; trivial
    · exact r.at' j s g
  · rcases set_at e1 with ⟨_, es⟩ | ⟨_, g1⟩
    · subst es; cases o1
    · rcases set_at e2 with ⟨_, es⟩ | ⟨_, g2⟩
      · subst es; cases o2
      · exact r.inj j k s t a g1 g2 o1 o2
theorem unset_at {i : Nat} {p : Sl → Bool} {a : Addr} (hn : p .non = false) (h : ∃ (j : Nat) (s : Sl), (l.set i .non)[j]? = some s ∧ p s = true ∧ σ[j]? = some (some (.ref a))) : ∃ (j : Nat) (s : Sl), j ≠ i ∧ l[j]? = some s ∧ p s = true ∧ σ[j]? = some (some (.ref a)) := by
  obtain ⟨j, s, h1, h2, h3⟩ := h
  rcases set_at h1 with ⟨_, es⟩ | ⟨nj, g⟩
  · subst es; rw [hn] at h2; cases h2
  · exact ⟨j, s, nj, g, h2, h3⟩
theorem unset_to {i : Nat} (s : b.to F l σ H) : b.to F (l.set i .non) σ H := by
  refine ⟨s.frame, s.there, fun a z => ?_, fun a z => ?_, s.up, s.down, fun a z => ?_, fun j a ⟨t, g1, g2, g3⟩ => ?_, fun j a ⟨t, g1, g2, g3⟩ => ?_⟩
  · obtain ⟨j, t, _, h⟩ := unset_at (p := Sl.mut) rfl z; exact s.own a ⟨j, t, h⟩
  · obtain ⟨j, t, _, h⟩ := unset_at (p := Sl.ownish) rfl z; exact s.mine a ⟨j, t, h⟩
  · obtain ⟨j, t, _, h⟩ := unset_at (p := Sl.ownT) rfl z; exact s.ownT a ⟨j, t, h⟩
  · rcases set_at g1 with ⟨_, es⟩ | ⟨nj, g⟩
    · subst es; cases g2
    · exact s.bor j a ⟨t, g, g2, g3⟩
  · rcases set_at g1 with ⟨_, es⟩ | ⟨nj, g⟩
    · subst es; cases g2
    · exact s.lck j a ⟨t, g, g2, g3⟩
theorem retO_cases (o : Opd) : (∃ x l', retO o l = .ok x l' ∧ ∀ {K : PySem.W.Frag} {b : Bs} {F : Addr → Prop} {σ : St} {H : Hp} {v : V}, Rel K F l σ H → b.to F l σ H → ROp K F l σ H o v → NewO b.H o v →
    Rel K F l' σ H ∧ b.to F l' σ H ∧ ROp K F l' σ H x v ∧ RetO b x v) ∨ retO o l = .stk := by
  cases o with
  | v d => exact .inl ⟨.v d, l, rfl, fun r s ro nw => ⟨r, s, ro, trivial⟩⟩
  | t d => exact .inl ⟨.t d, l, rfl, fun r s ro nw => ⟨r, s, ro, fun a e => .inr (nw a e)⟩⟩
  | s i =>
    show (∃ x l', retS i l = .ok x l' ∧ _) ∨ retS i l = .stk
    have own : ∀ (s0 : Sl) (d : PyData), l.getD i .non = s0 → s0.ownT = true → s0.get = some d → ∀ {K : PySem.W.Frag} {b : Bs} {F : Addr → Prop} {σ : St} {H : Hp} {v : V}, Rel K F l σ H → b.to F l σ H → ROp K F l σ H (.s i) v → NewO b.H (.s i) v →
        Rel K F (l.set i .non) σ H ∧ b.to F (l.set i .non) σ H ∧ ROp K F (l.set i .non) σ H (.t d) v ∧ RetO b (.t d) v := by
      intro s0 d e ho hg K b F σ H v r s ro nw
      have hs : l[i]? = some s0 := getD_at e (by rintro rfl; cases ho)
      obtain ⟨a, d', ea, nf, q, eg⟩ := (r.at' i s0 hs).ref (Sl.ownT_ownish ho)
      rw [hg] at eg; cases eg
      rw [ro.1] at ea; cases ea
      refine ⟨unset_rel r, unset_to s, ⟨a, rfl, nf, fun z => ?_, q⟩, fun c ec => ?_⟩
      · obtain ⟨j, t, nj, h1, h2, h3⟩ := unset_at (p := Sl.ownish) rfl z
        exact nj (r.inj j i t s0 a h1 hs h2 (Sl.ownT_ownish ho) h3 ro.1)
      · cases ec
        exact s.ownT a ⟨i, s0, hs, ho, ro.1⟩
    unfold retS
    cases e : l.getD i .non with
    | non => exact .inr rfl
    | bor _ => exact .inr rfl
    | frz d =>
      refine .inl ⟨.v d, l, rfl, fun r s ro nw => ⟨r, s, ?_, trivial⟩⟩
      obtain ⟨x, e1, q⟩ := r.at' i _ (getD_at e (by simp))
      rw [ro.1] at e1; cases e1; exact q
    | own d => exact .inl ⟨.t d, _, rfl, own _ d e rfl rfl⟩
    | lck c d =>
      cases c with
      | true => exact .inr rfl
      | false => exact .inl ⟨.t d, _, rfl, own _ d e rfl rfl⟩
/-- an item of one's own list is written -/
theorem Keeps.wr {a : Addr} {o : HO} (nf : ¬ F a) (e : Mut (H a)) : Keeps K F F H (upd H a o) where
  lst := fun c ws hF q => by
    have ne : c ≠ a := fun z => nf (z ▸ hF)
    refine ⟨hF, ?_⟩
    rcases q with q | ⟨u, q⟩
    · exact .inl (by rw [upd_ne ne]; exact q)
    · exact .inr ⟨u, by rw [upd_ne ne]; exact q⟩
  tup := fun c ws q => by
    rcases q with ⟨u, q, hd⟩ | q
    · exact .inl ⟨u, by rw [upd_ne (fun z => by rw [z] at q; rw [q] at e; exact e)]; exact q, hd⟩
    · exact .inr q
/-- the slot's new content -/
theorem mut_rel {i : Nat} {a : Addr} {s0 s1 : Sl} {o : HO} {d : PyData} (r : Rel K F l σ H) (hs : l[i]? = some s0) (hm : s0.ownish = true) (hk : (∃ c, s0 = .own c ∧ s1 = .own d) ∨ (∃ c, s0 = .bor c ∧ s1 = .bor d)) (hv : σ[i]? = some (some (.ref a))) (nf : ¬ F a) (e : Mut (H a)) (q : RT K F (upd H a o) d a) :
    Rel K F (l.set i s1) σ (upd H a o) := by
  have hi : i < l.length := (List.getElem?_eq_some_iff.mp hs).1
  refine ⟨by rw [List.length_set]; exact r.len, fun j s g => ?_, fun j k s t c g1 g2 o1 o2 e3 e4 => ?_, fun c hF => ?_⟩
  · rcases set_at g with ⟨ej, es⟩ | ⟨nj, g'⟩
    · subst ej es
      rcases hk with ⟨c, _, e1⟩ | ⟨c, _, e1⟩ <;> subst e1 <;> exact ⟨a, hv, nf, q⟩
    · have k := r.at' j s g'
      have other : ∀ c, σ[j]? = some (some (.ref c)) → s.ownish = true → c ≠ a := fun c ec os z => by
        subst z
        exact nj (r.inj j i s s0 c g' hs os hm ec hv)
      cases s with
      | non => trivial
      | frz d => obtain ⟨x, e1, q⟩ := k; exact ⟨x, e1, q.keep (Keeps.wr nf e)⟩
      | own d => obtain ⟨c, e1, n, q⟩ := k; exact ⟨c, e1, n, q.keep (Keeps.wr nf e) (upd_ne (other c e1 rfl))⟩
      | bor d => obtain ⟨c, e1, n, q⟩ := k; exact ⟨c, e1, n, q.keep (Keeps.wr nf e) (upd_ne (other c e1 rfl))⟩
      | lck x d => obtain ⟨c, e1, n, q⟩ := k; exact ⟨c, e1, n, q.keep (Keeps.wr nf e) (upd_ne (other c e1 rfl))⟩
  · have back : ∀ (j : Nat) (s : Sl), (l.set i s1)[j]? = some s → s.ownish = true → ∃ s', l[j]? = some s' ∧ s'.ownish = true := fun j s g os => by
      rcases set_at g with ⟨ej, es⟩ | ⟨nj, g'⟩
      · subst ej es; exact ⟨s0, hs, hm⟩
      · exact ⟨s, g', os⟩
    obtain ⟨s', g1', o1'⟩ := back j s g1 o1
    obtain ⟨t', g2', o2'⟩ := back k t g2 o2
    exact r.inj j k s' t' c g1' g2' o1' o2' e3 e4
  · obtain ⟨ws, q⟩ := r.frz c hF
    exact ⟨ws, ((Keeps.wr (K := K) (F := F) nf e).lst c ws hF q).2⟩
theorem mut_step {i : Nat} {a : Addr} {s0 s1 : Sl} {o : HO} {d : PyData} (hs : l[i]? = some s0) (hk : (∃ c, s0 = .own c ∧ s1 = .own d) ∨ (∃ c, s0 = .bor c ∧ s1 = .bor d)) (hv : σ[i]? = some (some (.ref a))) :
    Step F l σ H F (l.set i s1) σ (upd H a o) := by
  have hmut : s0.mut = true := by rcases hk with ⟨c, e, _⟩ | ⟨c, e, _⟩ <;> subst e <;> rfl
  have back : ∀ (p : Sl → Bool), p s1 = p s0 → ∀ (j : Nat) (s : Sl), (l.set i s1)[j]? = some s → p s = true → ∃ s', l[j]? = some s' ∧ p s' = true := fun p hp j s g os => by
    rcases set_at g with ⟨ej, es⟩ | ⟨nj, g'⟩
    · subst ej es; exact ⟨s0, hs, by rw [← hp]; exact os⟩
    · exact ⟨s, g', os⟩
  have hp1 : Sl.mut s1 = Sl.mut s0 := by rcases hk with ⟨c, e, e2⟩ | ⟨c, e, e2⟩ <;> subst e e2 <;> rfl
  have hp2 : Sl.ownish s1 = Sl.ownish s0 := by rcases hk with ⟨c, e, e2⟩ | ⟨c, e, e2⟩ <;> subst e e2 <;> rfl
  have hp3 : Sl.ownT s1 = Sl.ownT s0 := by rcases hk with ⟨c, e, e2⟩ | ⟨c, e, e2⟩ <;> subst e e2 <;> rfl
  have hp4 : Sl.borT s1 = Sl.borT s0 := by rcases hk with ⟨c, e, e2⟩ | ⟨c, e, e2⟩ <;> subst e e2 <;> rfl
  have hp5 : Sl.lckT s1 = Sl.lckT s0 := by rcases hk with ⟨c, e, e2⟩ | ⟨c, e, e2⟩ <;> subst e e2 <;> rfl
  refine ⟨fun c u q n => ?_, fun c u q => ?_, fun c ⟨j, s, g1, g2, g3⟩ => ?_, fun c ⟨j, s, g1, g2, g3⟩ => ?_, fun _ z => z, fun _ z => .inl z, fun c ⟨j, s, g1, g2, g3⟩ => ?_, fun j c ⟨s, g1, g2, g3⟩ => ?_, fun j c ⟨s, g1, g2, g3⟩ => ?_⟩
  · rw [upd_ne (fun z => n ⟨i, s0, hs, hmut, by rw [z]; exact hv⟩)]; exact q
  · by_cases z : c = a
    · subst z; exact ⟨o, upd_same⟩
    · exact ⟨u, by rw [upd_ne z]; exact q⟩
  · obtain ⟨s', h1, h2⟩ := back _ hp1 j s g1 g2; exact .inl ⟨j, s', h1, h2, g3⟩
  · obtain ⟨s', h1, h2⟩ := back _ hp2 j s g1 g2; exact .inl ⟨j, s', h1, h2, g3⟩
  · obtain ⟨s', h1, h2⟩ := back _ hp3 j s g1 g2; exact .inl ⟨j, s', h1, h2, g3⟩
  · obtain ⟨s', h1, h2⟩ := back _ hp4 j s g1 g2; exact ⟨s', h1, h2, g3⟩
  · obtain ⟨s', h1, h2⟩ := back _ hp5 j s g1 g2; exact ⟨s', h1, h2, g3⟩
/-- a slot that may be changed -/
theorem mutS_cases (i : Nat) : (∃ c s0, l[i]? = some s0 ∧ l.getD i .non = s0 ∧ (s0 = .own c ∨ s0 = .bor c)) ∨ ∀ f : PyData → Option PyData, upS i f l = .stk := by
  cases e : l.getD i .non with
  | own d => exact .inl ⟨d, _, getD_at e (by simp), rfl, .inl rfl⟩
  | bor d => exact .inl ⟨d, _, getD_at e (by simp), rfl, .inr rfl⟩
  | non => exact .inr fun f => by unfold upS; rw [e]
  | frz _ => exact .inr fun f => by unfold upS; rw [e]
  | lck _ _ => exact .inr fun f => by unfold upS; rw [e]
end
section
variable {X : Cx} {B : WX} {e a b c tg : Expr} {m ma mb mc : M Opd} {t : M Bool} {ca cb cc : C} {pos : Pos} {st : Stmt} {sts : List Stmt} {i : Nat} {x : Str}
def MS (X : Cx) (B : WX) (st : Stmt) (c : C) : Prop := PS X st (tS X.K X.mg B c)
def MSs (X : Cx) (B : WX) (sts : List Stmt) (c : C) : Prop := PSs X sts (tS X.K X.mg B c)
theorem mss_nil : MSs X B [] sNx := PSs.imp pss_nil fun D σ H h => by
  obtain ⟨F, l, r, h⟩ := h
  exact h.rt r Step.refl
theorem mss_one (h : MS X B st ca) : MSs X B [st] ca := pss_one h
theorem mss_cons (h1 : MS X B st ca) (h2 : MSs X B sts cb) : MSs X B (st :: sts) (sq ca cb) := PSs.imp (pss_cons h1 h2) fun D σ H h => tSeq_of h
theorem ms_pass : MS X B (.Pass pos) sNx := PS.imp ps_pass fun D σ H h => by
  obtain ⟨F, l, r, h⟩ := h
  exact h.rt r Step.refl
theorem ms_break : MS X B (.Break pos) sBk := PS.imp ps_break fun D σ H h => by
  obtain ⟨F, l, r, h⟩ := h
  exact h.rt r Step.refl
theorem ms_continue : MS X B (.Continue pos) sCt := PS.imp ps_continue fun D σ H h => by
  obtain ⟨F, l, r, h⟩ := h
  exact h.rt r Step.refl
theorem ms_stk : MS X B st stuck := PS.imp ps_never fun D σ H h => by
  obtain ⟨F, l, r, h⟩ := h
  exact h
theorem ms_ret (ha : ME X B e m) : MS X B (.Return (some e) pos) (sRet m) := PS.imp (ps_ret ha) fun D σ H h => by
  obtain ⟨F, l, r, h⟩ := h
  refine tM_of r Step.refl (RunS.bdE h) fun o F1 l1 H1 v r1 s1 b1 ro nw q => ?_
  rcases retO_cases (l := l1) o with ⟨x, l2, e, k⟩ | e
  · obtain ⟨r2, s2, ro2, re⟩ := k r1 b1 ro nw
    exact (RunS.get q e).rt r2 s2 v ro2 re
  · exact absurd (bd_stk e) (RunS.there q)
theorem ms_retN : MS X B (.Return none pos) sRetN := PS.imp ps_retN fun D σ H h => by
  obtain ⟨F, l, r, h⟩ := h
  exact h.rt r Step.refl _ .non trivial
def noComp : Expr → Bool
  | .ListComp .. => false
  | .SetComp .. => false
  | .DictComp .. => false
  | _ => true
theorem noComp_sw {e : Expr} (h : noComp e = true) (tg : Option Expr) (line : Nat) (env : Env) : swapsWith e tg line env = pure false := by
  cases e <;> first | rfl | cases h
theorem ms_expr (ha : ME X B e m) (hn : noComp e = true) : MS X B (.Expr e pos) (sEx m) := PS.imp (ps_expr ha (noComp_sw hn _ _ _)) fun D σ H h => by
  obtain ⟨F, l, r, h⟩ := h
  refine tM_of r Step.refl (RunS.bdE h) fun o F1 l1 H1 v r1 s1 b1 ro nw q => ?_
  exact q.rt r1 b1
theorem ms_if (hc : MT X B e t) (ha : MSs X B sts ca) {sts2 : List Stmt} (hb : MSs X B sts2 cb) : MS X B (.If e sts sts2 pos) (sIf t ca cb) := PS.imp (ps_if hc ha hb) fun D σ H h => by
  obtain ⟨F, l, r, h⟩ := h
  refine tMT_of r Step.refl (RunS.bdE h) fun k F1 l1 H1 r1 s1 b1 q => ?_
  cases k with
  | true => rw [if_pos rfl]; exact tS_tail r1 s1 q
  | false => rw [if_neg Bool.false_ne_true]; exact tS_tail r1 s1 q
/-! targets -/
def gA (K : PySem.W.Frag) (mg : Str → Option Value) (B : WX) (g : TgA) : TG := fun v σ H Q => ∃ (b : Bs) (F : Addr → Prop) (l : L) (o : Opd), Rel K F l σ H ∧ b.to F l σ H ∧ ROp K F l σ H o v ∧ NewO b.H o v ∧ RunS K mg B b (asgA g o) l fun _ F' l' σ' H' => Q σ' H'
def gAs (K : PySem.W.Frag) (mg : Str → Option Value) (B : WX) (gs : List TgA) : TGs := fun vs σ H Q => ∃ (b : Bs) (F : Addr → Prop) (l : L) (ds : List PyData), Rel K F l σ H ∧ b.to F l σ H ∧ RFs K F H vs ds ∧ RunS K mg B b (asgAs gs (ds.map .v)) l fun _ F' l' σ' H' => Q σ' H'
def MG (X : Cx) (B : WX) (tg : Expr) (g : TgA) : Prop := PG X tg (gA X.K X.mg B g)
def MGs (X : Cx) (B : WX) (ts : List Expr) (gs : List TgA) : Prop := PGs X ts (gAs X.K X.mg B gs)
theorem PG.imp {X : Cx} {e : Expr} {t t' : TG} (h : PG X e t) (k : ∀ v σ H Q, t' v σ H Q → t v σ H Q) : PG X e t' := ⟨fun pins s σ H v u Q I r q => h.run pins s σ H v u Q I r (k v σ H Q q)⟩
theorem PGs.imp {X : Cx} {e : List Expr} {t t' : TGs} (h : PGs X e t) (k : ∀ v σ H Q, t' v σ H Q → t v σ H Q) : PGs X e t' := ⟨fun pins s σ H v u Q I r q => h.run pins s σ H v u Q I r (k v σ H Q q)⟩
theorem gA_nm {K : PySem.W.Frag} {mg : Str → Option Value} {v : V} {σ : St} {H : Hp} {Q : St → Hp → Prop} (h : gA K mg B (.nm i) v σ H Q) : gName i v σ H Q := by
  obtain ⟨b, F, l, o, r, s, ro, nw, h⟩ := h
  rw [asgA] at h
  rcases normO_cases (l := l) o with ⟨x, l1, e, ns, k⟩ | e
  · obtain ⟨F1, r1, s1, ro1, nw1, _⟩ := k r s ro nw
    have h1 := h.get e
    rcases setF_cases (l := l1) i (slOf x) with ⟨e2, hi, hb⟩ | e2
    · exact h1.ok e2 (set_rel r1 ro1 hi) (set_to r1 s1 nw1 hi)
    · exact absurd e2 h1.there
  · exact absurd (bd_stk e) h.there
theorem mg_name (hN : X.N.Nodup) (hi : X.N[i]? = some x) (hx : Loc X.env.scope x) (hf : X.fn x = true ∨ X.env.scope.names.lookup x = some .local) : MG X B (.Name x pos) (.nm i) :=
  PG.imp (pg_name hN hi hx hf) fun v σ H Q h => gA_nm h
theorem mgs_nil : MGs X B [] [] := PGs.imp pgs_nil fun v σ H Q h => by
  obtain ⟨b, F, l, ds, r, s, rf, h⟩ := h
  cases ds with
  | nil =>
    cases rf
    refine ⟨rfl, ?_⟩
    rw [List.map_nil, asgAs] at h
    exact h.rt r s
  | cons d ds =>
    rw [List.map_cons, asgAs] at h
    · exact h.elim
    · intro _ z; cases z
    · intro _ _ _ _ z; cases z
def notStar : Expr → Bool
  | .Starred .. => false
  | _ => true
theorem assignEach_cons {e : Expr} (h : notStar e = true) (es : List Expr) (env : Env) : assignEach (e :: es) env = (false, assign e env) :: assignEach es env := by
  cases e <;> first | rfl | cases h
theorem starEach_cons {e : Expr} (h : notStar e = true) (es : List Expr) (env : Env) : starEach (e :: es) env = (false, eval e env) :: starEach es env := by
  cases e <;> first | rfl | cases h
theorem mgs_cons {g : TgA} {gs : List TgA} {es : List Expr} (h1 : MG X B e g) (h2 : MGs X B es gs) (hn : notStar e = true) : MGs X B (e :: es) (g :: gs) :=
  PGs.imp (pgs_cons h1 h2 (by rw [assignEach_cons hn]; rfl)) fun v σ H Q h => by
    obtain ⟨b, F, l, ds, r, s, rf, h⟩ := h
    cases ds with
    | nil =>
      rw [List.map_nil, asgAs] at h
      · exact h.elim
      · intro z; cases z
      · intro _ _ _ _ _ z; cases z
    | cons d ds =>
      cases rf with
      | @cons v0 vs _ _ h3 h4 =>
        refine ⟨v0, vs, rfl, ?_⟩
        rw [List.map_cons, asgAs] at h
        have h5 := (h.rebase s).bd
        refine ⟨⟨F, l, σ, H⟩, F, l, .v d, r, Step.refl, h3, trivial, h5.mono fun _ F' l' σ' H' _ r' s' q => ?_⟩
        exact ⟨⟨F, l, σ, H⟩, F', l', ds, r', s', s'.rfs r h4, q.mono fun _ F2 l2 σ2 H2 _ r2 s2 q2 => q2.2⟩
theorem assignEach_len : ∀ (es : List Expr) (env : Env), (assignEach es env).length = es.length
  | [], _ => rfl
  | e :: es, env => by
    by_cases h : notStar e = true
    · rw [assignEach_cons h]; simp [assignEach_len es env]
    · cases e <;> first | exact absurd rfl h | simp [assignEach, assignEach_len es env]
theorem assignEach_nost : ∀ (es : List Expr) (env : Env), es.all notStar = true → (assignEach es env).findIdx? (·.1) = none
  | [], _, _ => rfl
  | e :: es, env, h => by
    simp only [List.all_cons, Bool.and_eq_true] at h
    rw [assignEach_cons h.1, List.findIdx?_cons]
    simp [assignEach_nost es env h.2]
theorem mg_tup {gs : List TgA} {es : List Expr} {k : Nat} (hc : X.calm = true) (h : MGs X B es gs) (hn : es.all notStar = true) (hl : gs.length = es.length) : MG X B (.Tuple es k pos) (.tp gs) := by
  refine PG.imp (pg_tup (n := es.length) hc h (assignEach_len _ _) (assignEach_nost _ _ hn)) fun v σ H Q h => ?_
  obtain ⟨b, F, l, o, r, s, ro, nw, h⟩ := h
  cases o with
  | t d =>
    rw [asgA] at h
    · exact h.elim
    · intro _ z; cases z
  | s d =>
    rw [asgA] at h
    · exact h.elim
    · intro _ z; cases z
  | v d =>
    cases d with
    | tuple ds =>
      have ro : RF X.K F H v (.tuple ds) := ro
      cases ro with
      | @tup a vs _ h1 h2 =>
        rw [asgA] at h
        split at h
        · rename_i e
          exact ⟨a, vs, rfl, h1.sq, by rw [h2.length, ← e, hl], ⟨b, F, l, ds, r, s, h2, h⟩⟩
        · exact h.elim
    | _ =>
      rw [asgA] at h
      · exact h.elim
      · intro _ z; cases z
end
end L2.DL
/-! DL13: assignments, items of lists, while -/
namespace L2.DL
open PySem PySem.Spec PyProof.Rows
section
variable {X : Cx} {B : WX} {e a b c tg : Expr} {m ma mb mc : M Opd} {t : M Bool} {ca cb cc : C} {pos : Pos} {st : Stmt} {sts : List Stmt} {i : Nat} {x : Str}
/-- a slot's value by its name -/
theorem eV_cases (i : Nat) (l : L) : (∃ o, eV i l = .ok o l ∧ ∀ {K : PySem.W.Frag} {F : Addr → Prop} {σ : St} {H : Hp}, Rel K F l σ H → ∃ v, σ[i]? = some (some v)) ∨ eV i l = .stk := by
  unfold eV
  cases e : l.getD i .non with
  | non => exact .inr rfl
  | frz d => exact .inl ⟨_, rfl, fun r => by obtain ⟨v, ev, _⟩ := r.at' i _ (getD_at e (by simp)); exact ⟨v, ev⟩⟩
  | own d => exact .inl ⟨_, rfl, fun r => by obtain ⟨v, ev, _⟩ := r.at' i _ (getD_at e (by simp)); exact ⟨_, ev⟩⟩
  | bor d => exact .inl ⟨_, rfl, fun r => by obtain ⟨v, ev, _⟩ := r.at' i _ (getD_at e (by simp)); exact ⟨_, ev⟩⟩
  | lck c d => exact .inl ⟨_, rfl, fun r => by obtain ⟨v, ev, _⟩ := r.at' i _ (getD_at e (by simp)); exact ⟨_, ev⟩⟩
/-- a store's wish -/
def rPut (K : PySem.W.Frag) : TSet := fun o i v H Q => ∃ (F : Addr → Prop) (l : L) (σ : St) (a : Addr) (c n d c' : PyData), o = .ref a ∧ Rel K F l σ H ∧ ¬ F a ∧ RT K F H c a ∧ RD K F H i n ∧ RF K F H v d ∧ putAt c n d = some c' ∧ ∀ o', RT K F (upd H a o') c' a → Q (upd H a o')
theorem RT.mutH {K : PySem.W.Frag} {F : Addr → Prop} {H : Hp} {d : PyData} {a : Addr} (h : RT K F H d a) : Mut (H a) := by
  obtain ⟨o, e, m⟩ := h.there
  rw [e]; exact m
theorem dPut_K {K : PySem.W.Frag} {F : Addr → Prop} {H : Hp} {kvs : List (PyData × PyData)} {es : List (Key × V)} (h : DKs K F H kvs es) (k d : PyData) : dPut kvs k d = (keyP k).bind fun kk => if kvs.length < lim then some (.dict (putD keyP kvs k d kk)) else none := by
  unfold dPut
  split
  · cases h with
    | cons h1 _ _ => cases h1
  · rfl
theorem set_put (hu : X.A.units + 1 < cLine) : PSet X (rPut X.K) := by
  intro pins s σ H o i v ov iv u Q I ro ri rv h
  obtain ⟨F, l, σ', a, c, n, d, c', rfl, rl, nf, rt, rd, rf, hp, k⟩ := h
  have hlim : lim ≤ sizeLine := by decide
  unfold putAt at hp
  split at hp
  · rename_i xs i'
    rw [Option.map_eq_some_iff] at hp
    obtain ⟨j, hj, rfl⟩ := hp
    have ei := rd_int rd
    subst ei
    cases rt with
    | @lst _ vs _ e q =>
      refine set_list pins s σ H _ _ v ov iv u Q I ro ri rv ⟨a, vs, i', j, rfl, rfl, e, ?_, k _ (.lst upd_same ?_)⟩
      · rw [q.length]; exact hj
      · exact (q.set j rf).keep (Keeps.wr nf (by rw [e]; trivial))
  · rename_i kvs
    cases (show ov = Value.ref a from ro)
    cases rt with
    | @dK _ es _ e q =>
      rw [dPut_K q] at hp
      cases ek : keyP n with
      | none => rw [ek] at hp; cases hp
      | some kk =>
        rw [ek] at hp
        simp only [Option.bind_some] at hp
        split at hp
        · rename_i hl
          cases hp
          have ey := rd_keyP rd ek
          subst ey
          have hl2 : es.length < sizeLine := by have := q.len; omega
          exact d_setItem hu I (DPut.k e hl2) ri rv fun s' I' => ⟨_, I', k _ (.dK upd_same ((q.put ek rf).keep (Keeps.wr nf (by rw [e]; trivial))))⟩
        · cases hp
    | @dX _ xs r e q =>
      have eg : dPut ((.none, .none) :: r) n d = (keyI n).bind fun ks => if r.length < lim then some (.dict ((.none, .none) :: putD keyI r n d ks)) else none := rfl
      rw [eg] at hp
      cases ek : keyI n with
      | none => rw [ek] at hp; cases hp
      | some ks =>
        rw [ek] at hp
        simp only [Option.bind_some] at hp
        split at hp
        · rename_i hl
          cases hp
          obtain ⟨b, rfl, ht⟩ := rd_keyI rd ek
          cases (show iv = Value.ref b from ri)
          obtain ⟨h1, h2, dd⟩ := DXs.dict I e q
          have q2 := q.put ek ht rf rv
          have hl2 : (storedH xs ks b u).length ≤ sizeLine := by
            have h3 : (storedH xs ks b u).length ≤ xs.length + 1 := by
              unfold storedH
              split <;> simp
            have := q.len
            omega
          refine wpAny_setItem_heap (hsz := h2) (tupleKind_room_in1 hu) (keyT_of I ht) dd fun h' dd' hs => ?_
          have he : ∃ q, h'.get? a = some q := let ⟨q, _, _, hq, _⟩ := dd'; ⟨q, hq⟩
          exact ⟨_, d_write I (by rw [e]; trivial) hs he (dx_new h1 hl2 dd'), k _ (.dX upd_same (q2.keep (Keeps.wr nf (by rw [e]; trivial))))⟩
        · cases hp
  · cases hp
def notSlice : Expr → Bool
  | .Slice .. => false
  | _ => true
theorem assign_sub {o i : Expr} {pos : Pos} {env : Env} (h : notSlice i = true) (v : Value) : assign (.Subscript o i pos) env v = (do
      let ov ← holding [v] (eval o env)
      let iv ← holding [v, ov] (eval i env)
      standAt pos
      holding [v, ov, iv] (setItem ov iv v)
      release [v, ov, iv] []) := by
  cases i <;> first | rfl | cases h
theorem mg_sub {i : Nat} {p2 : Pos} (hu : X.A.units + 1 < cLine) (hN : X.N[i]? = some x) (hv : Vis X.env.scope x) (hd : (x == ("__debug__" : Str)) = false) (hcd : (x == ("__classdict__" : Str)) = false) (hb : ME X B b mb) (hs : notSlice b = true) : MG X B (.Subscript (.Name x p2) b pos) (.ix i mb) := by
  refine PG.imp (pg_sub (pe_var hN hv hd hcd) hb (set_put hu) (assign_sub hs)) fun v σ H Q h => ?_
  obtain ⟨b0, F, l, o, r, s, ro, nw, h⟩ := h
  rw [asgA] at h
  rcases shareO_cases (l := l) o with ⟨d, l1, e1, k1⟩ | e1
  · obtain ⟨F1, sh⟩ := k1 r s ro nw
    have h1 := h.get e1
    rcases eV_cases i l1 with ⟨o2, e2, k2⟩ | e2
    · have h2 := h1.get e2
      obtain ⟨w, ew⟩ := k2 sh.rel
      refine ⟨w, ew, ?_⟩
      refine tM_of sh.rel sh.to (RunS.bdE h2) fun ko F2 l2 H2 iv r2 s2 b2 ro2 nw2 q2 => ?_
      rcases readO_cases (l := l2) ko with ⟨n, e3, e4⟩ | e4
      · have q3 := RunS.get q2 e4
        have rd := ro2.read r2 e3
        rcases mutS_cases (l := l2) i with ⟨c, s0, hs0, e5, hk⟩ | e5
        · have ok := r2.at' i s0 hs0
          have hoo : s0.ownish = true := by rcases hk with e | e <;> subst e <;> rfl
          have hg : s0.get = some c := by rcases hk with e | e <;> subst e <;> rfl
          obtain ⟨a, c', ea, nf, q, eg⟩ := ok.ref hoo
          rw [hg] at eg; cases eg
          rw [ew] at ea; cases ea
          cases hp : putAt c n d with
          | none =>
            exfalso
            refine q3.there ?_
            unfold upS
            rw [e5]
            rcases hk with e | e <;> subst e <;> simp only [hp]
          | some c' =>
            refine ⟨F2, l2, σ, a, c, n, d, c', rfl, r2, nf, q, rd, s2.rf sh.rel sh.rf, hp, fun o' q' => ?_⟩
            have fin : ∀ s1 : Sl, ((∃ c, s0 = .own c ∧ s1 = .own c') ∨ (∃ c, s0 = .bor c ∧ s1 = .bor c')) → upS i (fun c => putAt c n d) l2 = .ok () (l2.set i s1) → Q σ (upd H2 a o') := fun s1 hk1 e6 =>
              q3.ok e6 (mut_rel r2 hs0 hoo hk1 ew nf q.mutH q') (b2.trans (mut_step hs0 hk1 ew))
            rcases hk with e | e
            · refine fin (.own c') (.inl ⟨c, e, rfl⟩) ?_
              unfold upS
              rw [e5, e]
              simp only [hp]
            · refine fin (.bor c') (.inr ⟨c, e, rfl⟩) ?_
              unfold upS
              rw [e5, e]
              simp only [hp]
        · exact absurd (e5 _) q3.there
      · exact absurd (bd_stk e4) (RunS.there q2)
    · exact absurd (bd_stk e2) h1.there
  · exact absurd (bd_stk e1) h.there
/-! assignments -/
theorem tAsg_of {K : PySem.W.Frag} {mg : Str → Option Value} {σ : St} {H : Hp} {D : Ends} {g : TgA} (h : tS K mg B (sAsg g m) D σ H) : tAsg (tM K mg B m) (gA K mg B g) D σ H := by
  obtain ⟨F, l, r, h⟩ := h
  refine tM_of r Step.refl (RunS.bdE h) fun o F1 l1 H1 v r1 s1 b1 ro nw q => ?_
  exact ⟨⟨F, l, σ, H⟩, F1, l1, o, r1, b1, ro, nw, (RunS.bd q).mono fun _ F2 l2 σ2 H2 _ r2 s2 q2 => q2.rt r2 s2⟩
def isTup : Expr → Bool
  | .Tuple .. => true
  | _ => false
def isLst : Expr → Bool
  | .List .. => true
  | _ => false
def isName : Expr → Bool
  | .Name .. => true
  | _ => false
theorem sw_none {tg e : Expr} {env : Env} (h : ((isTup tg || isLst tg) && isTup e) = false) : swappedStores [tg] e env = pure none := by
  cases tg <;> cases e <;> first | rfl | cases h
def swNames (kd : Str → Option NameKind) (ts : List Expr) : List Str := ts.filterMap fun
    | .Name id pos => if kd id == some .local && pos.line == (ts.head?.map (·.pos.line)).getD 0 then some id else none
    | _ => none
/-- which names are stored from the right -/
def swB (kd : Str → Option NameKind) (ts vs : List Expr) : Option (Option (List Str)) :=
  if (!(ts.length == 2 || ts.length == 3) || vs.length != ts.length) = true then some none else
  if (vs.any fun | .Starred .. => true | _ => false) = true then some none else
  if ((swNames kd ts).length != ts.length || (swNames kd ts).eraseDups.length != (swNames kd ts).length) = true then some none else
  if (vs.all (foldedForSure 8)) = true then some none else
  if (vs.all (constantsAlone 8)) = true then none else some (some (swNames kd ts))
theorem swapped_eq {ts vs : List Expr} {k k2 : Nat} {p p2 : Pos} {env : Env} {r : Option (List Str)} (hb : env.scope.kind = .function) (h : swB (fun x => env.scope.names.lookup x) ts vs = some r) : swappedStores [.Tuple ts k p] (.Tuple vs k2 p2) env = pure r := by
  have hbk : env.blockKind = .function := by unfold Env.blockKind; rw [hb]; rfl
  have hf : (env.blockKind != ScopeKind.function) = false := by rw [hbk]; rfl
  unfold swB at h
  unfold swappedStores
  simp only [hf, Bool.or_false]
  have e0 : ∀ x, env.kindOf x = env.scope.names.lookup x := fun _ => rfl
  simp only [e0]
  split at h
  · rename_i c1
    cases h
    rw [if_pos c1]
  · rename_i c1
    rw [if_neg c1]
    split at h
    · rename_i c2
      cases h
      exact if_pos c2
    · rename_i c2
      refine (if_neg c2).trans ?_
      split at h
      · rename_i c3
        cases h
        exact if_pos c3
      · rename_i c3
        refine (if_neg c3).trans ?_
        split at h
        · rename_i c4
          cases h
          exact if_pos c4
        · rename_i c4
          refine (if_neg c4).trans ?_
          split at h
          · cases h
          · rename_i c5
            cases h
            exact (if_neg c5).trans rfl
/-- any assignment to one target, no name's exchange -/
theorem ms_asg {g : TgA} (ha : ME X B e m) (hg : MG X B tg g) (hs : (noComp e || !isName tg) = true) (hn : notStar tg = true) (hw : swappedStores [tg] e X.env = pure none) : MS X B (.Assign [tg] e pos) (sAsg g m) :=
  PS.imp (ps_asg ha hg (by
    show swapsWith e (some tg) pos.line X.env = pure false
    rw [Bool.or_eq_true] at hs
    rcases hs with hs | hs
    · exact noComp_sw hs _ _ _
    · cases tg <;> first | (cases hs; done) | (cases e <;> rfl)) hw (by rw [assignEach_cons hn]; rfl)) fun D σ H h => tAsg_of h
/-- several plain names at once -/
theorem normAll_cases : ∀ (os : List Opd) (l : L), (∃ xs l', normAll os l = .ok xs l' ∧ (∀ x ∈ xs, ∀ k, x ≠ .s k) ∧ ∀ {K : PySem.W.Frag} {b : Bs} {F : Addr → Prop} {σ : St} {H : Hp} {vs : List V}, Rel K F l σ H → b.to F l σ H → ROps K F l σ H os vs → NewOs b.H os vs →
    ∃ F', Rel K F' l' σ H ∧ b.to F' l' σ H ∧ (∀ a, F a → F' a) ∧ (∀ a, F' a → F a ∨ Mine l σ a) ∧ (∀ a, Mine l' σ a → Mine l σ a) ∧ l'.length = l.length ∧ ROps K F' l' σ H xs vs ∧ NewOs b.H xs vs ∧ ∀ d a, (Opd.t d, V.ref a) ∈ xs.zip vs → (Opd.t d, V.ref a) ∈ os.zip vs) ∨ normAll os l = .stk
  | [], l => .inl ⟨[], l, rfl, (fun _ h => by simp at h), fun {K b F σ H vs} r s ro nw => ⟨F, r, s, fun _ z => z, fun _ z => .inl z, fun _ z => z, rfl, ro, nw, fun _ _ h => h⟩⟩
  | o :: os, l => by
    have hN : normAll (o :: os) l = (DL.bd (normO o) fun x => DL.bd (normAll os) fun xs => DL.rt (x :: xs)) l := rfl
    have go : ∀ (x : Opd) (l1 : L), normO o l = .ok x l1 → (∀ k, x ≠ .s k) → (∀ {K : PySem.W.Frag} {b : Bs} {F : Addr → Prop} {σ : St} {H : Hp} {v : V} {vs : List V}, Rel K F l σ H → b.to F l σ H → ROps K F l σ H (o :: os) (v :: vs) → NewOs b.H (o :: os) (v :: vs) →
        ∃ F1, Rel K F1 l1 σ H ∧ b.to F1 l1 σ H ∧ (∀ a, F a → F1 a) ∧ (∀ a, F1 a → F a ∨ Mine l σ a) ∧ (∀ a, Mine l1 σ a → Mine l σ a) ∧ l1.length = l.length ∧ ROp K F1 l1 σ H x v ∧ NewO b.H x v ∧ ROps K F1 l1 σ H os vs ∧ (∀ d, x = .t d → o = .t d)) →
        (∃ xs l', normAll (o :: os) l = .ok xs l' ∧ (∀ x ∈ xs, ∀ k, x ≠ .s k) ∧ ∀ {K : PySem.W.Frag} {b : Bs} {F : Addr → Prop} {σ : St} {H : Hp} {vs : List V}, Rel K F l σ H → b.to F l σ H → ROps K F l σ H (o :: os) vs → NewOs b.H (o :: os) vs →
    ∃ F', Rel K F' l' σ H ∧ b.to F' l' σ H ∧ (∀ a, F a → F' a) ∧ (∀ a, F' a → F a ∨ Mine l σ a) ∧ (∀ a, Mine l' σ a → Mine l σ a) ∧ l'.length = l.length ∧ ROps K F' l' σ H xs vs ∧ NewOs b.H xs vs ∧ ∀ d a, (Opd.t d, V.ref a) ∈ xs.zip vs → (Opd.t d, V.ref a) ∈ (o :: os).zip vs) ∨ normAll (o :: os) l = .stk := by
      intro x l1 e1 ns k1
      rcases normAll_cases os l1 with ⟨xs, l2, e2, ns2, k2⟩ | e2
      · refine .inl ⟨x :: xs, l2, by rw [hN, bd_ok e1, bd_ok e2]; rfl, fun y hy => ?_, fun {K b F σ H vs} r s ro nw => ?_⟩
        · rcases List.mem_cons.mp hy with e | e
          · subst e; exact ns
          · exact ns2 y e
        · cases ro with
          | @cons _ v _ vs h1 h2 h3 =>
            obtain ⟨F1, r1, s1, u1, d1, m1, n1, ro1, nw1, ros1, ht⟩ := k1 r s (.cons h1 h2 h3) nw
            obtain ⟨F2, r2, s2, u2, d2, m2, n2, ros2, nws2, tt⟩ := k2 r1 s1 ros1 (fun p hp => nw p (by simp [hp]))
            refine ⟨F2, r2, s2, fun a z => u2 a (u1 a z), fun a z => ?_, fun a z => m1 a (m2 a z), n2.trans n1, .cons ?_ ros2 (fun d d' a ex ev hm => h3 d d' a (ht d ex) ev (tt d' a hm)), fun p hp => ?_, fun d a hm => ?_⟩
            · rcases d2 a z with y | y
              · exact d1 a y
              · exact .inr (m1 a y)
            · cases x with
              | v d => exact RF.keep (Keeps.up u2) ro1
              | s k => exact absurd rfl (ns k)
              | t d =>
                obtain ⟨a, e, nf, nm, q⟩ := ro1
                refine ⟨a, e, fun z => ?_, fun z => nm (m2 a z), q.keep (Keeps.up u2) rfl⟩
                rcases d2 a z with y | y
                · exact nf y
                · exact nm y
            · rcases List.mem_cons.mp (show p ∈ (x, v) :: xs.zip vs from hp) with e | e
              · subst e; exact nw1
              · exact nws2 p e
            · rcases List.mem_cons.mp (show (Opd.t d, V.ref a) ∈ (x, v) :: xs.zip vs from hm) with e | e
              · cases e; exact List.mem_cons.mpr (.inl (by rw [ht d rfl]))
              · exact List.mem_cons.mpr (.inr (tt d a e))
      · exact .inr (by rw [hN, bd_ok e1, bd_stk e2])
    cases o with
    | v d =>
      exact go (.v d) l rfl (fun k z => by cases z) fun {K b F σ H v vs} r s ro nw => by
        cases ro with
        | cons h1 h2 h3 => exact ⟨F, r, s, fun _ z => z, fun _ z => .inl z, fun _ z => z, rfl, h1, trivial, h2, fun d z => by cases z⟩
    | t d =>
      exact go (.t d) l rfl (fun k z => by cases z) fun {K b F σ H v vs} r s ro nw => by
        cases ro with
        | cons h1 h2 h3 => exact ⟨F, r, s, fun _ z => z, fun _ z => .inl z, fun _ z => z, rfl, h1, nw (.t d, v) (by simp), h2, fun d z => by cases z; rfl⟩
    | s i =>
      rcases shareO_cases (l := l) (.s i) with ⟨d, l', e, k⟩ | e
      · refine go (.v d) l' (by show DL.bd (shareO (.s i)) _ l = _; rw [bd_ok e]; rfl) (fun k z => by cases z) fun {K b F σ H v vs} r s ro nw => ?_
        cases ro with
        | cons h1 h2 h3 =>
          obtain ⟨F', sh⟩ := k r s h1 trivial
          refine ⟨F', sh.rel, sh.to, sh.up, fun a z => ?_, sh.sub, shareO_len e, sh.rf, trivial, sh.rops (by intro _ _ _ z; cases z) (shareO_len e) h2, fun d z => by cases z⟩
          rcases sh.only a z with y | ⟨_, ⟨_, y⟩ | y⟩
          · exact .inl y
          · cases y
          · exact .inr y
      · refine .inr ?_
        have e2 : normO (.s i) l = .stk := by show DL.bd (shareO (.s i)) _ l = _; rw [bd_stk e]
        rw [hN, bd_stk e2]
/-- the stores one behind another -/
theorem setAll_run {K : PySem.W.Frag} {mg : Str → Option Value} {b : Bs} : ∀ (is : List Nat) (xs : List Opd) (vs : List V) {F : Addr → Prop} {l : L} {σ : St} {H : Hp} {Q : Unit → (Addr → Prop) → L → St → Hp → Prop}, Rel K F l σ H → b.to F l σ H → ROps K F l σ H xs vs → NewOs b.H xs vs → (∀ x ∈ xs, ∀ k, x ≠ .s k) → RunS K mg B b (setAll is xs) l Q →
    ∃ l', is.length = vs.length ∧ Q () F l' ((is.zip vs).foldl (fun σ p => σ.set p.1 (some p.2)) σ) H
  | [], [], vs, F, l, σ, H, Q, r, s, ro, nw, ns, h => by
    cases ro
    exact ⟨l, rfl, h.rt r s⟩
  | i :: is, x :: xs, vs, F, l, σ, H, Q, r, s, ro, nw, ns, h => by
    cases ro with
    | @cons _ v _ vs h1 h2 h3 =>
      have h : RunS K mg B b (bd (setF i (slOf x)) fun _ => setAll is xs) l Q := h
      rcases setF_cases (l := l) i (slOf x) with ⟨e2, hi, hb⟩ | e2
      · have h4 := h.get e2
        have nw1 : NewO b.H x v := nw (x, v) (by simp)
        obtain ⟨l', hl, q⟩ := setAll_run is xs vs (set_rel r h1 hi) (set_to r s nw1 hi) (set_rops r hi (ns x (by simp)) h3 (fun o ho => ns o (by simp [ho])) h2) (fun p hp => nw p (by simp [hp])) (fun o ho => ns o (by simp [ho])) h4
        exact ⟨l', by simp [hl], q⟩
      · exact absurd (bd_stk e2) h.there
  | [], x :: xs, vs, F, l, σ, H, Q, r, s, ro, nw, ns, h => h.elim
  | i :: is, [], vs, F, l, σ, H, Q, r, s, ro, nw, ns, h => h.elim
theorem sPar_of {K : PySem.W.Frag} {mg : Str → Option Value} {σ : St} {H : Hp} {D : Ends} {is : List Nat} {ms : List (M Opd)} (h : tS K mg B (sPar is ms) D σ H) : tMA K mg B ms σ H fun vs H1 => is.length = vs.length ∧ D.nx ((is.zip vs).foldl (fun σ p => σ.set p.1 (some p.2)) σ) H1 := by
  obtain ⟨F, l, r, h⟩ := h
  refine tMA_of r Step.refl (RunS.bdE h) fun os F1 l1 H1 vs hlen r1 s1 b1 ro nw q => ?_
  rcases normAll_cases os l1 with ⟨xs, l2, e2, ns, k⟩ | e2
  · obtain ⟨F2, r2, s2, _, _, _, _, ro2, nw2, _⟩ := k r1 b1 ro nw
    have q2 := RunS.get q e2
    obtain ⟨l3, hl, q3⟩ := setAll_run (mg := mg) is xs vs r2 s2 ro2 nw2 ns (q2.bd.mono (Q' := fun _ _ _ σ' H' => D.nx σ' H') fun _ F' l' σ' H' _ r' s' q' => q'.rt r' s')
    exact ⟨hl, q3⟩
  · exact absurd (bd_stk e2) (RunS.there q)
theorem ms_par2 {i j : Nat} {x y : Str} {px py pt : Pos} {kt k2 pt2} {ms : List (M Opd)} (hc : X.calm = true) (hN : X.N.Nodup) (hi : X.N[i]? = some x) (hj : X.N[j]? = some y) (hij : i ≠ j)
    (hx : X.env.scope.names.lookup x = some .local) (hy : X.env.scope.names.lookup y = some .local) (ha : MA X B [a, b] ms)
    (hw : swappedStores [.Tuple [.Name x px, .Name y py] kt pt] (.Tuple [a, b] k2 pt2) X.env = pure (some [x, y])) :
    MS X B (.Assign [.Tuple [.Name x px, .Name y py] kt pt] (.Tuple [a, b] k2 pt2) pos) (sPar [i, j] ms) :=
  PS.imp (ps_par hc hN hi hj hij hx hy ha hw rfl) fun D σ H h => tMA_mono (sPar_of h) fun vs H1 ⟨hl, q⟩ => by
    match vs, hl with
    | [v, w], _ => exact ⟨v, w, rfl, q⟩
theorem ms_par3 {i j k : Nat} {x y z : Str} {px py pz pt : Pos} {kt k2 pt2} {ms : List (M Opd)} (hc : X.calm = true) (hN : X.N.Nodup) (hi : X.N[i]? = some x) (hj : X.N[j]? = some y) (hk : X.N[k]? = some z) (hij : i ≠ j) (hik : i ≠ k) (hjk : j ≠ k)
    (hx : X.env.scope.names.lookup x = some .local) (hy : X.env.scope.names.lookup y = some .local) (hz : X.env.scope.names.lookup z = some .local) (ha : MA X B [a, b, c] ms)
    (hw : swappedStores [.Tuple [.Name x px, .Name y py, .Name z pz] kt pt] (.Tuple [a, b, c] k2 pt2) X.env = pure (some [x, y, z])) :
    MS X B (.Assign [.Tuple [.Name x px, .Name y py, .Name z pz] kt pt] (.Tuple [a, b, c] k2 pt2) pos) (sPar [i, j, k] ms) :=
  PS.imp (ps_par3 hc hN hi hj hk hij hik hjk hx hy hz ha hw rfl) fun D σ H h => tMA_mono (sPar_of h) fun vs H1 ⟨hl, q⟩ => by
    match vs, hl with
    | [v, w, u], _ => exact ⟨v, w, u, rfl, q⟩
/-! while -/
theorem ms_while (hp : PassesOwn (model X.prog X.w) X.A X.env X.xe) (hc : MT X B e t) (hb : MSs X B sts cb) : MS X B (.While e sts [] pos) (sWh t cb) := by
  refine PS.imp (ps_while hp hc hb) fun D σ H h => ?_
  obtain ⟨F, l, r, h⟩ := h
  refine ⟨fun n σ' H' => ∃ F' l', Rel X.K F' l' σ' H' ∧ Step F l σ H F' l' σ' H' ∧ RunS X.K X.mg B ⟨F, l, σ, H⟩ (whL t cb n) l' (SD X.K ⟨F, l, σ, H⟩ D), ⟨fuel, F, l, r, Step.refl, h⟩, ?_⟩
  rintro n σ1 H1 ⟨F1, l1, r1, s1, h1⟩
  cases n with
  | zero => exact h1.elim
  | succ n =>
    have h1 : RunS X.K X.mg B ⟨F, l, σ, H⟩ (bd t fun k => match k with
      | false => sNx
      | true => bd cb fun f => match f with
        | .nx => whL t cb n
        | .ct => whL t cb n
        | .bk => sNx
        | .rt o => DL.rt (.rt o)) l1 (SD X.K ⟨F, l, σ, H⟩ D) := h1
    refine tMT_of r1 s1 (RunS.bdE h1) fun k F2 l2 H2 r2 s2 b2 q => ?_
    cases k with
    | false => rw [if_neg Bool.false_ne_true]; exact q.rt r2 b2
    | true =>
      rw [if_pos rfl]
      refine ⟨fun σ' H' => ∃ F' l', Rel X.K F' l' σ' H' ∧ Step F l σ H F' l' σ' H' ∧ RunS X.K X.mg B ⟨F, l, σ, H⟩ (whL t cb n) l' (SD X.K ⟨F, l, σ, H⟩ D), fun σ' H' n' => ⟨n, Nat.lt_succ_self n, n'⟩, ?_⟩
      refine tS_of r2 b2 q.bd fun fl F3 l3 σ3 H3 r3 s3 b3 q3 => ?_
      cases fl with
      | nx => exact ⟨F3, l3, r3, b3, q3⟩
      | ct => exact ⟨F3, l3, r3, b3, q3⟩
      | bk => exact q3.rt r3 b3
      | rt o => exact fun v ro re => q3.rt r3 b3 v ro (re.back b2)
end
end L2.DL
/-! DL14: locks; what is walked; for -/
namespace L2.DL
open PySem PySem.Spec PyProof.Rows
/-- the one slot locked -/
def unl : Sl → Sl
  | .lck false d => .own d
  | .lck true d => .bor d
  | s => s
structure LockR (l : L) (js : List Nat) (l1 : L) : Prop where
  len : l1.length = l.length
  inn : ∀ i, i ∈ js → ∃ s, l1[i]? = some s ∧ s.lckT = true ∧ l[i]? = some (unl s)
  out : ∀ i, i ∉ js → l1[i]? = l[i]?
theorem unl_props {s : Sl} : (unl s).ownish = s.ownish ∧ (unl s).ownT = s.ownT ∧ (unl s).borT = s.borT ∧ (unl s).get = s.get := by
  cases s with
  | lck c d => cases c <;> exact ⟨rfl, rfl, rfl, rfl⟩
  | _ => exact ⟨rfl, rfl, rfl, rfl⟩
theorem unl_mut {s : Sl} (h : s.lckT = true) : (unl s).mut = true := by
  cases s with
  | lck c d => cases c <;> rfl
  | _ => cases h
theorem unl_nl {s : Sl} : (unl s).lckT = false := by
  cases s with
  | lck c d => cases c <;> rfl
  | _ => rfl
theorem unl_id {s : Sl} (h : s.lckT = false) : unl s = s := by
  cases s with
  | lck c d => cases h
  | _ => rfl
theorem lock1_cases (i : Nat) (l : L) : (∃ s, l[i]? = some s ∧ s.mut = true ∧ ∃ s', lock1 i l = .ok true (l.set i s') ∧ s'.lckT = true ∧ unl s' = s) ∨ (∃ s, l[i]? = some s ∧ s.mut = false ∧ lock1 i l = .ok false l) ∨ lock1 i l = .stk := by
  unfold lock1
  cases e : l.getD i .non with
  | non => exact .inr (.inr rfl)
  | frz d => exact .inr (.inl ⟨_, getD_at e (by simp), rfl, rfl⟩)
  | own d => exact .inl ⟨_, getD_at e (by simp), rfl, .lck false d, rfl, rfl, rfl⟩
  | bor d => exact .inl ⟨_, getD_at e (by simp), rfl, .lck true d, rfl, rfl, rfl⟩
  | lck c d => exact .inr (.inl ⟨_, getD_at e (by simp), rfl, rfl⟩)
theorem lockAll_R : ∀ (src : List Nat) (l : L), (∃ js l1, lockAll src l = .ok js l1 ∧ LockR l js l1 ∧ ∀ i ∈ src, ∃ s, l1[i]? = some s ∧ s.mut = false) ∨ lockAll src l = .stk
  | [], l => .inl ⟨[], l, rfl, ⟨rfl, fun i h => by simp at h, fun i _ => rfl⟩, fun i h => by simp at h⟩
  | i :: is, l => by
    have hL : lockAll (i :: is) l = (bd (lock1 i) fun b => bd (lockAll is) fun js => rt (if b then i :: js else js)) l := rfl
    rcases lock1_cases i l with ⟨s, hs, hm, s', e, hk, hu⟩ | ⟨s, hs, hm, e⟩ | e
    · have hi : i < l.length := (List.getElem?_eq_some_iff.mp hs).1
      have hget : (l.set i s')[i]? = some s' := List.getElem?_set_self hi
      rcases lockAll_R is (l.set i s') with ⟨js, l1, e2, R, nm⟩ | e2
      · have hni : i ∉ js := fun z => by
          obtain ⟨t, _, ht, h2⟩ := R.inn i z
          rw [hget] at h2
          have : s'.lckT = false := by rw [Option.some.inj h2]; exact unl_nl
          rw [hk] at this; cases this
        refine .inl ⟨i :: js, l1, by rw [hL, bd_ok e, bd_ok e2]; rfl, ⟨by rw [R.len, List.length_set], fun j hj => ?_, fun j hj => ?_⟩, fun j hj => ?_⟩
        · rcases List.mem_cons.mp hj with z | z
          · subst z
            exact ⟨s', by rw [R.out j hni]; exact hget, hk, by rw [hu]; exact hs⟩
          · have ne : i ≠ j := fun q => hni (q ▸ z)
            obtain ⟨t, h1, h2, h3⟩ := R.inn j z
            exact ⟨t, h1, h2, by rw [List.getElem?_set_ne ne] at h3; exact h3⟩
        · have ne : i ≠ j := fun q => hj (by simp [q])
          rw [R.out j (fun z => hj (by simp [z])), List.getElem?_set_ne ne]
        · rcases List.mem_cons.mp hj with z | z
          · subst z
            exact ⟨s', by rw [R.out j hni]; exact hget, by cases s' <;> first | rfl | cases hk⟩
          · exact nm j z
      · exact .inr (by rw [hL, bd_ok e, bd_stk e2])
    · rcases lockAll_R is l with ⟨js, l1, e2, R, nm⟩ | e2
      · refine .inl ⟨js, l1, by rw [hL, bd_ok e, bd_ok e2]; rfl, R, fun j hj => ?_⟩
        rcases List.mem_cons.mp hj with z | z
        · subst z
          by_cases hj : j ∈ js
          · obtain ⟨t, h1, h2, _⟩ := R.inn j hj
            exact ⟨t, h1, by cases t <;> first | rfl | cases h2⟩
          · exact ⟨s, by rw [R.out j hj]; exact hs, hm⟩
        · exact nm j z
      · exact .inr (by rw [hL, bd_ok e, bd_stk e2])
    · exact .inr (by rw [hL, bd_stk e])
theorem unlock1_eq (l : L) (i : Nat) : unlock1 l i = l.set i (unl (l.getD i .non)) := by
  unfold unlock1
  have same : ∀ s, l.getD i .non = s → l = l.set i s := fun s e => by
    apply List.ext_getElem? 
    intro j
    by_cases z : i = j
    · subst z
      by_cases h : i < l.length
      · rw [List.getElem?_set_self h, getD_some h, e]
      · rw [List.getElem?_eq_none (by simpa using h), List.getElem?_eq_none (by simpa using h)]
    · rw [List.getElem?_set_ne z]
  cases e : l.getD i .non with
  | lck c d => cases c <;> rfl
  | non => exact same _ e
  | frz d => exact same _ e
  | own d => exact same _ e
  | bor d => exact same _ e
theorem unlock1_get (l : L) (i j : Nat) : (unlock1 l i)[j]? = if j = i then l[j]?.map unl else l[j]? := by
  rw [unlock1_eq]
  by_cases z : i = j
  · subst z
    rw [if_pos rfl]
    by_cases h : i < l.length
    · rw [List.getElem?_set_self h, getD_some h]; rfl
    · rw [List.getElem?_eq_none (by simpa using h), List.getElem?_eq_none (by simpa using h)]; rfl
  · rw [List.getElem?_set_ne z, if_neg (fun q => z q.symm)]
theorem unl_unl (s : Sl) : unl (unl s) = unl s := unl_id unl_nl
theorem unlockL_get : ∀ (js : List Nat) (l : L) (j : Nat), (unlockL js l)[j]? = if j ∈ js then l[j]?.map unl else l[j]?
  | [], l, j => by simp [unlockL]
  | i :: is, l, j => by
    show (unlockL is (unlock1 l i))[j]? = _
    rw [unlockL_get is, unlock1_get]
    by_cases h1 : j = i <;> by_cases h2 : j ∈ is
    · rw [if_pos h2, if_pos h1, if_pos (by simp [h1])]
      cases l[j]? <;> simp [unl_unl]
    · rw [if_neg h2, if_pos h1, if_pos (by simp [h1])]
    · rw [if_pos h2, if_neg h1, if_pos (by simp [h2])]
    · rw [if_neg h2, if_neg h1, if_neg (by simp [h1, h2])]
theorem unlockL_len : ∀ (js : List Nat) (l : L), (unlockL js l).length = l.length
  | [], l => rfl
  | i :: is, l => by
    show (unlockL is (unlock1 l i)).length = _
    rw [unlockL_len is, unlock1_eq, List.length_set]
section
variable {K : PySem.W.Frag} {mg : Str → Option Value} {B : WX} {α β : Type} {b : Bs} {F F1 F' : Addr → Prop} {l l1 l' : L} {σ σ1 σ' : St} {H H0 H1 H' : Hp} {js : List Nat}
theorem SlOk.unl {s : Sl} {v : Option (Option V)} : SlOk K F H (unl s) v ↔ SlOk K F H s v := by
  cases s with
  | lck c d => cases c <;> exact Iff.rfl
  | _ => exact Iff.rfl
/-- slots alike but for locks -/
theorem relike (hl : l1.length = l.length) (h : ∀ i : Nat, (∃ s, l1[i]? = some s) → ∃ s s', l1[i]? = some s ∧ l[i]? = some s' ∧ DL.unl s = DL.unl s') (r : Rel K F l σ H) : Rel K F l1 σ H := by
  refine ⟨hl.trans r.len, fun i s e => ?_, fun i j s t a e1 e2 o1 o2 => ?_, r.frz⟩
  · obtain ⟨s1, s', h1, h2, h3⟩ := h i ⟨s, e⟩
    rw [e] at h1; cases h1
    exact SlOk.unl.mp (by rw [h3]; exact SlOk.unl.mpr (r.at' i s' h2))
  · obtain ⟨s1, s', h1, h2, h3⟩ := h i ⟨s, e1⟩
    obtain ⟨t1, t', g1, g2, g3⟩ := h j ⟨t, e2⟩
    rw [e1] at h1; cases h1
    rw [e2] at g1; cases g1
    exact r.inj i j s' t' a h2 g2 (by rw [← unl_props.1, ← h3, unl_props.1]; exact o1) (by rw [← unl_props.1, ← g3, unl_props.1]; exact o2)
theorem LockR.alike (R : LockR l js l1) (i : Nat) {s : Sl} (e : l1[i]? = some s) : ∃ s', l[i]? = some s' ∧ unl s = unl s' ∧ (s.mut = true → s = s') := by
  by_cases hi : i ∈ js
  · obtain ⟨t, h1, h2, h3⟩ := R.inn i hi
    rw [e] at h1; cases h1
    exact ⟨_, h3, (unl_unl s).symm, fun hm => by cases s <;> first | (cases h2; done) | (cases hm; done)⟩
  · exact ⟨s, by rw [← R.out i hi]; exact e, rfl, fun _ => rfl⟩
theorem LockR.rel (R : LockR l js l1) (r : Rel K F l σ H) : Rel K F l1 σ H := relike R.len (fun i ⟨s, e⟩ => by
  obtain ⟨s', h1, h2, _⟩ := R.alike i e
  exact ⟨s, s', e, h1, h2⟩) r
theorem LockR.mine (R : LockR l js l1) {a : Addr} (h : Mine l1 σ a) : Mine l σ a := by
  obtain ⟨i, s, h1, h2, h3⟩ := h
  obtain ⟨s', g1, g2, _⟩ := R.alike i h1
  exact ⟨i, s', g1, by rw [← unl_props.1, ← g2, unl_props.1]; exact h2, h3⟩
/-- unlocked at the end -/
theorem unlocked (R : LockR l js l1) (r : Rel K F' l' σ' H') (s : Step F l1 σ H F' l' σ' H') : Rel K F' (unlockL js l') σ' H' ∧ Step F l σ H F' (unlockL js l') σ' H' := by
  have at1 : ∀ (i : Nat) (t : Sl), (unlockL js l')[i]? = some t → ∃ t', l'[i]? = some t' ∧ unl t = unl t' ∧ (t = t' ∨ (i ∈ js ∧ t = unl t' ∧ t'.lckT = true)) := fun i t e => by
    rw [unlockL_get] at e
    by_cases hi : i ∈ js
    · rw [if_pos hi] at e
      cases q : l'[i]? with
      | none => rw [q] at e; cases e
      | some t' =>
        rw [q] at e
        cases e
        refine ⟨t', rfl, unl_unl _, ?_⟩
        cases hk : t'.lckT with
        | true => exact .inr ⟨hi, rfl, rfl⟩
        | false => exact .inl (unl_id hk)
    · rw [if_neg hi] at e
      exact ⟨t, e, rfl, .inl rfl⟩
  refine ⟨relike (unlockL_len _ _) (fun i ⟨t, e⟩ => ?_) r, fun a o e n => ?_, s.there, fun a ⟨i, t, h1, h2, h3⟩ => ?_, fun a ⟨i, t, h1, h2, h3⟩ => ?_, s.up, fun a z => ?_, fun a ⟨i, t, h1, h2, h3⟩ => ?_, fun i a ⟨t, h1, h2, h3⟩ => ?_, fun i a ⟨t, h1, h2, h3⟩ => ?_⟩
  · obtain ⟨t', g1, g2, _⟩ := at1 i t e
    exact ⟨t, t', e, g1, g2⟩
  · refine s.frame a o e fun z => n ?_
    obtain ⟨i, t, h1, h2, h3⟩ := z
    obtain ⟨t', g1, _, g3⟩ := R.alike i h1
    exact ⟨i, t, by rw [g3 h2]; exact g1, h2, h3⟩
  · obtain ⟨t', g1, g2, g3⟩ := at1 i t h1
    rcases g3 with g3 | ⟨hi, g3, gk⟩
    · subst g3
      rcases s.own a ⟨i, t, g1, h2, h3⟩ with ⟨j, u, k1, k2, k3⟩ | z
      · obtain ⟨u', m1, _, m3⟩ := R.alike j k1
        exact .inl ⟨j, u, by rw [m3 k2]; exact m1, k2, k3⟩
      · exact .inr z
    · obtain ⟨u, k1, k2, k3⟩ := s.lck i a ⟨t', g1, gk, h3⟩
      obtain ⟨w, q1, q2, q3⟩ := R.inn i hi
      rw [k1] at q1; cases q1
      exact .inl ⟨i, unl u, q3, unl_mut k2, k3⟩
  · obtain ⟨t', g1, g2, _⟩ := at1 i t h1
    rcases s.mine a ⟨i, t', g1, by rw [← unl_props.1, ← g2, unl_props.1]; exact h2, h3⟩ with z | z
    · exact .inl (R.mine z)
    · exact .inr z
  · rcases s.down a z with y | y | y
    · exact .inl y
    · exact .inr (.inl (R.mine y))
    · exact .inr (.inr y)
  · obtain ⟨t', g1, g2, _⟩ := at1 i t h1
    rcases s.ownT a ⟨i, t', g1, by rw [← unl_props.2.1, ← g2, unl_props.2.1]; exact h2, h3⟩ with ⟨j, u, k1, k2, k3⟩ | z
    · obtain ⟨u', m1, m2, _⟩ := R.alike j k1
      exact .inl ⟨j, u', m1, by rw [← unl_props.2.1, ← m2, unl_props.2.1]; exact k2, k3⟩
    · exact .inr z
  · obtain ⟨t', g1, g2, _⟩ := at1 i t h1
    obtain ⟨u, k1, k2, k3⟩ := s.bor i a ⟨t', g1, by rw [← unl_props.2.2.1, ← g2, unl_props.2.2.1]; exact h2, h3⟩
    obtain ⟨u', m1, m2, _⟩ := R.alike i k1
    exact ⟨u', m1, by rw [← unl_props.2.2.1, ← m2, unl_props.2.2.1]; exact k2, k3⟩
  · obtain ⟨t', g1, g2, g3⟩ := at1 i t h1
    rcases g3 with g3 | ⟨hi, g3, gk⟩
    · subst g3
      obtain ⟨u, k1, k2, k3⟩ := s.lck i a ⟨t, g1, h2, h3⟩
      by_cases hi : i ∈ js
      · rw [unlockL_get, if_pos hi, g1] at h1
        have e : unl t = t := Option.some.inj h1
        have q : (unl t).lckT = false := unl_nl
        rw [e, h2] at q
        cases q
      · exact ⟨u, by rw [← R.out i hi]; exact k1, k2, k3⟩
    · rw [g3, unl_nl] at h2; cases h2
end
end L2.DL
/-! DL15: what is walked; for -/
namespace L2.DL
open PySem PySem.Spec PyProof.Rows
/-- a walk's item -/
def YL (K : PySem.W.Frag) (F : Addr → Prop) (H : Hp) (pl : Bool) (x : V) (d : PyData) : Prop :=
  match pl with
  | false => RF K F H x d
  | true => ∃ (p : Addr) (vs : List V) (ds : List PyData), x = .ref p ∧ d = .tuple ds ∧ SqT K H p vs ∧ RFs K F H vs ds
/-- J walks xs, whatever becomes of the rest -/
def ItS (K : PySem.W.Frag) (J : It) (its : Its) (F : Addr → Prop) (l : L) (σ : St) (H : Hp) : Prop :=
  ∀ F2 l2 σ2 H2, Rel K F2 l2 σ2 H2 → Step F l σ H F2 l2 σ2 H2 → ∀ i : Nat, (its.xs.length ≤ i → J.stop i H2) ∧ ∀ d, its.xs[i]? = some d → J.go i H2 ∧ ∀ x H3, J.yld i H2 x H3 → Rel K F2 l2 σ2 H3 ∧ Step F2 l2 σ2 H2 F2 l2 σ2 H3 ∧ YL K F2 H3 its.pl x d
def ItOk (K : PySem.W.Frag) (J : It) (its : Its) (F : Addr → Prop) (l : L) (σ : St) (H : Hp) : Prop := ∀ js l1, lockAll its.src l = .ok js l1 → LockR l js l1 → ItS K J its F l1 σ H
def tI (K : PySem.W.Frag) (mg : Str → Option Value) (B : WX) (it : M Its) : TI := fun σ H R => ∃ F l, Rel K F l σ H ∧ Run K mg B ⟨F, l, σ, H⟩ it l σ fun its F' l' H' => ∀ J, ItOk K J its F' l' σ H' → R J H'
def MI (X : Cx) (B : WX) (tg iter : Expr) (it : M Its) : Prop := PI X tg iter (tI X.K X.mg B it)
theorem PI.imp {X : Cx} {tg e : Expr} {t t' : TI} (h : PI X tg e t) (k : ∀ σ H R, t' σ H R → t σ H R) : PI X tg e t' := ⟨fun pins s σ H R I q => h.run pins s σ H R I (k σ H R q)⟩
section
variable {K : PySem.W.Frag} {mg : Str → Option Value} {B : WX} {b : Bs} {F F1 F2 F' : Addr → Prop} {l l1 l2 l' : L} {σ σ1 σ2 σ' : St} {H H0 H1 H2 H' : Hp} {js : List Nat} {o : Opd} {v : V}
/-- a walked operand's object is not written while it is locked -/
theorem walked (rl : Rel K F l σ H) (ro : ROp K F l σ H o v) {src : List Nat} (hsrc : ∀ i ∈ srcOf o, i ∈ src) (e : lockAll src l = .ok js l1) (R : LockR l js l1) {a : Addr} (hv : v = .ref a) {xs : List PyData} (hd : getO l o = some (.list xs)) : ¬ Own l1 σ a ∨ ∃ vs, LstK K a vs ∧ RFs K F H vs xs := by
  have nm : ∀ i ∈ src, ∃ s, l1[i]? = some s ∧ s.mut = false := by
    rcases lockAll_R src l with ⟨js', l1', e', _, nm⟩ | e'
    · rw [e] at e'; cases e'; exact nm
    · rw [e] at e'; cases e'
  have r1 := R.rel rl
  subst hv
  cases o with
  | v d' =>
    cases hd
    have ro : RF K F H (.ref a) (.list xs) := ro
    cases ro with
    | lst hF _ _ => exact .inl fun z => (r1.mine z.mine).1 hF
    | lstK h1 h2 => exact .inr ⟨_, h1, h2⟩
  | t d' =>
    obtain ⟨a', e', nf, nm', q⟩ := ro
    cases e'
    exact .inl fun z => nm' (R.mine z.mine)
  | s i =>
    obtain ⟨s0, h1, h2⟩ := nm i (hsrc i (by simp [srcOf]))
    obtain ⟨s', g1, g2, _⟩ := R.alike i h1
    have hg : s'.get = some (.list xs) := by
      have : (l.getD i .non).get = some (.list xs) := hd
      rw [List.getD_eq_getElem?_getD, g1] at this
      exact this
    have hg0 : s0.get = some (.list xs) := by rw [← unl_props.2.2.2, g2, unl_props.2.2.2]; exact hg
    cases ho : s0.ownish with
    | true =>
      refine .inl fun z => ?_
      obtain ⟨j, t, k1, k2, k3⟩ := z
      have := r1.inj j i t s0 a k1 h1 (Sl.mut_ownish k2) ho k3 ro.1
      subst this
      rw [h1] at k1; cases k1
      rw [h2] at k2; cases k2
    | false =>
      have ok := r1.at' i s0 h1
      cases s0 with
      | non => cases hg0
      | frz d =>
        cases hg0
        obtain ⟨x, e1, q⟩ := ok
        rw [ro.1] at e1; cases e1
        cases q with
        | lst hF _ _ => exact .inl fun z => (r1.mine z.mine).1 hF
        | lstK h1 h2 => exact .inr ⟨_, h1, h2⟩
      | own d => cases ho
      | bor d => cases ho
      | lck c d => cases ho
/-- a list that nobody writes stays -/
theorem Step.sqL (s : Step F l σ H F2 l2 σ2 H2) {a : Addr} {vs : List V} (h : Rd H a (.lst vs)) (n : ¬ Own l σ a) : SqL K H2 a vs := by
  rcases h with h | ⟨u, h⟩
  · exact .inl (.inl (s.frame a _ h n))
  · exact .inl (.inr ⟨u, s.frame a _ h n⟩)
def SqB (K : PySem.W.Frag) (H : Hp) (a : Addr) (vs : List V) : Bool → Prop
  | true => SqL K H a vs
  | false => SqT K H a vs
/-- the list or the tuple that is walked: its items at its address -/
structure WSeq (K : PySem.W.Frag) (F : Addr → Prop) (l : L) (σ : St) (H : Hp) (a : Addr) (xs : List PyData) (vs : List V) (isL : Bool) : Prop where
  rfs : RFs K F H vs xs
  at' : ∀ F2 l2 σ2 H2, Rel K F2 l2 σ2 H2 → Step F l σ H F2 l2 σ2 H2 → SqB K H2 a vs isL
theorem ROp.seq (rl : Rel K F l σ H) (ro : ROp K F l σ H o v) {d : PyData} {xs : List PyData} (ed : getO l o = some d) (es : seqOf d = some xs) : ∃ a vs, v = .ref a ∧ SqB K H a vs (isList d) ∧
    ∀ js l1 src, (∀ i ∈ srcOf o, i ∈ src) → lockAll src l = .ok js l1 → LockR l js l1 → WSeq K F l1 σ H a xs vs (isList d) := by
  have rd := ro.read rl ed
  cases d with
  | list ys =>
    cases es
    obtain ⟨a, vs, rfl, hs, fs⟩ := rd_lst rd
    by_cases hK : ∃ vs, LstK K a vs ∧ RFs K F H vs xs
    · obtain ⟨ws, h1, h2⟩ := hK
      exact ⟨a, ws, rfl, (.inr h1 : SqL K H a ws), fun js l1 src hsrc e R => ⟨h2, fun F2 l2 σ2 H2 r2 s2 => (.inr h1 : SqL K H2 a ws)⟩⟩
    · refine ⟨a, vs, rfl, (hs : SqL K H a vs), fun js l1 src hsrc e R => ⟨fs, fun F2 l2 σ2 H2 r2 s2 => ?_⟩⟩
      rcases hs with hs | hs
      · rcases walked rl ro hsrc e R rfl ed with n | n
        · exact s2.sqL hs n
        · exact absurd n hK
      · exact absurd ⟨vs, hs, fs⟩ hK
  | tuple ys =>
    cases es
    obtain ⟨a, vs, rfl, hs, fs⟩ := rd_tup rd
    refine ⟨a, vs, rfl, hs.sq, fun js l1 src hsrc e R => ⟨fs, fun F2 l2 σ2 H2 r2 s2 => ?_⟩⟩
    exact ((s2.keeps (R.rel rl)).tup a vs hs).sq
  | none => cases es
  | bool _ => cases es
  | int _ => cases es
  | str _ => cases es
  | dict _ => cases es
end
section
variable {X : Cx} {B : WX} {e a b c tg : Expr} {m ma mb mc : M Opd} {t : M Bool} {ca cb cc : C} {pos : Pos} {st : Stmt} {sts : List Stmt} {i : Nat} {x : Str}
/-- a list or a tuple -/
def iSq (K : PySem.W.Frag) (tl : TE) : TI := fun σ H R => tl σ H fun x H1 => ∃ a, x = .ref a ∧ (((∃ xs, SqL K H1 a xs) ∧ R (Itl K a) H1) ∨ ((∃ xs, SqT K H1 a xs) ∧ R (Itt K a) H1))
theorem pi_sq {l : Expr} {tl : TE} (hl : PE X l tl) : PI X tg l (iSq X.K tl) := by
  refine ⟨fun pins s σ H R I h => ?_⟩
  refine thn (hl.run pins s σ H _ I h) fun v s1 ⟨x, H1, I1, r1, q1⟩ => ?_
  obtain ⟨a, e, q1⟩ := q1
  subst e
  cases r1
  rcases q1 with ⟨⟨xs, hq⟩, q⟩ | ⟨⟨xs, hq⟩, q⟩
  · obtain ⟨its, rv, p, hz⟩ := I1.list hq
    refine wpAny_pyIter_list p.isList ?_
    refine ⟨s1.heap.objs.size, [s1.heap.objs.size], _, _, H1, rfl, I1.kept (t' := s1.toks) fun b o e => Heap.get?_push_of_some _ e, turn_list a _, ⟨_, Heap.get?_push_size _ rfl, rfl, rfl⟩, fun b hb => ?_, q⟩
    have e : b = s1.heap.objs.size := by simpa using hb
    subst e
    exact I1.fpOk (Nat.le_refl _) (I1.hok.fresh (Nat.le_refl _))
  · obtain ⟨its, rv, p, hz⟩ := I1.tuple hq
    refine wpAny_pyIter_tuple (show s1.heap.IsTuple a its.toArray from p) ?_
    refine ⟨s1.heap.objs.size, [s1.heap.objs.size], _, _, H1, rfl, I1.kept (t' := s1.toks) fun b o e => Heap.get?_push_of_some _ e, turn_tuple a _, ⟨_, Heap.get?_push_size _ rfl, rfl, rfl⟩, fun b hb => ?_, q⟩
    have e : b = s1.heap.objs.size := by simpa using hb
    subst e
    exact I1.fpOk (Nat.le_refl _) (I1.hok.fresh (Nat.le_refl _))
theorem mi_seq (ha : ME X B a ma) : MI X B tg a (iSeq ma) := by
  refine PI.imp (pi_sq ha) fun σ H R h => ?_
  obtain ⟨F, l, r, h⟩ := h
  refine tM_of r Step.refl (Run.bd h) fun o F1 l1 H1 v r1 s1 b1 ro nw q => ?_
  rcases readO_cases (l := l1) o with ⟨d, e1, e2⟩ | e2
  · have q1 := Run.get q e2
    rcases lft_cases (l := l1) (seqOf d) with ⟨xs, e3, e4⟩ | e4
    · have q2 := (q1.get e4).rt r1 b1
      obtain ⟨a, vs, rfl, hs, hw⟩ := ro.seq r1 e1 e3
      refine ⟨a, rfl, ?_⟩
      cases hd : isList d with
      | true =>
        rw [hd] at hs
        refine .inl ⟨⟨vs, hs⟩, q2 _ fun js l2 el R => ?_⟩
        have W := hw js l2 _ (fun i hi => hi) el R
        rw [hd] at W
        intro F2 l3 σ2 H2 r2 s2 i
        have sq : SqL X.K H2 a vs := W.at' F2 l3 σ2 H2 r2 s2
        refine ⟨fun hi => ⟨vs, sq, by rw [W.rfs.length]; exact hi⟩, fun d' hd' => ?_⟩
        obtain ⟨x, hx, rx⟩ := W.rfs.get hd'
        refine ⟨⟨vs, x, sq, hx⟩, fun y H3 hy => ?_⟩
        obtain ⟨rfl, hy⟩ := hy
        have ey := hy vs sq
        rw [hx] at ey; cases ey
        exact ⟨r2, Step.refl, s2.rf (R.rel r1) rx⟩
      | false =>
        rw [hd] at hs
        refine .inr ⟨⟨vs, hs⟩, q2 _ fun js l2 el R => ?_⟩
        have W := hw js l2 _ (fun i hi => hi) el R
        rw [hd] at W
        intro F2 l3 σ2 H2 r2 s2 i
        have sq : SqT X.K H2 a vs := W.at' F2 l3 σ2 H2 r2 s2
        refine ⟨fun hi => ⟨vs, sq, by rw [W.rfs.length]; exact hi⟩, fun d' hd' => ?_⟩
        obtain ⟨x, hx, rx⟩ := W.rfs.get hd'
        refine ⟨⟨vs, x, sq, hx⟩, fun y H3 hy => ?_⟩
        obtain ⟨rfl, hy⟩ := hy
        have ey := hy vs sq
        rw [hx] at ey; cases ey
        exact ⟨r2, Step.refl, s2.rf (R.rel r1) rx⟩
    · exact absurd (bd_stk e4) q1.there
  · exact absurd (bd_stk e2) (Run.there q)
/-! ranges -/
theorem lockNil {l l1 : L} {js : List Nat} (e : lockAll [] l = .ok js l1) : js = [] ∧ l1 = l := by cases e; exact ⟨rfl, rfl⟩
theorem ItOk.nums {K : PySem.W.Frag} {F : Addr → Prop} {l : L} {σ : St} {H : Hp} {J : It} {n : Nat} {f : Nat → Int} {xs : List PyData} (hx : xs = (List.range n).map fun k => PyData.int (f k)) (h1 : ∀ i H, n ≤ i → J.stop i H) (h2 : ∀ i H, i < n → J.go i H) (h3 : ∀ i H x H', J.yld i H x H' → H' = H ∧ x = .int (f i)) : ItOk K J ⟨xs, [], false⟩ F l σ H := by
  subst hx
  intro js l1 e R F2 l2 σ2 H2 r2 s2 i
  refine ⟨fun hi => h1 i H2 (by simpa using hi), fun d hd => ?_⟩
  have hi : i < n := by
    have := (List.getElem?_eq_some_iff.mp hd).1
    simpa using this
  have ed : d = .int (f i) := by
    rw [List.getElem?_map, List.getElem?_range hi] at hd
    exact (Option.some.inj hd).symm
  subst ed
  refine ⟨h2 i H2 hi, fun x H3 hy => ?_⟩
  obtain ⟨rfl, rfl⟩ := h3 i H2 x H3 hy
  exact ⟨r2, Step.refl, .int _⟩
theorem rangeL_1 (a b : Int) : rangeL a b 1 = (List.range (b - a).toNat).map fun k => PyData.int (a + (k : Nat)) := by
  unfold rangeL
  rw [if_pos (by decide)]
  have : (b - a + 1 - 1) / 1 = b - a := by omega
  rw [this]
  congr 1
  funext k
  congr 1
  omega
theorem iRange_of {es : List (M Opd)} {K : PySem.W.Frag} {mg : Str → Option Value} {σ : St} {H : Hp} {R : It → Hp → Prop} (h : tI K mg B (iRange es) σ H R) : tMA K mg B es σ H fun vs H1 => ∃ ds xs F, ds.length = es.length ∧ RDs K F H1 vs ds ∧ rangeOf ds = some xs ∧ ∀ J, (∀ F l σ H, ItOk K J ⟨xs, [], false⟩ F l σ H) → R J H1 := by
  obtain ⟨F, l, r, h⟩ := h
  refine tMA_of r Step.refl (Run.bd h) fun os F1 l1 H1 vs hlen r1 s1 b1 ro nw q => ?_
  rcases readAll_cases (l := l1) os with ⟨ds, e, rd⟩ | e
  · have q1 := Run.get q e
    have hl : ds.length = es.length := by rw [← (rd r1 ro).len, ← ro.length, hlen]
    rcases lft_cases (l := l1) (rangeOf ds) with ⟨xs, e2, e3⟩ | e3
    · exact ⟨ds, xs, F1, hl, rd r1 ro, e2, fun J hJ => (q1.get e3).rt r1 b1 J (hJ _ _ _ _)⟩
    · exact absurd (bd_stk e3) q1.there
  · exact absurd (bd_stk e) (Run.there q)
theorem small_iff {i : Int} : small i = true ↔ -1000000000000 ≤ i ∧ i ≤ 1000000000000 := by
  unfold small
  rw [Bool.and_eq_true, decide_eq_true_eq, decide_eq_true_eq]
theorem rfC {i j c : Int} (hi : small i = true) (hj : small j = true) (h0 : c ≠ 0) (hc : c.natAbs < 1000000000) : ∃ n : Nat, RgC i j c n ∧ rangeL i j c = (List.range n).map fun k => PyData.int (i + (k : Nat) * c) := by
  have hi := small_iff.mp hi
  have hj := small_iff.mp hj
  have hb : ∀ (d e : Int), 0 < e → e < 1000000000 → 0 < d → d ≤ 2000000000000 → (d - 1) / e ≤ 2000000000000 ∧ 0 ≤ (d - 1) / e := fun d e he _ hd hd2 => by
    have h1 : 0 ≤ (d - 1) / e := Int.ediv_nonneg (by omega) (by omega)
    have h2 : (d - 1) / e ≤ d - 1 := Int.ediv_le_self _ (by omega)
    omega
  have hmul : ∀ (d e : Int), 0 < e → e < 1000000000 → 0 < d → d ≤ 2000000000000 → 0 ≤ (d - 1) / e * e ∧ (d - 1) / e * e ≤ 2000000000000 := fun d e he _ hd hd2 => by
    have h1 := (hb d e he (by assumption) hd hd2).2
    have h2 : (d - 1) / e * e ≤ d - 1 := Int.ediv_mul_le _ (by omega)
    have h3 : 0 ≤ (d - 1) / e * e := Int.mul_nonneg h1 (by omega)
    omega
  have hk : ∀ (d e : Int), 0 < e → 0 < d → (d + e - 1) / e = (d - 1) / e + 1 := fun d e he hd => by
    have : d + e - 1 = (d - 1) + 1 * e := by omega
    rw [this, Int.add_mul_ediv_right _ _ (by omega)]
  have hz : ∀ (d e : Int), 0 < e → d ≤ 0 → ((d + e - 1) / e).toNat = 0 := fun d e he hd => by
    have h1 : (d + e - 1) / e < 1 := by
      apply Int.ediv_lt_of_lt_mul he
      omega
    omega
  unfold RgC rangeL
  by_cases hp : 0 < c
  · rw [if_pos hp]
    refine ⟨((j - i + c - 1) / c).toNat, ⟨h0, by omega, ?_, ?_⟩, rfl⟩
    · unfold Builtin.Range.small Builtin.Range.rangeSize
      by_cases hlt : i < j
      · obtain ⟨b1, b2⟩ := hb (j - i) c hp (by omega) (by omega) (by omega)
        obtain ⟨m1, m2⟩ := hmul (j - i) c hp (by omega) (by omega) (by omega)
        have m3 : ((j - i - 1) / c + 1) * c = (j - i - 1) / c * c + c := by rw [Int.add_mul]; omega
        simp only [Builtin.Range.rangeFitsLong, Bool.and_eq_true, Bool.or_eq_true, decide_eq_true_eq, beq_iff_eq, gt_iff_lt, if_pos hp, if_pos hlt]
        omega
      · simp only [Builtin.Range.rangeFitsLong, Bool.and_eq_true, Bool.or_eq_true, decide_eq_true_eq, beq_iff_eq, gt_iff_lt, if_pos hp, if_neg hlt]
        omega
    · unfold Builtin.Range.rangeSize
      rw [if_pos hp]
      by_cases hlt : i < j
      · rw [if_pos hlt, hk (j - i) c hp (by omega)]
        have := (hb (j - i) c hp (by omega) (by omega) (by omega)).2
        omega
      · rw [if_neg hlt, hz (j - i) c hp (by omega)]
        rfl
  · have hn : c < 0 := by omega
    rw [if_neg hp, if_pos hn]
    refine ⟨((i - j - c - 1) / (-c)).toNat, ⟨h0, by omega, ?_, ?_⟩, rfl⟩
    · unfold Builtin.Range.small Builtin.Range.rangeSize
      by_cases hlt : j < i
      · obtain ⟨b1, b2⟩ := hb (i - j) (-c) (by omega) (by omega) (by omega) (by omega)
        obtain ⟨m1, m2⟩ := hmul (i - j) (-c) (by omega) (by omega) (by omega) (by omega)
        have m4 : (i - j - 1) / -c * -c = -((i - j - 1) / -c * c) := Int.mul_neg _ _
        have m3 : ((i - j - 1) / (-c) + 1) * c = (i - j - 1) / (-c) * c + c := by rw [Int.add_mul]; omega
        simp only [Builtin.Range.rangeFitsLong, Bool.and_eq_true, Bool.or_eq_true, decide_eq_true_eq, beq_iff_eq, gt_iff_lt, if_neg hp, if_pos hlt]
        omega
      · simp only [Builtin.Range.rangeFitsLong, Bool.and_eq_true, Bool.or_eq_true, decide_eq_true_eq, beq_iff_eq, gt_iff_lt, if_neg hp, if_neg hlt]
        omega
    · unfold Builtin.Range.rangeSize
      have hp' : ¬ c > 0 := hp
      rw [if_neg hp']
      have ec : i - j - c - 1 = i - j + -c - 1 := by omega
      by_cases hlt : i > j
      · rw [if_pos hlt, ec, hk (i - j) (-c) (by omega) (by omega)]
        have := (hb (i - j) (-c) (by omega) (by omega) (by omega) (by omega)).2
        omega
      · rw [if_neg hlt, ec, hz (i - j) (-c) (by omega) (by omega)]
        rfl
theorem mi_range1 {p : Pos} (hg : Gl X "range") (hm : X.mg "range" = none) (ha : MA X B [a] [ma]) (hn : notStar a = true) : MI X B tg (.Call (.Name "range" p) [a] [] pos) (iRange [ma]) := by
  refine PI.imp (pi_range1 hg hm ha (by rw [starEach_cons hn]; rfl)) fun σ H R h => tMA_mono (iRange_of h) fun vs H1 ⟨ds, xs, F, hl, rd, e, k⟩ => ?_
  unfold rangeOf at e
  split at e
  · rename_i b
    split at e
    · rename_i hs
      cases e
      obtain ⟨x, rfl, r1⟩ := rd.one
      have := rd_int r1
      subst this
      have hs := small_iff.mp hs
      refine ⟨b, rfl, by omega, by omega, k _ fun F l σ H => ItOk.nums (n := b.toNat) (f := fun k => 0 + (k : Nat)) (by rw [rangeL_1]; simp) (fun i H h => h) (fun i H h => h) fun i H x H' ⟨h1, h2⟩ => ⟨h1, h2⟩⟩
    · cases e
  · simp at hl
  · simp at hl
  · cases e
theorem mi_range2 {p : Pos} (hg : Gl X "range") (hm : X.mg "range" = none) (ha : MA X B [a, b] [ma, mb]) (hn : notStar a = true) (hn2 : notStar b = true) : MI X B tg (.Call (.Name "range" p) [a, b] [] pos) (iRange [ma, mb]) := by
  refine PI.imp (pi_range2 hg hm ha (by rw [starEach_cons hn, starEach_cons hn2]; rfl) (by rw [starEach_cons hn2]; rfl)) fun σ H R h => tMA_mono (iRange_of h) fun vs H1 ⟨ds, xs, F, hl, rd, e, k⟩ => ?_
  unfold rangeOf at e
  split at e
  · simp at hl
  · rename_i i j
    split at e
    · rename_i hs
      cases e
      obtain ⟨x, y, rfl, r1, r2⟩ := rd.two
      have e1 := rd_int r1
      have e2 := rd_int r2
      subst e1 e2
      rw [Bool.and_eq_true] at hs
      have h1 := small_iff.mp hs.1
      have h2 := small_iff.mp hs.2
      refine ⟨i, j, rfl, by omega, k _ fun F l σ H => ItOk.nums (n := (j - i).toNat) (f := fun k => i + (k : Nat)) (rangeL_1 _ _) (fun i H h => h) (fun i H h => h) fun i H x H' ⟨h1, h2⟩ => ⟨h1, h2⟩⟩
    · cases e
  · simp at hl
  · cases e
theorem mi_range3 {p : Pos} (hg : Gl X "range") (hm : X.mg "range" = none) (ha : MA X B [a, b, c] [ma, mb, mc]) (hn : notStar a = true) (hn2 : notStar b = true) (hn3 : notStar c = true) : MI X B tg (.Call (.Name "range" p) [a, b, c] [] pos) (iRange [ma, mb, mc]) := by
  refine PI.imp (pi_range3 hg hm ha (by rw [starEach_cons hn]) (by rw [starEach_cons hn2, starEach_cons hn3]; rfl)) fun σ H R h => tMA_mono (iRange_of h) fun vs H1 ⟨ds, xs, F, hl, rd, e, k⟩ => ?_
  unfold rangeOf at e
  split at e
  · simp at hl
  · simp at hl
  · rename_i i j c'
    split at e
    · rename_i hs
      cases e
      cases rd with
      | cons r1 t =>
        obtain ⟨y, z, rfl, r2, r3⟩ := t.two
        have e1 := rd_int r1
        have e2 := rd_int r2
        have e3 := rd_int r3
        subst e1 e2 e3
        rw [Bool.and_eq_true, Bool.and_eq_true, Bool.and_eq_true, decide_eq_true_eq] at hs
        obtain ⟨⟨⟨h1, h2⟩, h3⟩, h4⟩ := hs
        obtain ⟨n, rg, er⟩ := rfC h1 h2 (by simpa using h3) h4
        exact ⟨i, j, c', n, rfl, rg, k _ fun F l σ H => ItOk.nums er (fun i H h => h) (fun i H h => h) fun i H x H' ⟨h1, h2⟩ => ⟨h1, h2⟩⟩
    · cases e
  · cases e
end
end L2.DL
/-! DL16: targets of walks; for -/
namespace L2.DL
open PySem PySem.Spec PyProof.Rows
mutual
theorem asgT_noerr : ∀ (g : Tg) (d : PyData) (l : L), (∃ l', asgT g d l = .ok () l') ∨ asgT g d l = .stk
  | .nm i, d, l => by
    rw [asgT]
    rcases setF_cases (l := l) i (.frz d) with ⟨e, _⟩ | e
    · exact .inl ⟨_, e⟩
    · exact .inr e
  | .tp ts, d, l => by
    cases d with
    | tuple ds =>
      rw [asgT]
      split
      · exact asgTs_noerr ts ds l
      · exact .inr rfl
    | none => rw [asgT]; exact .inr rfl; intro _ z; cases z
    | bool _ => rw [asgT]; exact .inr rfl; intro _ z; cases z
    | int _ => rw [asgT]; exact .inr rfl; intro _ z; cases z
    | str _ => rw [asgT]; exact .inr rfl; intro _ z; cases z
    | list _ => rw [asgT]; exact .inr rfl; intro _ z; cases z
    | dict _ => rw [asgT]; exact .inr rfl; intro _ z; cases z
theorem asgTs_noerr : ∀ (gs : List Tg) (ds : List PyData) (l : L), (∃ l', asgTs gs ds l = .ok () l') ∨ asgTs gs ds l = .stk
  | [], [], l => by rw [asgTs]; exact .inl ⟨l, rfl⟩
  | [], d :: ds, l => by
    rw [asgTs]
    · exact .inr rfl
    all_goals (intros; contradiction)
  | g :: gs, [], l => by
    rw [asgTs]
    · exact .inr rfl
    all_goals (intros; contradiction)
  | g :: gs, d :: ds, l => by
    rw [asgTs]
    rcases asgT_noerr g d l with ⟨l1, e⟩ | e
    · rw [bd_ok e]; exact asgTs_noerr gs ds l1
    · rw [bd_stk e]; exact .inr rfl
end
theorem setF_len {i : Nat} {x : Sl} {l l' : L} (e : setF i x l = .ok () l') : l'.length = l.length := by
  rcases setF_cases (l := l) i x with ⟨e2, _⟩ | e2
  · rw [e2] at e; cases e; simp
  · rw [e2] at e; cases e
mutual
theorem asgT_len : ∀ (g : Tg) (d : PyData) {l l' : L}, asgT g d l = .ok () l' → l'.length = l.length
  | .nm i, d, l, l', e => by
    rw [asgT] at e
    exact setF_len e
  | .tp ts, d, l, l', e => by
    cases d with
    | tuple ds =>
      rw [asgT] at e
      split at e
      · exact asgTs_len ts ds e
      · cases e
    | none => rw [asgT] at e; cases e; intro _ z; cases z
    | bool _ => rw [asgT] at e; cases e; intro _ z; cases z
    | int _ => rw [asgT] at e; cases e; intro _ z; cases z
    | str _ => rw [asgT] at e; cases e; intro _ z; cases z
    | list _ => rw [asgT] at e; cases e; intro _ z; cases z
    | dict _ => rw [asgT] at e; cases e; intro _ z; cases z
theorem asgTs_len : ∀ (gs : List Tg) (ds : List PyData) {l l' : L}, asgTs gs ds l = .ok () l' → l'.length = l.length
  | [], [], l, l', e => by rw [asgTs] at e; cases e; rfl
  | [], d :: ds, l, l', e => by
    rw [asgTs] at e
    · cases e
    all_goals (intros; contradiction)
  | g :: gs, [], l, l', e => by
    rw [asgTs] at e
    · cases e
    all_goals (intros; contradiction)
  | g :: gs, d :: ds, l, l', e => by
    rw [asgTs] at e
    rcases asgT_noerr g d l with ⟨l1, e1⟩ | e1
    · rw [bd_ok e1] at e
      rw [asgTs_len gs ds e, asgT_len g d e1]
    · rw [bd_stk e1] at e; cases e
end
section
variable {K : PySem.W.Frag}
def okL (K : PySem.W.Frag) (F : Addr → Prop) (l : L) (σ : St) (H : Hp) (sl : List Nat) (Q : St → Hp → Prop) : R Unit → Prop
  | .ok _ l' => ∀ σ', Rel K F l' σ' H → Step F l σ H F l' σ' H → (∀ j : Nat, j ∉ sl → σ'[j]? = σ[j]?) → Q σ' H
  | _ => False
def gT (K : PySem.W.Frag) (g : Tg) : TG := fun v σ H Q => ∃ (F : Addr → Prop) (l : L) (d : PyData) (pl : Bool), Rel K F l σ H ∧ YL K F H pl v d ∧ g.fits pl = true ∧ okL K F l σ H g.slots Q (asgT g d l)
def gTs (K : PySem.W.Frag) (gs : List Tg) : TGs := fun vs σ H Q => ∃ (F : Addr → Prop) (l : L) (ds : List PyData), Rel K F l σ H ∧ RFs K F H vs ds ∧ okL K F l σ H (Tg.slotss gs) Q (asgTs gs ds l)
end
section
variable {X : Cx} {B : WX} {e a b c tg : Expr} {m ma mb mc : M Opd} {t : M Bool} {ca cb cc : C} {pos : Pos} {st : Stmt} {sts : List Stmt} {i : Nat} {x : Str}
def MGT (X : Cx) (tg : Expr) (g : Tg) : Prop := PG X tg (gT X.K g)
def MGTs (X : Cx) (ts : List Expr) (gs : List Tg) : Prop := PGs X ts (gTs X.K gs)
theorem mgt_name (hN : X.N.Nodup) (hi : X.N[i]? = some x) (hx : Loc X.env.scope x) (hf : X.fn x = true ∨ X.env.scope.names.lookup x = some .local) : MGT X (.Name x pos) (.nm i) := by
  refine PG.imp (pg_name hN hi hx hf) fun v σ H Q h => ?_
  obtain ⟨F, l, d, pl, r, y, hf, h⟩ := h
  cases pl with
  | true => cases hf
  | false =>
    have y : RF X.K F H v d := y
    rw [asgT] at h
    rcases setF_cases (l := l) i (.frz d) with ⟨e2, hi, hb⟩ | e2
    · rw [e2] at h
      exact h _ (set_rel (x := .v d) r y hi) (set_to (b := ⟨F, l, σ, H⟩) (x := .v d) r Step.refl trivial hi) fun j hj => List.getElem?_set_ne (fun z => hj (by simp [Tg.slots, z]))
    · rw [e2] at h; exact h.elim
theorem mgts_nil : MGTs X [] [] := PGs.imp pgs_nil fun vs σ H Q h => by
  obtain ⟨F, l, ds, r, rf, h⟩ := h
  cases ds with
  | nil =>
    cases rf
    rw [asgTs] at h
    exact ⟨rfl, h σ r Step.refl fun _ _ => rfl⟩
  | cons d ds =>
    rw [asgTs] at h
    · exact h.elim
    all_goals (intros; contradiction)
theorem mgts_cons {g : Tg} {gs : List Tg} {es : List Expr} (h1 : MGT X e g) (h2 : MGTs X es gs) (hn : notStar e = true) : MGTs X (e :: es) (g :: gs) :=
  PGs.imp (pgs_cons h1 h2 (by rw [assignEach_cons hn]; rfl)) fun vs σ H Q h => by
    obtain ⟨F, l, ds, r, rf, h⟩ := h
    cases ds with
    | nil =>
      rw [asgTs] at h
      · exact h.elim
      all_goals (intros; contradiction)
    | cons d ds =>
      cases rf with
      | @cons v0 vs _ _ h3 h4 =>
        refine ⟨v0, vs, rfl, F, l, d, false, r, h3, by cases g <;> rfl, ?_⟩
        rw [asgTs] at h
        rcases asgT_noerr g d l with ⟨l1, e1⟩ | e1
        · rw [bd_ok e1] at h
          rw [e1]
          intro σ1 r1 s1 k1
          refine ⟨F, l1, ds, r1, s1.rfs r h4, ?_⟩
          rcases asgTs_noerr gs ds l1 with ⟨l2, e2⟩ | e2
          · rw [e2] at h ⊢
            exact fun σ2 r2 s2 k2 => h σ2 r2 (s1.trans s2) fun j hj => by
              rw [Tg.slotss, List.mem_append, not_or] at hj
              rw [k2 j hj.2, k1 j hj.1]
          · rw [e2] at h; exact h.elim
        · rw [bd_stk e1] at h; exact h.elim
theorem mgt_tup {gs : List Tg} {es : List Expr} {k : Nat} (hc : X.calm = true) (h : MGTs X es gs) (hn : es.all notStar = true) (hl : gs.length = es.length) : MGT X (.Tuple es k pos) (.tp gs) := by
  refine PG.imp (pg_tup (n := es.length) hc h (assignEach_len _ _) (assignEach_nost _ _ hn)) fun v σ H Q h => ?_
  obtain ⟨F, l, d, pl, r, y, hf, h⟩ := h
  have key : ∀ (p : Addr) (vs : List V) (ds : List PyData), v = .ref p → d = .tuple ds → SqT X.K H p vs → RFs X.K F H vs ds → gTup X.K es.length (gTs X.K gs) v σ H Q := fun p vs ds e1 e2 h1 h2 => by
    subst e1 e2
    rw [asgT] at h
    split at h
    · rename_i e
      exact ⟨p, vs, rfl, h1, by rw [h2.length, ← e, hl], F, l, ds, r, h2, h⟩
    · exact h.elim
  cases pl with
  | true =>
    obtain ⟨p, vs, ds, e1, e2, h1, h2⟩ := y
    exact key p vs ds e1 e2 h1 h2
  | false =>
    have y : RF X.K F H v d := y
    cases d with
    | tuple ds =>
      cases y with
      | @tup p vs _ h1 h2 => exact key p vs ds rfl rfl h1.sq h2
    | none => rw [asgT] at h; exact h.elim; intro _ z; cases z
    | bool _ => rw [asgT] at h; exact h.elim; intro _ z; cases z
    | int _ => rw [asgT] at h; exact h.elim; intro _ z; cases z
    | str _ => rw [asgT] at h; exact h.elim; intro _ z; cases z
    | list _ => rw [asgT] at h; exact h.elim; intro _ z; cases z
    | dict _ => rw [asgT] at h; exact h.elim; intro _ z; cases z
def notSet : Expr → Bool
  | .Set .. => false
  | _ => true
theorem fold_none {iter : Expr} (h : notSet iter = true) (env : Env) (x : Value) : foldedSetIterable iter env x = pure x := by
  cases iter <;> first | rfl | cases h
theorem lockAll_get {src : List Nat} {l l1 : L} {js : List Nat} (e : lockAll src l = .ok js l1) : LockR l js l1 := by
  rcases lockAll_R src l with ⟨js', l1', e', R, _⟩ | e'
  · rw [e] at e'; cases e'; exact R
  · rw [e] at e'; cases e'
theorem LockR.ownT {l l1 : L} {js : List Nat} {σ : St} {a : Addr} (R : LockR l js l1) (h : OwnT l1 σ a) : OwnT l σ a := by
  obtain ⟨i, s, h1, h2, h3⟩ := h
  obtain ⟨s', g1, g2, _⟩ := R.alike i h1
  exact ⟨i, s', g1, by rw [← unl_props.2.1, ← g2, unl_props.2.1]; exact h2, h3⟩
theorem mine_unlock {l : L} {js : List Nat} {σ : St} {a : Addr} (h : Mine (unlockL js l) σ a) : Mine l σ a := by
  obtain ⟨i, s, h1, h2, h3⟩ := h
  rw [unlockL_get] at h1
  split at h1
  · cases q : l[i]? with
    | none => rw [q] at h1; cases h1
    | some t =>
      rw [q] at h1
      cases h1
      exact ⟨i, t, q, by rw [← unl_props.1]; exact h2, h3⟩
  · exact ⟨i, s, h1, h2, h3⟩
theorem ROp.unlock {K : PySem.W.Frag} {F : Addr → Prop} {l : L} {js : List Nat} {σ : St} {H : Hp} {o : Opd} {v : V} (h : ROp K F (unlockL js l) σ H o v) (hs : ∀ i, o ≠ .s i) (hm : ∀ a, Mine l σ a → Mine (unlockL js l) σ a) : ROp K F l σ H o v := by
  cases o with
  | v d => exact h
  | s i => exact absurd rfl (hs i)
  | t d => obtain ⟨a, e, nf, nm, q⟩ := h; exact ⟨a, e, nf, fun z => nm (hm a z), q⟩
theorem ROp.unlocked {K : PySem.W.Frag} {F : Addr → Prop} {l : L} {js : List Nat} {σ : St} {H : Hp} {o : Opd} {v : V} (h : ROp K F l σ H o v) (hs : ∀ i, o ≠ .s i) : ROp K F (unlockL js l) σ H o v := by
  cases o with
  | v d => exact h
  | s i => exact absurd rfl (hs i)
  | t d => obtain ⟨a, e, nf, nm, q⟩ := h; exact ⟨a, e, nf, fun z => nm (mine_unlock z), q⟩
theorem RetO.ns {b : Bs} {o : Opd} {v : V} (h : RetO b o v) : ∀ i, o ≠ .s i := by
  rintro i rfl
  exact h
theorem forL_cons {g : Tg} {c : C} {x : PyData} {xs : List PyData} : forL g c (x :: xs) = bd (asgT g x) fun _ => bd c fun f => match f with
    | .nx => forL g c xs
    | .ct => forL g c xs
    | .bk => sNx
    | .rt o => DL.rt (.rt o) := rfl
theorem ms_for {g : Tg} {it : M Its} (hp : PassesOwn (model X.prog X.w) X.A X.env X.xe) (hc : X.calm = true) (hi : MI X B tg e it) (hg : MGT X tg g) (hb : MSs X B sts cb) (hs : notSet e = true) : MS X B (.For tg e sts [] pos) (sFor g it cb) := by
  refine PS.imp (ps_for hp hc hi hg hb (fold_none hs X.env)) fun D σ H h => ?_
  obtain ⟨F, l, r, h⟩ := h
  refine ⟨F, l, r, (RunS.bdE h).mono fun its F1 l1 H1 _ r1 s1 q J ok => ?_⟩
  by_cases hf : g.fits its.pl = true
  · rw [if_pos hf] at q
    rcases lockAll_R its.src l1 with ⟨js, l2, e, R, _⟩ | e
    · have q2 := RunS.get q e
      have hI := ok js l2 e R
      have r2 := R.rel r1
      refine ⟨fun i n σ' H' => n = its.xs.length - i ∧ ∃ F' l', Rel X.K F' l' σ' H' ∧ Step F1 l2 σ H1 F' l' σ' H' ∧ RunS X.K X.mg B ⟨F, l, σ, H⟩ (thenU js (forL g cb (its.xs.drop i))) l' (SD X.K ⟨F, l, σ, H⟩ D), ⟨its.xs.length, by simp, F1, l2, r2, Step.refl, by simpa using q2⟩, ?_⟩
      rintro i n σ3 H3 ⟨rfl, F3, l3, r3, s3, h3⟩
      have hIi := hI F3 l3 σ3 H3 r3 s3 i
      by_cases hlt : i < its.xs.length
      · obtain ⟨go, yl⟩ := hIi.2 its.xs[i] (by simp [hlt])
        rw [List.drop_eq_getElem_cons hlt, forL_cons] at h3
        refine .inr ⟨go, fun σ' H' => ∃ F' l', Rel X.K F' l' σ' H' ∧ Step F1 l2 σ H1 F' l' σ' H' ∧ RunS X.K X.mg B ⟨F, l, σ, H⟩ (thenU js (forL g cb (its.xs.drop (i + 1)))) l' (SD X.K ⟨F, l, σ, H⟩ D), fun σ' H' h => ⟨its.xs.length - (i + 1), by omega, rfl, h⟩, fun x H4 hy => ?_⟩
        obtain ⟨r4, s4, y4⟩ := yl x H4 hy
        refine ⟨F3, l3, its.xs[i], its.pl, r4, y4, hf, ?_⟩
        rcases asgT_noerr g its.xs[i] l3 with ⟨l4, e4⟩ | e4
        · rw [e4]
          intro σ5 r5 s5 _
          have S5 : Step F1 l2 σ H1 F3 l4 σ5 H4 := (s3.trans s4).trans s5
          have h4 : RunS X.K X.mg B ⟨F, l, σ, H⟩ (thenU js (bd cb fun f => match f with
            | .nx => forL g cb (its.xs.drop (i + 1))
            | .ct => forL g cb (its.xs.drop (i + 1))
            | .bk => sNx
            | .rt o => DL.rt (.rt o))) l4 (SD X.K ⟨F, l, σ, H⟩ D) := by
            unfold RunS at h3 ⊢
            unfold thenU at h3 ⊢
            rw [bd_ok e4] at h3
            exact h3
          refine ⟨F3, l4, r5, ?_⟩
          have fin : ∀ {F6 : Addr → Prop} {l6 : L} {σ6 : St} {H6 : Hp}, Rel X.K F6 l6 σ6 H6 → Step F3 l4 σ5 H4 F6 l6 σ6 H6 → Rel X.K F6 (unlockL js l6) σ6 H6 ∧ Step F l σ H F6 (unlockL js l6) σ6 H6 := fun r6 s6 => by
            obtain ⟨u1, u2⟩ := unlocked R r6 (S5.trans s6)
            exact ⟨u1, s1.trans u2⟩
          unfold RunS
          cases ecb : cb l4 with
          | stk =>
            refine h4.there ?_
            unfold thenU
            rw [bd_stk ecb]
          | err xx l6 =>
            intro F6 σ6 H6 cc dd r6 s6 xr
            obtain ⟨u1, u2⟩ := fin r6 s6
            unfold RunS thenU at h4
            rw [bd_err ecb] at h4
            exact h4 F6 σ6 H6 cc dd u1 u2 xr
          | ok fl l6 =>
            intro F6 σ6 H6 r6 s6
            have h6 : RunS X.K X.mg B ⟨F, l, σ, H⟩ (thenU js ((fun f : Fl => match f with
              | .nx => forL g cb (its.xs.drop (i + 1))
              | .ct => forL g cb (its.xs.drop (i + 1))
              | .bk => sNx
              | .rt o => DL.rt (.rt o)) fl)) l6 (SD X.K ⟨F, l, σ, H⟩ D) := by
              unfold RunS thenU at h4 ⊢
              rw [bd_ok ecb] at h4
              exact h4
            obtain ⟨u1, u2⟩ := fin r6 s6
            cases fl with
            | nx => exact ⟨F6, l6, r6, S5.trans s6, h6⟩
            | ct => exact ⟨F6, l6, r6, S5.trans s6, h6⟩
            | bk => exact RunS.ok (a := Fl.nx) h6 rfl u1 u2
            | rt o =>
              intro v ro re
              refine RunS.ok (a := Fl.rt o) h6 rfl u1 u2 v (ro.unlocked re.ns) ?_
              have re2 : RetO ⟨F1, l2, σ, H1⟩ o v := re.back S5
              have re3 : RetO ⟨F1, l1, σ, H1⟩ o v := by
                cases o with
                | v _ => trivial
                | s _ => exact re2
                | t d =>
                  intro a ea
                  rcases re2 a ea with z | z
                  · exact .inl (R.ownT z)
                  · exact .inr z
              exact re3.back s1
        · exfalso
          refine h3.there ?_
          unfold thenU
          rw [bd_stk e4]
      · have e0 : its.xs.drop i = [] := List.drop_eq_nil_of_le (by omega)
        rw [e0] at h3
        obtain ⟨u1, u2⟩ := unlocked R r3 s3
        exact .inl ⟨hIi.1 (by omega), RunS.ok (a := Fl.nx) h3 rfl u1 (s1.trans u2)⟩
    · exact absurd (bd_stk e) (RunS.there q)
  · rw [if_neg hf] at q
    exact q.elim
end
end L2.DL
/-! DL17: list comprehensions -/
namespace L2.DL
open PySem PySem.Spec PyProof.Rows
/-! slots wiped and given back -/
theorem wipeL_len (vs : List Nat) : ∀ l : L, (wipeL vs l).length = l.length := by
  induction vs with
  | nil => exact fun l => rfl
  | cons v vs ih => exact fun l => (ih (l.set v .non)).trans (List.length_set ..)
theorem backL_len (l0 : L) (vs : List Nat) : ∀ l : L, (backL vs l0 l).length = l.length := by
  induction vs with
  | nil => exact fun l => rfl
  | cons v vs ih => exact fun l => (ih (l.set v (l0.getD v .non))).trans (List.length_set ..)
theorem wipeL_out (vs : List Nat) : ∀ (l : L) (j : Nat), j ∉ vs → (wipeL vs l)[j]? = l[j]? := by
  induction vs with
  | nil => exact fun l j _ => rfl
  | cons v vs ih =>
    intro l j hj
    simp only [List.mem_cons, not_or] at hj
    exact (ih (l.set v .non) j hj.2).trans (List.getElem?_set_ne (fun z => hj.1 z.symm))
theorem backL_out (l0 : L) (vs : List Nat) : ∀ (l : L) (j : Nat), j ∉ vs → (backL vs l0 l)[j]? = l[j]? := by
  induction vs with
  | nil => exact fun l j _ => rfl
  | cons v vs ih =>
    intro l j hj
    simp only [List.mem_cons, not_or] at hj
    exact (ih (l.set v (l0.getD v .non)) j hj.2).trans (List.getElem?_set_ne (fun z => hj.1 z.symm))
theorem wipeL_in (vs : List Nat) : ∀ (l : L) (j : Nat) (s : Sl), j ∈ vs → (wipeL vs l)[j]? = some s → s = .non := by
  induction vs with
  | nil => exact fun l j s h _ => by simp at h
  | cons v vs ih =>
    intro l j s hj h
    have h : (wipeL vs (l.set v .non))[j]? = some s := h
    by_cases hm : j ∈ vs
    · exact ih _ j s hm h
    · rw [wipeL_out vs _ j hm] at h
      rcases List.mem_cons.mp hj with e | e
      · subst e
        rcases set_at h with ⟨_, e⟩ | ⟨n, _⟩
        · exact e
        · exact absurd rfl n
      · exact absurd e hm
theorem backL_in (l0 : L) (vs : List Nat) : ∀ (l : L) (j : Nat) (s : Sl), j ∈ vs → (backL vs l0 l)[j]? = some s → s = l0.getD j .non := by
  induction vs with
  | nil => exact fun l j s h _ => by simp at h
  | cons v vs ih =>
    intro l j s hj h
    have h : (backL vs l0 (l.set v (l0.getD v .non)))[j]? = some s := h
    by_cases hm : j ∈ vs
    · exact ih _ j s hm h
    · rw [backL_out l0 vs _ j hm] at h
      rcases List.mem_cons.mp hj with e | e
      · subst e
        rcases set_at h with ⟨_, e⟩ | ⟨n, _⟩
        · exact e
        · exact absurd rfl n
      · exact absurd e hm
theorem wipe_out {σ : St} : ∀ (vs : List Nat) (j : Nat), j ∉ vs → (wipe σ vs)[j]? = σ[j]?
  | [], j, _ => rfl
  | v :: vs, j, hj => by
    simp only [List.mem_cons, not_or] at hj
    unfold wipe
    rw [List.getElem?_set_ne (fun z => hj.1 z.symm), wipe_out vs j hj.2]
theorem wipe_in {σ : St} : ∀ (vs : List Nat) (j : Nat), j ∈ vs → (wipe σ vs)[j]? = σ[j]?.map fun _ => none
  | v :: vs, j, hj => by
    unfold wipe
    by_cases e : v = j
    · subst e
      by_cases h : v < σ.length
      · rw [List.getElem?_set_self (by rw [wipe_length]; exact h), List.getElem?_eq_getElem h]; rfl
      · rw [List.getElem?_eq_none (by rw [List.length_set, wipe_length]; omega), List.getElem?_eq_none (by omega)]; rfl
    · rw [List.getElem?_set_ne e]
      rcases List.mem_cons.mp hj with z | z
      · exact absurd z.symm e
      · exact wipe_in vs j z
theorem wipe_eq {σ σ' : St} {vs : List Nat} (hl : σ'.length = σ.length) (h : ∀ j : Nat, j ∉ vs → σ'[j]? = σ[j]?) : wipe σ' vs = wipe σ vs := by
  apply List.ext_getElem?
  intro j
  by_cases hj : j ∈ vs
  · rw [wipe_in vs j hj, wipe_in vs j hj]
    by_cases hb : j < σ.length
    · rw [List.getElem?_eq_getElem hb, List.getElem?_eq_getElem (by omega)]; rfl
    · rw [List.getElem?_eq_none (by omega), List.getElem?_eq_none (by omega)]
  · rw [wipe_out vs j hj, wipe_out vs j hj, h j hj]
theorem wipe_wipe {σ : St} {vs : List Nat} : wipe (wipe σ vs) vs = wipe σ vs := wipe_eq (wipe_length _ _) fun j hj => wipe_out vs j hj
section
variable {K : PySem.W.Frag} {mg : Str → Option Value} {B : WX} {b : Bs} {F F1 F2 F' : Addr → Prop} {l l1 l2 l' : L} {σ σ1 σ2 σ' : St} {H H0 H1 H2 H' : Hp} {vs : List Nat}
theorem wipeL_sub {p : Sl → Bool} (hn : p .non = false) {i : Nat} {s : Sl} (h : (wipeL vs l)[i]? = some s) (hp : p s = true) : i ∉ vs ∧ l[i]? = some s := by
  by_cases hi : i ∈ vs
  · rw [wipeL_in vs l i s hi h, hn] at hp; cases hp
  · exact ⟨hi, by rw [← wipeL_out vs l i hi]; exact h⟩
theorem wiped_rel (r : Rel K F l σ H) : Rel K F (wipeL vs l) (wipe σ vs) H := by
  refine ⟨by rw [wipeL_len, wipe_length]; exact r.len, fun i s e => ?_, fun i j s t a e1 e2 o1 o2 e3 e4 => ?_, r.frz⟩
  · by_cases hi : i ∈ vs
    · rw [wipeL_in vs l i s hi e]; trivial
    · rw [wipe_out vs i hi]
      exact r.at' i s (by rw [← wipeL_out vs l i hi]; exact e)
  · obtain ⟨h1, g1⟩ := wipeL_sub (p := Sl.ownish) rfl e1 o1
    obtain ⟨h2, g2⟩ := wipeL_sub (p := Sl.ownish) rfl e2 o2
    rw [wipe_out vs i h1] at e3
    rw [wipe_out vs j h2] at e4
    exact r.inj i j s t a g1 g2 o1 o2 e3 e4
theorem wiped_mine {p : Sl → Bool} (hn : p .non = false) {a : Addr} (h : ∃ (i : Nat) (s : Sl), (wipeL vs l)[i]? = some s ∧ p s = true ∧ (wipe σ vs)[i]? = some (some (.ref a))) : ∃ (i : Nat) (s : Sl), i ∉ vs ∧ l[i]? = some s ∧ p s = true ∧ σ[i]? = some (some (.ref a)) := by
  obtain ⟨i, s, h1, h2, h3⟩ := h
  obtain ⟨g1, g2⟩ := wipeL_sub hn h1 h2
  rw [wipe_out vs i g1] at h3
  exact ⟨i, s, g1, g2, h2, h3⟩
theorem wiped_step : Step F l σ H F (wipeL vs l) (wipe σ vs) H := by
  refine ⟨fun _ _ h _ => h, fun _ o h => ⟨o, h⟩, fun a z => ?_, fun a z => ?_, fun _ z => z, fun _ z => .inl z, fun a z => ?_, fun i a ⟨s, h1, h2, h3⟩ => ?_, fun i a ⟨s, h1, h2, h3⟩ => ?_⟩
  · obtain ⟨i, s, _, h⟩ := wiped_mine (p := Sl.mut) rfl z; exact .inl ⟨i, s, h⟩
  · obtain ⟨i, s, _, h⟩ := wiped_mine (p := Sl.ownish) rfl z; exact .inl ⟨i, s, h⟩
  · obtain ⟨i, s, _, h⟩ := wiped_mine (p := Sl.ownT) rfl z; exact .inl ⟨i, s, h⟩
  · obtain ⟨g1, g2⟩ := wipeL_sub (p := Sl.borT) rfl h1 h2
    rw [wipe_out vs i g1] at h3
    exact ⟨s, g2, h2, h3⟩
  · obtain ⟨g1, g2⟩ := wipeL_sub (p := Sl.lckT) rfl h1 h2
    rw [wipe_out vs i g1] at h3
    exact ⟨s, g2, h2, h3⟩
/-- behind the block -/
theorem backed (r0 : Rel K F l σ H) (r : Rel K F' l' (wipe σ vs) H') (s : Step F (wipeL vs l) (wipe σ vs) H F' l' (wipe σ vs) H') :
    Rel K F' (backL vs l l') σ H' ∧ Step F l σ H F' (backL vs l l') σ H' := by
  have rw' := wiped_rel (vs := vs) r0
  have at1 : ∀ (i : Nat) (t : Sl), (backL vs l l')[i]? = some t → (i ∈ vs ∧ (l[i]? = some t ∨ t = .non)) ∨ (i ∉ vs ∧ l'[i]? = some t ∧ (wipe σ vs)[i]? = σ[i]?) := fun i t e => by
    by_cases hi : i ∈ vs
    · refine .inl ⟨hi, ?_⟩
      have q := backL_in l vs l' i t hi e
      by_cases hl : i < l.length
      · exact .inl (by rw [q]; exact getD_some hl)
      · refine .inr ?_
        rw [q, List.getD_eq_getElem?_getD, List.getElem?_eq_none (by omega)]; rfl
    · exact .inr ⟨hi, by rw [← backL_out l vs l' i hi]; exact e, wipe_out vs i hi⟩
  -- an address of a slot that was put aside is nobody's within
  have aside : ∀ (i : Nat) (t : Sl) (a : Addr), i ∈ vs → l[i]? = some t → t.ownish = true → σ[i]? = some (some (.ref a)) → ¬ Mine (wipeL vs l) (wipe σ vs) a := fun i t a hi hl ht hv z => by
    obtain ⟨j, u, hj, g1, g2, g3⟩ := wiped_mine (p := Sl.ownish) rfl z
    have := r0.inj i j t u a hl g1 ht g2 hv g3
    subst this
    exact hj hi
  have kept : ∀ (i : Nat) (t : Sl), i ∈ vs → l[i]? = some t → SlOk K F' H' t σ[i]? := fun i t hi hl => by
    have ok := r0.at' i t hl
    have ow : ∀ (d : PyData), t.ownish = true → (∃ a, σ[i]? = some (some (.ref a)) ∧ ¬ F a ∧ RT K F H d a) → ∃ a, σ[i]? = some (some (.ref a)) ∧ ¬ F' a ∧ RT K F' H' d a := fun d ht ⟨a, e1, nf, q⟩ => by
      have na := aside i t a hi hl ht e1
      obtain ⟨o, ho, _⟩ := q.there
      refine ⟨a, e1, fun z => ?_, s.rt rw' q fun z => na z.mine⟩
      rcases s.down a z with y | y | y
      · exact nf y
      · exact na y
      · rw [ho] at y; cases y
    cases t with
    | non => trivial
    | frz d => obtain ⟨x, e1, q⟩ := ok; exact ⟨x, e1, s.rf rw' q⟩
    | own d => exact ow d rfl ok
    | bor d => exact ow d rfl ok
    | lck c d => exact ow d rfl ok
  have sub : ∀ {p : Sl → Bool} {a : Addr}, p .non = false → (∃ (i : Nat) (t : Sl), (backL vs l l')[i]? = some t ∧ p t = true ∧ σ[i]? = some (some (.ref a))) → (∃ (i : Nat) (t : Sl), l[i]? = some t ∧ p t = true ∧ σ[i]? = some (some (.ref a))) ∨ ∃ (i : Nat) (t : Sl), l'[i]? = some t ∧ p t = true ∧ (wipe σ vs)[i]? = some (some (.ref a)) := fun hn ⟨i, t, h1, h2, h3⟩ => by
    rcases at1 i t h1 with ⟨hi, hl | hl⟩ | ⟨hi, hl, hw⟩
    · exact .inl ⟨i, t, hl, h2, h3⟩
    · subst hl; rw [hn] at h2; cases h2
    · exact .inr ⟨i, t, hl, h2, by rw [hw]; exact h3⟩
  have wsub : ∀ {p : Sl → Bool} {a : Addr}, p .non = false → (∃ (i : Nat) (t : Sl), (wipeL vs l)[i]? = some t ∧ p t = true ∧ (wipe σ vs)[i]? = some (some (.ref a))) → ∃ (i : Nat) (t : Sl), l[i]? = some t ∧ p t = true ∧ σ[i]? = some (some (.ref a)) := fun hn z => by
    obtain ⟨i, t, _, h⟩ := wiped_mine hn z; exact ⟨i, t, h⟩
  refine ⟨⟨by rw [backL_len, r.len, wipe_length], fun i t e => ?_, fun i j t u a e1 e2 o1 o2 e3 e4 => ?_, r.frz⟩, fun a o e n => s.frame a o e fun z => n (wsub rfl z), s.there, fun a z => ?_, fun a z => ?_, s.up, fun a z => ?_, fun a z => ?_, fun i a ⟨t, h1, h2, h3⟩ => ?_, fun i a ⟨t, h1, h2, h3⟩ => ?_⟩
  · rcases at1 i t e with ⟨hi, hl | hl⟩ | ⟨hi, hl, hw⟩
    · exact kept i t hi hl
    · subst hl; trivial
    · rw [← hw]; exact r.at' i t hl
  · have cross : ∀ (i j : Nat) (t u : Sl), i ∈ vs → l[i]? = some t → t.ownish = true → σ[i]? = some (some (.ref a)) → j ∉ vs → l'[j]? = some u → u.ownish = true → σ[j]? = some (some (.ref a)) → (wipe σ vs)[j]? = σ[j]? → False := fun i j t u hi hl ht hv hj hl' hu hv' hw => by
      obtain ⟨a', d, e1, _, q, _⟩ := (r0.at' i t hl).ref ht
      rw [hv] at e1; cases e1
      obtain ⟨o, ho, _⟩ := q.there
      rcases s.mine a ⟨j, u, hl', hu, by rw [hw]; exact hv'⟩ with z | z
      · exact aside i t a hi hl ht hv z
      · rw [ho] at z; cases z
    rcases at1 i t e1 with ⟨hi, hl | hl⟩ | ⟨hi, hl, hw⟩
    · rcases at1 j u e2 with ⟨hj, hm | hm⟩ | ⟨hj, hm, hw2⟩
      · exact r0.inj i j t u a hl hm o1 o2 e3 e4
      · subst hm; cases o2
      · exact (cross i j t u hi hl o1 e3 hj hm o2 e4 hw2).elim
    · subst hl; cases o1
    · rcases at1 j u e2 with ⟨hj, hm | hm⟩ | ⟨hj, hm, hw2⟩
      · exact (cross j i u t hj hm o2 e4 hi hl o1 e3 hw).elim
      · subst hm; cases o2
      · exact r.inj i j t u a hl hm o1 o2 (by rw [hw]; exact e3) (by rw [hw2]; exact e4)
  · rcases sub (p := Sl.mut) rfl z with y | y
    · exact .inl y
    · rcases s.own a y with x | x
      · exact .inl (wsub rfl x)
      · exact .inr x
  · rcases sub (p := Sl.ownish) rfl z with y | y
    · exact .inl y
    · rcases s.mine a y with x | x
      · exact .inl (wsub rfl x)
      · exact .inr x
  · rcases s.down a z with y | y | y
    · exact .inl y
    · exact .inr (.inl (wsub rfl y))
    · exact .inr (.inr y)
  · rcases sub (p := Sl.ownT) rfl z with y | y
    · exact .inl y
    · rcases s.ownT a y with x | x
      · exact .inl (wsub rfl x)
      · exact .inr x
  · rcases at1 i t h1 with ⟨hi, hl | hl⟩ | ⟨hi, hl, hw⟩
    · exact ⟨t, hl, h2, h3⟩
    · subst hl; cases h2
    · obtain ⟨u, k1, k2, k3⟩ := s.bor i a ⟨t, hl, h2, by rw [hw]; exact h3⟩
      obtain ⟨g1, g2⟩ := wipeL_sub (p := Sl.borT) rfl k1 k2
      exact ⟨u, g2, k2, h3⟩
  · rcases at1 i t h1 with ⟨hi, hl | hl⟩ | ⟨hi, hl, hw⟩
    · exact ⟨t, hl, h2, h3⟩
    · subst hl; cases h2
    · obtain ⟨u, k1, k2, k3⟩ := s.lck i a ⟨t, hl, h2, by rw [hw]; exact h3⟩
      obtain ⟨g1, g2⟩ := wipeL_sub (p := Sl.lckT) rfl k1 k2
      exact ⟨u, g2, k2, h3⟩
/-- an object that nobody here knows of is written -/
theorem Rel.wrD {D : Addr} {o : HO} (r : Rel K F l σ H) (nf : ¬ F D) (nm : ¬ Mine l σ D) (m : Mut (H D)) : Rel K F l σ (upd H D o) := by
  refine ⟨r.len, fun i s e => ?_, r.inj, fun a hF => ?_⟩
  · have k := r.at' i s e
    have other : ∀ a, σ[i]? = some (some (.ref a)) → s.ownish = true → a ≠ D := fun a ea os z => nm (z ▸ ⟨i, s, e, os, ea⟩)
    cases s with
    | non => trivial
    | frz d => obtain ⟨x, e1, q⟩ := k; exact ⟨x, e1, q.keep (Keeps.wr nf m)⟩
    | own d => obtain ⟨c, e1, n, q⟩ := k; exact ⟨c, e1, n, q.keep (Keeps.wr nf m) (upd_ne (other c e1 rfl))⟩
    | bor d => obtain ⟨c, e1, n, q⟩ := k; exact ⟨c, e1, n, q.keep (Keeps.wr nf m) (upd_ne (other c e1 rfl))⟩
    | lck x d => obtain ⟨c, e1, n, q⟩ := k; exact ⟨c, e1, n, q.keep (Keeps.wr nf m) (upd_ne (other c e1 rfl))⟩
  · obtain ⟨ws, q⟩ := r.frz a hF
    exact ⟨ws, ((Keeps.wr (K := K) (F := F) nf m).lst a ws hF q).2⟩
theorem Bs.to.wrD {D : Addr} {o : HO} (s : b.to F l σ H) (n : b.H D = none) : b.to F l σ (upd H D o) where
  frame := fun a u e q => by
    rw [upd_ne (fun z => by rw [z, n] at e; cases e)]
    exact s.frame a u e q
  there := fun a u e => by
    obtain ⟨u', q⟩ := s.there a u e
    by_cases z : a = D
    · exact ⟨o, by rw [z]; exact upd_same⟩
    · exact ⟨u', by rw [upd_ne z]; exact q⟩
  own := s.own
  mine := s.mine
  up := s.up
  down := s.down
  ownT := s.ownT
  bor := s.bor
  lck := s.lck
end
def noB : WX := fun _ _ _ _ => False
section
variable {X : Cx} {B : WX} {e elt tg iter : Expr} {ifs : List Expr} {m : M Opd} {t : M Bool} {it : M Its} {g : Tg} {pos : Pos} {scope : Scope} {own : List (Str × Nat)}
def MTs (X : Cx) (B : WX) (ifs : List Expr) (t : M Bool) : Prop := PTs X ifs (tMT X.K X.mg B t)
theorem mts_nil : MTs X B [] (rt true) := ⟨fun pins s σ H Q I h => pts_nil.run pins s σ H Q I (by
  obtain ⟨F, l, r, h⟩ := h
  exact h.rt r Step.refl)⟩
theorem mts_one {c : Expr} (h : MT X B c t) : MTs X B [c] t := pts_one h
theorem compL_cons {vs : List Nat} {x : PyData} {xs acc : List PyData} {l : L} {z : List PyData × L} (h : compL vs g t m (x :: xs) acc l = .ok z.1 z.2) : ∃ l1 k l2, asgT g x l = .ok () l1 ∧ t l1 = .ok k l2 ∧
    ((k = true ∧ ∃ o l3 d l4, m l2 = .ok o l3 ∧ shareO o l3 = .ok d l4 ∧ compL vs g t m xs (d :: acc) (wipeL vs l4) = .ok z.1 z.2) ∨ (k = false ∧ compL vs g t m xs acc (wipeL vs l2) = .ok z.1 z.2)) := by
  have h : (bd (asgT g x) fun _ => bd t fun k => match k with
    | true => bd m fun o => bd (shareO o) fun d => bd (wipeM vs) fun _ => compL vs g t m xs (d :: acc)
    | false => bd (wipeM vs) fun _ => compL vs g t m xs acc) l = .ok z.1 z.2 := h
  rcases asgT_noerr g x l with ⟨l1, e1⟩ | e1
  · rw [bd_ok e1] at h
    cases e2 : t l1 with
    | stk => rw [bd_stk e2] at h; cases h
    | err _ _ => rw [bd_err e2] at h; cases h
    | ok k l2 =>
      rw [bd_ok e2] at h
      refine ⟨l1, k, l2, e1, e2, ?_⟩
      cases k with
      | false => exact .inr ⟨rfl, h⟩
      | true =>
        refine .inl ⟨rfl, ?_⟩
        have h : (bd m fun o => bd (shareO o) fun d => bd (wipeM vs) fun _ => compL vs g t m xs (d :: acc)) l2 = .ok z.1 z.2 := h
        cases e3 : m l2 with
        | stk => rw [bd_stk e3] at h; cases h
        | err _ _ => rw [bd_err e3] at h; cases h
        | ok o l3 =>
          rw [bd_ok e3] at h
          rcases shareO_cases (l := l3) o with ⟨d, l4, e4, _⟩ | e4
          · rw [bd_ok e4] at h
            exact ⟨o, l3, d, l4, rfl, e4, h⟩
          · rw [bd_stk e4] at h; cases h
  · rw [bd_stk e1] at h; cases h
theorem me_comp (hc : X.calm = true) (hN : X.N.Nodup) (hi : MI X B tg iter it) (ok : BlkOk X.N X.env.scope scope own)
    (hg : ∀ (s : Shared) (H : Hp) (C : Addr) (cl : List (Str × Addr)) (fp : List Addr), MGT (X.blk s H scope (compEnvC scope cl C X.env) fp) tg g)
    (ht : ∀ (s : Shared) (H : Hp) (C : Addr) (cl : List (Str × Addr)) (fp : List Addr), MTs (X.blk s H scope (compEnvC scope cl C X.env) fp) noB ifs t)
    (he : ∀ (s : Shared) (H : Hp) (C : Addr) (cl : List (Str × Addr)) (fp : List Addr), ME (X.blk s H scope (compEnvC scope cl C X.env) fp) noB elt m) (hs : notSet iter = true) :
    ME X B (.ListComp elt [⟨tg, iter, ifs, 0⟩] scope pos) (eComp (own.map (·.2)) g it t m) ∧
    ∀ σ H Q, tM X.K X.mg B (eComp (own.map (·.2)) g it t m) σ H Q → tLc (tI X.K X.mg B it) (gT X.K g) (tMT X.K X.mg noB t) (tM X.K X.mg noB m) (own.map (·.2)) σ H Q := by
  have key : ∀ σ H Q, tM X.K X.mg B (eComp (own.map (·.2)) g it t m) σ H Q → tLc (tI X.K X.mg B it) (gT X.K g) (tMT X.K X.mg noB t) (tM X.K X.mg noB m) (own.map (·.2)) σ H Q := by
    intro σ H Q h
    generalize own.map (·.2) = vs at h
    obtain ⟨F, l, r, h⟩ := h
    refine ⟨F, l, r, (Run.bd h).mono fun its F1 l1 H1 _ r1 s1 q J ok D hD => ?_⟩
    by_cases hf : its.xs.length ≤ lim ∧ g.fits its.pl = true ∧ g.slots.all vs.contains = true
    · rw [if_pos hf] at q
      obtain ⟨hlim, hfit, hsl⟩ := hf
      rcases lockAll_R its.src l1 with ⟨js, l2, e, LR, _⟩ | e
      · have q2 := Run.get q e
        have hI := ok js l2 e LR
        have r2 := LR.rel r1
        have q2 : Run X.K X.mg B ⟨F, l, σ, H⟩ (fun l0 => cEnd js vs l0 (compL vs g t m its.xs [] (wipeL vs l0))) l2 σ fun o F' l' H' => ∀ v, ROp X.K F' l' σ H' o v → NewO H o v → Q v H' := q2
        cases ec : compL vs g t m its.xs [] (wipeL vs l2) with
        | stk => exact absurd (by show cEnd js vs l2 (compL vs g t m its.xs [] (wipeL vs l2)) = _; rw [ec]; rfl) (Run.there q2)
        | err _ _ => exact absurd (by show cEnd js vs l2 (compL vs g t m its.xs [] (wipeL vs l2)) = _; rw [ec]; rfl) (Run.there q2)
        | ok accf lf =>
          have e3 : cEnd js vs l2 (compL vs g t m its.xs [] (wipeL vs l2)) = R.ok (Opd.t (.list accf)) (unlockL js (backL vs l2 lf)) := by rw [ec]; rfl
          have rw1 := wiped_rel (vs := vs) r2
          have dm : ∀ {F' : Addr → Prop} {l' : L} {σ' : St} {Hx : Hp} {F'' : Addr → Prop} {l'' : L} {σ'' : St} {Hy : Hp} {ws : List V}, Hx D = some (.lst ws) → ¬ Mine l' σ' D → Step F' l' σ' Hx F'' l'' σ'' Hy → ¬ Mine l'' σ'' D := fun hx n st z => by
            rcases st.mine D z with y | y
            · exact n y
            · cases (hx.symm.trans y)
          refine ⟨fun i n Hc => n = its.xs.length - i ∧ i ≤ its.xs.length ∧ ∃ F' l' acc ws, Rel X.K F' l' (wipe σ vs) Hc ∧ Step F1 (wipeL vs l2) (wipe σ vs) H1 F' l' (wipe σ vs) Hc ∧ ¬ F' D ∧ ¬ Mine l' (wipe σ vs) D ∧ Hc D = some (.lst ws) ∧ acc.length ≤ i ∧ RFs X.K F' Hc ws acc.reverse ∧ compL vs g t m (its.xs.drop i) acc l' = .ok accf lf,
            ⟨its.xs.length, by simp, Nat.zero_le _, F1, wipeL vs l2, [], [], rw1.laid hD, Bs.to.laid (b := ⟨F1, wipeL vs l2, wipe σ vs, H1⟩) Step.refl hD, rw1.noF hD, rw1.noMine hD, upd_same, Nat.zero_le _, .nil, by simpa using ec⟩, ?_⟩
          rintro i n H3 ⟨rfl, hile, F3, l3, acc, ws, r3, s3, nf3, nm3, hD3, hacc, rf3, ec3⟩
          have s3' : Step F1 l2 σ H1 F3 l3 (wipe σ vs) H3 := wiped_step.trans s3
          have hIi := hI F3 l3 (wipe σ vs) H3 r3 s3' i
          by_cases hlt : i < its.xs.length
          · obtain ⟨go, yl⟩ := hIi.2 its.xs[i] (by simp [hlt])
            rw [List.drop_eq_getElem_cons hlt] at ec3
            obtain ⟨l4, k, l5, e4, e5, rest⟩ := compL_cons (z := (accf, lf)) ec3
            refine .inr ⟨go, fun H' => i + 1 ≤ its.xs.length ∧ ∃ F' l' acc ws, Rel X.K F' l' (wipe σ vs) H' ∧ Step F1 (wipeL vs l2) (wipe σ vs) H1 F' l' (wipe σ vs) H' ∧ ¬ F' D ∧ ¬ Mine l' (wipe σ vs) D ∧ H' D = some (.lst ws) ∧ acc.length ≤ i + 1 ∧ RFs X.K F' H' ws acc.reverse ∧ compL vs g t m (its.xs.drop (i + 1)) acc l' = .ok accf lf,
              fun H' h => ⟨its.xs.length - (i + 1), by omega, rfl, h⟩, fun x H4 hy => ?_⟩
            obtain ⟨r4, s4, y4⟩ := yl x H4 hy
            refine ⟨F3, l3, its.xs[i], its.pl, r4, y4, hfit, ?_⟩
            rw [e4]
            intro σ5 r5 s5 k5
            have hw5 : wipe σ5 vs = wipe σ vs := by
              rw [← wipe_wipe (σ := σ)]
              refine wipe_eq (by rw [← r5.len, ← r4.len]; exact (asgT_len g its.xs[i] e4)) fun j hj => k5 j fun z => hj ?_
              have := List.all_eq_true.mp hsl j z
              simpa using this
            have S5 : Step F1 (wipeL vs l2) (wipe σ vs) H1 F3 l4 σ5 H4 := (s3.trans s4).trans s5
            have hD4 : H4 D = some (.lst ws) := s4.frame D _ hD3 fun z => nm3 z.mine
            have nm5 : ¬ Mine l4 σ5 D := fun z => by
              rcases s5.mine D z with y | y
              · exact nm3 y
              · cases (hD4.symm.trans y)
            refine ⟨hw5, F3, l4, r5, ?_⟩
            unfold Run
            rw [e5]
            intro F6 H6 r6 s6
            have S6 := S5.trans s6
            have hD6 : H6 D = some (.lst ws) := s6.frame D _ hD4 fun z => nm5 z.mine
            have nm6 : ¬ Mine l5 σ5 D := fun z => by
              rcases s6.mine D z with y | y
              · exact nm5 y
              · cases (hD4.symm.trans y)
            have nf6 : ¬ F6 D := fun z => by
              rcases s6.down D z with y | y | y
              · exact nf3 y
              · exact nm5 y
              · cases (hD4.symm.trans y)
            have rf6 : RFs X.K F6 H6 ws acc.reverse := s6.rfs r5 (s5.rfs r4 (s4.rfs r3 rf3))
            rcases rest with ⟨rfl, o, l7, d, l8, e7, e8, ec8⟩ | ⟨rfl, ec8⟩
            · refine ite_tt ?_
              refine ⟨F6, l5, r6, ?_⟩
              unfold Run
              rw [e7]
              intro F7 H7 r7 s7 v ro nw
              rcases shareO_cases (l := l7) o with ⟨d', l8', e8', k8⟩ | e8'
              · rw [e8] at e8'
                cases e8'
                obtain ⟨F8, sh⟩ := k8 (b := ⟨F6, l5, σ5, H6⟩) r7 s7 ro nw
                have S8 := S6.trans sh.to
                have hD7 : H7 D = some (.lst ws) := s7.frame D _ hD6 fun z => nm6 z.mine
                have nm8 : ¬ Mine l8 σ5 D := fun z => by
                  rcases sh.to.mine D z with y | y
                  · exact nm6 y
                  · cases (hD6.symm.trans y)
                have nf8 : ¬ F8 D := fun z => by
                  rcases sh.to.down D z with y | y | y
                  · exact nf6 y
                  · exact nm6 y
                  · cases (hD6.symm.trans y)
                have rf8 : RFs X.K F8 H7 ws acc.reverse := Step.rfs sh.to r6 rf6
                have mD : Mut (H7 D) := by rw [hD7]; trivial
                have wl : ws.length < sizeLine := by
                  have h1 := rf8.length
                  rw [List.length_reverse] at h1
                  have h2 := lim_line
                  omega
                refine ⟨ws, hD7, wl, by omega, F8, wipeL vs l8, d :: acc, ws ++ [v], ?_, ?_, nf8, ?_, upd_same, by simp; omega, ?_, ec8⟩
                · rw [← hw5]
                  exact wiped_rel (sh.rel.wrD nf8 nm8 mD)
                · have S9 := S8.trans (wiped_step (vs := vs))
                  rw [hw5] at S9
                  exact Bs.to.wrD (b := ⟨F1, wipeL vs l2, wipe σ vs, H1⟩) S9 hD
                · intro z
                  rw [← hw5] at z
                  obtain ⟨j, s, _, h⟩ := wiped_mine (p := Sl.ownish) rfl z
                  exact nm8 ⟨j, s, h⟩
                · rw [List.reverse_cons]
                  exact (rf8.append (.cons sh.rf .nil)).keep (Keeps.wr nf8 mD)
              · rw [e8] at e8'; cases e8'
            · refine ite_ff ?_
              refine ⟨by omega, F6, wipeL vs l5, acc, ws, ?_, ?_, nf6, ?_, hD6, by omega, rf6, ec8⟩
              · rw [← hw5]; exact wiped_rel r6
              · have S9 := S6.trans (wiped_step (vs := vs))
                rw [hw5] at S9
                exact S9
              · intro z
                rw [← hw5] at z
                obtain ⟨j, s, _, h⟩ := wiped_mine (p := Sl.ownish) rfl z
                exact nm6 ⟨j, s, h⟩
          · have e0 : its.xs.drop i = [] := List.drop_eq_nil_of_le (by omega)
            rw [e0] at ec3
            have ec3 : R.ok acc.reverse l3 = R.ok accf lf := ec3
            cases ec3
            obtain ⟨b1, b2⟩ := backed r2 r3 s3
            obtain ⟨u1, u2⟩ := unlocked LR b1 b2
            refine .inl ⟨hIi.1 (by omega), Run.ok q2 e3 u1 (s1.trans u2) (.ref D) ⟨D, rfl, nf3, fun z => ?_, .lst hD3 rf3⟩ fun a ea => ?_⟩
            · have z1 := mine_unlock z
              rcases b2.mine D z1 with y | y
              · exact r2.noMine hD y
              · obtain ⟨j, sl, g1, g2, g3⟩ := z1
                by_cases hj : j ∈ vs
                · have := backL_in l2 vs lf j sl hj g1
                  by_cases hl : j < l2.length
                  · exact r2.noMine hD ⟨j, sl, by rw [this]; exact getD_some hl, g2, g3⟩
                  · rw [this, List.getD_eq_getElem?_getD, List.getElem?_eq_none (by omega)] at g2
                    cases g2
                · rw [backL_out l2 vs lf j hj] at g1
                  exact nm3 ⟨j, sl, g1, g2, by rw [wipe_out vs j hj]; exact g3⟩
            · cases ea
              exact s1.none_of hD
      · exact absurd (bd_stk e) (Run.there q)
    · rw [if_neg hf] at q
      exact q.elim
  exact ⟨PE.imp (pe_lc (g := gT X.K g) (tt := tMT X.K X.mg noB t) (te := tM X.K X.mg noB m) hc hN hi ok hg ht he (fold_none hs X.env)) key, key⟩
end
end L2.DL
/-! DL18: own functions -/
namespace L2.DL
open PySem PySem.Spec PyProof.Rows
/-- a function's end -/
def RunF (K : PySem.W.Frag) (mg : Str → Option Value) (F : Addr → Prop) (l : L) (σ : St) (H : Hp) (Q : VK) (E : XK) : R (PyData × Bool) → Prop
  | .ok z l' => ∀ F' σ' H', Rel K F' l' σ' H' → Step F l σ H F' l' σ' H' → ∀ v, ROp K F' l' σ' H' (mkO z) v → RetO ⟨F, l, σ, H⟩ (mkO z) v → Q v H'
  | .err x l' => ∀ F' σ' H' c d, Rel K F' l' σ' H' → Step F l σ H F' l' σ' H' → XRel K mg F' H' x c d → E c d H'
  | .stk => False
/-- what a def promises -/
def spD (K : PySem.W.Frag) (mg : Str → Option Value) (n : Nat) (sem : FSem) : Sp := fun vs H Q E => vs.length = n ∧ ∃ F l, Rel K F l (vs.map some) H ∧ RunF K mg F l (vs.map some) H Q E (sem l)
section
variable {K : PySem.W.Frag} {mg : Str → Option Value} {B : WX} {b : Bs} {F F1 F2 F' : Addr → Prop} {l l1 l2 l' : L} {σ σ1 σ2 σ' : St} {H H0 H1 H2 H' : Hp}
/-! the parameters' slots alone -/
theorem take_at {α : Type} {xs : List α} {n i : Nat} {x : α} (h : (xs.take n)[i]? = some x) : i < n ∧ xs[i]? = some x := by
  rw [List.getElem?_take] at h
  split at h
  · exact ⟨by assumption, h⟩
  · cases h
theorem Rel.take (r : Rel K F l σ H) (n : Nat) : Rel K F (l.take n) (σ.take n) H := by
  refine ⟨by rw [List.length_take, List.length_take, r.len], fun i s e => ?_, fun i j s t a e1 e2 o1 o2 e3 e4 => ?_, r.frz⟩
  · obtain ⟨hi, e⟩ := take_at e
    rw [List.getElem?_take_of_lt hi]
    exact r.at' i s e
  · exact r.inj i j s t a (take_at e1).2 (take_at e2).2 o1 o2 (take_at e3).2 (take_at e4).2
theorem sub_take {p : Sl → Bool} {n : Nat} {a : Addr} (h : ∃ (i : Nat) (s : Sl), (l.take n)[i]? = some s ∧ p s = true ∧ (σ.take n)[i]? = some (some (.ref a))) : ∃ (i : Nat) (s : Sl), l[i]? = some s ∧ p s = true ∧ σ[i]? = some (some (.ref a)) := by
  obtain ⟨i, s, h1, h2, h3⟩ := h
  exact ⟨i, s, (take_at h1).2, h2, (take_at h3).2⟩
theorem pad_at {k : Nat} {p : Sl → Bool} (hn : p .non = false) {i : Nat} {s : Sl} (h : (l ++ List.replicate k Sl.non)[i]? = some s) (hp : p s = true) : l[i]? = some s := by
  by_cases hi : i < l.length
  · rw [List.getElem?_append_left hi] at h; exact h
  · rw [List.getElem?_append_right (by omega), List.getElem?_replicate] at h
    split at h
    · cases h; rw [hn] at hp; cases hp
    · cases h
theorem sub_pad {k m : Nat} {p : Sl → Bool} (hn : p .non = false) (hl : l.length = σ.length) {a : Addr} (h : ∃ (i : Nat) (s : Sl), (l ++ List.replicate k Sl.non)[i]? = some s ∧ p s = true ∧ (σ ++ List.replicate m (none : Option V))[i]? = some (some (.ref a))) : ∃ (i : Nat) (s : Sl), l[i]? = some s ∧ p s = true ∧ σ[i]? = some (some (.ref a)) := by
  obtain ⟨i, s, h1, h2, h3⟩ := h
  have g := pad_at hn h1 h2
  have hi : i < l.length := (List.getElem?_eq_some_iff.mp g).1
  rw [List.getElem?_append_left (by omega)] at h3
  exact ⟨i, s, g, h2, h3⟩
theorem up_pad {k m : Nat} {p : Sl → Bool} (hl : l.length = σ.length) {a : Addr} (h : ∃ (i : Nat) (s : Sl), l[i]? = some s ∧ p s = true ∧ σ[i]? = some (some (.ref a))) : ∃ (i : Nat) (s : Sl), (l ++ List.replicate k Sl.non)[i]? = some s ∧ p s = true ∧ (σ ++ List.replicate m (none : Option V))[i]? = some (some (.ref a)) := by
  obtain ⟨i, s, h1, h2, h3⟩ := h
  have hi : i < l.length := (List.getElem?_eq_some_iff.mp h1).1
  exact ⟨i, s, by rw [List.getElem?_append_left hi]; exact h1, h2, by rw [List.getElem?_append_left (by omega)]; exact h3⟩
theorem Rel.pad (r : Rel K F l σ H) (k : Nat) : Rel K F (l ++ List.replicate k Sl.non) (σ ++ List.replicate k none) H := by
  refine ⟨by simp [r.len], fun i s e => ?_, fun i j s t a e1 e2 o1 o2 e3 e4 => ?_, r.frz⟩
  · by_cases hi : i < l.length
    · rw [List.getElem?_append_left hi] at e
      rw [List.getElem?_append_left (by rw [← r.len]; exact hi)]
      exact r.at' i s e
    · rw [List.getElem?_append_right (by omega), List.getElem?_replicate] at e
      split at e
      · cases e; trivial
      · cases e
  · have g1 := pad_at (p := Sl.ownish) rfl e1 o1
    have g2 := pad_at (p := Sl.ownish) rfl e2 o2
    have h1 : i < l.length := (List.getElem?_eq_some_iff.mp g1).1
    have h2 : j < l.length := (List.getElem?_eq_some_iff.mp g2).1
    rw [List.getElem?_append_left (by rw [← r.len]; exact h1)] at e3
    rw [List.getElem?_append_left (by rw [← r.len]; exact h2)] at e4
    exact r.inj i j s t a g1 g2 o1 o2 e3 e4
theorem Step.fn {k n : Nat} (hl : l.length = σ.length) (hn : n = l.length) (s : Step F (l ++ List.replicate k Sl.non) (σ ++ List.replicate k none) H F' l' σ' H') : Step F l σ H F' (l'.take n) (σ'.take n) H' := by
  refine ⟨fun a o e q => s.frame a o e fun z => q (sub_pad (p := Sl.mut) rfl hl z), s.there, fun a z => ?_, fun a z => ?_, s.up, fun a z => ?_, fun a z => ?_, fun i a ⟨t, h1, h2, h3⟩ => ?_, fun i a ⟨t, h1, h2, h3⟩ => ?_⟩
  · rcases s.own a (sub_take z) with y | y
    · exact .inl (sub_pad (p := Sl.mut) rfl hl y)
    · exact .inr y
  · rcases s.mine a (sub_take z) with y | y
    · exact .inl (sub_pad (p := Sl.ownish) rfl hl y)
    · exact .inr y
  · rcases s.down a z with y | y | y
    · exact .inl y
    · exact .inr (.inl (sub_pad (p := Sl.ownish) rfl hl y))
    · exact .inr (.inr y)
  · rcases s.ownT a (sub_take z) with y | y
    · exact .inl (sub_pad (p := Sl.ownT) rfl hl y)
    · exact .inr y
  · obtain ⟨hi, g1⟩ := take_at h1
    obtain ⟨_, g3⟩ := take_at h3
    obtain ⟨u, k1, k2, k3⟩ := s.bor i a ⟨t, g1, h2, g3⟩
    rw [List.getElem?_append_left (by omega)] at k1 k3
    exact ⟨u, k1, k2, k3⟩
  · obtain ⟨hi, g1⟩ := take_at h1
    obtain ⟨_, g3⟩ := take_at h3
    obtain ⟨u, k1, k2, k3⟩ := s.lck i a ⟨t, g1, h2, g3⟩
    rw [List.getElem?_append_left (by omega)] at k1 k3
    exact ⟨u, k1, k2, k3⟩
/-- a def's promise from its body's run -/
theorem spD_body {n k : Nat} {c : C} {vs : List V} {Q : VK} {E : XK} (hk : n ≤ k) (h : spD K mg n (mkF n k c) vs H Q E) (hB : ∀ cc d σ H, E cc d H → B cc d σ H) : tS K mg B c { nx := fun _ H' => Q .non H', rt := Q } (vs.map some ++ List.replicate (k - vs.length) none) H := by
  obtain ⟨hl, F, l, r, h⟩ := h
  have hlen : l.length = n := by rw [r.len, List.length_map, hl]
  rw [hl]
  refine ⟨F, _, r.pad (k - n), ?_⟩
  unfold mkF endF at h
  unfold RunS
  cases e : c (l ++ List.replicate (k - n) Sl.non) with
  | stk => rw [e] at h; exact h
  | err x lf =>
    rw [e] at h
    intro F' σ' H' cc d r' s' xr
    exact hB _ _ _ _ (h F' (σ'.take n) H' cc d (r'.take n) (s'.fn r.len hlen.symm) xr)
  | ok fl lf =>
    rw [e] at h
    intro F' σ' H' r' s'
    have r2 := r'.take n
    have s2 : Step F l (vs.map some) H F' (lf.take n) (σ'.take n) H' := s'.fn r.len hlen.symm
    cases fl with
    | nx => exact h F' (σ'.take n) H' r2 s2 .non .non trivial
    | bk => exact h.elim
    | ct => exact h.elim
    | rt o =>
      cases o with
      | s i => exact h.elim
      | v d => exact fun v ro _ => h F' (σ'.take n) H' r2 s2 v ro trivial
      | t d =>
        intro v ro re
        refine h F' (σ'.take n) H' r2 s2 v ?_ fun a ea => ?_
        · obtain ⟨a, ea, nf, nm, q⟩ := ro
          exact ⟨a, ea, nf, fun z => nm (sub_take z), q⟩
        · rcases re a ea with z | z
          · exact .inl (sub_pad (p := Sl.ownT) rfl r.len z)
          · exact .inr z
/-! the arguments -/
theorem argsOf_at : ∀ {bs : List Bool} {os : List Opd} {as : List Sl}, argsOf l bs os = some as → as.length = os.length ∧ bs.length = os.length ∧ ∀ (j : Nat) (s : Sl), as[j]? = some s → ∃ m o, bs[j]? = some m ∧ os[j]? = some o ∧ argOf l m o = some s
  | [], [], as, e => by cases e; exact ⟨rfl, rfl, fun j s h => by simp at h⟩
  | [], o :: os, as, e => by cases e
  | m :: bs, [], as, e => by cases e
  | m :: bs, o :: os, as, e => by
    unfold argsOf at e
    cases e1 : argOf l m o with
    | none => rw [e1] at e; cases e
    | some a =>
      cases e2 : argsOf l bs os with
      | none => rw [e1, e2] at e; cases e
      | some as' =>
        rw [e1, e2] at e
        cases e
        obtain ⟨h1, h2, h3⟩ := argsOf_at e2
        refine ⟨by simp [h1], by simp [h2], fun j s h => ?_⟩
        cases j with
        | zero => cases h; exact ⟨m, o, rfl, rfl, e1⟩
        | succ j => exact h3 j s (by simpa using h)
theorem ROps.at' {os : List Opd} {vs : List V} (h : ROps K F l σ H os vs) : ∀ {j : Nat} {o : Opd}, os[j]? = some o → ∃ v, vs[j]? = some v ∧ ROp K F l σ H o v ∧ (o, v) ∈ os.zip vs := by
  induction h with
  | nil => intro j o e; simp at e
  | cons h1 _ _ ih =>
    intro j o e
    cases j with
    | zero => cases e; exact ⟨_, rfl, h1, by simp⟩
    | succ j =>
      obtain ⟨v, g1, g2, g3⟩ := ih (by simpa using e)
      exact ⟨v, by simpa using g1, g2, by simp [g3]⟩
theorem mem_mutS : ∀ {bs : List Bool} {os : List Opd} {j i : Nat}, bs[j]? = some true → os[j]? = some (.s i) → i ∈ mutS bs os
  | true :: bs, o :: os, 0, i, h1, h2 => by cases h2; simp [mutS]
  | false :: bs, o :: os, 0, i, h1, h2 => by cases h1
  | m :: bs, o :: os, j + 1, i, h1, h2 => by
    have := mem_mutS (bs := bs) (os := os) (j := j) (i := i) (by simpa using h1) (by simpa using h2)
    cases m <;> cases o <;> simp [mutS, this]
  | [], _, _, _, h1, _ => by simp at h1
  | _ :: _, [], _, _, _, h2 => by simp at h2
theorem mem_lentS : ∀ {bs : List Bool} {os : List Opd} {j i : Nat}, bs[j]? = some false → os[j]? = some (.s i) → i ∈ lentS bs os
  | false :: bs, o :: os, 0, i, h1, h2 => by cases h2; simp [lentS]
  | true :: bs, o :: os, 0, i, h1, h2 => by cases h1
  | m :: bs, o :: os, j + 1, i, h1, h2 => by
    have := mem_lentS (bs := bs) (os := os) (j := j) (i := i) (by simpa using h1) (by simpa using h2)
    cases m <;> cases o <;> simp [lentS, this]
  | [], _, _, _, h1, _ => by simp at h1
  | _ :: _, [], _, _, _, h2 => by simp at h2
theorem lentS_at : ∀ {bs : List Bool} {os : List Opd} {i : Nat}, i ∈ lentS bs os → ∃ j : Nat, bs[j]? = some false ∧ os[j]? = some (.s i)
  | [], os, i, h => by cases os <;> simp [lentS] at h
  | m :: bs, [], i, h => by cases m <;> simp [lentS] at h
  | m :: bs, o :: os, i, h => by
    have tail : i ∈ lentS bs os → ∃ j : Nat, (m :: bs)[j]? = some false ∧ (o :: os)[j]? = some (.s i) := fun h => by
      obtain ⟨j, h1, h2⟩ := lentS_at h
      exact ⟨j + 1, by simpa using h1, by simpa using h2⟩
    cases m with
    | true => exact tail (by cases o <;> simpa [lentS] using h)
    | false =>
      cases o with
      | s k =>
        rcases List.mem_cons.mp (by simpa [lentS] using h : i ∈ k :: lentS bs os) with e | e
        · subst e; exact ⟨0, rfl, rfl⟩
        · exact tail e
      | v _ => exact tail (by simpa [lentS] using h)
      | t _ => exact tail (by simpa [lentS] using h)
theorem mutS_inj : ∀ {bs : List Bool} {os : List Opd} {j k i : Nat}, distinct (mutS bs os) = true → bs[j]? = some true → os[j]? = some (.s i) → bs[k]? = some true → os[k]? = some (.s i) → j = k
  | [], _, _, _, _, _, h1, _, _, _ => by simp at h1
  | _ :: _, [], _, _, _, _, _, h2, _, _ => by simp at h2
  | m :: bs, o :: os, j, k, i, hd, h1, h2, h3, h4 => by
    have hd' : distinct (mutS bs os) = true := by
      cases m <;> cases o <;> simp [mutS, distinct] at hd ⊢ <;> first | exact hd | exact hd.2
    cases j with
    | zero =>
      cases k with
      | zero => rfl
      | succ k =>
        have hm := mem_mutS (bs := bs) (os := os) (j := k) (i := i) (by simpa using h3) (by simpa using h4)
        simp at h1 h2
        subst h1 h2
        simp [mutS, distinct, hm] at hd
    | succ j =>
      cases k with
      | zero =>
        have hm := mem_mutS (bs := bs) (os := os) (j := j) (i := i) (by simpa using h1) (by simpa using h2)
        simp at h3 h4
        subst h3 h4
        simp [mutS, distinct, hm] at hd
      | succ k =>
        have : j = k := mutS_inj (bs := bs) (os := os) (i := i) hd' (by simpa using h1) (by simpa using h2) (by simpa using h3) (by simpa using h4)
        rw [this]
/-- which lists are frozen for the callee -/
def lentF (F : Addr → Prop) (l : L) (σ : St) (bs : List Bool) (os : List Opd) (vs : List V) : Addr → Prop := fun a => F a ∨ (∃ i, i ∈ lentS bs os ∧ ∃ s, l[i]? = some s ∧ s.ownish = true ∧ σ[i]? = some (some (.ref a)) ∧ ∃ xs, s.get = some (.list xs)) ∨ ∃ xs, (Opd.t (.list xs), V.ref a) ∈ os.zip vs
theorem argOf_own {i : Nat} {s : Sl} (h : argOf l true (.s i) = some s) : (∃ d, s = .bor d ∧ l[i]? = some (.own d)) ∨ ∃ d, s = .bor d ∧ l[i]? = some (.bor d) := by
  have h : (match l.getD i .non with
    | .own d => some (.bor d)
    | .bor d => some (.bor d)
    | _ => none) = some s := h
  cases e : l.getD i .non with
  | own d => rw [e] at h; cases h; exact .inl ⟨d, rfl, getD_at e (by simp)⟩
  | bor d => rw [e] at h; cases h; exact .inr ⟨d, rfl, getD_at e (by simp)⟩
  | non => rw [e] at h; cases h
  | frz _ => rw [e] at h; cases h
  | lck _ _ => rw [e] at h; cases h
theorem argOf_read {i : Nat} {s : Sl} (h : argOf l false (.s i) = some s) : ∃ d, s = .frz d ∧ ∃ t, l[i]? = some t ∧ t.get = some d ∧ ((∃ e, t = .frz e) ∨ (t.ownish = true ∧ ∃ xs, d = .list xs)) := by
  have h : handed (l.getD i .non) = some s := h
  unfold handed at h
  cases e : l.getD i .non with
  | non => rw [e] at h; cases h
  | frz d => rw [e] at h; cases h; exact ⟨d, rfl, _, getD_at e (by simp), rfl, .inl ⟨d, rfl⟩⟩
  | own d => cases d <;> rw [e] at h <;> first | (cases h; done) | (cases h; exact ⟨_, rfl, _, getD_at e (by simp), rfl, .inr ⟨rfl, _, rfl⟩⟩)
  | bor d => cases d <;> rw [e] at h <;> first | (cases h; done) | (cases h; exact ⟨_, rfl, _, getD_at e (by simp), rfl, .inr ⟨rfl, _, rfl⟩⟩)
  | lck c d => cases d <;> rw [e] at h <;> first | (cases h; done) | (cases h; exact ⟨_, rfl, _, getD_at e (by simp), rfl, .inr ⟨rfl, _, rfl⟩⟩)
end
end L2.DL
/-! DL19: calls of own functions -/
namespace L2.DL
open PySem PySem.Spec PyProof.Rows
theorem RF.up {K : PySem.W.Frag} {F F' : Addr → Prop} {H : Hp} {v : V} {d : PyData} (h : RF K F H v d) (u : ∀ a, F a → F' a) : RF K F' H v d := h.keep (Keeps.up u)
mutual
theorem RF.pure {K : PySem.W.Frag} {F F' : Addr → Prop} {H : Hp} : ∀ {v : V} {d : PyData}, RF K F H v d → pure0 d = true → RF K F' H v d
  | _, .none, h, _ => by cases h; exact .non
  | _, .bool _, h, _ => by cases h; exact .bl _
  | _, .int _, h, _ => by cases h; exact .int _
  | _, .str _, h, _ => by cases h; exact .str _
  | _, .list ds, h, p => by simp [pure0] at p
  | _, .tuple ds, h, p => by
    cases h with
    | tup hs ha => exact .tup hs (RFs.pure ha (by simpa [pure0] using p))
  | _, .dict _, h, _ => by cases h
theorem RFs.pure {K : PySem.W.Frag} {F F' : Addr → Prop} {H : Hp} : ∀ {vs : List V} {ds : List PyData}, RFs K F H vs ds → pure0s ds = true → RFs K F' H vs ds
  | _, [], h, _ => by cases h; exact .nil
  | _, d :: ds, h, p => by
    cases h with
    | cons h1 h2 =>
      simp only [pure0s, Bool.and_eq_true] at p
      exact .cons (RF.pure h1 p.1) (RFs.pure h2 p.2)
end
section
variable {K : PySem.W.Frag} {mg : Str → Option Value} {B : WX} {b : Bs} {F F1 F2 F' : Addr → Prop} {l l1 l2 l' : L} {σ σ1 σ2 σ' : St} {H H0 H1 H2 H' : Hp} {bs : List Bool} {os : List Opd} {as as' : List Sl} {vs : List V}
theorem argOf_true {o : Opd} {s : Sl} (h : argOf l true o = some s) : ∃ i, o = .s i := by
  cases o with
  | s i => exact ⟨i, rfl⟩
  | v d => cases h
  | t d => cases h
theorem okArgs_ne (ok : okArgs (mutS bs os) (lentS bs os) = true) {i : Nat} (h1 : i ∈ mutS bs os) (h2 : i ∈ lentS bs os) : False := by
  unfold okArgs at ok
  rw [Bool.and_eq_true, List.all_eq_true] at ok
  have := ok.2 i h1
  simp [h2] at this
theorem okArgs_d (ok : okArgs (mutS bs os) (lentS bs os) = true) : distinct (mutS bs os) = true := by
  unfold okArgs at ok
  rw [Bool.and_eq_true] at ok
  exact ok.1
theorem args_rel (rl : Rel K F l σ H) (ro : ROps K F l σ H os vs) (ea : argsOf l bs os = some as) (ok : okArgs (mutS bs os) (lentS bs os) = true) : Rel K (lentF F l σ bs os vs) as (vs.map some) H := by
  obtain ⟨n1, n2, at1⟩ := argsOf_at ea
  have up : ∀ a, F a → lentF F l σ bs os vs a := fun a z => .inl z
  refine ⟨by rw [List.length_map, n1, ro.length], fun j s e => ?_, fun j k s t a e1 e2 o1 o2 e3 e4 => ?_, fun a z => ?_⟩
  · obtain ⟨m, o, h1, h2, h3⟩ := at1 j s e
    obtain ⟨v, g1, g2, g3⟩ := ro.at' h2
    have ev : (vs.map some)[j]? = some (some v) := by rw [List.getElem?_map, g1]; rfl
    rw [ev]
    cases m with
    | true =>
      obtain ⟨i, rfl⟩ := argOf_true h3
      have own : ∀ (t : Sl) (d : PyData), l[i]? = some t → t.ownish = true → t.get = some d → ∃ a, some (some v) = some (some (V.ref a)) ∧ ¬ lentF F l σ bs os vs a ∧ RT K (lentF F l σ bs os vs) H d a := fun t d hl ht hg => by
        obtain ⟨a, d', ea, nf, q, eg⟩ := (rl.at' i t hl).ref ht
        rw [hg] at eg; cases eg
        rw [g2.1] at ea
        refine ⟨a, by simpa using ea, fun z => ?_, q.keep (Keeps.up up) rfl⟩
        have mi : Mine l σ a := ⟨i, t, hl, ht, by rw [g2.1]; exact ea⟩
        rcases z with z | ⟨i', hi', u, hu, hou, hvu, _⟩ | ⟨xs, hz⟩
        · exact nf z
        · have := rl.inj i i' t u a hl hu ht hou (by rw [g2.1]; exact ea) hvu
          subst this
          exact okArgs_ne ok (mem_mutS h1 h2) hi'
        · obtain ⟨a', ea', _, nm, _⟩ := ro.zmem _ hz
          cases ea'
          exact nm mi
      rcases argOf_own h3 with ⟨d, rfl, hl⟩ | ⟨d, rfl, hl⟩
      · exact own _ d hl rfl rfl
      · exact own _ d hl rfl rfl
    | false =>
      cases o with
      | v d => cases h3; exact ⟨v, rfl, RF.up g2 up⟩
      | t d =>
        cases d with
        | list xs =>
          cases h3
          obtain ⟨a, rfl, nf, nm, q⟩ := g2
          cases q with
          | lst e q => exact ⟨.ref a, rfl, .lst (.inr (.inr ⟨xs, g3⟩)) (.inl e) (q.keep (Keeps.up up))⟩
        | _ => cases h3
      | s i =>
        obtain ⟨d, rfl, t, hl, hg, hk⟩ := argOf_read h3
        have okt := rl.at' i t hl
        rcases hk with ⟨e', rfl⟩ | ⟨ht, xs, rfl⟩
        · cases hg
          obtain ⟨x, ex, q⟩ := okt
          rw [g2.1] at ex; cases ex
          exact ⟨v, rfl, RF.up q up⟩
        · obtain ⟨a, d', ea, nf, q, eg⟩ := okt.ref ht
          rw [hg] at eg; cases eg
          rw [g2.1] at ea; cases ea
          cases q with
          | lst e q => exact ⟨.ref a, rfl, .lst (.inr (.inl ⟨i, mem_lentS h1 h2, t, hl, ht, g2.1, xs, hg⟩)) (.inl e) (q.keep (Keeps.up up))⟩
  · have get : ∀ (j : Nat) (s : Sl), as[j]? = some s → s.ownish = true → (vs.map some)[j]? = some (some (.ref a)) → ∃ (i : Nat) (t : Sl), bs[j]? = some true ∧ os[j]? = some (.s i) ∧ l[i]? = some t ∧ t.ownish = true ∧ σ[i]? = some (some (.ref a)) := fun j s e os' ev => by
      obtain ⟨m, o, h1, h2, h3⟩ := at1 j s e
      obtain ⟨v, g1, g2, g3⟩ := ro.at' h2
      rw [List.getElem?_map, g1] at ev
      cases ev
      cases m with
      | true =>
        obtain ⟨i, rfl⟩ := argOf_true h3
        rcases argOf_own h3 with ⟨d, _, hl⟩ | ⟨d, _, hl⟩
        · exact ⟨i, _, h1, h2, hl, rfl, g2.1⟩
        · exact ⟨i, _, h1, h2, hl, rfl, g2.1⟩
      | false =>
        cases o with
        | v d => cases h3; cases os'
        | t d => cases d <;> first | (cases h3; cases os'; done) | cases h3
        | s i => obtain ⟨d, rfl, _⟩ := argOf_read h3; cases os'
    obtain ⟨i, t1, p1, p2, p3, p4, p5⟩ := get j s e1 o1 e3
    obtain ⟨i', t2, q1, q2, q3, q4, q5⟩ := get k t e2 o2 e4
    have := rl.inj i i' t1 t2 a p3 q3 p4 q4 p5 q5
    subst this
    exact mutS_inj (okArgs_d ok) p1 p2 q1 q2
  · rcases z with z | ⟨i, hi, t, hl, ht, hv, xs, hg⟩ | ⟨xs, hz⟩
    · exact rl.frz a z
    · obtain ⟨a', d', ea, nf, q, eg⟩ := (rl.at' i t hl).ref ht
      rw [hg] at eg; cases eg
      rw [hv] at ea; cases ea
      cases q with | lst e _ => exact ⟨_, .inl e⟩
    · obtain ⟨a', ea', _, nm, q⟩ := ro.zmem _ hz
      cases ea'
      cases q with | lst e _ => exact ⟨_, .inl e⟩
/-- the slots behind the call -/
theorem mutS_at : ∀ {bs : List Bool} {os : List Opd} {i : Nat}, i ∈ mutS bs os → ∃ j : Nat, bs[j]? = some true ∧ os[j]? = some (.s i)
  | [], os, i, h => by cases os <;> simp [mutS] at h
  | m :: bs, [], i, h => by cases m <;> simp [mutS] at h
  | m :: bs, o :: os, i, h => by
    have tail : i ∈ mutS bs os → ∃ j : Nat, (m :: bs)[j]? = some true ∧ (o :: os)[j]? = some (.s i) := fun h => by
      obtain ⟨j, h1, h2⟩ := mutS_at h
      exact ⟨j + 1, by simpa using h1, by simpa using h2⟩
    cases m with
    | false => exact tail (by cases o <;> simpa [mutS] using h)
    | true =>
      cases o with
      | s k =>
        rcases List.mem_cons.mp (by simpa [mutS] using h : i ∈ k :: mutS bs os) with e | e
        · subst e; exact ⟨0, rfl, rfl⟩
        · exact tail e
      | v _ => exact tail (by simpa [mutS] using h)
      | t _ => exact tail (by simpa [mutS] using h)
theorem backS_at : ∀ {bs : List Bool} {os : List Opd} {as' : List Sl} {l l1 : L}, backS bs os as' l = some l1 → distinct (mutS bs os) = true → l1.length = l.length ∧ (∀ i, i ∉ mutS bs os → l1[i]? = l[i]?) ∧ ∀ j i : Nat, bs[j]? = some true → os[j]? = some (.s i) →
    ∃ d, as'[j]? = some (.bor d) ∧ ((l1[i]? = some (.own d) ∧ ∃ c, l[i]? = some (.own c)) ∨ (l1[i]? = some (.bor d) ∧ ∃ c, l[i]? = some (.bor c)))
  | [], [], [], l, l1, e, hd => by cases e; exact ⟨rfl, fun _ _ => rfl, fun j i h => by simp at h⟩
  | [], [], a :: as', l, l1, e, hd => by simp [backS] at e
  | [], o :: os, as', l, l1, e, hd => by simp [backS] at e
  | m :: bs, [], as', l, l1, e, hd => by cases m <;> simp [backS] at e
  | m :: bs, o :: os, [], l, l1, e, hd => by cases m <;> cases o <;> simp [backS] at e
  | false :: bs, o :: os, a :: as', l, l1, e, hd => by
    have e : backS bs os as' l = some l1 := by cases o <;> simpa [backS] using e
    have hm : mutS (false :: bs) (o :: os) = mutS bs os := by cases o <;> rfl
    rw [hm] at hd ⊢
    obtain ⟨h1, h2, h3⟩ := backS_at e hd
    refine ⟨h1, h2, fun j i g1 g2 => ?_⟩
    cases j with
    | zero => cases g1
    | succ j => simpa using h3 j i (by simpa using g1) (by simpa using g2)
  | true :: bs, .v _ :: os, a :: as', l, l1, e, hd => by cases a <;> simp [backS] at e
  | true :: bs, .t _ :: os, a :: as', l, l1, e, hd => by cases a <;> simp [backS] at e
  | true :: bs, .s k :: os, a :: as', l, l1, e, hd => by
    have hm : mutS (true :: bs) (.s k :: os) = k :: mutS bs os := rfl
    rw [hm] at hd ⊢
    simp only [distinct, Bool.and_eq_true, Bool.not_eq_true'] at hd
    have hk : k ∉ mutS bs os := fun z => by simp [z] at hd
    cases a with
    | bor d =>
      have go : ∀ t, (∃ c, l[k]? = some c) → backS bs os as' (l.set k t) = some l1 → l1.length = l.length ∧ (∀ i, i ∉ k :: mutS bs os → l1[i]? = l[i]?) ∧ l1[k]? = some t ∧ ∀ j i : Nat, bs[j]? = some true → os[j]? = some (.s i) →
          ∃ d, as'[j]? = some (.bor d) ∧ ((l1[i]? = some (.own d) ∧ ∃ c, l[i]? = some (.own c)) ∨ (l1[i]? = some (.bor d) ∧ ∃ c, l[i]? = some (.bor c))) := fun t ⟨c, hc⟩ e => by
        obtain ⟨h1, h2, h3⟩ := backS_at e hd.2
        have hlk : k < l.length := (List.getElem?_eq_some_iff.mp hc).1
        refine ⟨by rw [h1, List.length_set], fun i hi => ?_, by rw [h2 k hk]; exact List.getElem?_set_self hlk, fun j i g1 g2 => ?_⟩
        · simp only [List.mem_cons, not_or] at hi
          rw [h2 i hi.2, List.getElem?_set_ne (fun z => hi.1 z.symm)]
        · have ne : k ≠ i := fun z => hk (z ▸ mem_mutS g1 g2)
          obtain ⟨d, q1, q2⟩ := h3 j i g1 g2
          rw [List.getElem?_set_ne ne] at q2
          exact ⟨d, q1, q2⟩
      have e : (match l.getD k .non with
        | .own _ => backS bs os as' (l.set k (.own d))
        | .bor _ => backS bs os as' (l.set k (.bor d))
        | _ => none) = some l1 := e
      cases es : l.getD k .non with
      | own c =>
        have hc := getD_at es (by simp)
        rw [es] at e
        obtain ⟨h1, h2, h3, h4⟩ := go (.own d) ⟨_, hc⟩ e
        refine ⟨h1, h2, fun j i g1 g2 => ?_⟩
        cases j with
        | zero => cases g2; exact ⟨d, rfl, .inl ⟨h3, c, hc⟩⟩
        | succ j => simpa using h4 j i (by simpa using g1) (by simpa using g2)
      | bor c =>
        have hc := getD_at es (by simp)
        rw [es] at e
        obtain ⟨h1, h2, h3, h4⟩ := go (.bor d) ⟨_, hc⟩ e
        refine ⟨h1, h2, fun j i g1 g2 => ?_⟩
        cases j with
        | zero => cases g2; exact ⟨d, rfl, .inr ⟨h3, c, hc⟩⟩
        | succ j => simpa using h4 j i (by simpa using g1) (by simpa using g2)
      | non => rw [es] at e; cases e
      | frz _ => rw [es] at e; cases e
      | lck _ _ => rw [es] at e; cases e
    | non => simp [backS] at e
    | frz _ => simp [backS] at e
    | own _ => simp [backS] at e
    | lck _ _ => simp [backS] at e
/-- what a frozen slot was -/
def FrzOf (t : Sl) (d : PyData) : Prop := t = .frz d ∨ (t.ownT = true ∧ t.get = some d ∧ ∃ xs, d = .list xs)
theorem frzS_at (i : Nat) : (∃ d t, frzS i l = .ok d (l.set i (.frz d)) ∧ l[i]? = some t ∧ FrzOf t d) ∨ frzS i l = .stk := by
  unfold frzS
  cases e : l.getD i .non with
  | non => exact .inr rfl
  | bor _ => exact .inr rfl
  | frz d =>
    have hi := getD_at e (by simp)
    refine .inl ⟨d, _, ?_, hi, .inl rfl⟩
    have : l.set i (.frz d) = l := by
      apply List.ext_getElem?
      intro j
      by_cases z : i = j
      · subst z
        rw [List.getElem?_set_self (List.getElem?_eq_some_iff.mp hi).1, hi]
      · rw [List.getElem?_set_ne z]
    rw [this]
  | own d => cases d <;> first | exact .inr rfl | exact .inl ⟨_, _, rfl, getD_at e (by simp), .inr ⟨rfl, rfl, _, rfl⟩⟩
  | lck c d => cases c <;> cases d <;> first | exact .inr rfl | exact .inl ⟨_, _, rfl, getD_at e (by simp), .inr ⟨rfl, rfl, _, rfl⟩⟩
theorem frzAll_at : ∀ (is : List Nat) (l : L), (∃ l2, frzAll is l = .ok () l2 ∧ l2.length = l.length ∧ ∀ i, (i ∉ is → l2[i]? = l[i]?) ∧ (i ∈ is → ∃ d t, l2[i]? = some (.frz d) ∧ l[i]? = some t ∧ FrzOf t d)) ∨ frzAll is l = .stk
  | [], l => .inl ⟨l, rfl, rfl, fun i => ⟨fun _ => rfl, fun h => by simp at h⟩⟩
  | k :: is, l => by
    have hL : frzAll (k :: is) l = (bd (frzS k) fun _ => frzAll is) l := rfl
    rcases frzS_at (l := l) k with ⟨d, t, e, ht, hf⟩ | e
    · rcases frzAll_at is (l.set k (.frz d)) with ⟨l2, e2, h1, h2⟩ | e2
      · have hk : k < l.length := (List.getElem?_eq_some_iff.mp ht).1
        refine .inl ⟨l2, by rw [hL, bd_ok e]; exact e2, by rw [h1, List.length_set], fun i => ⟨fun hi => ?_, fun hi => ?_⟩⟩
        · simp only [List.mem_cons, not_or] at hi
          rw [(h2 i).1 hi.2, List.getElem?_set_ne (fun z => hi.1 z.symm)]
        · by_cases z : i = k
          · subst z
            by_cases hm : i ∈ is
            · obtain ⟨d', t', g1, g2, g3⟩ := (h2 i).2 hm
              rw [List.getElem?_set_self hk] at g2
              cases g2
              rcases g3 with g3 | ⟨g3, _⟩
              · cases g3; exact ⟨d, t, g1, ht, hf⟩
              · cases g3
            · exact ⟨d, t, by rw [(h2 i).1 hm]; exact List.getElem?_set_self hk, ht, hf⟩
          · have hm : i ∈ is := by
              rcases List.mem_cons.mp hi with q | q
              · exact absurd q z
              · exact q
            obtain ⟨d', t', g1, g2, g3⟩ := (h2 i).2 hm
            rw [List.getElem?_set_ne (fun q => z q.symm)] at g2
            exact ⟨d', t', g1, g2, g3⟩
      · exact .inr (by rw [hL, bd_ok e]; exact e2)
    · exact .inr (by rw [hL, bd_stk e])
/-- no object of the caller but the borrowed ones is the callee's -/
theorem args_own (ro : ROps K F l σ H os vs) (ea : argsOf l bs os = some as) {a : Addr} (h : ∃ (j : Nat) (s : Sl), as[j]? = some s ∧ s.ownish = true ∧ (vs.map some)[j]? = some (some (.ref a))) : ∃ (j i : Nat) (t : Sl), bs[j]? = some true ∧ os[j]? = some (.s i) ∧ l[i]? = some t ∧ t.mut = true ∧ σ[i]? = some (some (.ref a)) := by
  obtain ⟨j, s, e, os', ev⟩ := h
  obtain ⟨n1, n2, at1⟩ := argsOf_at ea
  obtain ⟨m, o, h1, h2, h3⟩ := at1 j s e
  obtain ⟨v, g1, g2, g3⟩ := ro.at' h2
  rw [List.getElem?_map, g1] at ev
  cases ev
  cases m with
  | true =>
    obtain ⟨i, rfl⟩ := argOf_true h3
    rcases argOf_own h3 with ⟨d, _, hl⟩ | ⟨d, _, hl⟩
    · exact ⟨j, i, _, h1, h2, hl, rfl, g2.1⟩
    · exact ⟨j, i, _, h1, h2, hl, rfl, g2.1⟩
  | false =>
    cases o with
    | v d => cases h3; cases os'
    | t d => cases d <;> first | (cases h3; cases os'; done) | cases h3
    | s i => obtain ⟨d, rfl, _⟩ := argOf_read h3; cases os'
theorem args_noT (ea : argsOf l bs os = some as) {a : Addr} {τ : St} : ¬ OwnT as τ a := fun ⟨j, s, e, hs, _⟩ => by
  obtain ⟨n1, n2, at1⟩ := argsOf_at ea
  obtain ⟨m, o, h1, h2, h3⟩ := at1 j s e
  cases m with
  | true =>
    obtain ⟨i, rfl⟩ := argOf_true h3
    rcases argOf_own h3 with ⟨d, rfl, hl⟩ | ⟨d, rfl, hl⟩ <;> cases hs
  | false =>
    cases o with
    | v d => cases h3; cases hs
    | t d => cases d <;> first | (cases h3; cases hs; done) | cases h3
    | s i => obtain ⟨d, rfl, _⟩ := argOf_read h3; cases hs
/-- the caller behind the call, all that was lent frozen -/
theorem call_back (rl : Rel K F l σ H) (s : b.to F l σ H) (ro : ROps K F l σ H os vs) (nw : NewOs b.H os vs) (ea : argsOf l bs os = some as) (ok : okArgs (mutS bs os) (lentS bs os) = true)
    (r' : Rel K F' as' σ' H') (s' : Step (lentF F l σ bs os vs) as (vs.map some) H F' as' σ' H') (eb : backS bs os as' l = some l1) (ef : frzAll (lentS bs os) l1 = .ok () l2) : Rel K F' l2 σ H' ∧ b.to F' l2 σ H' ∧ ∀ a, Mine l2 σ a → Mine l σ a := by
  have ra := args_rel rl ro ea ok
  obtain ⟨bl, bo, bi⟩ := backS_at eb (okArgs_d ok)
  have fz : l2.length = l1.length ∧ ∀ i, (i ∉ lentS bs os → l2[i]? = l1[i]?) ∧ (i ∈ lentS bs os → ∃ d t, l2[i]? = some (.frz d) ∧ l1[i]? = some t ∧ FrzOf t d) := by
    rcases frzAll_at (lentS bs os) l1 with ⟨l2', e, h⟩ | e
    · rw [ef] at e; cases e; exact h
    · rw [ef] at e; cases e
  obtain ⟨fl, fi⟩ := fz
  -- what each slot is
  have at2 : ∀ (i : Nat) (t : Sl), l2[i]? = some t → (∃ (j : Nat) (d : PyData), bs[j]? = some true ∧ os[j]? = some (.s i) ∧ as'[j]? = some (.bor d) ∧ ((t = .own d ∧ ∃ c, l[i]? = some (.own c)) ∨ (t = .bor d ∧ ∃ c, l[i]? = some (.bor c)))) ∨ (∃ d u, t = .frz d ∧ l[i]? = some u ∧ FrzOf u d ∧ i ∈ lentS bs os) ∨ (l[i]? = some t ∧ i ∉ mutS bs os ∧ i ∉ lentS bs os) := fun i t e => by
    by_cases hl : i ∈ lentS bs os
    · obtain ⟨d, u, g1, g2, g3⟩ := (fi i).2 hl
      rw [e] at g1; cases g1
      rw [bo i fun z => okArgs_ne ok z hl] at g2
      exact .inr (.inl ⟨d, u, rfl, g2, g3, hl⟩)
    · rw [(fi i).1 hl] at e
      by_cases hm : i ∈ mutS bs os
      · obtain ⟨j, h1, h2⟩ := mutS_at hm
        obtain ⟨d, q1, q2⟩ := bi j i h1 h2
        refine .inl ⟨j, d, h1, h2, q1, ?_⟩
        rcases q2 with ⟨q2, q3⟩ | ⟨q2, q3⟩
        · rw [e] at q2; exact .inl ⟨Option.some.inj q2, q3⟩
        · rw [e] at q2; exact .inr ⟨Option.some.inj q2, q3⟩
      · rw [bo i hm] at e
        exact .inr (.inr ⟨e, hm, hl⟩)
  have sub : ∀ {p : Sl → Bool}, (∀ d, p (.frz d) = false) → (∀ d c, p (.own d) = p (.own c)) → (∀ d c, p (.bor d) = p (.bor c)) → ∀ (i : Nat) (t : Sl), l2[i]? = some t → p t = true → ∃ u, l[i]? = some u ∧ p u = true := fun hf ho hb i t e hp => by
    rcases at2 i t e with ⟨j, d, _, _, _, ⟨rfl, c, hc⟩ | ⟨rfl, c, hc⟩⟩ | ⟨d, u, rfl, _⟩ | ⟨e, _⟩
    · exact ⟨_, hc, by rw [ho c d]; exact hp⟩
    · exact ⟨_, hc, by rw [hb c d]; exact hp⟩
    · rw [hf] at hp; cases hp
    · exact ⟨t, e, hp⟩
  have subA : ∀ {p : Sl → Bool}, (∀ d, p (.frz d) = false) → (∀ d c, p (.own d) = p (.own c)) → (∀ d c, p (.bor d) = p (.bor c)) → ∀ {a : Addr}, (∃ (i : Nat) (t : Sl), l2[i]? = some t ∧ p t = true ∧ σ[i]? = some (some (.ref a))) → ∃ (i : Nat) (t : Sl), l[i]? = some t ∧ p t = true ∧ σ[i]? = some (some (.ref a)) := by
    intro p hf ho hb a h
    obtain ⟨i, t, h1, h2, h3⟩ := h
    obtain ⟨u, g1, g2⟩ := sub hf ho hb i t h1 h2
    exact ⟨i, u, g1, g2, h3⟩
  have nown : ∀ (i : Nat) (t : Sl) (a : Addr), l[i]? = some t → t.ownish = true → σ[i]? = some (some (.ref a)) → i ∉ mutS bs os → ¬ Mine as (vs.map some) a := fun i t a hl ht hv hm z => by
    obtain ⟨j, i', u, h1, h2, h3, h4, h5⟩ := args_own ro ea z
    have := rl.inj i i' t u a hl h3 ht (Sl.mut_ownish h4) hv h5
    subst this
    exact hm (mem_mutS h1 h2)
  have upF : ∀ a, F a → F' a := fun a z => s'.up a (.inl z)
  have ownsub : ∀ a, Own as (vs.map some) a → Own l σ a := fun a z => by
    obtain ⟨j, s0, h1, h2, h3⟩ := z
    obtain ⟨_, i, t, _, _, h4, h5, h6⟩ := args_own ro ea ⟨j, s0, h1, Sl.mut_ownish h2, h3⟩
    exact ⟨i, t, h4, h5, h6⟩
  refine ⟨⟨by rw [fl, bl]; exact rl.len, fun i t e => ?_, fun i j t u a e1 e2 o1 o2 e3 e4 => ?_, r'.frz⟩, ⟨fun a o e n => ?_, fun a o e => ?_, fun a z => ?_, fun a z => ?_, fun a z => upF a (s.up a z), fun a z => ?_, fun a z => ?_, fun i a ⟨t, h1, h2, h3⟩ => ?_, fun i a ⟨t, h1, h2, h3⟩ => ?_⟩, fun a z => ?_⟩
  · rcases at2 i t e with ⟨j, d, h1, h2, h3, h4⟩ | ⟨d, u, rfl, hu, hf, hl⟩ | ⟨hl, hm, hn⟩
    · obtain ⟨a, ev, nf, q⟩ := r'.at' j _ h3
      obtain ⟨w, w1, w2, w3⟩ := s'.bor j a ⟨_, h3, rfl, ev⟩
      obtain ⟨v, g1, g2, g3⟩ := ro.at' h2
      rw [List.getElem?_map, g1] at w3
      cases w3
      rcases h4 with ⟨rfl, _⟩ | ⟨rfl, _⟩ <;> exact ⟨a, g2.1, nf, q⟩
    · have oku := rl.at' i u hu
      rcases hf with rfl | ⟨ho, hg, xs, rfl⟩
      · obtain ⟨x, ex, q⟩ := oku
        exact ⟨x, ex, s'.rf ra (RF.up q fun a z => .inl z)⟩
      · obtain ⟨a, d', ea', nf, q, eg⟩ := oku.ref (Sl.ownT_ownish ho)
        rw [hg] at eg; cases eg
        cases q with
        | lst e q =>
          refine ⟨.ref a, ea', s'.rf ra (.lst (.inr (.inl ⟨i, hl, u, hu, Sl.ownT_ownish ho, ea', xs, hg⟩)) (.inl e) (q.keep (Keeps.up fun a z => .inl z)))⟩
    · have okt := rl.at' i t hl
      have ow : ∀ (d : PyData), t.ownish = true → (∃ a, σ[i]? = some (some (.ref a)) ∧ ¬ F a ∧ RT K F H d a) → ∃ a, σ[i]? = some (some (.ref a)) ∧ ¬ F' a ∧ RT K F' H' d a := fun d ht ⟨a, e1, nf, q⟩ => by
        have na := nown i t a hl ht e1 hm
        obtain ⟨o, ho, _⟩ := q.there
        have nl : ¬ lentF F l σ bs os vs a := fun z => by
          rcases z with z | ⟨i', hi', u, hu, hou, hvu, _⟩ | ⟨xs, hz⟩
          · exact nf z
          · have := rl.inj i i' t u a hl hu ht hou e1 hvu
            subst this
            exact hn hi'
          · obtain ⟨a', ea', _, nm, _⟩ := ro.zmem _ hz
            cases ea'
            exact nm ⟨i, t, hl, ht, e1⟩
        refine ⟨a, e1, fun z => ?_, s'.rt ra (q.keep (Keeps.up fun a z => .inl z) rfl) fun z => na z.mine⟩
        rcases s'.down a z with y | y | y
        · exact nl y
        · exact na y
        · rw [ho] at y; cases y
      cases t with
      | non => trivial
      | frz d => obtain ⟨x, e1, q⟩ := okt; exact ⟨x, e1, s'.rf ra (RF.up q fun a z => .inl z)⟩
      | own d => exact ow d rfl okt
      | bor d => exact ow d rfl okt
      | lck c d => exact ow d rfl okt
  · obtain ⟨t', g1, g2⟩ := sub (p := Sl.ownish) (fun _ => rfl) (fun _ _ => rfl) (fun _ _ => rfl) i t e1 o1
    obtain ⟨u', k1, k2⟩ := sub (p := Sl.ownish) (fun _ => rfl) (fun _ _ => rfl) (fun _ _ => rfl) j u e2 o2
    exact rl.inj i j t' u' a g1 k1 g2 k2 e3 e4
  · have q := s.frame a o e n
    refine s'.frame a o q fun z => n ?_
    rcases s.own a (ownsub a z) with y | y
    · exact y
    · rw [y] at e; cases e
  · obtain ⟨o', q⟩ := s.there a o e
    exact s'.there a o' q
  · exact s.own a (subA (p := Sl.mut) (fun _ => rfl) (fun _ _ => rfl) (fun _ _ => rfl) z)
  · exact s.mine a (subA (p := Sl.ownish) (fun _ => rfl) (fun _ _ => rfl) (fun _ _ => rfl) z)
  · rcases s'.down a z with y | y | y
    · rcases y with y | ⟨i, _, t, h1, h2, h3, _⟩ | ⟨xs, hz⟩
      · exact s.down a y
      · rcases s.mine a ⟨i, t, h1, h2, h3⟩ with x | x
        · exact .inr (.inl x)
        · exact .inr (.inr x)
      · exact .inr (.inr (nw _ hz a rfl))
    · obtain ⟨j, i, t, _, _, h3, h4, h5⟩ := args_own ro ea y
      rcases s.mine a ⟨i, t, h3, Sl.mut_ownish h4, h5⟩ with x | x
      · exact .inr (.inl x)
      · exact .inr (.inr x)
    · exact .inr (.inr (s.none_of y))
  · exact s.ownT a (subA (p := Sl.ownT) (fun _ => rfl) (fun _ _ => rfl) (fun _ _ => rfl) z)
  · obtain ⟨u, g1, g2⟩ := sub (p := Sl.borT) (fun _ => rfl) (fun _ _ => rfl) (fun _ _ => rfl) i t h1 h2
    exact s.bor i a ⟨u, g1, g2, h3⟩
  · obtain ⟨u, g1, g2⟩ := sub (p := Sl.lckT) (fun _ => rfl) (fun _ _ => rfl) (fun _ _ => rfl) i t h1 h2
    exact s.lck i a ⟨u, g1, g2, h3⟩
  · exact subA (p := Sl.ownish) (fun _ => rfl) (fun _ _ => rfl) (fun _ _ => rfl) z
/-- the caller behind a call that borrowed nothing and gives nothing with a list in it -/
theorem call_pure (rl : Rel K F l σ H) (s : b.to F l σ H) (ro : ROps K F l σ H os vs) (ea : argsOf l bs os = some as) (ok : okArgs (mutS bs os) (lentS bs os) = true) (hm : mutS bs os = [])
    (s' : Step (lentF F l σ bs os vs) as (vs.map some) H F' as' σ' H') : Rel K F l σ H' ∧ b.to F l σ H' := by
  have ra := args_rel rl ro ea ok
  have none : ∀ a, ¬ Mine as (vs.map some) a := fun a z => by
    obtain ⟨j, i, t, h1, h2, _⟩ := args_own ro ea z
    have := mem_mutS h1 h2
    rw [hm] at this
    simp at this
  have fr : ∀ a o, H a = some o → H' a = some o := fun a o e => s'.frame a o e fun z => none a z.mine
  have kp : Keeps K F F H H' := ⟨fun a vs hF q => ⟨hF, by
      rcases q with q | ⟨u, q⟩
      · exact .inl (fr _ _ q)
      · exact .inr ⟨u, fr _ _ q⟩⟩, fun a vs q => by
      rcases q with ⟨u, q, hd⟩ | q
      · exact .inl ⟨u, fr _ _ q, hd⟩
      · exact .inr q⟩
  have rt : ∀ {d : PyData} {a : Addr}, RT K F H d a → RT K F H' d a := fun q => by
    obtain ⟨o, ho, _⟩ := q.there
    exact q.keep kp (by rw [ho, fr _ _ ho])
  refine ⟨⟨rl.len, fun i t e => ?_, rl.inj, fun a hF => ?_⟩, ⟨fun a o e n => fr _ _ (s.frame a o e n), fun a o e => ?_, s.own, s.mine, s.up, s.down, s.ownT, s.bor, s.lck⟩⟩
  · have k := rl.at' i t e
    cases t with
    | non => trivial
    | frz d => obtain ⟨x, e1, q⟩ := k; exact ⟨x, e1, q.keep kp⟩
    | own d => obtain ⟨c, e1, n, q⟩ := k; exact ⟨c, e1, n, rt q⟩
    | bor d => obtain ⟨c, e1, n, q⟩ := k; exact ⟨c, e1, n, rt q⟩
    | lck x d => obtain ⟨c, e1, n, q⟩ := k; exact ⟨c, e1, n, rt q⟩
  · obtain ⟨ws, q⟩ := rl.frz a hF
    exact ⟨ws, (kp.lst a ws hF q).2⟩
  · obtain ⟨o', q⟩ := s.there a o e
    exact ⟨o', fr _ _ q⟩
/-- a call's run -/
theorem call_run {f : FSem} {n : Nat} {Q0 : Opd → (Addr → Prop) → L → Hp → Prop} {Q : VK} (rl : Rel K F l σ H) (s : b.to F l σ H) (ro : ROps K F l σ H os vs) (nw : NewOs b.H os vs) (hn : os.length = n)
    (h : Run K mg B b (callM f bs os) l σ Q0) (k : ∀ o F' l' H' v, Rel K F' l' σ H' → b.to F' l' σ H' → ROp K F' l' σ H' o v → NewO b.H o v → Q0 o F' l' H' → Q v H') : spD K mg n f vs H Q (fun c d H' => B c d σ H') := by
  refine ⟨by rw [← ro.length, hn], ?_⟩
  have hcall : ∀ as, okArgs (mutS bs os) (lentS bs os) = true → argsOf l bs os = some as → callM f bs os l = afterC bs os l (f as) := fun as h1 h2 => by
    unfold callM
    rw [if_pos h1, h2]
  by_cases ok : okArgs (mutS bs os) (lentS bs os) = true
  · cases ea : argsOf l bs os with
    | none =>
      exfalso
      refine h.there ?_
      unfold callM
      rw [if_pos ok, ea]
    | some as =>
      have ec := hcall as ok ea
      refine ⟨lentF F l σ bs os vs, as, args_rel rl ro ea ok, ?_⟩
      unfold RunF
      cases ef : f as with
      | stk =>
        refine h.there ?_
        rw [ec, ef]; rfl
      | err x as' =>
        intro F' σ' H' c d r' s' xr
        have e0 : callM f bs os l = afterE bs os l x as' := by rw [ec, ef]; rfl
        cases eb : backS bs os as' l with
        | none =>
          refine absurd ?_ h.there
          rw [e0]; unfold afterE; rw [eb]
        | some l1 =>
          have e1 : callM f bs os l = bd (frzAll (lentS bs os)) (fun _ l2 => R.err x l2) l1 := by rw [e0]; unfold afterE; rw [eb]
          rcases frzAll_at (lentS bs os) l1 with ⟨l2, e2, _⟩ | e2
          · obtain ⟨r2, s2, _⟩ := call_back rl s ro nw ea ok r' s' eb e2
            rw [bd_ok e2] at e1
            unfold Run at h
            rw [e1] at h
            exact h F' H' c d r2 s2 xr
          · refine absurd ?_ h.there
            rw [e1, bd_stk e2]
      | ok z as' =>
        intro F' σ' H' r' s' v ro' re
        have tnew : ∀ d, mkO z = .t d → ∀ a, v = .ref a → H a = none := fun d ez a ev => by
          rw [ez] at re
          rcases re a ev with y | y
          · exact absurd y (args_noT ea)
          · exact y
        have e0 : callM f bs os l = afterK bs os l z as' := by rw [ec, ef]; rfl
        cases eb : backS bs os as' l with
        | none =>
          refine absurd ?_ h.there
          rw [e0]; unfold afterK; rw [eb]
        | some l1 =>
          by_cases hp : ((mutS bs os).isEmpty && pure0 z.1) = true
          · have e1 : callM f bs os l = .ok (mkO z) l1 := by
              rw [e0]; unfold afterK; rw [eb]
              exact if_pos hp
            rw [Bool.and_eq_true, List.isEmpty_iff] at hp
            obtain ⟨hm, hz⟩ := hp
            obtain ⟨bl, bo, _⟩ := backS_at eb (okArgs_d ok)
            have el : l1 = l := by
              apply List.ext_getElem?
              intro i
              exact bo i (by rw [hm]; simp)
            subst el
            obtain ⟨r2, s2⟩ := call_pure rl s ro ea ok hm s'
            have q := h.ok e1 r2 s2
            obtain ⟨d, fresh⟩ := z
            cases fresh with
            | false =>
              have ro2 : RF K F' H' v d := ro'
              exact k (.v d) F l1 H' v r2 s2 (RF.pure ro2 hz) trivial q
            | true =>
              obtain ⟨a, _, _, _, q⟩ := ro'
              cases q <;> simp [pure0] at hz
          · have e1 : callM f bs os l = bd (frzAll (lentS bs os)) (fun _ => rt (mkO z)) l1 := by
              rw [e0]; unfold afterK; rw [eb]
              exact if_neg hp
            rcases frzAll_at (lentS bs os) l1 with ⟨l2, e2, _⟩ | e2
            · obtain ⟨r2, s2, sub⟩ := call_back rl s ro nw ea ok r' s' eb e2
              rw [bd_ok e2] at e1
              have q := h.ok e1 r2 s2
              obtain ⟨d, fresh⟩ := z
              cases fresh with
              | false => exact k (.v d) F' l2 H' v r2 s2 ro' trivial q
              | true =>
                obtain ⟨a, ev, nf, nm, qq⟩ := ro'
                have hn := tnew d rfl a ev
                refine k (.t d) F' l2 H' v r2 s2 ⟨a, ev, nf, fun z => rl.noMine hn (sub a z), qq⟩ (fun a' ea' => ?_) q
                rw [ev] at ea'; cases ea'
                exact s.none_of hn
            · refine absurd ?_ h.there
              rw [e1, bd_stk e2]
  · exfalso
    refine h.there ?_
    unfold callM
    rw [if_neg ok]
end
end L2.DL
/-! DLh: functions that are called while nothing is being shown (no repr below): what repr wants to know -/
namespace L2.DL
open PySem PySem.Spec PyProof.Rows
set_option maxHeartbeats 4000000
/-- a function's promise, from a stack without guards -/
structure FnG (P : Program) (w : World) (K : PySem.W.Frag) (mg : Str → Option Value) (base : Heap) (CX : CXT) (k : Nat) (f : Addr) (fd : FuncData) (ps : List Str) (sp : Sp) : Prop where
  few : ∀ vs H Q E, sp vs H Q E → vs.length = ps.length
  go : ∀ (A : Around) (up : List Env) (s : Shared) (H : Hp) (as : Args) (us : List Value) (vs : List V) (Q : VK) (E : XK), A.guards = some [] → Room k A → Env0 P w K mg base A up s H →
    BindsTo s fd as (ps.zip us) → Vals vs us → sp vs H Q E → codeAny (model P w) A (.call (.ref f) as) (CR CX up P w H s Q E) s
section
variable {P : Program} {w : World} {K : PySem.W.Frag} {mg : Str → Option Value} {base : Heap} {k : Nat} {f : Addr} {ps N : List Str} {sp : Sp}
theorem deeper_gd {A : Around} (env : Env) (h : A.guards = some []) : (A.deeper env).guards = some [] := by
  show A.guards = some []
  exact h
theorem fng_of {x qual : Str} {st : Stmt} {fd : FuncData} (F : Fun K x qual st f fd) (S : FnScope N ps (defScope st)) (few : ∀ vs H Q E, sp vs H Q E → vs.length = ps.length)
    (body : ∀ (cd : Value) (A : Around) (up : List Env) (s : Shared) (H : Hp) (vs : List V) (Q : VK) (E : XK), (A.deeper (envOfC qual (defScope st) s.heap.objs.size f cd)).guards = some [] → Room k (A.deeper (envOfC qual (defScope st) s.heap.objs.size f cd)) → sp vs H Q E →
      ∃ t, PSs (cxOf (L2.CX P w) P w K mg base N qual (defScope st) f cd A up s H E) (defBody st) t ∧ t { nx := fun _ H' => Q .non H', rt := Q } (start N vs) H) :
    FnG P w K mg base (L2.CX P w) (k + 1) f fd ps sp := by
  obtain ⟨oc, od, dk, doc, pm, an, cd, ct, sl, rfl, at', hcode⟩ := F.ex
  refine ⟨few, fun A up s H as us vs Q E gd room e0 bind rel want => ?_⟩
  have inK : K.In s.heap := e0.mod.kin.keeps fun b o e => (e0.bs b o e).1
  have noLim : s.heap.NoLimit := e0.mod.nolimit.keeps fun b o e => (e0.bs b o e).1
  have kinds : ∀ y ∈ ps.zip us, (defScope st).names.lookup y.1 = some .local ∨ ((defScope st).names.lookup y.1 = some .cell ∧ ((cellsFrom (s.heap.objs.size + 1) (defScope st).names []).lookup y.1).isSome = true) := by
    rintro ⟨n, v⟩ hy
    cases S.par n (List.of_mem_zip hy).1 with
    | inl q => exact Or.inl q
    | inr q => exact Or.inr ⟨q, PySem.W.cellsFrom_some _ _ _ (.inl q)⟩
  refine codeAny_call_function room.depth (inK _ _ at') rfl S.co S.gen rfl (PySem.W.codeRec_of inK hcode) (bind _ _ _ _ (wpAny_newFunctionEnv_cells S.kind kinds ?_))
  rintro env rfl s1 x
  refine ⟨noLim.keeps x.toInCall.keep, codeAny_func ?_⟩
  obtain ⟨t, run, ans⟩ := body cd A up s H vs Q E (deeper_gd _ gd) (room.deeper _) want
  have I : Inv (cxOf (L2.CX P w) P w K mg base N qual (defScope st) f cd A up s H E) [] (start N vs) H s1 := inv_start S room.hd e0 (few _ _ _ _ want) rel x
  have last : ∀ {σ' : St} {H' : Hp} {v : V} {u : Value} {s' : Shared}, Inv (cxOf (L2.CX P w) P w K mg base N qual (defScope st) f cd A up s H E) [] σ' H' s' → RelV v u → Q v H' → CE up P w H s Q u s' :=
    fun J r q => ⟨_, _, J.os, J.bare, J.base, J.hok, r, q⟩
  refine wpAny_mono (run.run [] s1 (start N vs) H _ I ans) ?_ fun _ _ z => z
  intro fl s' z
  cases fl with
  | ret u => obtain ⟨v, σ', H', J, r, q⟩ := z; exact last J r q
  | next => obtain ⟨σ', H', J, q⟩ := z; exact last (v := V.non) (u := Value.none) J rfl q
  | brk => obtain ⟨_, _, _, q⟩ := z; exact False.elim q
  | cont => obtain ⟨_, _, _, q⟩ := z; exact False.elim q
/-- the law's call -/
theorem call_lawG {mb : Str → Option Value} {CX : CXT} {fa a : Addr} {fd : FuncData} {x : Str} {s₁ : Shared} {vs : List Value} {ns : List Int}
    (inK : K.In s₁.heap) (nsM : s₁.heap.Ns mainGlobals mg) (nsB : s₁.heap.Ns builtinsNs mb) (boot : ∀ x : Str, x ≠ "__name__" → mb x = bootBuiltins x) (noLim : s₁.heap.NoLimit) (gens : s₁.gens = #[])
    (at' : s₁.heap.get? a = some { cls := .type "list", data := .seq vs.toArray }) (isInt : IntsAre vs ns) (few : ns.length ≤ sizeLine) (room : Room k callerA)
    (F : ∀ base : Heap, K.In base → base.Ns mainGlobals mg → FnG P w K mg base CX k fa fd [x] sp) (bind : ∀ (s : Shared) (u : Value), BindsTo s fd ⟨[u], []⟩ [(x, u)])
    (want : ∀ H : Hp, Only H → SqL K H a (ns.map V.int) → sp [.ref a] H (fun v _ => v = .bl true) fun _ _ _ => False) (none' : ∀ H e s', CX [] H s₁ (fun _ _ _ => False) e s' → False) :
    codeAny (model P w) callerA (.call (.ref fa) ⟨[.ref a], []⟩) (fun r s' => r = .ok (.ret (.bool true)) ∧ OldK s₁.heap s'.heap ∧ s'.os = s₁.os ∧ AllBare s'.gens) s₁ := by
  have vals := vals_ints isInt
  have lens := isInt.length
  -- over any abstract heap that holds the script alone
  have go : ∀ H : Hp, Only H → SqL K H a (ns.map V.int) → HOk P w H s₁.heap → (∀ b, H b ≠ none → b = a) → (H a ≠ none → K.lookup a = none) →
      codeAny (model P w) callerA (.call (.ref fa) ⟨[.ref a], []⟩) (fun r s' => r = .ok (.ret (.bool true)) ∧ OldK s₁.heap s'.heap ∧ s'.os = s₁.os ∧ AllBare s'.gens) s₁ := by
    intro H only sq ok one notK
    have nsOf : ∀ {b : Addr} {m : Str → Option Value}, s₁.heap.Ns b m → (hidT s₁.heap H).Ns b m := by
      rintro b m ⟨o, es, ep, e, d, r⟩
      refine ⟨o, es, ep, hidT_get e ?_, d, r⟩
      cases q : H b with
      | none => rfl
      | some u =>
        obtain rfl := one b (by rw [q]; simp)
        rw [at'] at e
        cases e
        cases (d : Data.seq vs.toArray _ = Data.dict es ep)
    have inB : K.In (hidT s₁.heap H) := by
      intro b o e
      refine hidT_get (inK b o e) ?_
      cases q : H b with
      | none => rfl
      | some u =>
        obtain rfl := one b (by rw [q]; simp)
        rw [notK (by rw [q]; simp)] at e
        cases e
    have lim : (hidT s₁.heap H).NoLimit := by
      obtain ⟨mc, h1, h2⟩ := noLim
      exact ⟨mc, nsOf h1, h2⟩
    have e0 : Env0 P w K mg (hidT s₁.heap H) callerA [] s₁ H :=
      ⟨rfl, ⟨inB, nsOf nsM, ⟨mb, nsOf nsB, boot⟩, lim⟩, fun b o e => of_hidT e, Nat.le_of_eq (hidT_size _ _), trivial, (fun b hb => absurd (show b ∈ ([] : List Addr) from hb) (by simp)), ok, .of_eq gens⟩
    have run := (F _ inB (nsOf nsM)).go callerA [] s₁ H ⟨[.ref a], []⟩ [.ref a] [.ref a] _ _ rfl room e0 (bind s₁ (.ref a)) (.cons rfl .nil) (want H only sq)
    refine codeAny_mono run ?_
    intro r s' h
    cases r with
    | error e => exact (none' H e s' h).elim
    | ok fl =>
      cases fl with
      | next => exact False.elim h
      | brk => exact False.elim h
      | cont => exact False.elim h
      | ret u =>
      obtain ⟨v, H', os, bare, un, ok', r', q⟩ := h
      obtain rfl : v = .bl true := q
      obtain rfl : u = Value.bool true := r'
      refine ⟨rfl, OldK.of_keep ?_, os, bare⟩
      intro b o e
      cases q : H b with
      | none => exact un.keep b o e q (by intro z; exact absurd (show b ∈ ([] : List Addr) from z) (by simp)) (by simp)
      | some u =>
        rcases only b with z | ⟨ob, xs, z⟩
        · rw [q] at z
          cases z
        · have e2 := (ok' b _ (un.frzs b ob _ z)).1
          have e1 := (ok b _ z).1
          rw [e] at e1
          cases e1
          exact e2
  cases hk : K.lookup a with
  | some o =>
    have e := inK a o hk
    rw [at'] at e
    cases e
    exact go (fun _ => none) (fun _ => .inl rfl) (.inr ⟨_, vs.toArray, _, hk, rfl, rfl, rfl, by rw [List.size_toArray, lens]; exact few, by simpa using vals⟩) (fun b u z => by cases (z : (none : Option HO) = some u)) (fun b z => absurd rfl z) (fun z => absurd rfl z)
  | none =>
    let S : HO := .frz { cls := .type "list", data := .seq vs.toArray } (.lst (ns.map V.int))
    let H : Hp := fun b => if b = a then some S else none
    have yes : H a = some S := if_pos rfl
    have no : ∀ {b}, b ≠ a → H b = none := fun n => if_neg n
    refine go H (fun b => ?_) (.inl (.inr ⟨_, yes⟩)) (fun b u z => ?_) (fun b z => ?_) fun _ => hk
    · by_cases n : b = a
      · subst n
        exact .inr ⟨_, _, yes⟩
      · exact .inl (no n)
    · by_cases n : b = a
      · subst n
        cases yes.symm.trans z
        exact ⟨at', by rw [List.length_map]; exact few, vs, _, vals, at'⟩
      · cases (no n).symm.trans z
    · by_cases n : b = a
      · exact n
      · exact absurd (no n) z
/-- the row's end -/
theorem walk_ofG {l : PySem.W.OpenLaw} {n k : Nat} {q : Program} {loose : List Str} {XP : (Str → Option Value) → Heap → Prop} {YP : World → Heap → Prop} {d : DefRec} {K : Params → PySem.W.Frag} {CX : World → CXT} {sp : World → Sp} {x : Str}
    (hn : l.most = some n) (hn2 : n ≤ sizeLine) (hdf : d.params.defaults = []) (hr : Room k callerA)
    (hY : ∀ (w : World) (h : Heap), YP w h → (K w.params).In h)
    (F : ∀ (w : World) (mg : Str → Option Value) (fa : Addr) (h : Heap), (K w.params).In h → h.Ns mainGlobals mg → mg d.name = some (.ref fa) →
      ∃ fd : FuncData, (∀ (s : Shared) (u : Value), BindsTo s fd ⟨[u], []⟩ [(x, u)]) ∧
        ∀ base : Heap, (K w.params).In base → base.Ns mainGlobals mg → FnG l.prog w (K w.params) mg base (CX w) k fa fd [x] (sp w))
    (hsp : ∀ (w : World) (H : Hp) (a : Addr) (ns : List Int), ns.length ≤ n → Only H → SqL (K w.params) H a (ns.map V.int) → sp w [.ref a] H (fun v _ => v = .bl true) fun _ _ _ => False)
    (hCX : ∀ (w : World) (H : Hp) (s : Shared) (e : Value) (s' : Shared), CX w [] H s (fun _ _ _ => False) e s' → False) :
    PySem.W.WalkO q loose XP YP l.row.toRowW d [] (fun f vs => PySem.call f vs) := by
  refine Att.attach_call hn hdf ?_
  intro w s₀ s₁ mg mb fa o pm cd doc a vs ns G Y ho hd hcd hmg hobj hints hlen hg
  obtain ⟨fd, bind, FG⟩ := F w mg fa _ (hY w _ Y) G.T.g hmg
  exact call_lawG (hY w _ Y) G.T.g G.T.b G.T.builtins G.T.nolimit hg hobj hints (Nat.le_trans hlen hn2) hr FG bind (fun H hO hS => hsp w H a ns hlen hO hS) fun H e s' => hCX w H s₁ e s'
end
end L2.DL
/-! DL20: the places of the text, functions, calls -/
namespace L2.DL
open PySem PySem.Spec PyProof.Rows
/-- a place of the text: what stands in the module, the scope, the slots' names, the depth of calls, whether in a def's own block -/
structure Pl where
  G : Program → World → PySem.W.Frag → (Str → Option Value) → Heap → Prop
  sc : Scope
  N : List Str
  k : Nat
  tp : Bool
  /-- cells of this block's own -/
  fc : Str → Bool
structure In (p : Pl) (X : Cx) (B : WX) : Prop where
  g : p.G X.prog X.w X.K X.mg X.base
  sc : X.env.scope = p.sc
  kind : p.sc.kind = .function
  N : X.N = p.N
  nd : p.N.Nodup
  calm : X.calm = true
  room : Room p.k X.A
  gd : X.A.guards = some []
  fn : ∀ x, p.fc x = true → X.fn x = true
  tk : Takes X B
  own : PassesOwn (model X.prog X.w) X.A X.env X.xe
  top : p.tp = true → X.stack = X.env :: X.outer ∧ X.env.frame = some X.env.locals ∧ X.ex = []
def EE (p : Pl) (e : Expr) (m : M Opd) : Prop := ∀ X B, In p X B → ME X B e m
def TT' (p : Pl) (e : Expr) (t : M Bool) : Prop := ∀ X B, In p X B → MT X B e t
def WW (p : Pl) (e : Expr) (t : M Bool) : Prop := ∀ X B, In p X B → MW X B e t
def AA (p : Pl) (es : List Expr) (ms : List (M Opd)) : Prop := (∀ X B, In p X B → MA X B es ms) ∧ es.all notStar = true ∧ ms.length = es.length ∧ es.length ≤ 1000000
def II (p : Pl) (tg e : Expr) (it : M Its) : Prop := ∀ X B, In p X B → MI X B tg e it
def GG (p : Pl) (tg : Expr) (g : TgA) : Prop := (∀ X B, In p X B → MG X B tg g) ∧ notStar tg = true
def GGs (p : Pl) (ts : List Expr) (gs : List TgA) : Prop := (∀ X B, In p X B → MGs X B ts gs) ∧ ts.all notStar = true ∧ gs.length = ts.length
def GT (p : Pl) (tg : Expr) (g : Tg) : Prop := (∀ X B, In p X B → MGT X tg g) ∧ notStar tg = true
def GTs (p : Pl) (ts : List Expr) (gs : List Tg) : Prop := (∀ X B, In p X B → MGTs X ts gs) ∧ ts.all notStar = true ∧ gs.length = ts.length
def SS (p : Pl) (st : Stmt) (c : C) : Prop := ∀ X B, In p X B → MS X B st c
def SSs (p : Pl) (sts : List Stmt) (c : C) : Prop := ∀ X B, In p X B → MSs X B sts c
/-! functions -/
/-- an own class over RuntimeError without own __init__, and classes above it -/
def reBm : List Value := [.type "RuntimeError", .type "Exception", .type "BaseException", .type "object"]
def ClsI (K : PySem.W.Frag) (mg : Str → Option Value) (x : Str) (sups : List PyData) : Prop := ∃ C, mg x = some (.ref C) ∧ PySem.W.excIn K C reBm "RuntimeError.__new__" = true ∧ PySem.W.keepIn K (.ref C) = true ∧ PySem.W.subIn K (.ref C) (.type "BaseException") = some true ∧ PySem.W.typeIn K (.ref C) = some (.type "type") ∧
  PySem.W.exmOne K (.ref C) (.ref C) = some true ∧ ExcC K C ∧ ∀ s, PyData.str s ∈ sups → ∃ S, mg s = some (.ref S) ∧ PySem.W.kitOne K (.ref C) (.ref S) = some true
/-- a constant of the module -/
def CstIs (K : PySem.W.Frag) (mg : Str → Option Value) (c : Str × PyData) : Prop := match c.2 with
  | .list sups => ClsI K mg c.1 sups
  | .int i => ∃ t, mg c.1 = some (.int i t)
  | .str x => ∃ t, mg c.1 = some (.str x t)
  | _ => False
structure FI where
  name : Str
  st : Stmt
  ps : List Str
  sem : FSem
  k : Nat
section
variable (P : Program) (w : World) (K : PySem.W.Frag) (mg : Str → Option Value) (base : Heap)
def FnX (e : FI) : Prop := ∃ f fd, mg e.name = some (.ref f) ∧ Fun K e.name e.name e.st f fd ∧ Binds K fd e.ps [] ∧ FnG P w K mg base (L2.CX P w) e.k f fd e.ps (spD K mg e.ps.length e.sem)
/-- the module: built-in names are not hidden, constants, the defs below n -/
def Gm (tab : List FI) (cs : List (Str × PyData)) (bn : List Str) (n : Nat) : Prop := (∀ x ∈ bn, mg x = none) ∧ (∀ c ∈ cs, CstIs K mg c) ∧ ∀ e ∈ tab, e.k < n → FnX P w K mg base e
end
abbrev GmP (tab : List FI) (cs : List (Str × PyData)) (bn : List Str) (n : Nat) : Program → World → PySem.W.Frag → (Str → Option Value) → Heap → Prop := fun P w K mg base => Gm P w K mg base tab cs bn n
section
variable {P : Program} {w : World} {K : PySem.W.Frag} {mg : Str → Option Value} {base : Heap} {tab : List FI} {cs : List (Str × PyData)} {bn : List Str}
theorem tab_ok (h1 : ∀ x ∈ bn, mg x = none) (h2 : ∀ c ∈ cs, CstIs K mg c) (h : ∀ e ∈ tab, Gm P w K mg base tab cs bn e.k → FnX P w K mg base e) : ∀ n, Gm P w K mg base tab cs bn n := by
  intro n
  induction n with
  | zero => exact ⟨h1, h2, fun e _ hk => absurd hk (Nat.not_lt_zero _)⟩
  | succ n ih =>
    refine ⟨h1, h2, fun e he hk => ?_⟩
    by_cases hlt : e.k < n
    · exact ih.2.2 e he hlt
    · have : e.k = n := by omega
      exact h e he (this ▸ ih)
/-- a def by its body -/
theorem fn_mk {name qual : Str} {st : Stmt} {f : Addr} {fd : FuncData} {N ps : List Str} {k : Nat} {G : Program → World → PySem.W.Frag → (Str → Option Value) → Heap → Prop} {code : C} (F : Fun K name qual st f fd) (S : FnScope N ps (defScope st)) (hG : G P w K mg base)
    (hl : ps.length ≤ N.length) (hb : SSs ⟨G, defScope st, N, k, true, fun _ => true⟩ (defBody st) code) : FnG P w K mg base (L2.CX P w) (k + 1) f fd ps (spD K mg ps.length (mkF ps.length N.length code)) := by
  refine fng_of F S (fun vs H Q E h => h.1) fun cdv A outer s H vs Q E gd hr hsp => ?_
  refine ⟨_, hb (cxOf (L2.CX P w) P w K mg base N qual (defScope st) f cdv A outer s H E) (fun c d _ H => E c d H) ?_, spD_body hl hsp fun _ _ _ _ h => h⟩
  exact ⟨hG, rfl, S.kind, rfl, S.nd, rfl, hr, gd, fun _ _ => rfl, takes_of rfl rfl rfl rfl, passes_of rfl, fun _ => ⟨rfl, rfl, rfl⟩⟩
end
theorem nostar_back : ∀ {es : List Expr} (pos : Pos) (env : Env), es.all notStar = true → (backTo pos (starEach es env)).any (·.1) = false
  | [], pos, env, _ => rfl
  | e :: es, pos, env, h => by
    simp only [List.all_cons, Bool.and_eq_true] at h
    rw [starEach_cons h.1]
    have ih := nostar_back pos env h.2
    unfold backTo at ih ⊢
    rw [List.map_cons, List.any_cons, ih]
    rfl
section
variable {X : Cx} {B : WX} {e : Expr} {es : List Expr} {m : M Opd} {ms : List (M Opd)} {pos p : Pos} {x : Str} {k n : Nat} {f : Addr} {fd : FuncData} {ps : List Str} {sem : FSem} {bs : List Bool}
theorem run_D {pins : List (Addr × Obj)} {σ : St} {H : Hp} {s : Shared} {Q : VK} {us : List Value} {vs : List V} {args : Args} (F : FnG X.prog X.w X.K X.mg X.base (L2.CX X.prog X.w) k f fd ps (spD X.K X.mg n sem)) (hr : Room k X.A) (gd : X.A.guards = some []) (hb : BindsTo s fd args (ps.zip us)) (tk : Takes X B)
    (I : Inv X pins σ H s) (r : Vals vs us) (h : spD X.K X.mg n sem vs H Q fun c d H' => B c d σ H') : codeAny (model X.prog X.w) X.A (.call (.ref f) args) (fun r s' => match r with | .ok (.ret u) => EP X pins σ Q u s' | .ok _ => False | .error e => X.xe e s') s := by
  refine codeAny_mono (F.go X.A X.stack s H args us vs Q _ gd hr I.env0 hb r h) fun r s' hq => ?_
  cases r with
  | error e => exact tk e s' (XE.of_call I (fun _ _ _ h => h) hq)
  | ok fl =>
    cases fl with
    | ret u => exact I.after hq
    | next => exact False.elim hq
    | brk => exact False.elim hq
    | cont => exact False.elim hq
theorem eCall_of {K : PySem.W.Frag} {mg : Str → Option Value} {σ : St} {H : Hp} {Q : VK} (hn : ms.length = n) (h : tM K mg B (eCall sem bs ms) σ H Q) : tMA K mg B ms σ H fun vs H1 => spD K mg n sem vs H1 Q fun c d H' => B c d σ H' := by
  obtain ⟨F, l, r, h⟩ := h
  refine tMA_of r Step.refl (Run.bd h) fun os F1 l1 H1 vs hl r1 s1 b1 ro nw q => ?_
  exact call_run (b := ⟨F, l, σ, H⟩) r1 b1 ro nw (hl.trans hn) q fun o F' l' H' v r' b' ro' nw' q' => q' v ro' nw'
theorem me_call (F : FnG X.prog X.w X.K X.mg X.base (L2.CX X.prog X.w) k f fd ps (spD X.K X.mg n sem)) (hps : ps.length = n) (hr : Room k X.A) (gd : X.A.guards = some []) (hg : Gl X x) (hm : X.mg x = some (.ref f)) (hk : PySem.W.keepIn X.K (.ref f) = true) (hb : Binds X.K fd ps []) (tk : Takes X B)
    (ha : MA X B (e :: es) ms) (hn : ms.length = n) (hdb : (x == ("__debug__" : Str)) = false) (hst : (e :: es).all notStar = true) : ME X B (.Call (.Name x p) (e :: es) [] pos) (eCall sem bs ms) := by
  have hst1 : notStar e = true := by simp only [List.all_cons, Bool.and_eq_true] at hst; exact hst.1
  have hst2 : es.all notStar = true := by simp only [List.all_cons, Bool.and_eq_true] at hst; exact hst.2
  refine ⟨fun pins s σ H Q I h => ?_⟩
  refine wpAny_Call_Name_kw (ld_glob I hg hm ?_ hdb)
  refine PySem.W.callWith_K (h₀ := X.base) I.ok.mod.kin hk (thn (ha.run pos pins s σ H _ I (eCall_of hn h)) fun us s1 ⟨vs, H1, I1, r, q⟩ => ⟨I1.kIn, ?_⟩) (starEach_cons hst1 _ _) ?_
  · have hl : (us ++ ([] : List Value)).length = ps.length := by rw [List.append_nil, ← r.length, q.1, hps]
    refine wpAny_call (codeAny_mono (run_D (us := us) F hr gd ?_ tk I1 r q) fun r s' hq => ?_)
    · have := hb s1 us I1.kIn hl
      rwa [List.append_nil] at this
    · cases r with
      | error e => exact hq
      | ok fl => cases fl <;> first | exact hq | exact False.elim hq
  · exact nostar_back _ _ hst2
theorem me_call0 (F : FnG X.prog X.w X.K X.mg X.base (L2.CX X.prog X.w) k f fd ps (spD X.K X.mg 0 sem)) (hps : ps.length = 0) (hr : Room k X.A) (gd : X.A.guards = some []) (hg : Gl X x) (hm : X.mg x = some (.ref f)) (hk : PySem.W.keepIn X.K (.ref f) = true) (hb : Binds X.K fd ps []) (tk : Takes X B)
    (hdb : (x == ("__debug__" : Str)) = false) : ME X B (.Call (.Name x p) [] [] pos) (eCall sem [] []) := by
  refine ⟨fun pins s σ H Q I h => ?_⟩
  refine wpAny_Call_Name_kw (ld_glob I hg hm ?_ hdb)
  have q := tMA_nil (eCall_of (n := 0) rfl h)
  refine PySem.W.callWith_K0 I.kIn hk (wpAny_call (codeAny_mono (run_D (us := []) F hr gd ?_ tk I .nil q) fun r s' hq => ?_))
  · have := hb s [] I.kIn (by simp [hps])
    rwa [List.append_nil] at this
  · cases r with
    | error e => exact hq
    | ok fl => cases fl <;> first | exact hq | exact False.elim hq
end
end L2.DL
/-! DL21: the rules at places -/
namespace L2.DL
open PySem PySem.Spec PyProof.Rows
def okV (sc : Scope) (x : Str) : Bool := (match sc.names.lookup x with | some .local => true | some .cell => true | some .free => true | _ => false) && !(x == ("__debug__" : Str)) && !(x == ("__classdict__" : Str))
def okG (sc : Scope) (x : Str) : Bool := (match sc.names.lookup x with | some .globalImplicit => true | _ => false) && !(x == ("__debug__" : Str)) && !(x == ("__name__" : Str))
def okLoc (p : Pl) (x : Str) : Bool := match p.sc.names.lookup x with | some .local => true | some .cell => p.fc x | _ => false
def isLocal (sc : Scope) (x : Str) : Bool := match sc.names.lookup x with | some .local => true | _ => false
section
variable {p : Pl} {X : Cx} {B : WX} {x : Str} {i : Nat}
theorem In.vis (I : In p X B) (h : okV p.sc x = true) : Vis X.env.scope x ∧ (x == ("__debug__" : Str)) = false ∧ (x == ("__classdict__" : Str)) = false := by
  unfold okV at h
  rw [Bool.and_eq_true, Bool.and_eq_true, Bool.not_eq_true', Bool.not_eq_true'] at h
  obtain ⟨⟨h1, h2⟩, h3⟩ := h
  refine ⟨?_, h2, h3⟩
  unfold Vis
  rw [I.sc]
  split at h1
  · exact .inl (by assumption)
  · exact .inr (.inl (by assumption))
  · exact .inr (.inr (by assumption))
  · cases h1
theorem In.gl (I : In p X B) (h : okG p.sc x = true) : Gl X x ∧ (x == ("__debug__" : Str)) = false ∧ x ≠ "__name__" := by
  unfold okG at h
  rw [Bool.and_eq_true, Bool.and_eq_true, Bool.not_eq_true', Bool.not_eq_true'] at h
  obtain ⟨⟨h1, h2⟩, h3⟩ := h
  refine ⟨?_, h2, fun e => ?_⟩
  · unfold Gl Env.kindOf
    rw [I.sc]
    split at h1
    · assumption
    · cases h1
  · subst e
    revert h3
    decide
theorem In.loc (I : In p X B) (h : okLoc p x = true) : Loc X.env.scope x ∧ (X.fn x = true ∨ X.env.scope.names.lookup x = some .local) := by
  unfold okLoc at h
  unfold Loc
  rw [I.sc]
  split at h
  · exact ⟨.inl (by assumption), .inr (by assumption)⟩
  · exact ⟨.inr (by assumption), .inl (I.fn x h)⟩
  · cases h
theorem In.local' (I : In p X B) (h : isLocal p.sc x = true) : X.env.scope.names.lookup x = some .local := by
  unfold isLocal at h
  rw [I.sc]
  split at h
  · assumption
  · cases h
end
section
variable {p : Pl} {x : Str} {i : Nat} {e a b c tg : Expr} {m ma mb mc : M Opd} {t ta tb tc : M Bool} {es rest : List Expr} {ms : List (M Opd)} {pos q : Pos} {g : TgA} {gs : List TgA} {ca cb cc : C} {st : Stmt} {sts sts2 : List Stmt}
theorem e_name (hN : p.N[i]? = some x) (h : okV p.sc x = true) : EE p (.Name x pos) (eV i) := fun X B I => let ⟨h1, h2, h3⟩ := I.vis h; me_name (by rw [I.N]; exact hN) h1 h2 h3
theorem e_int {i : Int} {j} : EE p (.Constant (.int i) j pos) (eK (.int i)) := fun X B I => me_int
theorem e_bl {i : Bool} {j} : EE p (.Constant (.bool i) j pos) (eK (.bool i)) := fun X B I => me_bl
theorem e_non {j} : EE p (.Constant .none j pos) (eK .none) := fun X B I => me_non
theorem e_str {i : Str} {j} : EE p (.Constant (.str i) j pos) (eK (.str i)) := fun X B I => me_str
theorem e_add (ha : EE p a ma) (hb : EE p b mb) : EE p (.BinOp a .Add b pos) (eOps addD [ma, mb]) := fun X B I => me_bin opd_add (ha X B I) (hb X B I)
theorem e_sub (ha : EE p a ma) (hb : EE p b mb) : EE p (.BinOp a .Sub b pos) (eOps subD [ma, mb]) := fun X B I => me_bin opd_sub (ha X B I) (hb X B I)
theorem e_mul (ha : EE p a ma) (hb : EE p b mb) : EE p (.BinOp a .Mult b pos) (eOps mulD [ma, mb]) := fun X B I => me_bin opd_mul (ha X B I) (hb X B I)
theorem e_fdiv (ha : EE p a ma) (hb : EE p b mb) : EE p (.BinOp a .FloorDiv b pos) (eOps fdivD [ma, mb]) := fun X B I => me_bin opd_fdiv (ha X B I) (hb X B I)
theorem e_mod (ha : EE p a ma) (hb : EE p b mb) : EE p (.BinOp a .Mod b pos) (eOps modD [ma, mb]) := fun X B I => me_bin opd_mod (ha X B I) (hb X B I)
theorem e_pow (ha : EE p a ma) (hb : EE p b mb) : EE p (.BinOp a .Pow b pos) (eOps powD [ma, mb]) := fun X B I => me_bin opd_pow (ha X B I) (hb X B I)
theorem e_neg (ha : EE p a ma) : EE p (.UnaryOp .USub a pos) (eOps negD [ma]) := fun X B I => me_un opd_neg (ha X B I)
/-- the comparisons -/
inductive CmpR : CmpOp → Op → Prop
  | eq : CmpR .Eq eqD
  | ne : CmpR .NotEq neD
  | lt : CmpR .Lt ltD
  | le : CmpR .LtE leD
  | gt : CmpR .Gt gtD
  | ge : CmpR .GtE geD
  | in' : CmpR .In inX
  | notIn : CmpR .NotIn notInX
theorem CmpR.ok {op : CmpOp} {f : Op} {X : Cx} {B : WX} (h : CmpR op f) (I : In p X B) : OpR X (compareOp op) (rD2 X.K f) := by
  have hu := I.room.units
  cases h with
  | eq => exact opd_eq hu
  | ne => exact opd_ne hu
  | lt => exact opd_lt
  | le => exact opd_le
  | gt => exact opd_gt
  | ge => exact opd_ge
  | in' => exact opX_in hu
  | notIn => exact opX_notIn hu
theorem mark_no {op : CmpOp} {b : Expr} (h : notSet b = true) : behindInMarks op b = false := by
  cases b <;> first | rfl | cases h
theorem e_cmp {op : CmpOp} {f : Op} (ho : CmpR op f) (ha : EE p a ma) (hb : EE p b mb) (hm : notSet b = true) : EE p (.Compare a [op] [b] pos) (eOps f [ma, mb]) := fun X B I => me_cmp (ho.ok I) (ha X B I) (hb X B I) (mark_no hm)
theorem t_cmp {op : CmpOp} {f : Op} (ho : CmpR op f) (ha : EE p a ma) (hb : EE p b mb) (hm : notSet b = true) : TT' p (.Compare a [op] [b] pos) (tB' (eOps f [ma, mb])) := fun X B I => mt_cmp (ho.ok I) (ha X B I) (hb X B I) (mark_no hm)
theorem e_chain {op op' : CmpOp} {f f' : Op} (ho : CmpR op f) (ho' : CmpR op' f') (ha : EE p a ma) (hb : EE p b mb) (hc : EE p c mc) (hm : notSet c = true) : EE p (.Compare a [op, op'] [b, c] pos) (eChain f f' ma mb mc) := fun X B I => me_chain (ho.ok I) (ho'.ok I) (ha X B I) (hb X B I) (hc X B I) (mark_no hm)
theorem t_chain {op op' : CmpOp} {f f' : Op} (ho : CmpR op f) (ho' : CmpR op' f') (ha : EE p a ma) (hb : EE p b mb) (hc : EE p c mc) (hm : notSet c = true) : TT' p (.Compare a [op, op'] [b, c] pos) (tB' (eChain f f' ma mb mc)) := fun X B I => mt_chain (ho.ok I) (ho'.ok I) (ha X B I) (hb X B I) (hc X B I) (mark_no hm)
theorem e_isN {j} (ha : EE p a ma) : EE p (.Compare a [.Is] [.Constant .none j q] pos) (eOps (isD false isNoneB) [ma]) := fun X B I => me_isN (ha X B I)
theorem e_notN {j} (ha : EE p a ma) : EE p (.Compare a [.IsNot] [.Constant .none j q] pos) (eOps (isD true isNoneB) [ma]) := fun X B I => me_notN (ha X B I)
theorem e_isB {j} {d : Bool} (ha : EE p a ma) : EE p (.Compare a [.Is] [.Constant (.bool d) j q] pos) (eOps (isD false (isBoolB d)) [ma]) := fun X B I => me_isB (ha X B I)
theorem e_notB {j} {d : Bool} (ha : EE p a ma) : EE p (.Compare a [.IsNot] [.Constant (.bool d) j q] pos) (eOps (isD true (isBoolB d)) [ma]) := fun X B I => me_notB (ha X B I)
theorem t_isN {j} (ha : EE p a ma) : TT' p (.Compare a [.Is] [.Constant .none j q] pos) (tB' (eOps (isD false isNoneB) [ma])) := fun X B I => mt_pc (mc_isN (ha X B I)) rfl
theorem t_notN {j} (ha : EE p a ma) : TT' p (.Compare a [.IsNot] [.Constant .none j q] pos) (tB' (eOps (isD true isNoneB) [ma])) := fun X B I => mt_pc (mc_notN (ha X B I)) rfl
theorem t_isB {j} {d : Bool} (ha : EE p a ma) : TT' p (.Compare a [.Is] [.Constant (.bool d) j q] pos) (tB' (eOps (isD false (isBoolB d)) [ma])) := fun X B I => mt_pc (mc_isB (ha X B I)) rfl
theorem t_notB {j} {d : Bool} (ha : EE p a ma) : TT' p (.Compare a [.IsNot] [.Constant (.bool d) j q] pos) (tB' (eOps (isD true (isBoolB d)) [ma])) := fun X B I => mt_pc (mc_notB (ha X B I)) rfl
theorem t_val (ha : EE p a ma) (h : plainT a = true) : TT' p a (tOf ma) := fun X B I => mt_val (ha X B I) h
theorem t_not (ha : TT' p a ta) : TT' p (.UnaryOp .Not a pos) (DL.tNot ta) := fun X B I => mt_not (ha X B I)
theorem t_ite (hc : TT' p c tc) (ha : TT' p a ta) (hb : TT' p b tb) : TT' p (.IfExp c a b pos) (tIte tc ta tb) := fun X B I => mt_ite (hc X B I) (ha X B I) (hb X B I)
theorem t_w (h : WW p a ta) : TT' p a ta := fun X B I => mw_pt (h X B I)
theorem w_and1 (ha : TT' p a ta) : WW p (.BoolOp .And [a] pos) ta := fun X B I => mw_and1 (ha X B I)
theorem w_or1 (ha : TT' p a ta) : WW p (.BoolOp .Or [a] pos) ta := fun X B I => mw_or1 (ha X B I)
theorem w_and (ha : TT' p a ta) (hb : WW p (.BoolOp .And (b :: rest) pos) tb) : WW p (.BoolOp .And (a :: b :: rest) pos) (DL.tAnd ta tb) := fun X B I => mw_and (ha X B I) (hb X B I)
theorem w_or (ha : TT' p a ta) (hb : WW p (.BoolOp .Or (b :: rest) pos) tb) : WW p (.BoolOp .Or (a :: b :: rest) pos) (DL.tOr ta tb) := fun X B I => mw_or (ha X B I) (hb X B I)
theorem e_one {op} (ha : EE p a ma) : EE p (.BoolOp op [a] pos) ma := fun X B I => me_one (ha X B I)
theorem e_and (ha : EE p a ma) (hb : EE p (.BoolOp .And (b :: rest) pos) mb) : EE p (.BoolOp .And (a :: b :: rest) pos) (eAnd ma mb) := fun X B I => me_and (ha X B I) (hb X B I)
theorem e_or (ha : EE p a ma) (hb : EE p (.BoolOp .Or (b :: rest) pos) mb) : EE p (.BoolOp .Or (a :: b :: rest) pos) (eOr ma mb) := fun X B I => me_or (ha X B I) (hb X B I)
theorem e_not (ha : EE p a ma) : EE p (.UnaryOp .Not a pos) (eNot ma) := fun X B I => me_not (ha X B I)
theorem e_ite (hc : TT' p c tc) (ha : EE p a ma) (hb : EE p b mb) : EE p (.IfExp c a b pos) (tIte tc ma mb) := fun X B I => me_ite (hc X B I) (ha X B I) (hb X B I)
theorem plainIx {b : Expr} (h : notSlice b = true) : PlainIx b := by
  intro o i
  cases b <;> first | rfl | cases h
theorem e_idx (ha : EE p a ma) (hb : EE p b mb) (h : notSlice b = true) : EE p (.Subscript a b pos) (eOps idxX [ma, mb]) := fun X B I => me_idx (by have := I.room.units; omega) (ha X B I) (hb X B I) (plainIx h)
def PP (p : Pl) (e : Option Expr) (m : Option (M Opd)) : Prop := ∀ X B, In p X B → MP X B e m
theorem p_none : PP p none none := fun X B I => mp_none
theorem p_some (ha : EE p a ma) : PP p (some a) (some ma) := fun X B I => mp_some (ha X B I)
theorem e_slice {lo hi st : Option Expr} {ml mh mst : Option (M Opd)} (ha : EE p a ma) (hl : PP p lo ml) (hu : PP p hi mh) (hs : PP p st mst) : EE p (.Subscript a (.Slice lo hi st q) pos) (eSlc sliceO ma ml mh mst) := fun X B I => me_slice (ha X B I) (hl X B I) (hu X B I) (hs X B I)
theorem a_nil : AA p [] [] := ⟨fun X B I => ma_nil, rfl, rfl, Nat.zero_le _⟩
theorem a_cons (ha : EE p e m) (hr : AA p es ms) (hn : notStar e = true) (hl : (e :: es).length ≤ 1000000) : AA p (e :: es) (m :: ms) :=
  ⟨fun X B I => ma_cons (ha X B I) (hr.1 X B I) (starEach_cons hn _ _), by simp only [List.all_cons, hn, hr.2.1]; rfl, by simp [hr.2.2.1], hl⟩
theorem e_tup {x1} (h : AA p es ms) : EE p (.Tuple es x1 pos) (eTup ms) := fun X B I => me_tup (h.1 X B I) h.2.2.2 h.2.2.1
theorem e_lst (h : AA p es ms) : EE p (.List es pos) (eLst ms) := fun X B I => me_lst (h.1 X B I) h.2.2.2 h.2.2.1
end
/-! what stands in the module -/
section
variable {tab : List FI} {cs : List (Str × PyData)} {bn : List Str} {n : Nat} {sc : Scope} {N : List Str} {k : Nat} {tp : Bool} {fc : Str → Bool} {x : Str} {e a b c : Expr} {es : List Expr} {m ma mb mc : M Opd} {ms : List (M Opd)} {pos q q2 q3 : Pos} {tg : Expr}
abbrev PL (tab : List FI) (cs : List (Str × PyData)) (bn : List Str) (n : Nat) (sc : Scope) (N : List Str) (k : Nat) (tp : Bool) (fc : Str → Bool) : Pl := ⟨GmP tab cs bn n, sc, N, k, tp, fc⟩
/-- a constant of the module -/
theorem e_cst {j : Nat} {i : Int} (hc : cs[j]? = some (x, .int i)) (h : okG sc x = true) : EE (PL tab cs bn n sc N k tp fc) (.Name x pos) (eK (.int i)) := fun X B I => by
  obtain ⟨h1, h2, h3⟩ := I.gl h
  obtain ⟨t, ht⟩ := I.g.2.1 _ (List.mem_of_getElem? hc)
  exact me_k (pe_glob h1 ht (v := .int i) ⟨t, rfl⟩ h2) fun _ _ _ => .int _
theorem e_cstS {j : Nat} {i : Str} (hc : cs[j]? = some (x, .str i)) (h : okG sc x = true) : EE (PL tab cs bn n sc N k tp fc) (.Name x pos) (eK (.str i)) := fun X B I => by
  obtain ⟨h1, h2, h3⟩ := I.gl h
  obtain ⟨t, ht⟩ := I.g.2.1 _ (List.mem_of_getElem? hc)
  exact me_k (pe_glob h1 ht (v := .str i) ⟨t, rfl⟩ h2) fun _ _ _ => .str _
theorem In.bn' {X : Cx} {B : WX} (I : In (PL tab cs bn n sc N k tp fc) X B) (h : bn.contains x = true) : X.mg x = none := I.g.1 x (by simpa using h)
/-- built-in functions -/
inductive BltR : Str → String → Op → Prop
  | len : BltR "len" "len" lenD
  | abs : BltR "abs" "abs" absD
  | divmod : BltR "divmod" "divmod" divmodD
  | max : BltR "max" "max" maxD'
  | min : BltR "min" "min" minD'
  | all : BltR "all" "all" allD
  | any : BltR "any" "any" anyD
  | sum : BltR "sum" "sum" sumD
theorem BltR.ok {id : String} {f : Op} {X : Cx} {B : WX} {p : Pl} (h : BltR x id f) (I : In p X B) : CallR X (.builtin id) (rD X.K f) ∧ bootBuiltins x = some (.builtin id) := by
  cases h with
  | len => exact ⟨opd_len, PySem.boot_len⟩
  | abs => exact ⟨opd_abs, by kernel_rfl⟩
  | divmod => exact ⟨opd_divmod, by kernel_rfl⟩
  | max => exact ⟨opd_max I.calm, by kernel_rfl⟩
  | min => exact ⟨opd_min I.calm, by kernel_rfl⟩
  | all => exact ⟨opd_all I.calm, by kernel_rfl⟩
  | any => exact ⟨opd_any I.calm, by kernel_rfl⟩
  | sum => exact ⟨opd_sum I.calm, by kernel_rfl⟩
theorem e_blt {id : String} {f : Op} (hf : BltR x id f) (h : okG sc x = true) (hb : bn.contains x = true) (ha : AA (PL tab cs bn n sc N k tp fc) (e :: es) ms) : EE (PL tab cs bn n sc N k tp fc) (.Call (.Name x q) (e :: es) [] pos) (eOps f ms) := fun X B I => by
  obtain ⟨h1, h2, h3⟩ := I.gl h
  obtain ⟨o1, o2⟩ := hf.ok I
  have hs := ha.2.1
  simp only [List.all_cons, Bool.and_eq_true] at hs
  exact me_callB o1 h1 (I.bn' hb) o2 (ha.1 X B I) h3 h2 (starEach_cons hs.1 _ _) (nostar_back _ _ hs.2)
inductive TypR : Str → String → Op → Prop
  | tuple : TypR "tuple" "tuple" tupleD
  | list : TypR "list" "list" listD
  | int : TypR "int" "int" intD
theorem TypR.ok {T : String} {f : Op} {X : Cx} (h : TypR x T f) : CallR X (.type T) (rD X.K f) ∧ bootBuiltins x = some (.type T) := by
  cases h with
  | tuple => exact ⟨opd_tuple, by kernel_rfl⟩
  | list => exact ⟨opd_list, by kernel_rfl⟩
  | int => exact ⟨opd_int, by kernel_rfl⟩
theorem e_typ {T : String} {f : Op} (hf : TypR x T f) (h : okG sc x = true) (hb : bn.contains x = true) (ha : AA (PL tab cs bn n sc N k tp fc) (e :: es) ms) : EE (PL tab cs bn n sc N k tp fc) (.Call (.Name x q) (e :: es) [] pos) (eOps f ms) := fun X B I => by
  obtain ⟨h1, h2, h3⟩ := I.gl h
  obtain ⟨o1, o2⟩ := hf.ok (X := X)
  have hs := ha.2.1
  simp only [List.all_cons, Bool.and_eq_true] at hs
  exact me_callTy o1 h1 (I.bn' hb) o2 (ha.1 X B I) h3 h2 (starEach_cons hs.1 _ _) (nostar_back _ _ hs.2)
theorem e_lenSet (h : okG sc "len" = true) (h2 : okG sc "set" = true) (hb : bn.contains "len" = true) (hb2 : bn.contains "set" = true) (ha : EE (PL tab cs bn n sc N k tp fc) a ma) (hn : notStar a = true) :
    EE (PL tab cs bn n sc N k tp fc) (.Call (.Name "len" q) [.Call (.Name "set" q2) [a] [] q3] [] pos) (eOps lenSetD [ma]) := fun X B I =>
  me_lenSet (I.gl h).1 (I.bn' hb) (I.gl h2).1 (I.bn' hb2) (ha X B I) I.calm (starEach_cons hn _ _)
/-- an own function -/
theorem e_call {j : Nat} {fi : FI} {bs : List Bool} (hj : tab[j]? = some fi) (hx : fi.name = x) (hk1 : fi.k ≤ k) (hk2 : fi.k < n) (h : okG sc x = true) (ha : AA (PL tab cs bn n sc N k tp fc) (e :: es) ms) (hl : fi.ps.length = ms.length) : EE (PL tab cs bn n sc N k tp fc) (.Call (.Name x q) (e :: es) [] pos) (eCall fi.sem bs ms) := fun X B I => by
  obtain ⟨h1, h2, h3⟩ := I.gl h
  obtain ⟨f, fd, hm, F, hb, ok⟩ := I.g.2.2 fi (List.mem_of_getElem? hj) hk2
  subst hx
  exact me_call ok rfl (I.room.mono hk1) I.gd h1 hm F.kp hb I.tk (ha.1 X B I) hl.symm h2 ha.2.1
theorem e_call0 {j : Nat} {fi : FI} (hj : tab[j]? = some fi) (hx : fi.name = x) (hk1 : fi.k ≤ k) (hk2 : fi.k < n) (h : okG sc x = true) (hl : fi.ps = []) : EE (PL tab cs bn n sc N k tp fc) (.Call (.Name x q) [] [] pos) (eCall fi.sem [] []) := fun X B I => by
  obtain ⟨h1, h2, h3⟩ := I.gl h
  obtain ⟨f, fd, hm, F, hb, ok⟩ := I.g.2.2 fi (List.mem_of_getElem? hj) hk2
  subst hx
  rw [hl] at ok hb
  exact me_call0 ok rfl (I.room.mono hk1) I.gd h1 hm F.kp hb I.tk h2
/-! walks -/
theorem i_seq {p : Pl} (ha : EE p a ma) : II p tg a (iSeq ma) := fun X B I => mi_seq (ha X B I)
theorem i_range1 (h : okG sc "range" = true) (hb : bn.contains "range" = true) (ha : AA (PL tab cs bn n sc N k tp fc) [a] [ma]) : II (PL tab cs bn n sc N k tp fc) tg (.Call (.Name "range" q) [a] [] pos) (iRange [ma]) := fun X B I => by
  have hs := ha.2.1
  simp only [List.all_cons, List.all_nil, Bool.and_true] at hs
  exact mi_range1 (I.gl h).1 (I.bn' hb) (ha.1 X B I) hs
theorem i_range2 (h : okG sc "range" = true) (hb : bn.contains "range" = true) (ha : AA (PL tab cs bn n sc N k tp fc) [a, b] [ma, mb]) : II (PL tab cs bn n sc N k tp fc) tg (.Call (.Name "range" q) [a, b] [] pos) (iRange [ma, mb]) := fun X B I => by
  have hs := ha.2.1
  simp only [List.all_cons, List.all_nil, Bool.and_true, Bool.and_eq_true] at hs
  exact mi_range2 (I.gl h).1 (I.bn' hb) (ha.1 X B I) hs.1 hs.2
theorem i_range3 (h : okG sc "range" = true) (hb : bn.contains "range" = true) (ha : AA (PL tab cs bn n sc N k tp fc) [a, b, c] [ma, mb, mc]) : II (PL tab cs bn n sc N k tp fc) tg (.Call (.Name "range" q) [a, b, c] [] pos) (iRange [ma, mb, mc]) := fun X B I => by
  have hs := ha.2.1
  simp only [List.all_cons, List.all_nil, Bool.and_true, Bool.and_eq_true] at hs
  exact mi_range3 (I.gl h).1 (I.bn' hb) (ha.1 X B I) hs.1 hs.2.1 hs.2.2
end
/-! targets, statements -/
section
variable {p : Pl} {x y z : Str} {i j k : Nat} {e a b c tg : Expr} {m ma mb mc : M Opd} {t ta tb tc : M Bool} {es ts rest : List Expr} {ms : List (M Opd)} {pos q q1 q2 q3 : Pos} {g : TgA} {gs : List TgA} {h' : Tg} {hs' : List Tg} {ca cb cc : C} {st : Stmt} {sts sts2 : List Stmt} {it : M Its}
theorem g_name (hN : p.N[i]? = some x) (h : okLoc p x = true) : GG p (.Name x pos) (.nm i) := ⟨fun X B I => mg_name (by rw [I.N]; exact I.nd) (by rw [I.N]; exact hN) (I.loc h).1 (I.loc h).2, rfl⟩
theorem g_sub (hN : p.N[i]? = some x) (h : okV p.sc x = true) (hb : EE p b mb) (hs : notSlice b = true) : GG p (.Subscript (.Name x q) b pos) (.ix i mb) := ⟨fun X B I => let ⟨h1, h2, h3⟩ := I.vis h; mg_sub (by have := I.room.units; omega) (by rw [I.N]; exact hN) h1 h2 h3 (hb X B I) hs, rfl⟩
theorem gs_nil : GGs p [] [] := ⟨fun X B I => mgs_nil, rfl, rfl⟩
theorem gs_cons (h1 : GG p e g) (h2 : GGs p es gs) : GGs p (e :: es) (g :: gs) := ⟨fun X B I => mgs_cons (h1.1 X B I) (h2.1 X B I) h1.2, by simp only [List.all_cons, h1.2, h2.2.1]; rfl, by simp [h2.2.2]⟩
theorem g_tup {kk : Nat} (h : GGs p es gs) : GG p (.Tuple es kk pos) (.tp gs) := ⟨fun X B I => mg_tup I.calm (h.1 X B I) h.2.1 h.2.2, rfl⟩
theorem gt_name (hN : p.N[i]? = some x) (h : okLoc p x = true) : GT p (.Name x pos) (.nm i) := ⟨fun X B I => mgt_name (by rw [I.N]; exact I.nd) (by rw [I.N]; exact hN) (I.loc h).1 (I.loc h).2, rfl⟩
theorem gts_nil : GTs p [] [] := ⟨fun X B I => mgts_nil, rfl, rfl⟩
theorem gts_cons (h1 : GT p e h') (h2 : GTs p es hs') : GTs p (e :: es) (h' :: hs') := ⟨fun X B I => mgts_cons (h1.1 X B I) (h2.1 X B I) h1.2, by simp only [List.all_cons, h1.2, h2.2.1]; rfl, by simp [h2.2.2]⟩
theorem gt_tup {kk : Nat} (h : GTs p es hs') : GT p (.Tuple es kk pos) (.tp hs') := ⟨fun X B I => mgt_tup I.calm (h.1 X B I) h.2.1 h.2.2, rfl⟩
theorem ss_nil : SSs p [] sNx := fun X B I => mss_nil
theorem ss_one (h : SS p st ca) : SSs p [st] ca := fun X B I => mss_one (h X B I)
theorem ss_cons (h1 : SS p st ca) (h2 : SSs p sts cb) : SSs p (st :: sts) (sq ca cb) := fun X B I => mss_cons (h1 X B I) (h2 X B I)
theorem s_pass : SS p (.Pass pos) sNx := fun X B I => ms_pass
theorem s_break : SS p (.Break pos) sBk := fun X B I => ms_break
theorem s_continue : SS p (.Continue pos) sCt := fun X B I => ms_continue
theorem s_stk : SS p st stuck := fun X B I => ms_stk
theorem s_ret (ha : EE p e m) : SS p (.Return (some e) pos) (sRet m) := fun X B I => ms_ret (ha X B I)
theorem s_retN : SS p (.Return none pos) sRetN := fun X B I => ms_retN
theorem s_expr (ha : EE p e m) (hn : noComp e = true) : SS p (.Expr e pos) (sEx m) := fun X B I => ms_expr (ha X B I) hn
theorem s_if (hc : TT' p e t) (ha : SSs p sts ca) (hb : SSs p sts2 cb) : SS p (.If e sts sts2 pos) (sIf t ca cb) := fun X B I => ms_if (hc X B I) (ha X B I) (hb X B I)
theorem s_while (hc : TT' p e t) (hb : SSs p sts cb) : SS p (.While e sts [] pos) (sWh t cb) := fun X B I => ms_while I.own (hc X B I) (hb X B I)
theorem s_for (hi : II p tg e it) (hg : GT p tg h') (hb : SSs p sts cb) (hs : notSet e = true) : SS p (.For tg e sts [] pos) (sFor h' it cb) := fun X B I => ms_for I.own I.calm (hi X B I) (hg.1 X B I) (hb X B I) hs
/-- an assignment to one target: not a tuple to a tuple -/
theorem s_asg (ha : EE p e m) (hg : GG p tg g) (hs : (noComp e || !isName tg) = true) (hw : ((isTup tg || isLst tg) && isTup e) = false) : SS p (.Assign [tg] e pos) (sAsg g m) := fun X B I => ms_asg (ha X B I) (hg.1 X B I) hs hg.2 (sw_none hw)
/-- a tuple to a tuple, not by exchange -/
theorem s_asgT {k1 k2 : Nat} (ha : EE p (.Tuple es k2 q2) m) (hg : GG p (.Tuple ts k1 q1) g) (hw : swB (fun x => p.sc.names.lookup x) ts es = some none) : SS p (.Assign [.Tuple ts k1 q1] (.Tuple es k2 q2) pos) (sAsg g m) := fun X B I =>
  ms_asg (ha X B I) (hg.1 X B I) rfl rfl (swapped_eq (by rw [I.sc]; exact I.kind) (by rw [I.sc]; exact hw))
theorem s_par2 {k1 k2 : Nat} (hi : p.N[i]? = some x) (hj : p.N[j]? = some y) (hij : i ≠ j) (hx : isLocal p.sc x = true) (hy : isLocal p.sc y = true) (ha : AA p [a, b] ms) (hw : swB (fun x => p.sc.names.lookup x) [.Name x q1, .Name y q2] [a, b] = some (some [x, y])) :
    SS p (.Assign [.Tuple [.Name x q1, .Name y q2] k1 q] (.Tuple [a, b] k2 q3) pos) (sPar [i, j] ms) := fun X B I =>
  ms_par2 I.calm (by rw [I.N]; exact I.nd) (by rw [I.N]; exact hi) (by rw [I.N]; exact hj) hij (I.local' hx) (I.local' hy) (ha.1 X B I) (swapped_eq (by rw [I.sc]; exact I.kind) (by rw [I.sc]; exact hw))
theorem s_par3 {k1 k2 : Nat} {q4 : Pos} (hi : p.N[i]? = some x) (hj : p.N[j]? = some y) (hk : p.N[k]? = some z) (hij : i ≠ j) (hik : i ≠ k) (hjk : j ≠ k) (hx : isLocal p.sc x = true) (hy : isLocal p.sc y = true) (hz : isLocal p.sc z = true) (ha : AA p [a, b, c] ms) (hw : swB (fun x => p.sc.names.lookup x) [.Name x q1, .Name y q2, .Name z q4] [a, b, c] = some (some [x, y, z])) :
    SS p (.Assign [.Tuple [.Name x q1, .Name y q2, .Name z q4] k1 q] (.Tuple [a, b, c] k2 q3) pos) (sPar [i, j, k] ms) := fun X B I =>
  ms_par3 I.calm (by rw [I.N]; exact I.nd) (by rw [I.N]; exact hi) (by rw [I.N]; exact hj) (by rw [I.N]; exact hk) hij hik hjk (I.local' hx) (I.local' hy) (I.local' hz) (ha.1 X B I) (swapped_eq (by rw [I.sc]; exact I.kind) (by rw [I.sc]; exact hw))
/-! comprehensions -/
def TTs (p : Pl) (ifs : List Expr) (t : M Bool) : Prop := ∀ X B, In p X B → MTs X B ifs t
theorem ts_nil : TTs p [] (rt true) := fun X B I => mts_nil
theorem ts_one (h : TT' p a t) : TTs p [a] t := fun X B I => mts_one (h X B I)
/-- the block's place -/
abbrev Pl.blk (p : Pl) (scope : Scope) : Pl := { p with sc := relS scope p.sc, tp := false, fc := fun x => scope.names.lookup x == some .cell }
theorem In.blk {X : Cx} {B : WX} {scope : Scope} (I : In p X B) (hk : scope.kind = .function) (s : Shared) (H : Hp) (C : Addr) (cl : List (Str × Addr)) (fp : List Addr) : In (p.blk scope) (X.blk s H scope (compEnvC scope cl C X.env) fp) noB := by
  refine ⟨I.g, ?_, hk, I.N, I.nd, I.calm, I.room, I.gd, fun x h => h, takes0, PassesOwn.never, fun z => (by cases z)⟩
  show relS scope X.env.scope = relS scope p.sc
  rw [I.sc]
theorem e_comp {elt iter : Expr} {ifs : List Expr} {scope : Scope} {own : List (Str × Nat)} (hi : II p tg iter it) (ok : blkC p.N p.sc scope own = true) (hg : GT (p.blk scope) tg h') (ht : TTs (p.blk scope) ifs t) (he : EE (p.blk scope) elt m) (hs : notSet iter = true) :
    EE p (.ListComp elt [⟨tg, iter, ifs, 0⟩] scope pos) (eComp (own.map (·.2)) h' it t m) := fun X B I => by
  have ok' : BlkOk X.N X.env.scope scope own := by rw [I.N, I.sc]; exact blkOk_by ok
  exact (me_comp I.calm (by rw [I.N]; exact I.nd) (hi X B I) ok' (fun s H C cl fp => hg.1 _ _ (I.blk ok'.kind s H C cl fp)) (fun s H C cl fp => ht _ _ (I.blk ok'.kind s H C cl fp)) (fun s H C cl fp => he _ _ (I.blk ok'.kind s H C cl fp)) hs).1
/-- name = [..] -/
theorem s_setC {elt iter : Expr} {ifs : List Expr} {scope : Scope} {own : List (Str × Nat)} {py : Pos} (hN : p.N[i]? = some x) (hx : isLocal p.sc x = true) (hline : (py.line == q.line) = true) (hnot : (scope.names.any fun (n, k) => n == x && (k == .local || k == .cell)) = false)
    (hi : II p tg iter it) (ok : blkC p.N p.sc scope own = true) (hg : GT (p.blk scope) tg h') (ht : TTs (p.blk scope) ifs t) (he : EE (p.blk scope) elt m) (hs : notSet iter = true) :
    SS p (.Assign [.Name x py] (.ListComp elt [⟨tg, iter, ifs, 0⟩] scope q) pos) (sAsg (.nm i) (eComp (own.map (·.2)) h' it t m)) := fun X B I => by
  have ok' : BlkOk X.N X.env.scope scope own := by rw [I.N, I.sc]; exact blkOk_by ok
  have key := (me_comp (pos := q) I.calm (by rw [I.N]; exact I.nd) (hi X B I) ok' (fun s H C cl fp => hg.1 _ _ (I.blk ok'.kind s H C cl fp)) (fun s H C cl fp => ht _ _ (I.blk ok'.kind s H C cl fp)) (fun s H C cl fp => he _ _ (I.blk ok'.kind s H C cl fp)) hs).2
  have hloc := I.local' hx
  refine PS.imp (ps_setLc (g := gT X.K h') (tt := tMT X.K X.mg noB t) (te := tM X.K X.mg noB m) I.calm (by rw [I.N]; exact I.nd) (by rw [I.N]; exact hN) hloc (sw_true (by rw [I.sc]; exact I.kind) hloc hline hnot) (hi X B I) ok'
    (fun s H C cl fp => hg.1 _ _ (I.blk ok'.kind s H C cl fp)) (fun s H C cl fp => ht _ _ (I.blk ok'.kind s H C cl fp)) (fun s H C cl fp => he _ _ (I.blk ok'.kind s H C cl fp)) (fold_none hs X.env)) fun D σ H h => ?_
  refine key σ H _ (tM_mono (tAsg_of h) fun v H1 q => ?_)
  exact gA_nm q
def isCell (sc : Scope) (x : Str) : Bool := match sc.names.lookup x with | some .cell => true | _ => false
/-- name = [..], the name a cell -/
theorem s_asgC {elt iter : Expr} {ifs : List Expr} {scope : Scope} {own : List (Str × Nat)} {py : Pos} (hN : p.N[i]? = some x) (hx : isCell p.sc x = true) (hl : okLoc p x = true)
    (hi : II p tg iter it) (ok : blkC p.N p.sc scope own = true) (hg : GT (p.blk scope) tg h') (ht : TTs (p.blk scope) ifs t) (he : EE (p.blk scope) elt m) (hs : notSet iter = true) :
    SS p (.Assign [.Name x py] (.ListComp elt [⟨tg, iter, ifs, 0⟩] scope q) pos) (sAsg (.nm i) (eComp (own.map (·.2)) h' it t m)) := fun X B I => by
  have ha := e_comp (pos := q) hi ok hg ht he hs X B I
  have hG := (g_name (pos := py) hN hl).1 X B I
  have hk : X.env.kindOf x = some .cell := by
    show X.env.scope.names.lookup x = _
    rw [I.sc]
    unfold isCell at hx
    split at hx
    · assumption
    · cases hx
  refine PS.imp (ps_asg ha hG (by
    show swapsWith (.ListComp elt [⟨tg, iter, ifs, 0⟩] scope q) (some (.Name x py)) pos.line X.env = pure false
    unfold swapsWith
    show (pure (X.env.blockKind == .function && X.env.kindOf x == some .local && py.line == q.line && !(scope.names.any fun (n, k) => n == x && (k == .local || k == .cell))) : Sem Bool) = pure false
    rw [hk]
    have e : ((some NameKind.cell : Option NameKind) == some .local) = false := rfl
    rw [e]
    simp) (sw_none rfl) (by rfl)) fun D σ H h => tAsg_of h
end
end L2.DL
/-! DL22: isinstance; tuple(range(..)), list(range(..)) -/
namespace L2.DL
open PySem PySem.Spec PyProof.Rows
section
variable {K : PySem.W.Frag} {F : Addr → Prop} {H : Hp}
theorem rd_ty {x : V} {d : PyData} (h : RD K F H x d) (nd : isDict d = false) : TyX K H x (.type (tyName d)) := by
  cases d with
  | none => rw [rd_none h]; exact .base .non
  | bool b => rw [rd_bool h]; exact .base (.bl _)
  | int i => rw [rd_int h]; exact .base (.int _)
  | str x => rw [rd_str h]; exact .base (.str _)
  | list ds =>
    obtain ⟨a, vs, rfl, hs, _⟩ := rd_lst h
    rcases hs with (hs | ⟨o, hs⟩) | ⟨o, its, n, hk, hc, _⟩
    · exact .base (.lst hs)
    · exact .base (.frz hs)
    · exact .kList hk hc
  | tuple ds =>
    obtain ⟨a, vs, rfl, hs, _⟩ := rd_tup h
    rcases hs with ⟨o, hs, _⟩ | ⟨o, its, n, hk, hc, _⟩
    · exact .fTuple hs
    · exact .kTuple hk hc
  | dict ds =>
    cases nd
end
def tyOk (T : String) : Bool := ["int", "bool", "tuple", "list", "str", "dict"].contains T
theorem kit_table (a : String) (ha : ["NoneType", "bool", "int", "str", "list", "tuple", "dict"].contains a = true) (T : String) (hT : tyOk T = true) : kitB a T = some (a == T || (a == "bool" && T == "int")) := by
  unfold tyOk at hT
  simp only [List.contains_cons, List.contains_nil, Bool.or_eq_true, beq_iff_eq, Bool.or_false] at ha hT
  rcases ha with rfl | rfl | rfl | rfl | rfl | rfl | rfl <;> rcases hT with rfl | rfl | rfl | rfl | rfl | rfl <;> decide +kernel
theorem kit_isi {K : PySem.W.Frag} (d : PyData) (T : String) (hT : tyOk T = true) : PySem.W.kitOne K (.type (tyName d)) (.type T) = some (isiB T d) :=
  kit_ty (kit_table (tyName d) (by cases d <;> rfl) T hT)
theorem kit_any {K : PySem.W.Frag} (d : PyData) : ∀ (Ts : List String), Ts.all tyOk = true → PySem.W.kitAny K (.type (tyName d)) (Ts.map fun T => Value.type T) = some (Ts.any fun T => isiB T d)
  | [], _ => rfl
  | T :: Ts, h => by
    simp only [List.all_cons, Bool.and_eq_true] at h
    refine kitAny_cons (kit_isi d T h.1) (fun hb => ?_) (fun hb => ?_)
    · rw [kit_any d Ts h.2, List.any_cons, hb]; rfl
    · rw [List.any_cons, hb]; rfl
/-- the names of classes -/
inductive Cls' (bn : List Str) (sc : Scope) : List Expr → List String → Prop
  | nil : Cls' bn sc [] []
  | cons {x : Str} {T : String} {q : Pos} {es : List Expr} {Ts : List String} : okG sc x = true → bn.contains x = true → bootBuiltins x = some (.type T) → Cls' bn sc es Ts → Cls' bn sc (.Name x q :: es) (T :: Ts)
section
variable {tab : List FI} {cs : List (Str × PyData)} {bn : List Str} {n : Nat} {sc : Scope} {N : List Str} {k : Nat} {tp : Bool} {fc : Str → Bool} {x : Str} {e a b c : Expr} {es : List Expr} {m ma mb mc : M Opd} {ms : List (M Opd)} {pos q q2 q3 : Pos} {tg : Expr} {X : Cx} {B : WX}
theorem cls_pa (h : Cls' bn sc es Ts) (I : In (PL tab cs bn n sc N k tp fc) X B) : PA X es (fun _ H Q => Q (Ts.map V.ty) H) ∧ es.all notStar = true := by
  induction h with
  | nil => exact ⟨pa_nil, rfl⟩
  | @cons x T q es Ts h1 h2 h3 _ ih =>
    obtain ⟨g1, g2, g3⟩ := I.gl h1
    refine ⟨PA.imp (pa_cons (pe_bltn (v := .ty T) g1 (I.bn' h2) h3 rfl g3 g2) ih.1 (starEach_cons rfl _ _)) fun σ H Q h => h, ?_⟩
    simp only [List.all_cons, ih.2, Bool.and_true]; rfl
theorem e_isi {T : String} (h : okG sc "isinstance" = true) (hb : bn.contains "isinstance" = true) (ha : EE (PL tab cs bn n sc N k tp fc) a ma) (hn : notStar a = true) (hx : okG sc x = true) (hxb : bn.contains x = true) (hxT : bootBuiltins x = some (.type T)) (hT : tyOk T = true) :
    EE (PL tab cs bn n sc N k tp fc) (.Call (.Name "isinstance" q) [a, .Name x q2] [] pos) (eOps (isiD [T]) [ma]) := fun X B I => by
  obtain ⟨g1, g2, g3⟩ := I.gl h
  obtain ⟨x1, x2, x3⟩ := I.gl hx
  refine PE.imp (pe_callB call_isi g1 (I.bn' hb) (by kernel_rfl) (pa_cons (ha X B I) (pa_cons (pe_bltn (v := .ty T) x1 (I.bn' hxb) hxT rfl x3 x2) pa_nil (starEach_cons rfl _ _)) (starEach_cons hn _ _)) g3 g2 (starEach_cons hn _ _) rfl) fun σ H Q h => tM_mono (ops_1 h) fun v H1 qq => ?_
  obtain ⟨F0, l, σ', ds, z, rl, rd, e, k⟩ := qq
  obtain ⟨d, rfl, r1⟩ := rd.one'
  obtain ⟨nd, rfl⟩ : isDict d = false ∧ z = (.bool ([T].any fun T => isiB T d), false) := by
    cases d <;> first | (cases e; exact ⟨rfl, rfl⟩) | cases e
  refine ⟨v, .ty T, _, _, isiB T d, rfl, .ty T, rd_ty r1 nd, kit_isi d T hT, ?_⟩
  have := k (.bl ([T].any fun T => isiB T d)) H1 (.same (.bl _))
  simpa using this
theorem e_isiT {Ts : List String} {x1 : Nat} (h : okG sc "isinstance" = true) (hb : bn.contains "isinstance" = true) (ha : EE (PL tab cs bn n sc N k tp fc) a ma) (hn : notStar a = true) (hc : Cls' bn sc es Ts) (hT : Ts.all tyOk = true) (hl : Ts.length ≤ 100) :
    EE (PL tab cs bn n sc N k tp fc) (.Call (.Name "isinstance" q) [a, .Tuple es x1 q2] [] pos) (eOps (isiD Ts) [ma]) := fun X B I => by
  obtain ⟨g1, g2, g3⟩ := I.gl h
  obtain ⟨p1, p2⟩ := cls_pa hc I
  refine PE.imp (pe_callB call_isiT g1 (I.bn' hb) (by kernel_rfl) (pa_cons (ha X B I) (pa_cons (pe_tup p1) pa_nil (starEach_cons rfl _ _)) (starEach_cons hn _ _)) g3 g2 (starEach_cons hn _ _) rfl) fun σ H Q h => tM_mono (ops_1 h) fun v H1 qq => ?_
  obtain ⟨F0, l, σ', ds, z, rl, rd, e, k⟩ := qq
  obtain ⟨d, rfl, r1⟩ := rd.one'
  obtain ⟨nd, rfl⟩ : isDict d = false ∧ z = (.bool (Ts.any fun T => isiB T d), false) := by
    cases d <;> first | (cases e; exact ⟨rfl, rfl⟩) | cases e
  have hz : (Ts.map V.ty).length ≤ sizeLine := by
    have : (100 : Nat) ≤ sizeLine := by rw [sizeLine_eq]; decide
    rw [List.length_map]; omega
  refine ⟨hz, fun p hp => ?_⟩
  have cl : ∀ Ts : List String, Paired ClsV (Ts.map V.ty) (Ts.map fun T => Value.type T) := fun Ts => by
    induction Ts with
    | nil => exact .nil
    | cons T Ts ih => exact .cons (.ty T) ih
  have r1' : RD X.K F0 (upd H1 p (.tup (Ts.map V.ty))) v d := by
    rcases r1 with r1 | ⟨a, e, q⟩
    · exact .inl (r1.keep (Keeps.laid hp))
    · exact .inr ⟨a, e, q.laid hp⟩
  exact ⟨v, p, Ts.map V.ty, _, Ts.map fun T => Value.type T, _, rfl, upd_same, cl Ts, rd_ty r1' nd, kit_any d Ts hT, k _ _ (.junk hp (.bl _))⟩
end
end L2.DL
/-! DL23: tuple(range(..)), list(range(..)), enumerate, zip -/
namespace L2.DL
open PySem PySem.Spec PyProof.Rows
section
variable {X : Cx} {e : Expr} {te : St → Hp → (Int → Int → Hp → Prop) → Prop}
def tTupRgF (te : St → Hp → (Int → Int → Hp → Prop) → Prop) : TE := fun σ H Q => te σ H fun a b H1 => RgOk a b ∧ ∀ (q : Addr) (o : Obj), H1 q = none → o.dict = none → Q (.ref q) (upd H1 q (.frz o (.tup (rgV a b))))
theorem pe_tupRgF {p pos : Pos} (hc : X.calm = true) (hg : Gl X "tuple") (hm : X.mg "tuple" = none) (he : PRg X e te) (na : starEach [e] X.env = (false, eval e X.env) :: starEach [] X.env) : PE X (.Call (.Name "tuple" p) [e] [] pos) (tTupRgF te) := by
  refine ⟨fun pins s σ H Q I h => ?_⟩
  refine Call_ (ld_blt I hg hm boot_tuple (PyProof.Rows.callWith_type1 (args_cons (thn (he pins s σ H _ I h) fun x s1 ⟨r, a, b, t, u, v, H1, ex, hr, I1, ok, q⟩ => args_nil ?_) na) na))
  subst ex
  obtain ⟨b1, b2, b3, b4, b5⟩ := ok
  refine call_tuple_range (n := (b - a).toNat) (I1.ok.hd hc) hr (small_one b1 b2 b3 b4) (rangeSize_nat a b) b5 fun h' tk acc hk hi => ?_
  have I2 : Inv X pins σ H1 { s1 with heap := h', toks := tk } := I1.kept hk
  have hz : (rgV a b).length ≤ sizeLine := by rw [rgV_length, sizeLine_eq]; omega
  have e1 : h'.push { cls := .type "tuple", data := .seq acc } = h'.push (tupO acc.toList) := by show _ = h'.push { cls := .type "tuple", data := .seq acc.toList.toArray }; rw [Array.toArray_toList]
  rw [e1]
  exact ⟨.ref h'.objs.size, _, Inv.tnew (t' := tk) (ys := rgV a b) I2 (vals_rg hi) hz, rfl, q _ _ (I2.hok.fresh (Nat.le_refl _)) rfl⟩
end
section
variable {K : PySem.W.Frag} {F : Addr → Prop} {H : Hp}
theorem rfs_rg (a b : Int) : RFs K F H (rgV a b) (rangeL a b 1) := by
  rw [rangeL_1]
  unfold rgV
  generalize List.range (b - a).toNat = is
  induction is with
  | nil => exact .nil
  | cons i is ih => exact .cons (.int _) ih
theorem rgOk_of {a b : Int} (h1 : small a = true) (h2 : small b = true) (hl : (rangeL a b 1).length ≤ lim) : RgOk a b := by
  have h1 := small_iff.mp h1
  have h2 := small_iff.mp h2
  have : (b - a).toNat ≤ 4000000 := by
    rw [rangeL_1, List.length_map, List.length_range] at hl
    exact hl
  exact ⟨by omega, by omega, by omega, by omega, by omega⟩
end
section
variable {tab : List FI} {cs : List (Str × PyData)} {bn : List Str} {n : Nat} {sc : Scope} {N : List Str} {k : Nat} {tp : Bool} {fc : Str → Bool} {x : Str} {e a b c : Expr} {es : List Expr} {m ma mb mc : M Opd} {ms : List (M Opd)} {pos q q2 q3 : Pos} {tg : Expr} {X : Cx} {B : WX}
theorem e_tupR1 (h : okG sc "tuple" = true) (hb : bn.contains "tuple" = true) (h2 : okG sc "range" = true) (hb2 : bn.contains "range" = true) (ha : EE (PL tab cs bn n sc N k tp fc) a ma) (hn : notStar a = true) :
    EE (PL tab cs bn n sc N k tp fc) (.Call (.Name "tuple" q) [.Call (.Name "range" q2) [a] [] q3] [] pos) (eOps rngTupD [ma]) := fun X B I => by
  refine PE.imp (pe_tupRgF I.calm (I.gl h).1 (I.bn' hb) (prg_1 (I.gl h2).1 (I.bn' hb2) (ha X B I) (starEach_cons hn _ _)) (starEach_cons rfl _ _)) fun σ H Q h => tM_mono (ops_1 h) fun v H1 qq => ?_
  obtain ⟨F0, l, σ', ds, z, rl, rd, e, k⟩ := qq
  obtain ⟨d, rfl, r1⟩ := rd.one'
  unfold rngTupD at e
  split at e
  · rename_i xs hx
    split at e
    · rename_i hl
      cases e
      unfold rangeOf at hx
      split at hx
      · rename_i i heq
        split at hx
        · rename_i hs
          cases hx
          cases heq
          have := rd_int r1
          subst this
          exact ⟨i, rfl, rgOk_of rfl hs hl, fun p o hp hd => k _ _ (.tup hp hd (rfs_rg 0 i))⟩
        · cases hx
      · rename_i heq; cases heq
      · rename_i heq; cases heq
      · cases hx
    · cases e
  · cases e
theorem e_lstR1 (h : okG sc "list" = true) (hb : bn.contains "list" = true) (h2 : okG sc "range" = true) (hb2 : bn.contains "range" = true) (ha : EE (PL tab cs bn n sc N k tp fc) a ma) (hn : notStar a = true) :
    EE (PL tab cs bn n sc N k tp fc) (.Call (.Name "list" q) [.Call (.Name "range" q2) [a] [] q3] [] pos) (eOps rngLstD [ma]) := fun X B I => by
  refine PE.imp (pe_listRg I.calm (I.gl h).1 (I.bn' hb) (prg_1 (I.gl h2).1 (I.bn' hb2) (ha X B I) (starEach_cons hn _ _)) (starEach_cons rfl _ _)) fun σ H Q h => tM_mono (ops_1 h) fun v H1 qq => ?_
  obtain ⟨F0, l, σ', ds, z, rl, rd, e, k⟩ := qq
  obtain ⟨d, rfl, r1⟩ := rd.one'
  unfold rngLstD at e
  split at e
  · rename_i xs hx
    split at e
    · rename_i hl
      cases e
      unfold rangeOf at hx
      split at hx
      · rename_i i heq
        split at hx
        · rename_i hs
          cases hx
          cases heq
          have := rd_int r1
          subst this
          exact ⟨i, rfl, rgOk_of rfl hs hl, fun p hp => k _ _ (.lst hp (rfs_rg 0 i))⟩
        · cases hx
      · rename_i heq; cases heq
      · rename_i heq; cases heq
      · cases hx
    · cases e
  · cases e
theorem e_tupR2 (h : okG sc "tuple" = true) (hb : bn.contains "tuple" = true) (h2 : okG sc "range" = true) (hb2 : bn.contains "range" = true) (ha : EE (PL tab cs bn n sc N k tp fc) a ma) (hn : notStar a = true) (hc : EE (PL tab cs bn n sc N k tp fc) c mc) (hn2 : notStar c = true) :
    EE (PL tab cs bn n sc N k tp fc) (.Call (.Name "tuple" q) [.Call (.Name "range" q2) [a, c] [] q3] [] pos) (eOps rngTupD [ma, mc]) := fun X B I => by
  refine PE.imp (pe_tupRgF I.calm (I.gl h).1 (I.bn' hb) (prg_2 (I.gl h2).1 (I.bn' hb2) (ha X B I) (hc X B I) (starEach_cons hn _ _) (starEach_cons hn2 _ _) (nostar_back _ _ (by simp only [List.all_cons, hn2]; rfl))) (starEach_cons rfl _ _)) fun σ H Q h => tM_mono (ops_2 h) fun v H1 h1 => tM_mono h1 fun w H2 qq => ?_
  obtain ⟨F0, l, σ', ds, z, rl, rd, e, k⟩ := qq
  obtain ⟨d, d2, rfl, r1, r2⟩ := rd.two'
  unfold rngTupD at e
  split at e
  · rename_i xs hx
    split at e
    · rename_i hl
      cases e
      unfold rangeOf at hx
      split at hx
      · rename_i heq; cases heq
      · rename_i i j heq
        split at hx
        · rename_i hs
          cases hx
          cases heq
          have e1 := rd_int r1
          have e2 := rd_int r2
          subst e1 e2
          rw [Bool.and_eq_true] at hs
          exact ⟨i, j, rfl, rfl, rgOk_of hs.1 hs.2 hl, fun p o hp hd => k _ _ (.tup hp hd (rfs_rg i j))⟩
        · cases hx
      · rename_i heq; cases heq
      · cases hx
    · cases e
  · cases e
theorem e_lstR2 (h : okG sc "list" = true) (hb : bn.contains "list" = true) (h2 : okG sc "range" = true) (hb2 : bn.contains "range" = true) (ha : EE (PL tab cs bn n sc N k tp fc) a ma) (hn : notStar a = true) (hc : EE (PL tab cs bn n sc N k tp fc) c mc) (hn2 : notStar c = true) :
    EE (PL tab cs bn n sc N k tp fc) (.Call (.Name "list" q) [.Call (.Name "range" q2) [a, c] [] q3] [] pos) (eOps rngLstD [ma, mc]) := fun X B I => by
  refine PE.imp (pe_listRg I.calm (I.gl h).1 (I.bn' hb) (prg_2 (I.gl h2).1 (I.bn' hb2) (ha X B I) (hc X B I) (starEach_cons hn _ _) (starEach_cons hn2 _ _) (nostar_back _ _ (by simp only [List.all_cons, hn2]; rfl))) (starEach_cons rfl _ _)) fun σ H Q h => tM_mono (ops_2 h) fun v H1 h1 => tM_mono h1 fun w H2 qq => ?_
  obtain ⟨F0, l, σ', ds, z, rl, rd, e, k⟩ := qq
  obtain ⟨d, d2, rfl, r1, r2⟩ := rd.two'
  unfold rngLstD at e
  split at e
  · rename_i xs hx
    split at e
    · rename_i hl
      cases e
      unfold rangeOf at hx
      split at hx
      · rename_i heq; cases heq
      · rename_i i j heq
        split at hx
        · rename_i hs
          cases hx
          cases heq
          have e1 := rd_int r1
          have e2 := rd_int r2
          subst e1 e2
          rw [Bool.and_eq_true] at hs
          exact ⟨i, j, rfl, rfl, rgOk_of hs.1 hs.2 hl, fun p hp => k _ _ (.lst hp (rfs_rg i j))⟩
        · cases hx
      · rename_i heq; cases heq
      · cases hx
    · cases e
  · cases e
end
/-! enumerate of a tuple -/
set_option maxHeartbeats 1000000 in
theorem meets_enumerate_new1 {v : Value} {o : Obj} {H : Heap → Prop} (B : Begins v o H) :
    Meets (Builtin.«enumerate.__new__» ⟨[.type "enumerate", v], []⟩) (fun _ R s => H s.heap ∧
      R (.ok (.ret (.ref (s.heap.push o).objs.size))) { s with heap := (s.heap.push o).push { cls := .type "enumerate", data := .fields #[.none, .bool false, .ref s.heap.objs.size, rawInt 0, .none, .none] } }) :=
  .of_wp fun prog w A R s h => by
    obtain ⟨hp, g, d, tk, os⟩ := s; obtain ⟨h1, h⟩ := h
    have hsub := sub_enumerate
    have q1 : ∀ {A' : Around} {E : Value → Shared → Prop} {Q : Value → Shared → Prop}, Q (.ref hp.objs.size) ⟨hp.push o, g, d, tk, os⟩ → wpAny (model prog w) A' (pyIter v) Q E ⟨hp, g, d, tk, os⟩ :=
      fun q => B.iter prog w _ _ ⟨hp, g, d, tk, os⟩ _ h1 q
    wp_walk using q1
    refine wpAny_stack_any fun st => wpAny_pure ?_
    split
    · rename_i c _ _ _ _ _
      cases (c == Value.type "enumerate")
      · wp_walk using q1
        exact ⟨_, rfl, h⟩
      · wp_walk using q1
        exact ⟨_, rfl, h⟩
    · wp_walk using q1
      exact ⟨_, rfl, h⟩
theorem enum_begins1 {prog : Program} {w : World} {A : Around} {E : Value → Shared → Prop} {s : Shared} {v : Value} {o : Obj} {H : Heap → Prop} {Q : Value → Shared → Prop} (B : Begins v o H) (h1 : H s.heap)
    (h : ∀ h', IsEnum h' (s.heap.objs.size + 1) s.heap.objs.size 0 .none → h'.get? s.heap.objs.size = some o → h'.objs.size = s.heap.objs.size + 2 →
      (∀ b o, s.heap.get? b = some o → h'.get? b = some o) → Q (.ref (s.heap.objs.size + 1)) { s with heap := h' }) :
    wpAny (model prog w) A (call (.type "enumerate") [v]) Q E s := by
  refine callType_new F.called_enumerate (by decide) (F.typeCall_enumerate_1 _) (F.newCall_enumerate_1 _) (fun obj => F.args_object_init_2 obj _) F.entry_enumerate_new
    (meets_enumerate_new1 B) ⟨h1, ?_⟩
  have hz : (s.heap.push o).objs.size = s.heap.objs.size + 1 := Heap.size_push ..
  show _ ∧ _
  rw [hz]
  have he : IsEnum ((s.heap.push o).push { cls := .type "enumerate", data := .fields #[.none, .bool false, .ref s.heap.objs.size, rawInt 0, .none, .none] }) (s.heap.objs.size + 1) s.heap.objs.size 0 .none := by
    have := Heap.get?_push_size (s.heap.push o) (o := { cls := .type "enumerate", data := .fields #[.none, .bool false, .ref s.heap.objs.size, rawInt 0, .none, .none] }) rfl
    rw [hz] at this; exact this
  refine ⟨⟨_, he, rfl⟩, h _ he (Heap.get?_push_of_some _ (Heap.get?_push_size _ B.free)) (by rw [Heap.size_push, hz]) fun b o x => Heap.get?_push_of_some _ (Heap.get?_push_of_some _ x)⟩
end L2.DL
/-! DL24: enumerate, zip as walks -/
namespace L2.DL
open PySem PySem.Spec PyProof.Rows
def IteT (K : PySem.W.Frag) (a : Addr) : It :=
  ⟨fun i H => ∃ (xs : List V) (x : V), SqT K H a xs ∧ xs[i]? = some x, fun i H v H' => ∃ T x, v = .ref T ∧ H T = none ∧ H' = upd H T (.tup [.int (i : Nat), x]) ∧ ∀ xs, SqT K H a xs → xs[i]? = some x, fun i H => ∃ xs : List V, SqT K H a xs ∧ xs.length ≤ i⟩
theorem tup_ne_iter {h : Heap} {a it : Addr} {its : Array Value} {i : Nat} (p : h.IsTuple a its) (q : h.IsTupleIter it a i) : a ≠ it := by
  rintro rfl
  obtain ⟨o, e1, c1, _⟩ := p
  obtain ⟨o2, e2, c2, _⟩ := q
  rw [e1] at e2
  cases e2
  rw [c1] at c2
  exact absurd c2 (by decide)
theorem turn_enumT {P : Program} {w : World} {K : PySem.W.Frag} {elts : List Expr} {kk : Nat} {tpos : Pos} (a e it : Addr) :
    Turn P w K (.Tuple elts kk tpos) (IteT K a) [e, it] e (fun i h => (∃ old, IsEnum h e it ((i : Nat) : Int) old) ∧ h.IsTupleIter it a i ∧ e ≠ it) where
  mem := by simp
  obj := fun i h st b hb => by
    obtain ⟨⟨old, he⟩, ⟨o, ho, hc, hd⟩, _⟩ := st
    have e' : b = e ∨ b = it := by simpa using hb
    rcases e' with z | z
    · rw [z]; exact ⟨_, he, fun v q => nomatch q⟩
    · rw [z]; exact ⟨o, ho, fun v q => by rw [hd] at q; cases q⟩
  keep := fun i h h' st k => let ⟨⟨old, he⟩, hi, hne⟩ := st; ⟨⟨old, k e (by simp) _ he⟩, hi.at fun o q => k it (by simp) o q, hne⟩
  item := by
    intro X hP hw hK hc i pins s σ H E I hf st hg
    subst hP hw hK
    obtain ⟨⟨old, he⟩, hit, hne⟩ := st
    obtain ⟨xs, x, hq, hx⟩ := hg
    obtain ⟨its, rv, p, hz⟩ := I.tuple hq
    have p : s.heap.IsTuple a its.toArray := p
    obtain ⟨u, hu, ru⟩ := rv.get hx
    have hel : e < s.heap.objs.size := Heap.lt_size he
    have hil : it < s.heap.objs.size := by obtain ⟨_, q, _⟩ := hit; exact Heap.lt_size q
    have hlt : i < its.toArray.size := by
      have := (List.getElem?_eq_some_iff.mp hu).1
      rw [List.size_toArray]; exact this
    have hea : e ≠ a := by
      rintro rfl
      obtain ⟨o, e1, c1, _⟩ := p
      rw [he] at e1; cases e1
      have c1 : Value.type "enumerate" = Value.type "tuple" := c1
      exact absurd c1 (by decide)
    have hhd : (X.A.in1).handled = none := I.ok.hd hc
    refine wpAny_pyNext_enum_itemD (Draws.tuple hhd it a (tup_ne_iter p hit) its.toArray) he ⟨hit, p⟩ hlt hne (by simp [hne, hea]) fun y h' tk hP ho hst' hT hsz hk => ?_
    have ey : y = u := by
      have hP : its.toArray[i]? = some y := hP
      have hu' : its.toArray[i]? = some u := by simpa using hu
      rw [hu'] at hP
      exact (Option.some.inj hP).symm
    subst ey
    refine ⟨_, rfl, wpAny_letOwnedTupleGo_enum (s := { s with heap := h', toks := tk + 1 }) ho fun h'' he' sb => ?_⟩
    have hT2 : h''.get? s.heap.objs.size = some { cls := .type "tuple", data := .seq #[.int i tk, y] } := (sb.2 _ (Nat.ne_of_gt hel)).trans hT
    have new : ObjOk X.prog X.w (upd H s.heap.objs.size (.tup [.int (i : Nat), x])) h'' s.heap.objs.size (.tup [.int (i : Nat), x]) :=
      ⟨by show 2 ≤ sizeLine; decide, [.int i tk, y], .cons ⟨_, rfl⟩ (.cons ru .nil), ⟨_, hT2, rfl, _, rfl⟩⟩
    have I1 : Inv X pins σ (upd H s.heap.objs.size (.tup [.int (i : Nat), x])) { s with heap := h'', toks := tk + 1 } :=
      I.turnedNew (ch := [e, it]) (fun b ob hb q => (sb.2 b (fun z => hb (by simp [z]))).trans (hk b ob (fun z => hb (by simp [z])) (fun z => hb (by simp [z])) q)) hf (Nat.le_refl _) new
    refine ⟨.ref s.heap.objs.size, _, I1, rfl, ⟨_, x, rfl, I.hok.fresh (Nat.le_refl _), rfl, fun ys hy => by rw [I.tuple_inj hy hq]; exact hx⟩, ⟨⟨y, ?_⟩, hst'.1.at fun o q => (sb.2 it (Ne.symm hne)).trans q, hne⟩, fun b hb => ?_⟩
    · have e1 : ((i + 1 : Nat) : Int) = (i : Int) + 1 := by omega
      rw [e1]; exact he'
    · have hb' : b < s.heap.objs.size := by
        have e' : b = e ∨ b = it := by simpa using hb
        rcases e' with z | z
        · rw [z]; exact hel
        · rw [z]; exact hil
      rw [upd_ne (Nat.ne_of_lt hb')]
      exact (hf b hb).1
  done := by
    intro X hP hw hK hc i pins s σ H E I hf st hg
    subst hP hw hK
    obtain ⟨⟨old, he⟩, hit, hne⟩ := st
    obtain ⟨xs, hq, hx⟩ := hg
    obtain ⟨its, rv, p, hz⟩ := I.tuple hq
    have p : s.heap.IsTuple a its.toArray := p
    obtain ⟨f0, f1, f2, f3, f4, f5⟩ := hf it (by simp)
    have hl := rv.length
    have hhd : (X.A.in1).handled = none := I.ok.hd hc
    -- the iterator at its end
    have hT : s.TypeIs (.ref e) "enumerate" := ⟨_, he, rfl⟩
    unfold pyNext
    refine wpAny_bind (wpAny_attempt (wpAny_callSpecial?_slot (name := Str.ofString "__next__") hT F.slot_enumerate_next
      (wpAny_call_entry F.slot_enumerate_next hT F.entry_enumerate_next ?_ (F.args_enumerate_next_1 _))))
    show wpAny _ _ (field (.ref e) 2 >>= _) _ _ _
    refine wpAny_bind (wpAny_field he rfl (x := .ref it) rfl ?_)
    refine wpAny_bind (wpAny_nextOf_tuple_end hhd hit p (by simp; omega) fun h' x he' hx' => ?_)
    obtain ⟨o, ho, hcl⟩ := hx'
    refine wpAny_bind (wpAny_isInstance (T := "StopIteration") (b := true) ⟨o, ho, hcl⟩ isSubtype_stop ?_)
    exact wpAny_pure ⟨rfl, I.turned (t' := s.toks) (fun b o hb q => he' b o hb q) f0 f1 f3 f4 f5⟩
  self := fun A i s Q E st h => let ⟨⟨_, he⟩, _⟩ := st; wpAny_pyIter_enum he h
section
variable {X : Cx} {B : WX} {e e2 : Expr} {m m2 : M Opd} {ta : TA} {p pos tpos : Pos} {elts : List Expr} {kk : Nat}
def iEnA (K : PySem.W.Frag) (ta : TA) : TI := fun σ H R => ta σ H fun vs H1 => ∃ a, vs = [.ref a] ∧ (((∃ xs, SqL K H1 a xs) ∧ R (Ite K a) H1) ∨ ((∃ xs, SqT K H1 a xs) ∧ R (IteT K a) H1))
theorem pi_enA (hg : Gl X "enumerate") (hm : X.mg "enumerate" = none) (ha : PA X [e] ta) (hs : starEach [e] X.env = [(false, eval e X.env)]) :
    PI X (.Tuple elts kk tpos) (.Call (.Name "enumerate" p) [e] [] pos) (iEnA X.K ta) := by
  refine ⟨fun pins s σ H R I h => ?_⟩
  refine Call_ (ld_blt I hg hm boot_enumerate (PyProof.Rows.callWith_type1 (thn (ha.run pos pins s σ H _ I h) fun us s1 ⟨vs, H1, I1, r1, q1⟩ => ?_) hs rfl))
  obtain ⟨a, ex, q⟩ := q1
  subst ex
  cases r1 with
  | cons r rr =>
    cases rr
    cases r
    have fp : ∀ b, b ∈ [s1.heap.objs.size + 1, s1.heap.objs.size] → FpOk X pins H1 b := fun b hb => by
      have e' : b = s1.heap.objs.size + 1 ∨ b = s1.heap.objs.size := by simpa using hb
      have hle : s1.heap.objs.size ≤ b := by
        rcases e' with z | z
        · rw [z]; exact Nat.le_add_right _ _
        · rw [z]; exact Nat.le_refl _
      exact I1.fpOk hle (I1.hok.fresh hle)
    rcases q with ⟨⟨xs, hq⟩, q⟩ | ⟨⟨xs, hq⟩, q⟩
    · obtain ⟨its, rv, p', hz⟩ := I1.list hq
      refine call_enumerate_list p'.isList fun h' he hit hsz hk => wpAny_pyIter_enum he ?_
      have I2 : Inv X pins σ H1 { s1 with heap := h' } := I1.kept (t' := s1.toks) hk
      exact ⟨s1.heap.objs.size + 1, [s1.heap.objs.size + 1, s1.heap.objs.size], _, _, H1, rfl, I2, turn_enum a (s1.heap.objs.size + 1) s1.heap.objs.size, ⟨⟨.none, he⟩, hit, Nat.succ_ne_self _⟩, fp, q⟩
    · obtain ⟨its, rv, p', hz⟩ := I1.tuple hq
      have p' : s1.heap.IsTuple a its.toArray := p'
      refine enum_begins1 (begins_tuple a its.toArray) p' fun h' he hit hsz hk => wpAny_pyIter_enum he ?_
      have I2 : Inv X pins σ H1 { s1 with heap := h' } := I1.kept (t' := s1.toks) hk
      exact ⟨s1.heap.objs.size + 1, [s1.heap.objs.size + 1, s1.heap.objs.size], _, _, H1, rfl, I2, turn_enumT a (s1.heap.objs.size + 1) s1.heap.objs.size, ⟨⟨.none, he⟩, ⟨_, hit, rfl, rfl⟩, Nat.succ_ne_self _⟩, fp, q⟩
theorem enumL_get : ∀ (xs : List PyData) (k i : Nat) (d : PyData), (enumL k xs)[i]? = some d → ∃ x, xs[i]? = some x ∧ d = .tuple [.int ((k + i : Nat) : Int), x]
  | [], k, i, d, h => by simp [enumL] at h
  | x :: xs, k, 0, d, h => by simp [enumL] at h; exact ⟨x, rfl, h.symm⟩
  | x :: xs, k, i + 1, d, h => by
    obtain ⟨y, h1, h2⟩ := enumL_get xs (k + 1) i d (by simpa [enumL] using h)
    exact ⟨y, by simpa using h1, by rw [h2, show k + 1 + i = k + (i + 1) by omega]⟩
theorem enumL_len : ∀ (xs : List PyData) (k : Nat), (enumL k xs).length = xs.length
  | [], k => rfl
  | x :: xs, k => by simp [enumL, enumL_len xs]
theorem zipL_get : ∀ (xs ys : List PyData) (i : Nat) (d : PyData), (zipL xs ys)[i]? = some d → ∃ x y, xs[i]? = some x ∧ ys[i]? = some y ∧ d = .tuple [x, y]
  | [], _, i, d, h => by simp [zipL] at h
  | _ :: _, [], i, d, h => by simp [zipL] at h
  | x :: xs, y :: ys, 0, d, h => by simp [zipL] at h; exact ⟨x, y, rfl, rfl, h.symm⟩
  | x :: xs, y :: ys, i + 1, d, h => by
    obtain ⟨u, v, h1, h2, h3⟩ := zipL_get xs ys i d (by simpa [zipL] using h)
    exact ⟨u, v, by simpa using h1, by simpa using h2, h3⟩
theorem zipL_len : ∀ (xs ys : List PyData), (zipL xs ys).length = min xs.length ys.length
  | [], ys => by simp [zipL]
  | x :: xs, [] => by simp [zipL]
  | x :: xs, y :: ys => by simp [zipL, zipL_len xs ys]
theorem mi_enum (hg : Gl X "enumerate") (hm : X.mg "enumerate" = none) (ha : ME X B e m) (hn : notStar e = true) : MI X B (.Tuple elts kk tpos) (.Call (.Name "enumerate" p) [e] [] pos) (iEnum m) := by
  refine PI.imp (pi_enA hg hm (pa_cons ha pa_nil (starEach_cons hn _ _)) (by rw [starEach_cons hn]; rfl)) fun σ H R h => ?_
  obtain ⟨F, l, r, h⟩ := h
  refine tM_of r Step.refl (Run.bd h) fun o F1 l1 H1 v r1 s1 b1 ro nw q => ?_
  rcases readO_cases (l := l1) o with ⟨d, e1, e2⟩ | e2
  · have q1 := Run.get q e2
    rcases lft_cases (l := l1) (seqOf d) with ⟨xs, e3, e4⟩ | e4
    · have q2 := (q1.get e4).rt r1 b1
      obtain ⟨a, vs, rfl, hs, hw⟩ := ro.seq r1 e1 e3
      refine ⟨a, rfl, ?_⟩
      cases hd : isList d with
      | true =>
        rw [hd] at hs
        refine .inl ⟨⟨vs, hs⟩, q2 _ fun js l2 el R => ?_⟩
        have W := hw js l2 _ (fun i hi => hi) el R
        rw [hd] at W
        intro F2 l3 σ2 H2 r2 s2 i
        have sq : SqL X.K H2 a vs := W.at' F2 l3 σ2 H2 r2 s2
        refine ⟨fun hi => ⟨vs, sq, by rw [W.rfs.length]; rw [enumL_len] at hi; exact hi⟩, fun d' hd' => ?_⟩
        obtain ⟨y, hy, rfl⟩ := enumL_get _ _ _ _ hd'
        obtain ⟨x, hx, rx⟩ := W.rfs.get hy
        refine ⟨⟨vs, x, sq, hx⟩, fun z H3 hz => ?_⟩
        obtain ⟨T, x', rfl, hT, rfl, hall⟩ := hz
        have ex := hall vs sq
        rw [hx] at ex; cases ex
        have rx2 := s2.rf (R.rel r1) rx
        exact ⟨r2.laid hT, Bs.to.laid (b := ⟨F2, l3, σ2, H2⟩) Step.refl hT, T, _, _, rfl, rfl, .inl (.inl upd_same), .cons (by have := RF.int (K := X.K) (F := F2) (H := upd H2 T (.tup [.int (i : Nat), x])) (i : Int); simpa using this) (.cons (rx2.keep (Keeps.laid hT)) .nil)⟩
      | false =>
        rw [hd] at hs
        refine .inr ⟨⟨vs, hs⟩, q2 _ fun js l2 el R => ?_⟩
        have W := hw js l2 _ (fun i hi => hi) el R
        rw [hd] at W
        intro F2 l3 σ2 H2 r2 s2 i
        have sq : SqT X.K H2 a vs := W.at' F2 l3 σ2 H2 r2 s2
        refine ⟨fun hi => ⟨vs, sq, by rw [W.rfs.length]; rw [enumL_len] at hi; exact hi⟩, fun d' hd' => ?_⟩
        obtain ⟨y, hy, rfl⟩ := enumL_get _ _ _ _ hd'
        obtain ⟨x, hx, rx⟩ := W.rfs.get hy
        refine ⟨⟨vs, x, sq, hx⟩, fun z H3 hz => ?_⟩
        obtain ⟨T, x', rfl, hT, rfl, hall⟩ := hz
        have ex := hall vs sq
        rw [hx] at ex; cases ex
        have rx2 := s2.rf (R.rel r1) rx
        exact ⟨r2.laid hT, Bs.to.laid (b := ⟨F2, l3, σ2, H2⟩) Step.refl hT, T, _, _, rfl, rfl, .inl (.inl upd_same), .cons (by have := RF.int (K := X.K) (F := F2) (H := upd H2 T (.tup [.int (i : Nat), x])) (i : Int); simpa using this) (.cons (rx2.keep (Keeps.laid hT)) .nil)⟩
    · exact absurd (bd_stk e4) q1.there
  · exact absurd (bd_stk e2) (Run.there q)
theorem mi_zip (hg : Gl X "zip") (hm : X.mg "zip" = none) (ha : MA X B [e, e2] [m, m2]) (hn : notStar e = true) (hn2 : notStar e2 = true) : MI X B (.Tuple elts kk tpos) (.Call (.Name "zip" p) [e, e2] [] pos) (iZip [m, m2]) := by
  refine PI.imp (RZ.pi_zipA hg hm ha (starEach_cons hn _ _) (nostar_back _ _ (by simp only [List.all_cons, hn2]; rfl))) fun σ H R h => ?_
  obtain ⟨F, l, r, h⟩ := h
  refine tMA_of r Step.refl (Run.bd h) fun os F1 l1 H1 vs hlen r1 s1 b1 ro nw q => ?_
  cases ro with
  | nil => simp at hlen
  | @cons o1 v1 os vs ro1 t _ =>
    cases t with
    | nil => simp at hlen
    | @cons o2 v2 os vs ro2 t _ =>
      cases t with
      | cons _ _ _ => simp at hlen
      | nil =>
        rcases readO_cases (l := l1) o1 with ⟨d1, e1, e1'⟩ | e1'
        · rcases readO_cases (l := l1) o2 with ⟨d2, e2, e2'⟩ | e2'
          · have er : readAll [o1, o2] l1 = .ok [d1, d2] l1 := by
              show bd (readO o1) _ l1 = _
              rw [bd_ok e1']
              show bd (bd (readO o2) _) _ l1 = _
              rw [bd_ok (by rw [bd_ok e2']; rfl)]
              rfl
            have q1 := Run.get q er
            rcases lft_cases (l := l1) (zipOf [d1, d2]) with ⟨zs, e3, e4⟩ | e4
            · have q2 := (q1.get e4).rt r1 b1
              have both : ∀ (bb : Bool) (xs ys : List PyData), isList d1 = bb → isList d2 = bb → seqOf d1 = some xs → seqOf d2 = some ys → zs = zipL xs ys →
                  ∃ a b vs ws, v1 = .ref a ∧ v2 = .ref b ∧ SqB X.K H1 a vs bb ∧ SqB X.K H1 b ws bb ∧ ∀ js l2, lockAll ([o1, o2].flatMap srcOf) l1 = .ok js l2 → LockR l1 js l2 → WSeq X.K F1 l2 σ H1 a xs vs bb ∧ WSeq X.K F1 l2 σ H1 b ys ws bb := by
                intro bb xs ys h1 h2 h3 h4 h5
                obtain ⟨a, vs, ea, sa, wa⟩ := ro1.seq r1 e1 h3
                obtain ⟨b, ws, eb, sb, wb⟩ := ro2.seq r1 e2 h4
                rw [h1] at sa wa
                rw [h2] at sb wb
                exact ⟨a, b, vs, ws, ea, eb, sa, sb, fun js l2 el R => ⟨wa js l2 _ (fun i hi => by simp [hi]) el R, wb js l2 _ (fun i hi => by simp [hi]) el R⟩⟩
              unfold zipOf at e3
              split at e3
              · rename_i xs ys heq
                simp only [List.cons.injEq] at heq
                obtain ⟨rfl, rfl, _⟩ := heq
                cases e3
                obtain ⟨a, b, vs, ws, rfl, rfl, sa, sb, hw⟩ := both true xs ys rfl rfl rfl rfl rfl
                refine ⟨a, b, vs, ws, rfl, .inl ⟨sa, sb, q2 _ fun js l2 el R => ?_⟩⟩
                obtain ⟨W1, W2⟩ := hw js l2 el R
                intro F2 l3 σ2 H2 r2 s2 i
                have q1 : SqL X.K H2 a vs := W1.at' F2 l3 σ2 H2 r2 s2
                have q2 : SqL X.K H2 b ws := W2.at' F2 l3 σ2 H2 r2 s2
                refine ⟨fun hi => ⟨vs, ws, q1, q2, by rw [W1.rfs.length, W2.rfs.length]; rw [zipL_len] at hi; omega⟩, fun d' hd' => ?_⟩
                obtain ⟨x, y, hx, hy, rfl⟩ := zipL_get _ _ _ _ hd'
                obtain ⟨x', hx', rx⟩ := W1.rfs.get hx
                obtain ⟨y', hy', ry⟩ := W2.rfs.get hy
                refine ⟨⟨vs, ws, x', y', q1, q2, hx', hy'⟩, fun z H3 hz => ?_⟩
                obtain ⟨T, x2, y2, rfl, hT, rfl, hall, hall2⟩ := hz
                have ex := hall vs q1
                rw [hx'] at ex; cases ex
                have ey := hall2 ws q2
                rw [hy'] at ey; cases ey
                exact ⟨r2.laid hT, Bs.to.laid (b := ⟨F2, l3, σ2, H2⟩) Step.refl hT, T, _, _, rfl, rfl, .inl (.inl upd_same), .cons ((s2.rf (R.rel r1) rx).keep (Keeps.laid hT)) (.cons ((s2.rf (R.rel r1) ry).keep (Keeps.laid hT)) .nil)⟩
              · rename_i xs ys heq
                simp only [List.cons.injEq] at heq
                obtain ⟨rfl, rfl, _⟩ := heq
                cases e3
                obtain ⟨a, b, vs, ws, rfl, rfl, sa, sb, hw⟩ := both false xs ys rfl rfl rfl rfl rfl
                refine ⟨a, b, vs, ws, rfl, .inr ⟨sa, sb, q2 _ fun js l2 el R => ?_⟩⟩
                obtain ⟨W1, W2⟩ := hw js l2 el R
                intro F2 l3 σ2 H2 r2 s2 i
                have q1 : SqT X.K H2 a vs := W1.at' F2 l3 σ2 H2 r2 s2
                have q2 : SqT X.K H2 b ws := W2.at' F2 l3 σ2 H2 r2 s2
                refine ⟨fun hi => ⟨vs, ws, q1, q2, by rw [W1.rfs.length, W2.rfs.length]; rw [zipL_len] at hi; omega⟩, fun d' hd' => ?_⟩
                obtain ⟨x, y, hx, hy, rfl⟩ := zipL_get _ _ _ _ hd'
                obtain ⟨x', hx', rx⟩ := W1.rfs.get hx
                obtain ⟨y', hy', ry⟩ := W2.rfs.get hy
                refine ⟨⟨vs, ws, x', y', q1, q2, hx', hy'⟩, fun z H3 hz => ?_⟩
                obtain ⟨T, x2, y2, rfl, hT, rfl, hall, hall2⟩ := hz
                have ex := hall vs q1
                rw [hx'] at ex; cases ex
                have ey := hall2 ws q2
                rw [hy'] at ey; cases ey
                exact ⟨r2.laid hT, Bs.to.laid (b := ⟨F2, l3, σ2, H2⟩) Step.refl hT, T, _, _, rfl, rfl, .inl (.inl upd_same), .cons ((s2.rf (R.rel r1) rx).keep (Keeps.laid hT)) (.cons ((s2.rf (R.rel r1) ry).keep (Keeps.laid hT)) .nil)⟩
              · cases e3
            · exact absurd (bd_stk e4) q1.there
          · refine absurd ?_ (Run.there q)
            have er : readAll [o1, o2] l1 = .stk := by
              show bd (readO o1) _ l1 = _
              rw [bd_ok e1']
              show bd (bd (readO o2) _) _ l1 = _
              rw [bd_stk (by rw [bd_stk e2'])]
            exact bd_stk er
        · refine absurd ?_ (Run.there q)
          have er : readAll [o1, o2] l1 = .stk := by
            show bd (readO o1) _ l1 = _
            rw [bd_stk e1']
          exact bd_stk er
end
section
variable {tab : List FI} {cs : List (Str × PyData)} {bn : List Str} {n : Nat} {sc : Scope} {N : List Str} {k : Nat} {tp : Bool} {fc : Str → Bool} {a b : Expr} {ma mb : M Opd} {pos q tpos : Pos} {elts : List Expr} {kk : Nat}
theorem i_enum (h : okG sc "enumerate" = true) (hb : bn.contains "enumerate" = true) (ha : EE (PL tab cs bn n sc N k tp fc) a ma) (hn : notStar a = true) : II (PL tab cs bn n sc N k tp fc) (.Tuple elts kk tpos) (.Call (.Name "enumerate" q) [a] [] pos) (iEnum ma) := fun X B I =>
  mi_enum (I.gl h).1 (I.bn' hb) (ha X B I) hn
theorem i_zip (h : okG sc "zip" = true) (hb : bn.contains "zip" = true) (ha : AA (PL tab cs bn n sc N k tp fc) [a, b] [ma, mb]) : II (PL tab cs bn n sc N k tp fc) (.Tuple elts kk tpos) (.Call (.Name "zip" q) [a, b] [] pos) (iZip [ma, mb]) := fun X B I => by
  have hs := ha.2.1
  simp only [List.all_cons, List.all_nil, Bool.and_true, Bool.and_eq_true] at hs
  exact mi_zip (I.gl h).1 (I.bn' hb) (ha.1 X B I) hs.1 hs.2
end
end L2.DL
/-! DL25: methods of lists and tuples -/
namespace L2.DL
open PySem PySem.Spec PyProof.Rows
def noSuper : Expr → Bool
  | .Call (.Name _ _) [] [] _ => false
  | _ => true
theorem base_ok {o : Expr} (h : noSuper o = true) (name : Str) (env : Env) (whole : Sem Value) : attributeBase o name env whole = whole := by
  unfold attributeBase
  split
  · cases h
  · rfl
theorem few_ok {es : List Expr} (cpos : Pos) (env : Env) (h : es.all notStar = true) (hl : es.length < 30) : ((backTo cpos (starEach es env)).all (fun x => !x.1) && (backToKw cpos (keywordEach [] env)).all (fun x => x.1.isSome)
      && decide (es.length + ([] : List Keyword).length + (if ([] : List Keyword).isEmpty then 0 else 1) < 30)) = true := by
  have h1 := nostar_back cpos env h
  have h2 : (backTo cpos (starEach es env)).all (fun x => !x.1) = true := by
    rw [List.all_eq_true]
    intro x hx
    cases q : x.1 with
    | false => rfl
    | true =>
      have : (backTo cpos (starEach es env)).any (·.1) = true := List.any_eq_true.mpr ⟨x, hx, q⟩
      rw [h1] at this; cases this
  rw [h2]
  simp [backToKw, keywordEach]
  omega
section
variable {X : Cx} {B : WX} {o e : Expr} {es : List Expr} {to : TE} {t : TA} {name : Str} {apos cpos : Pos}
/-- a method, its type told at run time -/
def tBMX (X : Cx) (name : Str) (to : TE) (t : TA) : TE := fun σ H Q => to σ H fun x H1 => ∃ (T id : String) (r : V → List V → Hp → VK → Prop), PlainAttrs T ∧ Slot T name id ∧ typeOf (.builtin id) = pure (.type "method_descriptor") ∧ MtR X id r ∧
  (∀ (pins : List (Addr × Obj)) (s : Shared) (v : Value), Inv X pins σ H1 s → RelV x v → s.TypeIs v T ∧ ∀ a, v = .ref a → ∃ ob, s.heap.get? a = some ob ∧ ob.dict = none) ∧ t σ H1 fun xs H2 => r x xs H2 Q
theorem pe_bmX (ho : PE X o to) (ha : PA X (e :: es) t) (hb : noSuper o = true) (hline : (apos.endLine == cpos.line) = true) (hn : (e :: es).all notStar = true) (hl : (e :: es).length < 30) : PE X (.Call (.Attribute o name apos) (e :: es) [] cpos) (tBMX X name to t) := by
  have hn1 : notStar e = true := by simp only [List.all_cons, Bool.and_eq_true] at hn; exact hn.1
  have hn2 : es.all notStar = true := by simp only [List.all_cons, Bool.and_eq_true] at hn; exact hn.2
  refine ⟨fun pins s σ H Q I h => ?_⟩
  refine wpAny_Call_method_late (base_ok hb _ _ _) (few_ok _ _ hn hl) hline rfl (thn (ho.run pins s σ H _ I h) fun v s1 ⟨x, H1, I1, r1, T, id, r, pa, slot, hty, hm, ty, q1⟩ => ?_)
  obtain ⟨h1, h2⟩ := ty pins s1 v I1 r1
  refine ⟨T, id, pa, slot, hty, h1, h2, ?_⟩
  have hA := ha.run cpos pins s1 σ H1 _ I1 q1
  rw [starEach_cons hn1] at hA ⊢
  refine Calls.callWith_builtin (by show (false || (backTo cpos (starEach es X.env)).any (·.1)) = false; rw [nostar_back _ _ hn2] <;> rfl) (Calls.evalArgs_plain ?_)
  exact thn hA fun us s2 ⟨vs, H2, I2, r2, q2⟩ => hm pins s2 σ H2 x vs v us Q I2 r1 r2 q2
/-- a list's type -/
theorem sq_is {pins : List (Addr × Obj)} {σ : St} {H : Hp} {s : Shared} {K : PySem.W.Frag} {a : Addr} {vs : List V} (I : Inv X pins σ H s) (h : SqL X.K H a vs) : s.TypeIs (.ref a) "list" ∧ ∀ b, Value.ref a = .ref b → ∃ ob, s.heap.get? b = some ob ∧ ob.dict = none := by
  obtain ⟨its, rv, ⟨o, n, ho, hc, hdn, hd⟩, hz⟩ := I.list h
  exact ⟨⟨o, ho, hc⟩, fun b e => by cases e; exact ⟨o, ho, hdn⟩⟩
theorem tup_is {pins : List (Addr × Obj)} {σ : St} {H : Hp} {s : Shared} {a : Addr} {vs : List V} (I : Inv X pins σ H s) (h : TupD X.K H a vs) : s.TypeIs (.ref a) "tuple" ∧ ∀ b, Value.ref a = .ref b → ∃ ob, s.heap.get? b = some ob ∧ ob.dict = none := by
  rcases h with ⟨o, h, hd⟩ | ⟨o, its, n, h1, h2, h3, _⟩
  · obtain ⟨e1, _, _, _, o', e2, c2, _⟩ := (show ObjOk X.prog X.w H s.heap a (.frz o (.tup vs)) from I.hok a _ h)
    rw [e1] at e2
    cases e2
    exact ⟨⟨o, e1, c2⟩, fun b e => by cases e; exact ⟨o, e1, hd⟩⟩
  · have e := I.kIn a o h1
    exact ⟨⟨o, e, h2⟩, fun b q => by cases q; exact ⟨o, e, h3⟩⟩
/-! methods that change a list -/
def rMut (K : PySem.W.Frag) (f : PyData → List PyData → Option (PyData × PyData)) : V → List V → Hp → VK → Prop := fun x ws H Q => ∃ (F : Addr → Prop) (l : L) (σ : St) (a : Addr) (xs : List PyData) (vs : List V) (ds : List PyData) (z : PyData) (c' : PyData), x = .ref a ∧ Rel K F l σ H ∧ ¬ F a ∧ H a = some (.lst vs) ∧ RFs K F H vs xs ∧ RFs K F H ws ds ∧ f (.list xs) ds = some (z, c') ∧
  ∀ w vs' xs', c' = .list xs' → RF K F (upd H a (.lst vs')) w z → RFs K F (upd H a (.lst vs')) vs' xs' → Q w (upd H a (.lst vs'))
theorem RFs.one {K : PySem.W.Frag} {F : Addr → Prop} {H : Hp} {ws : List V} {d : PyData} (h : RFs K F H ws [d]) : ∃ w, ws = [w] ∧ RF K F H w d := by
  cases h with | cons h t => cases t; exact ⟨_, rfl, h⟩
theorem RFs.two {K : PySem.W.Frag} {F : Addr → Prop} {H : Hp} {ws : List V} {d e : PyData} (h : RFs K F H ws [d, e]) : ∃ w u, ws = [w, u] ∧ RF K F H w d ∧ RF K F H u e := by
  cases h with | cons h t => cases t with | cons h2 t => cases t; exact ⟨_, _, rfl, h, h2⟩
theorem RFs.erase {K : PySem.W.Frag} {F : Addr → Prop} {H : Hp} {vs : List V} {ds : List PyData} (r : RFs K F H vs ds) (i : Nat) : RFs K F H (vs.eraseIdx i) (ds.eraseIdx i) := by
  induction vs generalizing ds i with
  | nil => cases r; exact .nil
  | cons w vs ih =>
    cases r with
    | cons q t =>
      cases i with
      | zero => exact t
      | succ i => exact .cons q (ih t i)
theorem mut_append : MtR X "list.append" (rMut X.K appendU) := by
  intro pins s σ H x ws v us Q I rx rv h
  obtain ⟨F, l, σ', a, xs, vs, ds, z, c', rfl, rl, nf, hH, fs, fd, e, k⟩ := h
  have kp := Keeps.wr (K := X.K) (F := F) (o := .lst []) nf (by rw [hH]; trivial : Mut (H a))
  unfold appendU at e
  split at e
  · rename_i ys d heq
    cases heq
    split at e
    · rename_i hl
      cases e
      obtain ⟨w, rfl, rw'⟩ := fd.one
      have hlim := lim_line
      refine mt_append pins s σ H _ _ v us Q I rx rv ⟨a, vs, w, rfl, rfl, hH, by rw [fs.length]; omega, k .non _ _ rfl .non ?_⟩
      exact (fs.append (.cons rw' .nil)).keep (Keeps.wr nf (by rw [hH]; trivial))
    · cases e
  · cases e
theorem list_extendW (l : Addr) (items : Array Value) (n : Nat) (b : Addr) (items2 : Array Value) (n2 : Nat) (sl2 : Array (Option Value)) (hc0 : ¬(!items.isEmpty && Builtin.List.listTooLong (items.size + items2.size)) = true) (hsz : items.size ≤ sizeLine) (hs2 : items.size + items2.size ≤ sizeLine + 1) :
    Meets (Builtin.«list.extend» ⟨[.ref l, .ref b], []⟩) (fun _ R s => s.heap.get? l = some { cls := .type "list", dict := none, data := .seq items n, slots := #[] } ∧ s.heap.get? b = some { cls := .type "list", dict := none, data := .seq items2 n2, slots := sl2 } ∧ R (.ok (.ret Value.none)) { s with heap := s.heap.update l (Obj.mapSeq fun x => x ++ items2) }) :=
  .of_wp fun prog w A R s h => by
    obtain ⟨hp, g, d, tk, os⟩ := s; obtain ⟨hl, hb, h⟩ := h
    have hz' : (items ++ items2).size ≤ sizeLine + 1 := by rw [Array.size_append]; omega
    have f1 := AutoSeq1.idx_int; have f2 := AutoSeq1.sub_tuple_tuple; have f3 := AutoSeq1.sub_list_list; have f4 := AutoSeq1.sub_tuple_list; have f5 := AutoSeq1.sub_list_tuple
    wp_walk using AutoSeq1.wpAny_loadPart' hl, AutoSeq1.wpAny_loadPart' hb, (wpAny_updateSeq hl rfl (hz := hsz) (_hz' := hz')); exact ⟨_, rfl, h⟩
theorem mut_pop : MtR X "list.pop" (rMut X.K popU) := by
  intro pins s σ H x ws v us Q I rx rv h
  obtain ⟨F, l, σ', a, xs, vs, ds, z, c', rfl, rl, nf, hH, fs, fd, e, k⟩ := h
  have mu : Mut (H a) := by rw [hH]; trivial
  unfold popU at e
  split at e
  · rename_i ys i heq
    cases heq
    rw [Option.bind_eq_some_iff] at e
    obtain ⟨j, e1, e2⟩ := e
    rw [Option.map_eq_some_iff] at e2
    obtain ⟨d, e3, e4⟩ := e2
    cases e4
    obtain ⟨w, rfl, rw'⟩ := fd.one
    cases rw'
    obtain ⟨y, hy, ry⟩ := fs.get e3
    have hix : ixN vs.length i = some j := by rw [fs.length]; exact e1
    obtain ⟨h1, h2, h3, h4⟩ := ixN_seq hix
    have hn := line63
    have hz : vs.length ≤ sizeLine := (Inv.lstR I (.inl (.inl hH))).1
    refine mt_popAt pins s σ H _ _ v us Q I rx rv ⟨a, vs, i, j, y, rfl, rfl, hH, by omega, by omega, h1, hy, k y _ _ rfl (ry.keep (Keeps.wr nf mu)) ?_⟩
    exact (RFs.erase fs j).keep (Keeps.wr nf mu)
  · cases e
theorem mut_insert : MtR X "list.insert" (rMut X.K insertU) := by
  intro pins s σ H x ws v us Q I rx rv h
  obtain ⟨F, l, σ', a, xs, vs, ds, z, c', rfl, rl, nf, hH, fs, fd, e, k⟩ := h
  have mu : Mut (H a) := by rw [hH]; trivial
  unfold insertU at e
  split at e
  · rename_i ys i d heq
    cases heq
    split at e
    · rename_i hl
      cases e
      obtain ⟨w, u, rfl, rw', ru⟩ := fd.two
      cases rw'
      have hlim := lim_line
      refine mt_insert pins s σ H _ _ v us Q I rx rv ⟨a, vs, i, u, rfl, rfl, hH, by rw [fs.length]; omega, by omega, by omega, k .non _ _ rfl .non ?_⟩
      exact RFs.keep (Keeps.wr nf mu) (((fs.take _).append (.cons ru .nil)).append (fs.drop _))
    · cases e
  · cases e
theorem mut_extend : MtR X "list.extend" (rMut X.K extendU) := by
  intro pins s σ H x ws v us Q I rx rv h
  obtain ⟨F, l, σ', a, xs, vs, ds, z, c', rfl, rl, nf, hH, fs, fd, e, k⟩ := h
  have mu : Mut (H a) := by rw [hH]; trivial
  unfold extendU at e
  split at e
  · rename_i xs0 ys heq
    cases heq
    split at e
    · rename_i hl
      cases e
      obtain ⟨w, rfl, rw'⟩ := fd.one
      obtain ⟨b, ws, rfl, hs, fb⟩ := rd_lst (.inl rw')
      cases rx
      obtain ⟨u, rfl, ru⟩ := rv.one
      cases ru
      have hlim := lim_line
      obtain ⟨z, its, n, r, hl1, e1⟩ := I.lstM hH
      obtain ⟨z2, its2, n2, sl2, r2, hl2, e2⟩ := Inv.lstR I hs
      have q1 := fs.length
      have q2 := fb.length
      have hsz : its.toArray.size + its2.toArray.size ≤ sizeLine := by rw [List.size_toArray, List.size_toArray]; omega
      have hlong : ¬ (!its.toArray.isEmpty && Builtin.List.listTooLong (its.toArray.size + its2.toArray.size)) = true := by
        rw [notLongL hsz, Bool.and_false]
        exact Bool.false_ne_true
      refine call_meets PySem.F.slot_list_extend ⟨_, e1, rfl⟩ PySem.F.entry_list_extend (PySem.F.args_list_extend_2 _ _)
        (list_extendW a its.toArray n b its2.toArray n2 sl2 hlong (by rw [List.size_toArray]; omega) (by omega)) ⟨e1, e2, ?_⟩
      refine ⟨.non, _, I.lset (its' := its ++ its2) hH e1 (by simp) (r.append r2) ?_, rfl, k .non _ _ rfl .non ((fs.append fb).keep (Keeps.wr nf mu))⟩
      rw [List.length_append]
      omega
    · cases e
  · cases e
theorem mut_remove (hu : X.A.units + 64 < cLine) : MtR X "list.remove" (rMut X.K removeU) := by
  intro pins s σ H x ws v us Q I rx rv h
  obtain ⟨F, l, σ', a, xs, vs, ds, z, c', rfl, rl, nf, hH, fs, fd, e, k⟩ := h
  have mu : Mut (H a) := by rw [hH]; trivial
  unfold removeU at e
  split at e
  · rename_i xs0 d heq
    cases heq
    split at e
    · rename_i hd
      rw [Option.map_eq_some_iff] at e
      obtain ⟨j, e1, e2⟩ := e
      cases e2
      rw [Bool.and_eq_true] at hd
      obtain ⟨w, rfl, rw'⟩ := fd.one
      cases rx
      obtain ⟨u, rfl, ru⟩ := rv.one
      obtain ⟨z, its, n, r, hl1, e3⟩ := I.lstM hH
      obtain ⟨as, h4⟩ := Dp.readsAll I xs vs its fs.dp r
      obtain ⟨⟨bs, h5⟩, hp⟩ := RD.reads I (.inl rw' : RD X.K F H w d) ru (by simpa using hd.2)
      have hdep : d.depth ≤ 60 := by simpa [dOk] using hd.1
      refine SeqAt.remove_list_data (vs := its.toArray) (d := d) ⟨_, e3, rfl, n, rfl⟩ (by simpa using h4) h5 fs.plain hp (by omega) e1 (by rw [List.size_toArray]; omega) ?_
      refine ⟨.non, _, I.lset (its' := its.eraseIdx j) hH e3 ?_ (r.eraseIdx j) ?_, rfl, k .non _ _ rfl .non ((RFs.erase fs j).keep (Keeps.wr nf mu))⟩
      · show its.toArray.eraseIdxIfInBounds j = (its.eraseIdx j).toArray
        rw [List.eraseIdxIfInBounds_toArray]
      · have := len_erase vs j
        omega
    · cases e
  · cases e
/-- the rule -/
theorem me_mut {i : Nat} {x : Str} {p : Pos} {f : PyData → List PyData → Option (PyData × PyData)} {id : String} {ms : List (M Opd)} (slot : Slot "list" name id) (hty : typeOf (.builtin id) = pure (.type "method_descriptor")) (hm : MtR X id (rMut X.K f))
    (hN : X.N[i]? = some x) (hv : Vis X.env.scope x) (hd : (x == ("__debug__" : Str)) = false) (hcd : (x == ("__classdict__" : Str)) = false) (ha : MA X B (e :: es) ms) (hline : (apos.endLine == cpos.line) = true) (hn : (e :: es).all notStar = true) (hl : (e :: es).length < 30) :
    ME X B (.Call (.Attribute (.Name x p) name apos) (e :: es) [] cpos) (eMut i f ms) := by
  refine PE.imp (pe_bmX (pe_var hN hv hd hcd) ha rfl hline hn hl) fun σ H Q h => ?_
  obtain ⟨F, l, r, h⟩ := h
  -- the slot
  have slotL : ∀ (l : L), (∃ xs s0, chkL i l = .ok () l ∧ l[i]? = some s0 ∧ (s0 = .own (.list xs) ∨ s0 = .bor (.list xs))) ∨ chkL i l = .stk := fun l => by
    unfold chkL
    cases e : l.getD i .non with
    | own d => cases d <;> first | exact .inr rfl | exact .inl ⟨_, _, rfl, getD_at e (by simp), .inl rfl⟩
    | bor d => cases d <;> first | exact .inr rfl | exact .inl ⟨_, _, rfl, getD_at e (by simp), .inr rfl⟩
    | non => exact .inr rfl
    | frz _ => exact .inr rfl
    | lck _ _ => exact .inr rfl
  have slotA : ∀ {K : PySem.W.Frag} {F : Addr → Prop} {l : L} {σ : St} {H : Hp} {xs : List PyData} {s0 : Sl}, Rel K F l σ H → l[i]? = some s0 → (s0 = .own (.list xs) ∨ s0 = .bor (.list xs)) → ∃ a vs, σ[i]? = some (some (.ref a)) ∧ ¬ F a ∧ H a = some (.lst vs) ∧ RFs K F H vs xs := fun r hs hk => by
    have ok := r.at' i _ hs
    rcases hk with hk | hk <;> subst hk <;> obtain ⟨a, ea, nf, q⟩ := ok <;> cases q with | lst e q => exact ⟨a, _, ea, nf, e, q⟩
  rcases slotL l with ⟨xs, s0, e1, hs, hk⟩ | e1
  · obtain ⟨a, vs, ea, nf, hH, fs⟩ := slotA r hs hk
    have h1 := h.get e1
    refine ⟨.ref a, ea, "list", id, _, PySem.F.plainAttrs_list, slot, hty, hm, fun pins s v I rx => ?_, ?_⟩
    · cases rx
      exact sq_is (K := X.K) I (.inl (.inl hH))
    · refine tMA_of r Step.refl (Run.bd h1) fun os F1 l1 H1 ws hlen r1 s1 b1 ro nw q => ?_
      rcases shareAll_cases os l1 with ⟨ds, l2, e2, k2⟩ | e2
      · obtain ⟨F2, r2, s2, u2, fd⟩ := k2 r1 b1 ro nw
        have q2 := Run.get q e2
        have fin : ∀ (s1 : Sl) (c : PyData) (mk : PyData → Sl), l2.getD i .non = s1 → ((s1 = .own c ∧ mk = .own) ∨ (s1 = .bor c ∧ mk = .bor)) → (∀ z c', onL f ds c = some (z, c') → upM i (onL f ds) l2 = .ok z (l2.set i (mk c'))) → (onL f ds c = none → upM i (onL f ds) l2 = .stk) → rMut X.K f (.ref a) ws H1 Q := by
          intro s1 c mk es hk hup hno
          have hs2 : l2[i]? = some s1 := getD_at es (by rintro rfl; rcases hk with ⟨h, _⟩ | ⟨h, _⟩ <;> cases h)
          have hoo : s1.ownish = true := by rcases hk with ⟨h, _⟩ | ⟨h, _⟩ <;> subst h <;> rfl
          have hg : s1.get = some c := by rcases hk with ⟨h, _⟩ | ⟨h, _⟩ <;> subst h <;> rfl
          obtain ⟨a2, c2, ea2, nf2, q3, eg⟩ := (r2.at' i s1 hs2).ref hoo
          rw [hg] at eg; cases eg
          rw [ea] at ea2; cases ea2
          cases hz : onL f ds c with
          | none => exact absurd (bd_stk (hno hz)) (Run.there q2)
          | some zc =>
            obtain ⟨z, c'⟩ := zc
            have q4 := Run.get q2 (hup z c' hz)
            cases c with
            | list xs2 =>
              have hz : f (.list xs2) ds = some (z, c') := hz
              cases q3 with
              | @lst _ vs2 _ eH fs2 =>
                refine ⟨F2, l2, σ, a, xs2, vs2, ds, z, c', rfl, r2, nf2, eH, fs2, fd, hz, fun w vs' xs' ec rw' rfs' => ?_⟩
                subst ec
                have hk1 : (∃ d, s1 = .own d ∧ mk (.list xs') = .own (.list xs')) ∨ ∃ d, s1 = .bor d ∧ mk (.list xs') = .bor (.list xs') := by
                  rcases hk with ⟨h, h2⟩ | ⟨h, h2⟩
                  · exact .inl ⟨_, h, by rw [h2]⟩
                  · exact .inr ⟨_, h, by rw [h2]⟩
                have r3 := mut_rel r2 hs2 hoo hk1 ea nf2 (by rw [eH]; trivial) (.lst upd_same rfs')
                exact q4.rt r3 (s2.trans (mut_step hs2 hk1 ea)) w rw' trivial
            | _ => cases hz
        cases es2 : l2.getD i .non with
        | non => exact absurd (bd_stk (by unfold upM; rw [es2])) (Run.there q2)
        | frz _ => exact absurd (bd_stk (by unfold upM; rw [es2])) (Run.there q2)
        | lck _ _ => exact absurd (bd_stk (by unfold upM; rw [es2])) (Run.there q2)
        | own c => exact fin _ c .own es2 (.inl ⟨rfl, rfl⟩) (fun z c' hz => by unfold upM; rw [es2]; simp only [hz]) (fun hz => by unfold upM; rw [es2]; simp only [hz])
        | bor c => exact fin _ c .bor es2 (.inr ⟨rfl, rfl⟩) (fun z c' hz => by unfold upM; rw [es2]; simp only [hz]) (fun hz => by unfold upM; rw [es2]; simp only [hz])
      · exact absurd (bd_stk e2) (Run.there q)
  · exact absurd (bd_stk e1) h.there
/-! methods that change nothing -/
theorem mr_index_list (hu : X.A.units + 64 < cLine) : MtR X "list.index" (fun x ws H Q => rD X.K (onS true indexD) (x :: ws) H Q) := by
  intro pins s σ H x ws v us Q I rx rv h
  obtain ⟨F, l, σ', ds, z, rl, rd, e, k⟩ := h
  unfold onS at e
  split at e
  · rename_i xs ds'
    rw [if_pos rfl] at e
    unfold indexD at e
    split at e
    · rename_i xs0 d heq
      simp only [List.cons.injEq, PyData.list.injEq] at heq
      obtain ⟨rfl, rfl⟩ := heq
      split at e
      · rename_i hd
        rw [Option.map_eq_some_iff] at e
        obtain ⟨j, e1, e2⟩ := e
        subst e2
        rw [Bool.and_eq_true] at hd
        obtain ⟨x1, y1, hxy, r1, r2⟩ := rd.two
        cases hxy
        obtain ⟨a, vs, rfl, hs, fs⟩ := rd_lst r1
        cases rx
        obtain ⟨u, rfl, ru⟩ := rv.one
        obtain ⟨its, r, ⟨⟨cls, dd, data, sl⟩, n, ho, hc, hdn, hdt⟩, hz⟩ := I.list hs
        simp only at hc hdt
        subst hc hdt
        obtain ⟨as, h4⟩ := Dp.readsAll I xs vs its fs.dp r
        obtain ⟨⟨bs, h5⟩, hp⟩ := RD.reads I r2 ru (by simpa using hd.2)
        have hdep : d.depth ≤ 60 := by simpa [dOk] using hd.1
        have h4' : ReadsAll s.heap its.toArray.toList xs as := by simpa using h4
        obtain ⟨hj, hit, hno⟩ := SeqAt.hit_at h4' fs.plain e1
        have hl := r.length
        have hsl := sizeLine_eq
        have hj2 : j < its.length := by simpa using hj
        exact call_meets PySem.F.slot_list_index ⟨_, ho, rfl⟩ PySem.F.entry_list_index (PySem.F.args_list_index_2 _ _) (SeqAt.list_indexAt a its.toArray n dd sl u _ j hj (by omega) hit hno) ⟨ho, SeqAt.items_plain h4' h5 fs.plain hp (by show X.A.units + 1 + _ < _; omega), ⟨.int (j : Nat), H, I.tok _, ⟨_, rfl⟩, k _ _ (.same (.int _))⟩⟩
      · cases e
    · rename_i heq
      simp only [List.cons.injEq] at heq
      cases heq.1
    · cases e
  · rename_i heq
    rw [if_neg (by decide)] at e
    cases e
  · cases e
theorem mr_index_tup (hu : X.A.units + 64 < cLine) : MtR X "tuple.index" (fun x ws H Q => rD X.K (onS false indexD) (x :: ws) H Q) := by
  intro pins s σ H x ws v us Q I rx rv h
  obtain ⟨F, l, σ', ds, z, rl, rd, e, k⟩ := h
  unfold onS at e
  split at e
  · rw [if_neg (by decide)] at e
    cases e
  · rename_i xs ds'
    rw [if_pos rfl] at e
    unfold indexD at e
    split at e
    · rename_i heq
      simp only [List.cons.injEq] at heq
      cases heq.1
    · rename_i xs0 d heq
      simp only [List.cons.injEq, PyData.tuple.injEq] at heq
      obtain ⟨rfl, rfl⟩ := heq
      split at e
      · rename_i hd
        rw [Option.map_eq_some_iff] at e
        obtain ⟨j, e1, e2⟩ := e
        subst e2
        rw [Bool.and_eq_true] at hd
        obtain ⟨x1, y1, hxy, r1, r2⟩ := rd.two
        cases hxy
        obtain ⟨a, vs, rfl, hs, fs⟩ := rd_tup r1
        cases rx
        obtain ⟨u, rfl, ru⟩ := rv.one
        obtain ⟨its, r, ht, hz⟩ := I.tuple hs.sq
        obtain ⟨⟨cls, dd, data, sl⟩, ho, hc, n, hdt⟩ := ht
        simp only at hc hdt
        subst hc hdt
        obtain ⟨as, h4⟩ := Dp.readsAll I xs vs its fs.dp r
        obtain ⟨⟨bs, h5⟩, hp⟩ := RD.reads I r2 ru (by simpa using hd.2)
        have hdep : d.depth ≤ 60 := by simpa [dOk] using hd.1
        have h4' : ReadsAll s.heap its.toArray.toList xs as := by simpa using h4
        obtain ⟨hj, hit, hno⟩ := SeqAt.hit_at h4' fs.plain e1
        exact call_meets PySem.F.slot_tuple_index ⟨_, ho, rfl⟩ PySem.F.entry_tuple_index (PySem.F.args_tuple_index_2 _ _) (TI.tuple_indexAt a its.toArray n dd sl u _ j hj hit hno) ⟨ho, SeqAt.items_plain h4' h5 fs.plain hp (by show X.A.units + 1 + _ < _; omega), ⟨.int (j : Nat), H, I.tok _, ⟨_, rfl⟩, k _ _ (.same (.int _))⟩⟩
      · cases e
    · cases e
  · cases e
theorem mr_count_list (hu : X.A.units + 64 < cLine) : MtR X "list.count" (fun x ws H Q => rD X.K (onS true countD) (x :: ws) H Q) := by
  intro pins s σ H x ws v us Q I rx rv h
  obtain ⟨F, l, σ', ds, z, rl, rd, e, k⟩ := h
  unfold onS at e
  split at e
  · rename_i xs ds'
    rw [if_pos rfl] at e
    unfold countD at e
    split at e
    · rename_i xs0 d heq
      simp only [List.cons.injEq, PyData.list.injEq] at heq
      obtain ⟨rfl, rfl⟩ := heq
      split at e
      · rename_i hd
        cases e
        rw [Bool.and_eq_true] at hd
        obtain ⟨x1, y1, hxy, r1, r2⟩ := rd.two
        cases hxy
        obtain ⟨a, vs, rfl, hs, fs⟩ := rd_lst r1
        cases rx
        obtain ⟨u, rfl, ru⟩ := rv.one
        obtain ⟨its, r, pl, hz⟩ := I.list hs
        obtain ⟨as, h4⟩ := Dp.readsAll I xs vs its fs.dp r
        obtain ⟨⟨bs, h5⟩, hp⟩ := RD.reads I r2 ru (by simpa using hd.2)
        have hdep : d.depth ≤ 60 := by simpa [dOk] using hd.1
        exact SeqAt.count_list_data (vs := its.toArray) (d := d) pl.isList (by simpa using h4) h5 fs.plain hp (by omega) ⟨.int _, H, I.tok _, ⟨_, rfl⟩, k _ _ (.same (.int _))⟩
      · cases e
    · rename_i heq
      simp only [List.cons.injEq] at heq
      cases heq.1
    · cases e
  · rw [if_neg (by decide)] at e
    cases e
  · cases e
theorem mr_count_tup (hu : X.A.units + 64 < cLine) : MtR X "tuple.count" (fun x ws H Q => rD X.K (onS false countD) (x :: ws) H Q) := by
  intro pins s σ H x ws v us Q I rx rv h
  obtain ⟨F, l, σ', ds, z, rl, rd, e, k⟩ := h
  unfold onS at e
  split at e
  · rw [if_neg (by decide)] at e
    cases e
  · rename_i xs ds'
    rw [if_pos rfl] at e
    unfold countD at e
    split at e
    · rename_i heq
      simp only [List.cons.injEq] at heq
      cases heq.1
    · rename_i xs0 d heq
      simp only [List.cons.injEq, PyData.tuple.injEq] at heq
      obtain ⟨rfl, rfl⟩ := heq
      split at e
      · rename_i hd
        cases e
        rw [Bool.and_eq_true] at hd
        obtain ⟨x1, y1, hxy, r1, r2⟩ := rd.two
        cases hxy
        obtain ⟨a, vs, rfl, hs, fs⟩ := rd_tup r1
        cases rx
        obtain ⟨u, rfl, ru⟩ := rv.one
        obtain ⟨its, r, ht, hz⟩ := I.tuple hs.sq
        obtain ⟨as, h4⟩ := Dp.readsAll I xs vs its fs.dp r
        obtain ⟨⟨bs, h5⟩, hp⟩ := RD.reads I r2 ru (by simpa using hd.2)
        have hdep : d.depth ≤ 60 := by simpa [dOk] using hd.1
        exact SeqAt.count_tuple_data (vs := its.toArray) (d := d) (show s.heap.IsTuple a its.toArray from ht) (by simpa using h4) h5 fs.plain hp (by omega) ⟨.int _, H, I.tok _, ⟨_, rfl⟩, k _ _ (.same (.int _))⟩
      · cases e
    · cases e
  · cases e
/-- the rule -/
theorem me_meth {f : List PyData → Option (PyData × Bool)} {idL idT : String} {m : M Opd} {ms : List (M Opd)} (sL : Slot "list" name idL) (tL : typeOf (.builtin idL) = pure (.type "method_descriptor")) (hL : MtR X idL fun x ws H Q => rD X.K (onS true f) (x :: ws) H Q)
    (sT : Slot "tuple" name idT) (tT : typeOf (.builtin idT) = pure (.type "method_descriptor")) (hT : MtR X idT fun x ws H Q => rD X.K (onS false f) (x :: ws) H Q)
    (ho : ME X B o m) (ha : MA X B (e :: es) ms) (hb : noSuper o = true) (hline : (apos.endLine == cpos.line) = true) (hn : (e :: es).all notStar = true) (hl : (e :: es).length < 30) : ME X B (.Call (.Attribute o name apos) (e :: es) [] cpos) (eMeth f m ms) := by
  refine PE.imp (pe_bmX ho ha hb hline hn hl) fun σ H Q h => ?_
  obtain ⟨F, l, r, h⟩ := h
  refine tM_of r Step.refl (Run.bd h) fun o1 F1 l1 H1 v r1 s1 b1 ro nw q => ?_
  rcases readO_cases (l := l1) o1 with ⟨d, e1, e2⟩ | e2
  · have q1 := Run.get q e2
    rcases lft_cases (l := l1) (seqOf d) with ⟨xs, e3, e4⟩ | e4
    · have q2 := q1.get e4
      have rest : ∀ bb, isList d = bb → tMA X.K X.mg B ms σ H1 fun ws H2 => rD X.K (onS bb f) (v :: ws) H2 Q := by
        intro bb hbb
        refine tMA_of r1 b1 (Run.bd q2) fun os F2 l2 H2 ws hlen r2 s2 b2 ros nws q3 => ?_
        rcases readO_cases (l := l2) o1 with ⟨d2, e5, e6⟩ | e6
        · have q4 := Run.get q3 e6
          rcases readAll_cases (l := l2) os with ⟨ds, e7, rd⟩ | e7
          · have q5 := q4.get e7
            rcases lft_cases (l := l2) (onS (isList d) f (d2 :: ds)) with ⟨z, e8, e9⟩ | e9
            · have q6 := q5.get e9
              rw [hbb] at e8
              refine ⟨F2, l2, σ, d2 :: ds, z, r2, .cons ((ro.step s2 r1 r2).read r2 e5) (rd r2 ros), e8, fun w H' res => ?_⟩
              obtain ⟨r3, s3, o3, n3⟩ := res.fin r2 b2
              exact q6.rt r3 s3 w o3 n3
            · exact absurd (bd_stk e9) q5.there
          · exact absurd (bd_stk e7) q4.there
        · exact absurd (bd_stk e6) (Run.there q3)
      have rdv := ro.read r1 e1
      cases d with
      | list ys =>
        obtain ⟨a, vs, rfl, hs, fs⟩ := rd_lst rdv
        exact ⟨"list", idL, _, PySem.F.plainAttrs_list, sL, tL, hL, fun pins s u I rx => by cases rx; exact sq_is (K := X.K) I hs, rest true rfl⟩
      | tuple ys =>
        obtain ⟨a, vs, rfl, hs, fs⟩ := rd_tup rdv
        exact ⟨"tuple", idT, _, PySem.F.plainAttrs_tuple, sT, tT, hT, fun pins s u I rx => by cases rx; exact tup_is I hs, rest false rfl⟩
      | none => cases e3
      | bool _ => cases e3
      | int _ => cases e3
      | str _ => cases e3
      | dict _ => cases e3
    · exact absurd (bd_stk e4) q1.there
  · exact absurd (bd_stk e2) (Run.there q)
end
section
variable {p : Pl} {x : Str} {i : Nat} {o e : Expr} {es : List Expr} {m : M Opd} {ms : List (M Opd)} {apos cpos q : Pos} {name : Str}
/-- the methods that change a list -/
inductive MutR : Str → (PyData → List PyData → Option (PyData × PyData)) → Prop
  | append : MutR "append" appendU
  | extend : MutR "extend" extendU
  | pop : MutR "pop" popU
  | insert : MutR "insert" insertU
  | remove : MutR "remove" removeU
theorem e_mut {f : PyData → List PyData → Option (PyData × PyData)} (hf : MutR name f) (hN : p.N[i]? = some x) (h : okV p.sc x = true) (ha : AA p (e :: es) ms) (hline : (apos.endLine == cpos.line) = true) (hl : (e :: es).length < 30) : EE p (.Call (.Attribute (.Name x q) name apos) (e :: es) [] cpos) (eMut i f ms) := fun X B I => by
  obtain ⟨h1, h2, h3⟩ := I.vis h
  have hN' : X.N[i]? = some x := by rw [I.N]; exact hN
  cases hf with
  | append => exact me_mut PySem.F.slot_list_append PySem.F.type_list_append mut_append hN' h1 h2 h3 (ha.1 X B I) hline ha.2.1 hl
  | extend => exact me_mut PySem.F.slot_list_extend PySem.F.type_list_extend mut_extend hN' h1 h2 h3 (ha.1 X B I) hline ha.2.1 hl
  | pop => exact me_mut PySem.F.slot_list_pop PySem.F.type_list_pop mut_pop hN' h1 h2 h3 (ha.1 X B I) hline ha.2.1 hl
  | insert => exact me_mut PySem.F.slot_list_insert PySem.F.type_list_insert mut_insert hN' h1 h2 h3 (ha.1 X B I) hline ha.2.1 hl
  | remove => exact me_mut PySem.F.slot_list_remove PySem.F.type_list_remove (mut_remove I.room.units) hN' h1 h2 h3 (ha.1 X B I) hline ha.2.1 hl
theorem e_index (ho : EE p o m) (ha : AA p (e :: es) ms) (hb : noSuper o = true) (hline : (apos.endLine == cpos.line) = true) (hl : (e :: es).length < 30) : EE p (.Call (.Attribute o "index" apos) (e :: es) [] cpos) (eMeth indexD m ms) := fun X B I =>
  me_meth PySem.F.slot_list_index PySem.F.type_list_index (mr_index_list I.room.units) PySem.F.slot_tuple_index PySem.F.type_tuple_index (mr_index_tup I.room.units) (ho X B I) (ha.1 X B I) hb hline ha.2.1 hl
theorem e_count (ho : EE p o m) (ha : AA p (e :: es) ms) (hb : noSuper o = true) (hline : (apos.endLine == cpos.line) = true) (hl : (e :: es).length < 30) : EE p (.Call (.Attribute o "count" apos) (e :: es) [] cpos) (eMeth countD m ms) := fun X B I =>
  me_meth PySem.F.slot_list_count PySem.F.type_list_count (mr_count_list I.room.units) PySem.F.slot_tuple_count PySem.F.type_tuple_count (mr_count_tup I.room.units) (ho X B I) (ha.1 X B I) hb hline ha.2.1 hl
end
end L2.DL
/-! DLf: displays of dicts, get, len, list of a dict -/
namespace L2.DL
open PySem PySem.Spec PyProof.Rows
/-- {}: the kind of its keys is told (true: tuples of ints) -/
def eDct0 (k : Bool) : M Opd := rt (.t (.dict (if k = true then [(.none, .none)] else [])))
def pairUp : List PyData → Option (List (PyData × PyData))
  | [] => some []
  | k :: v :: r => (pairUp r).map ((k, v) :: ·)
  | _ => none
def allKeyP : List (PyData × PyData) → Bool
  | [] => true
  | p :: r => (keyP p.1).isSome && allKeyP r
def putP (kvs : List (PyData × PyData)) (p : PyData × PyData) : List (PyData × PyData) := match keyP p.1 with
  | some k => putD keyP kvs p.1 p.2 k
  | none => kvs
def mkDK (ds : List PyData) : Option PyData := (pairUp ds).bind fun ps => if allKeyP ps = true then some (.dict (ps.foldl putP [])) else none
def mkDX : List PyData → Option PyData
  | [k, v] => (keyI k).map fun _ => .dict [(.none, .none), (k, v)]
  | _ => none
def eDct (f : List PyData → Option PyData) (es : List (M Opd)) : M Opd := bd (evs es) fun os => bd (shareAll os) fun ds => bd (lft (f ds)) fun d => rt (.t d)
section
variable {X : Cx} {B : WX} {e a b c : Expr} {m ma mb mc : M Opd} {pos : Pos}
theorem me_dct0 : ME X B (.Dict [] [] pos) (eDct0 false) := by
  refine PE.imp pe_dnewK fun σ H Q h => ?_
  obtain ⟨F, l, r, h⟩ := h
  exact fun p hp => h.rt (r.laid hp) (Bs.to.laid (b := ⟨F, l, σ, H⟩) Step.refl hp) _ ⟨p, rfl, r.noF hp, r.noMine hp, .dK upd_same .nil⟩ fun a e => by cases e; exact hp
def tDNewX : TE := fun _ H Q => ∀ p, H p = none → Q (.ref p) (upd H p (.ext (DXat [] p)))
theorem pe_dnewX : PE X (.Dict [] [] pos) tDNewX := ⟨fun pins s σ H Q I h =>
  wpAny_Dict_empty ⟨.ref s.heap.objs.size, _, I.laid (a := s.heap.objs.size) (o := .ext (DXat [] s.heap.objs.size)) (t' := s.toks) (fun _ _ q => Heap.get?_push_of_some _ q) (Nat.le_refl _)
    (dx_new (P := X.prog) (w := X.w) (beq_eq_false_iff_ne.mpr (Ne.symm (Nat.ne_of_lt I.big))) (Nat.zero_le _) (Heap.DictOfH.new s.heap)), rfl, h _ (I.hok.fresh (Nat.le_refl _))⟩⟩
theorem me_dct0X : ME X B (.Dict [] [] pos) (eDct0 true) := by
  refine PE.imp pe_dnewX fun σ H Q h => ?_
  obtain ⟨F, l, r, h⟩ := h
  exact fun p hp => h.rt (r.laid hp) (Bs.to.laid (b := ⟨F, l, σ, H⟩) Step.refl hp) _ ⟨p, rfl, r.noF hp, r.noMine hp, .dX upd_same .nil⟩ fun a e => by cases e; exact hp
/-! displays with ints and texts for keys -/
def flatV : List (V × V) → List V
  | [] => []
  | p :: r => p.1 :: p.2 :: flatV r
def flatM : List (M Opd × M Opd) → List (M Opd)
  | [] => []
  | p :: r => p.1 :: p.2 :: flatM r
theorem pairs_of_ma {K : PySem.W.Frag} {mg : Str → Option Value} {σ : St} : ∀ (ms : List (M Opd × M Opd)) {H : Hp} {Q : List V → Hp → Prop}, tMA K mg B (flatM ms) σ H Q → tPairs (ms.map fun p => (tM K mg B p.1, tM K mg B p.2)) σ H fun ps H2 => Q (flatV ps) H2
  | [], H, Q, h => tMA_nil h
  | p :: r, H, Q, h => tM_mono (tMA_cons h) fun v H1 q => tM_mono (tMA_cons q) fun w H2 q2 => pairs_of_ma r q2
theorem flat_rfs {K : PySem.W.Frag} {F : Addr → Prop} {H : Hp} : ∀ {ps : List (V × V)} {ds : List PyData} {qs : List (PyData × PyData)}, RFs K F H (flatV ps) ds → pairUp ds = some qs → allKeyP qs = true → ∃ kvs : List (Key × V), ps = kvs.map (fun kv => (kV kv.1, kv.2)) ∧ kvs.length = qs.length ∧ DKs K F H qs kvs
  | [], ds, qs, h, e, a => by
    cases h
    cases e
    exact ⟨[], rfl, rfl, .nil⟩
  | (x, y) :: ps, ds, qs, h, e, a => by
    cases h with
    | cons h1 t =>
      cases t with
      | @cons _ _ d ds h2 t =>
        simp only [pairUp, Option.map_eq_some_iff] at e
        obtain ⟨rs, e1, rfl⟩ := e
        simp only [allKeyP, Bool.and_eq_true] at a
        obtain ⟨kvs, e2, e3, e4⟩ := flat_rfs t e1 a.2
        obtain ⟨k, hk⟩ := Option.isSome_iff_exists.mp a.1
        have := rd_keyP (.inl h1) hk
        subst this
        exact ⟨(k, y) :: kvs, by rw [e2]; rfl, by simp [e3], .cons hk h2 e4⟩
theorem merge_rel {K : PySem.W.Frag} {F : Addr → Prop} {H : Hp} {qs : List (PyData × PyData)} {kvs : List (Key × V)} (h : DKs K F H qs kvs) : ∀ {cs : List (PyData × PyData)} {es : List (Key × V)}, DKs K F H cs es → DKs K F H (qs.foldl putP cs) (mergeK es kvs) := by
  induction h with
  | nil => intro cs es h; exact h
  | @cons kd vd k v qs kvs h1 h2 _ ih =>
    intro cs es h
    have e : putP cs (kd, vd) = putD keyP cs kd vd k := by simp [putP, h1]
    show DKs K F H (qs.foldl putP (putP cs (kd, vd))) (mergeK (putK es k v) kvs)
    rw [e]
    exact ih (h.put h1 h2)
theorem tPairs_len {σ : St} : ∀ (trs : List (TE × TE)) {H : Hp} {Q Q' : List (V × V) → Hp → Prop}, tPairs trs σ H Q → (∀ ps H2, ps.length = trs.length → Q ps H2 → Q' ps H2) → (∀ t ∈ trs, ∀ H Q Q', t.1 σ H Q → (∀ v H', Q v H' → Q' v H') → t.1 σ H Q') → (∀ t ∈ trs, ∀ H Q Q', t.2 σ H Q → (∀ v H', Q v H' → Q' v H') → t.2 σ H Q') → tPairs trs σ H Q'
  | [], H, Q, Q', h, k, m1, m2 => k [] H rfl h
  | t :: r, H, Q, Q', h, k, m1, m2 => m1 t (by simp) _ _ _ h fun v H1 q => m2 t (by simp) _ _ _ q fun w H2 q2 => tPairs_len r q2 (fun ps H3 hl q3 => k _ H3 (by simp [hl]) q3) (fun t ht => m1 t (by simp [ht])) (fun t ht => m2 t (by simp [ht]))
theorem me_dctK {keys : List (Option Expr)} {values : List Expr} {ms : List (M Opd × M Opd)} (h : PPs X pos keys values (ms.map fun p => (tM X.K X.mg B p.1, tM X.K X.mg B p.2))) (hall : keys.all (·.isSome) = true) (hl : keys.length = values.length) (h0 : keys ≠ []) (h15 : ms.length ≤ 15) (h16 : keys.length = ms.length) :
    ME X B (.Dict keys values pos) (eDct mkDK (flatM ms)) := by
  refine PE.imp (pe_disp h hall hl h0 (by omega)) fun σ H Q h => ?_
  obtain ⟨F, l, r, h⟩ := h
  intro p hp
  have key : tMA X.K X.mg B (flatM ms) σ (upd H p (.dK [])) fun vs H2 => H2 p = some (.dK []) ∧ ∀ ps : List (V × V), vs = flatV ps → ps.length ≤ 15 → ∃ kvs : List (Key × V), ps = kvs.map (fun kv => (kV kv.1, kv.2)) ∧ kvs.length ≤ 15 ∧ Q (.ref p) (upd H2 p (.dK (mergeK [] kvs))) := by
    refine tMA_of (b := ⟨F, l, σ, H⟩) (r.laid hp) (Bs.to.laid (b := ⟨F, l, σ, H⟩) Step.refl hp) (Run.bd h) fun os F1 l1 H1 vs hlen r1 s1 b1 ro nw q => ?_
    rcases shareAll_cases os l1 with ⟨ds, l2, e2, k2⟩ | e2
    · obtain ⟨F2, r2, s2, u2, q2⟩ := k2 (b := ⟨F, l, σ, upd H p (.dK [])⟩) r1 s1 ro nw
      have nO : ¬ Own l σ p := fun z => r.noMine hp z.mine
      have hp1 : H1 p = some (.dK []) := s1.frame p _ upd_same nO
      have nf2 : ¬ F2 p := fun z => by
        rcases s2.down p z with y | y | y
        · exact r.noF hp y
        · exact r.noMine hp y
        · exact absurd (show upd H p (.dK []) p = none from y) (by rw [upd_same]; simp)
      have nm2 : ¬ Mine l2 σ p := fun z => by
        rcases s2.mine p z with y | y
        · exact r.noMine hp y
        · exact absurd (show upd H p (.dK []) p = none from y) (by rw [upd_same]; simp)
      have hl2 : Bs.to ⟨F, l, σ, H⟩ F2 l2 σ H1 := Step.trans (Bs.to.laid (b := ⟨F, l, σ, H⟩) Step.refl hp) s2
      have h1 := Run.get q e2
      rcases lft_cases (l := l2) (mkDK ds) with ⟨d, e3, e4⟩ | e4
      · have h2 := h1.get e4
        refine ⟨hp1, fun ps hps hlp => ?_⟩
        subst hps
        unfold mkDK at e3
        rw [Option.bind_eq_some_iff] at e3
        obtain ⟨qs, e5, e6⟩ := e3
        split at e6
        · rename_i hk
          cases e6
          obtain ⟨kvs, e7, e8, e9⟩ := flat_rfs q2 e5 hk
          have hlk : kvs.length ≤ 15 := by rw [e7] at hlp; simpa using hlp
          refine ⟨kvs, e7, hlk, ?_⟩
          have mu : Mut (H1 p) := by rw [hp1]; trivial
          have dk := (merge_rel e9 (.nil (H := H1))).keep (Keeps.wr (o := .dK (mergeK [] kvs)) nf2 mu)
          exact h2.rt (r2.wrD nf2 nm2 mu) (hl2.wrD hp) _ ⟨p, rfl, nf2, nm2, .dK upd_same dk⟩ fun a e => by cases e; exact hp
        · cases e6
      · exact absurd (bd_stk e4) h1.there
    · exact absurd (bd_stk e2) (Run.there q)
  have key2 := pairs_of_ma ms key
  refine tPairs_len _ key2 (fun ps H2 hps q => ⟨q.1, q.2 ps rfl (by rw [hps, List.length_map]; exact h15)⟩) ?_ ?_
  · intro t ht H Q Q' h k
    obtain ⟨p, _, rfl⟩ := List.mem_map.mp ht
    exact tM_mono h k
  · intro t ht H Q Q' h k
    obtain ⟨p, _, rfl⟩ := List.mem_map.mp ht
    exact tM_mono h k
/-! a display of one pair, a tuple of ints for its key -/
theorem tup_room {X : Cx} {k : Nat} (hr : X.A.units + 64 < cLine) : (tupleKind (PySem.intKind X.prog X.w)).room X.A := by
  show X.A.units < cLine
  omega
theorem carries_one {P : Program} {w : World} {h : Heap} {b : Addr} {ks : List Int} {u : Value} (hk : (tupleKind (PySem.intKind P w)).is h ks b) : CarriesH (tupleKind (PySem.intKind P w)) h [(Value.ref b, u)] [(ks, b, u)] := ⟨rfl, rfl, hk, trivial⟩
theorem me_dctX {k v : Expr} (hu : X.A.units + 64 < cLine) (hk : ME X B k ma) (hv : ME X B v mb) : ME X B (.Dict [some k] [v] pos) (eDct mkDX [ma, mb]) := by
  refine ⟨fun pins s σ H Q I h => ?_⟩
  have hn := I.hok.fresh (Nat.le_refl s.heap.objs.size)
  have I1 := I.laid (a := s.heap.objs.size) (o := .ext (DXat [] s.heap.objs.size)) (h' := s.heap.push { cls := .type "dict", data := .dict #[] }) (t' := s.toks) (fun _ _ q => Heap.get?_push_of_some _ q) (Nat.le_refl _)
    (dx_new (P := X.prog) (w := X.w) (beq_eq_false_iff_ne.mpr (Ne.symm (Nat.ne_of_lt I.big))) (Nat.zero_le _) (Heap.DictOfH.new s.heap))
  obtain ⟨F, l, r, h⟩ := h
  generalize hp : s.heap.objs.size = p at hn I1
  have key : tMA X.K X.mg B [ma, mb] σ (upd H p (.ext (DXat [] p))) fun vs H2 => H2 p = some (.ext (DXat [] p)) ∧ ∃ (ks : List Int) (b : Addr) (v : V), vs = [.ref b, v] ∧ TupD X.K H2 b (ks.map V.int) ∧ ∀ u, RelV v u → Q (.ref p) (upd H2 p (.ext (DXat [(ks, b, u)] p))) := by
    refine tMA_of (b := ⟨F, l, σ, H⟩) (r.laid hn) (Bs.to.laid (b := ⟨F, l, σ, H⟩) Step.refl hn) (Run.bd h) fun os F1 l1 H1 vs hlen r1 s1 b1 ro nw q => ?_
    rcases shareAll_cases os l1 with ⟨ds, l2, e2, k2⟩ | e2
    · obtain ⟨F2, r2, s2, u2, q2⟩ := k2 (b := ⟨F, l, σ, upd H p (.ext (DXat [] p))⟩) r1 s1 ro nw
      have nO : ¬ Own l σ p := fun z => r.noMine hn z.mine
      have hp1 : H1 p = some (.ext (DXat [] p)) := s1.frame p _ upd_same nO
      have nf2 : ¬ F2 p := fun z => by
        rcases s2.down p z with y | y | y
        · exact r.noF hn y
        · exact r.noMine hn y
        · exact absurd (show upd H p (.ext (DXat [] p)) p = none from y) (by rw [upd_same]; simp)
      have nm2 : ¬ Mine l2 σ p := fun z => by
        rcases s2.mine p z with y | y
        · exact r.noMine hn y
        · exact absurd (show upd H p (.ext (DXat [] p)) p = none from y) (by rw [upd_same]; simp)
      have hl2 : Bs.to ⟨F, l, σ, H⟩ F2 l2 σ H1 := Step.trans (Bs.to.laid (b := ⟨F, l, σ, H⟩) Step.refl hn) s2
      have h1 := Run.get q e2
      rcases lft_cases (l := l2) (mkDX ds) with ⟨d, e3, e4⟩ | e4
      · have h2 := h1.get e4
        unfold mkDX at e3
        split at e3
        · rename_i kd vd
          rw [Option.map_eq_some_iff] at e3
          obtain ⟨ks, e5, rfl⟩ := e3
          cases q2 with
          | cons g1 t =>
            cases t with
            | @cons v _ _ _ g2 t =>
              cases t
              obtain ⟨b, rfl, ht⟩ := rd_keyI (.inl g1) e5
              refine ⟨hp1, ks, b, v, rfl, ht, fun u ru => ?_⟩
              have mu : Mut (H1 p) := by rw [hp1]; trivial
              have kp : Keeps X.K F2 F2 H1 (upd H1 p (.ext (DXat [(ks, b, u)] p))) := Keeps.wr nf2 mu
              exact h2.rt (r2.wrD nf2 nm2 mu) (hl2.wrD hn) _ ⟨p, rfl, nf2, nm2, .dX upd_same (.cons e5 (kp.tup _ _ ht) (g2.keep kp) ru .nil)⟩ fun a e => by cases e; exact hn
        · cases e3
      · exact absurd (bd_stk e4) h1.there
    · exact absurd (bd_stk e2) (Run.there q)
  subst hp
  rw [arm_eval_Dict, zip_pairTrees [some k] [v] X.env pos rfl rfl, dictDisplay_pairs (pairTrees [some k] [v] X.env pos) (by simp [pairTrees]) (by simp [pairTrees])]
  refine wpAny_bind (wpAny_standAt (wpAny_bind (wpAny_subDictH (knd := tupleKind (PySem.intKind X.prog X.w)) (tup_room (k := 0) hu) (by simp [pairTrees]) ?_)))
  refine pairTrees_cons_walk (thn (hk.run pins _ σ _ _ I1 (tMA_cons key)) fun uk s1 ⟨x, H1, I1', rx, q1⟩ => thn (hv.run pins s1 σ H1 _ I1' (tMA_cons q1)) fun uv s2 ⟨y, H2, I2, ry, q2⟩ => pairTrees_nil_walk ?_)
  obtain ⟨he, ks, b, w, e, ht, k2⟩ := tMA_nil q2
  cases e
  cases rx
  obtain ⟨h1, h2, dd⟩ := DXs.dict I2 he (.nil (F := fun _ => False))
  refine ⟨[(ks, b, uv)], carries_one (keyT_of I2 ht), dd, fun h' tk dk hs => wpAny_pure ?_⟩
  have he' : ∃ q, h'.get? s.heap.objs.size = some q := let ⟨q, _, _, hq, _⟩ := dk; ⟨q, hq⟩
  have I3 := I2.tok tk
  exact ⟨.ref _, _, d_write I2 (by rw [he]; trivial) hs he' (dx_new h1 (by rw [sizeLine_eq]; show ([(ks, b, uv)] : List (List Int × Addr × Value)).length ≤ _; simp) dk), rfl, k2 _ ry⟩
/-! d.get(k), d.get(k, x) -/
def dGetD : PyData → List PyData → Option PyData
  | .dict kvs, [k] => (dGet kvs k).map (·.getD .none)
  | .dict kvs, [k, x] => (dGet kvs k).map (·.getD x)
  | _, _ => none
def isD' : PyData → Option Unit
  | .dict _ => some ()
  | _ => none
def eDGet (m : M Opd) (es : List (M Opd)) : M Opd :=
  bd m fun o => bd (readO o) fun d => bd (lft (isD' d)) fun _ => bd (evs es) fun os => bd (shareAll os) fun ds => bd (readO o) fun d2 => bd (lft (dGetD d2 ds)) fun z => rt (.v z)
def rDGet (K : PySem.W.Frag) : V → List V → Hp → VK → Prop := fun x ws H Q => ∃ (F : Addr → Prop) (l : L) (σ : St) (d : PyData) (ds : List PyData) (z : PyData), Rel K F l σ H ∧ RD K F H x d ∧ RFs K F H ws ds ∧ dGetD d ds = some z ∧ ∀ w, RF K F H w z → Q w H
theorem mr_dget (hu : X.A.units + 64 < cLine) : MtR X "dict.get" (rDGet X.K) := by
  intro pins s σ H x ws v us Q I rx rv h
  obtain ⟨F, l, σ', d, ds, z, rl, rd, fd, e, k⟩ := h
  have hu1 : X.A.units + 1 < cLine := by omega
  unfold dGetD at e
  split at e
  · rename_i kvs kd
    obtain ⟨w, rfl, rw'⟩ := RFs.one fd
    obtain ⟨u, rfl, ru⟩ := rv.one
    obtain ⟨a, rfl, hc⟩ := dict_cases rd
    cases rx
    rcases hc with ⟨r, xs, rfl, he, hx⟩ | ⟨es, he, hk⟩
    · have eg : dGet ((.none, .none) :: r) kd = (keyI kd).map fun ks => lookD keyI r ks := rfl
      rw [eg] at e
      cases ek : keyI kd with
      | none => rw [ek] at e; cases e
      | some ks =>
        rw [ek] at e
        obtain ⟨b, rfl, ht⟩ := rd_keyI (.inl rw') ek
        cases ru
        obtain ⟨h1, h2, dd⟩ := DXs.dict I he hx
        refine get_keyed (knd := tupleKind (PySem.intKind X.prog X.w)) (tupleKind_room_in1 hu1) (keyT_of I ht) h1 ⟨xs, dd, rfl⟩ ?_
        rw [valueAt_pairsH]
        rcases hx.look ks with ⟨n1, n2⟩ | ⟨d, b2, u2, v2, n1, n2, n3, n4⟩
        · simp only [Option.map_some, n1] at e; cases e
          rw [n2]
          exact ⟨.non, H, I.tok _, rfl, k _ .non⟩
        · simp only [Option.map_some, n1] at e; cases e
          rw [n2]
          exact ⟨v2, H, I.tok _, n3, k _ n4⟩
    · rw [dGet_K hk] at e
      cases ek : keyP kd with
      | none => rw [ek] at e; cases e
      | some kk =>
        rw [ek] at e
        have ey := rd_keyP (.inl rw') ek
        subst ey
        refine d_get1 hu1 I (DGet.k (k := kk) he) ru fun w' s' I' rw2 => ?_
        rcases hk.look kk with ⟨n1, n2⟩ | ⟨d, v2, n1, n2, n4⟩
        · simp only [Option.map_some, n1] at e; cases e
          rw [n2] at rw2
          exact ⟨.non, H, I', rw2, k _ .non⟩
        · simp only [Option.map_some, n1] at e; cases e
          rw [n2] at rw2
          exact ⟨v2, H, I', rw2, k _ n4⟩
  · rename_i kvs kd xd
    obtain ⟨w, w2, rfl, rw', rw3⟩ := RFs.two fd
    obtain ⟨u, u2, rfl, ru, ru2⟩ : ∃ u u2, us = [u, u2] ∧ RelV w u ∧ RelV w2 u2 := by
      cases rv with | cons h t => cases t with | cons h2 t => cases t; exact ⟨_, _, rfl, h, h2⟩
    obtain ⟨a, rfl, hc⟩ := dict_cases rd
    cases rx
    rcases hc with ⟨r, xs, rfl, he, hx⟩ | ⟨es, he, hk⟩
    · have eg : dGet ((.none, .none) :: r) kd = (keyI kd).map fun ks => lookD keyI r ks := rfl
      rw [eg] at e
      cases ek : keyI kd with
      | none => rw [ek] at e; cases e
      | some ks =>
        rw [ek] at e
        obtain ⟨b, rfl, ht⟩ := rd_keyI (.inl rw') ek
        cases ru
        obtain ⟨h1, h2, dd⟩ := DXs.dict I he hx
        refine getOr_keyed (knd := tupleKind (PySem.intKind X.prog X.w)) (tupleKind_room_in1 hu1) (keyT_of I ht) h1 ⟨xs, dd, rfl⟩ ?_
        rw [valueAt_pairsH]
        rcases hx.look ks with ⟨n1, n2⟩ | ⟨d, b2, u3, v2, n1, n2, n3, n4⟩
        · simp only [Option.map_some, n1] at e; cases e
          rw [n2]
          exact ⟨w2, H, I.tok _, ru2, k _ rw3⟩
        · simp only [Option.map_some, n1] at e; cases e
          rw [n2]
          exact ⟨v2, H, I.tok _, n3, k _ n4⟩
    · rw [dGet_K hk] at e
      cases ek : keyP kd with
      | none => rw [ek] at e; cases e
      | some kk =>
        rw [ek] at e
        have ey := rd_keyP (.inl rw') ek
        subst ey
        refine d_get2 hu1 I (DGet.k (k := kk) he) ru ru2 fun w' s' I' rw4 => ?_
        rcases hk.look kk with ⟨n1, n2⟩ | ⟨d, v2, n1, n2, n4⟩
        · simp only [Option.map_some, n1] at e; cases e
          rw [n2] at rw4
          exact ⟨w2, H, I', rw4, k _ rw3⟩
        · simp only [Option.map_some, n1] at e; cases e
          rw [n2] at rw4
          exact ⟨v2, H, I', rw4, k _ n4⟩
  · cases e
theorem dict_at {pins : List (Addr × Obj)} {σ : St} {H : Hp} {s : Shared} {F : Addr → Prop} {kvs : List (PyData × PyData)} {x : V} {v : Value} (I : Inv X pins σ H s) (rd : RD X.K F H x (.dict kvs)) (rx : RelV x v) : s.TypeIs v "dict" ∧ ∀ a, v = .ref a → ∃ ob, s.heap.get? a = some ob ∧ ob.dict = none := by
  obtain ⟨a, rfl, hc⟩ := dict_cases rd
  cases rx
  rcases hc with ⟨r, xs, rfl, he, hx⟩ | ⟨es, he, hk⟩
  · obtain ⟨_, _, dd⟩ := DXs.dict I he hx
    refine ⟨dd.typeIs, fun b q => ?_⟩
    cases q
    obtain ⟨ob, _, _, h1, h2, _⟩ := dd
    exact ⟨ob, h1, h2.2.1⟩
  · obtain ⟨q1, q2, _⟩ := isD_at I (.inl ⟨_, .inl he⟩)
    exact ⟨q1, q2⟩
theorem me_dget {o : Expr} {es : List Expr} {m : M Opd} {ms : List (M Opd)} {apos cpos : Pos} (hu : X.A.units + 64 < cLine) (ho : ME X B o m) (ha : MA X B (e :: es) ms) (hb : noSuper o = true) (hline : (apos.endLine == cpos.line) = true) (hn : (e :: es).all notStar = true) (hl : (e :: es).length < 30) :
    ME X B (.Call (.Attribute o "get" apos) (e :: es) [] cpos) (eDGet m ms) := by
  refine PE.imp (pe_bmX ho ha hb hline hn hl) fun σ H Q h => ?_
  obtain ⟨F, l, r, h⟩ := h
  refine tM_of r Step.refl (Run.bd h) fun o1 F1 l1 H1 v r1 s1 b1 ro nw q => ?_
  rcases readO_cases (l := l1) o1 with ⟨d, e1, e2⟩ | e2
  · have q1 := Run.get q e2
    rcases lft_cases (l := l1) (isD' d) with ⟨_, e3, e4⟩ | e4
    · have q2 := q1.get e4
      have rdv := ro.read r1 e1
      cases d with
      | dict kvs =>
        refine ⟨"dict", "dict.get", _, PySem.F.plainAttrs_dict, PySem.F.slot_dict_get, PySem.F.type_dict_get, mr_dget hu, fun pins s u I rx => dict_at I rdv rx, ?_⟩
        refine tMA_of r1 b1 (Run.bd q2) fun os F2 l2 H2 ws hlen r2 s2 b2 ros nws q3 => ?_
        rcases shareAll_cases os l2 with ⟨ds, l3, e5, k3⟩ | e5
        · obtain ⟨F3, r3, s3, u3, fd⟩ := k3 (b := ⟨F1, l1, σ, H1⟩) r2 s2 ros nws
          have b3 : Bs.to ⟨F, l, σ, H⟩ F3 l3 σ H2 := Step.trans b1 s3
          have q4 := Run.get q3 e5
          rcases readO_cases (l := l3) o1 with ⟨d2, e6, e7⟩ | e7
          · have q5 := Run.get q4 e7
            rcases lft_cases (l := l3) (dGetD d2 ds) with ⟨z, e8, e9⟩ | e9
            · have q6 := q5.get e9
              exact ⟨F3, l3, σ, d2, ds, z, r3, (ro.step s3 r1 r3).read r3 e6, fd, e8, fun w rw' => q6.rt r3 b3 w rw' trivial⟩
            · exact absurd (bd_stk e9) q5.there
          · exact absurd (bd_stk e7) q4.there
        · exact absurd (bd_stk e5) (Run.there q3)
      | _ => cases e3
    · exact absurd (bd_stk e4) q1.there
  · exact absurd (bd_stk e2) (Run.there q)
/-! len(d), list(d) -/
def dLen : List (PyData × PyData) → Nat
  | (.none, .none) :: r => r.length
  | r => r.length
theorem dLen_K {K : PySem.W.Frag} {F : Addr → Prop} {H : Hp} {kvs : List (PyData × PyData)} {es : List (Key × V)} (h : DKs K F H kvs es) : dLen kvs = es.length := by
  rw [← h.len]
  unfold dLen
  split
  · cases h with
    | cons h1 _ _ => cases h1
  · rfl
def lenX : Op
  | [.dict kvs] => rI' (dLen kvs : Nat)
  | ds => lenD ds
theorem opX_len : CallR X (.builtin "len") (rD X.K lenX) := by
  intro pins s σ H vs us Q I rv h
  obtain ⟨F0, l, σ', ds, z, rl, rd, e, k⟩ := h
  unfold lenX at e
  split at e
  · rename_i kvs
    cases e
    obtain ⟨x, rfl, r1⟩ := rd.one
    obtain ⟨u, rfl, ru⟩ := vals1 rv
    obtain ⟨a, rfl, hc⟩ := dict_cases r1
    cases ru
    rcases hc with ⟨r, xs, rfl, he, hx⟩ | ⟨es, he, hk⟩
    · obtain ⟨h1, h2, dd⟩ := DXs.dict I he hx
      have e1 : dLen ((.none, .none) :: r) = xs.length := hx.len
      rw [sizeLine_eq] at h2
      refine PyProof.Rows.call_len_slot (n := (xs.length : Nat)) dd.typeIs PySem.F.slot_dict_len (fun Q' hq => len_keyed (knd := tupleKind (PySem.intKind X.prog X.w)) (kvs := pairsH xs) h1 ⟨xs, dd, rfl⟩ (by rw [pairsH_length]; exact hq)) (by omega) (by omega) ?_
      rw [e1] at k
      exact ⟨.int _, H, I.tok _, ⟨_, rfl⟩, k _ _ (.same (.int _))⟩
    · rw [dLen_K hk] at k
      exact d_len I (.inl he) fun t s' I' => ⟨.int _, H, I', ⟨_, rfl⟩, k _ _ (.same (.int _))⟩
  · exact opd_len pins s σ H vs us Q I rv ⟨F0, l, σ', ds, z, rl, rd, e, k⟩
end
end L2.DL
/-! DLg: list(d), sorted, repr -/
namespace L2.DL
open PySem PySem.Spec PyProof.Rows
def dKeys : List (PyData × PyData) → List PyData
  | (.none, .none) :: r => r.map (·.1)
  | r => r.map (·.1)
def listX : Op
  | [.dict kvs] => if dLen kvs ≤ lim then rT (.list (dKeys kvs)) else none
  | ds => listD ds
section
variable {K : PySem.W.Frag} {F : Addr → Prop} {H : Hp}
theorem dKeys_K {kvs : List (PyData × PyData)} {es : List (Key × V)} (h : DKs K F H kvs es) : dKeys kvs = kvs.map (·.1) := by
  unfold dKeys
  split
  · cases h with
    | cons h1 _ _ => cases h1
  · rfl
theorem DKs.keysR {kvs : List (PyData × PyData)} {es : List (Key × V)} (h : DKs K F H kvs es) : RFs K F H (es.map fun p => kV p.1) (kvs.map (·.1)) := by
  induction h with
  | nil => exact .nil
  | @cons kd vd k v kvs es h1 h2 _ ih =>
    refine .cons ?_ ih
    cases kd with
    | int i => cases h1; exact .int i
    | str x => cases h1; exact .str x
    | _ => cases h1
theorem intsP_rfs : ∀ {ds : List PyData} {ks : List Int}, intsP ds = some ks → RFs K F H (ks.map V.int) ds
  | [], ks, e => by cases e; exact .nil
  | d :: ds, ks, e => by
    cases d with
    | int i =>
      simp only [intsP, Option.map_eq_some_iff] at e
      obtain ⟨ms, e1, e2⟩ := e
      subst e2
      exact .cons (.int i) (intsP_rfs e1)
    | _ => simp [intsP] at e
theorem DXs.keysR {kvs : List (PyData × PyData)} {xs : List (List Int × Addr × Value)} (h : DXs K F H kvs xs) : RFs K F H (xs.map fun p => V.ref p.2.1) (kvs.map (·.1)) := by
  induction h with
  | nil => exact .nil
  | @cons kd vd ks b v u kvs xs h1 h2 h3 h4 _ ih =>
    refine .cons ?_ ih
    cases kd with
    | tuple ds => exact .tup h2 (intsP_rfs h1)
    | _ => cases h1
theorem DXs.valsR {kvs : List (PyData × PyData)} {xs : List (List Int × Addr × Value)} (h : DXs K F H kvs xs) : ∃ vs, RFs K F H vs (kvs.map (·.2)) ∧ Vals vs (xs.map fun p => p.2.2) := by
  induction h with
  | nil => exact ⟨[], .nil, .nil⟩
  | @cons kd vd ks b v u kvs xs h1 h2 h3 h4 _ ih =>
    obtain ⟨vs, q1, q2⟩ := ih
    exact ⟨v :: vs, .cons h3 q1, .cons h4 q2⟩
end
section
variable {X : Cx} {B : WX} {e a b c : Expr} {m ma mb mc : M Opd} {pos : Pos}
theorem vals_of : ∀ {vs : List V} {us : List Value}, us.length = vs.length → (∀ (i : Nat) v u, vs[i]? = some v → us[i]? = some u → RelV v u) → Vals vs us
  | [], [], _, _ => .nil
  | v :: vs, u :: us, hl, h => .cons (h 0 v u rfl rfl) (vals_of (by simpa using hl) fun i a b e1 e2 => h (i + 1) a b (by simpa using e1) (by simpa using e2))
  | [], _ :: _, hl, _ => by simp at hl
  | _ :: _, [], hl, _ => by simp at hl
theorem list_laid {pins : List (Addr × Obj)} {σ : St} {H : Hp} {s : Shared} {h' : Heap} {tk : Nat} {acc : Array Value} {c : Nat} {vs : List V} (I : Inv X pins σ H s) (k : ∀ b o, s.heap.get? b = some o → h'.get? b = some o) (hD : h'.get? s.heap.objs.size = some { cls := .type "list", dict := none, data := .seq acc c, slots := #[] })
    (r : Vals vs acc.toList) (hz : vs.length ≤ sizeLine) : Inv X pins σ (upd H s.heap.objs.size (.lst vs)) { s with heap := h', toks := tk } := by
  refine I.laid k (Nat.le_refl _) ⟨hz, acc.toList, c, r, ?_⟩
  simpa using hD
theorem opX_list (hh : X.A.handled = none) (hcalm : X.calm = true) : CallR X (.type "list") (rD X.K listX) := by
  intro pins s σ H vs us Q I rv h
  obtain ⟨F0, l, σ', ds, z, rl, rd, e, k⟩ := h
  unfold listX at e
  split at e
  · rename_i kvs
    split at e
    · rename_i hlim
      cases e
      obtain ⟨x, rfl, r1⟩ := rd.one
      obtain ⟨u, rfl, ru⟩ := vals1 rv
      obtain ⟨a, rfl, hc⟩ := dict_cases r1
      cases ru
      have hl2 := lim_line
      rcases hc with ⟨r, xs, rfl, he, hx⟩ | ⟨es, he, hk⟩
      · obtain ⟨h1, h2, o, es, ep, hr, hE, hdd, hes, hkeys, hnd⟩ := DXs.dict I he hx
        have hes' : es.size = xs.length := by rw [← Array.length_toList, hes, List.length_map]
        have raw : s.heap.DictRaw a es ep := ⟨o, hr, hE, hdd⟩
        refine PySem.W.kdl_call (PySem.KdlSrc.rawDict (es := es) (ep := ep) h1) hh raw (by rw [hes']; exact h2) fun h' tk acc' c' kp hD hI => ?_
        have rr : Vals (xs.map fun p => V.ref p.2.1) acc'.toList := by
          refine vals_of (by rw [Array.length_toList, hI.1, hes', List.length_map]) fun i y w e1 e2 => ?_
          obtain ⟨hi, rfl⟩ := hI.2 i w (by simpa using e2)
          rw [List.getElem?_map, Option.map_eq_some_iff] at e1
          obtain ⟨p, e3, rfl⟩ := e1
          have e4 : es.toList[i]? = some (entryOfKey (tupleKind (PySem.intKind X.prog X.w)) p) := by rw [hes, List.getElem?_map, e3]; rfl
          have e5 : es[i]? = some (entryOfKey (tupleKind (PySem.intKind X.prog X.w)) p) := by simpa using e4
          rw [Array.getElem?_eq_getElem hi] at e5
          rw [Option.some.inj e5]
          rfl
        exact ⟨.ref _, _, list_laid I kp hD rr (by simpa using h2), rfl, k _ _ (.lst (I.hok.fresh (Nat.le_refl _)) hx.keysR)⟩
      · have e2 := dKeys_K hk
        refine call_listD hcalm pins s σ H _ _ Q I (.cons (show RelV (V.ref a) (Value.ref a) from rfl) .nil) ⟨a, es, rfl, .inl he, fun p hp => ?_⟩
        exact k _ _ (.lst hp (by rw [e2]; exact hk.keysR))
    · cases e
  · exact opd_list pins s σ H vs us Q I rv ⟨F0, l, σ', ds, z, rl, rd, e, k⟩
end
end L2.DL
/-! DLs: sorted -/
namespace L2.DL
open PySem PySem.Spec PyProof.Rows PySem.W
/-! the order of trees -/
mutual
def ltD' : PyData → PyData → Bool
  | .bool a, .bool b => !a && b
  | .int a, .int b => decide (a < b)
  | .str a, .str b => decide (a.cps.toList < b.cps.toList)
  | .list xs, .list ys => ltDs xs ys
  | .tuple xs, .tuple ys => ltDs xs ys
  | _, _ => false
def ltDs : List PyData → List PyData → Bool
  | x :: xs, y :: ys => if PyData.eqv x y = true then ltDs xs ys else ltD' x y
  | [], _ :: _ => true
  | _, [] => false
end
mutual
theorem lt_eq : ∀ (x y : PyData), alike x y = true → dataLt x y = ltD' x y
  | .none, y, h => by cases y <;> first | (simp [alike] at h; done) | rfl
  | .bool a, y, h => by
    cases y <;> first | (simp [alike] at h; done) | skip
    rename_i b
    rw [dataLt_bool]
    cases a <;> cases b <;> rfl
  | .int a, y, h => by
    cases y <;> first | (simp [alike] at h; done) | skip
    rw [dataLt_int]; rfl
  | .str a, y, h => by
    cases y <;> first | (simp [alike] at h; done) | skip
    rw [dataLt_str]; rfl
  | .list xs, y, h => by
    cases y <;> first | (simp [alike] at h; done) | skip
    rename_i ys
    rw [dataLt_list]
    exact lts_eq xs ys (by simpa [alike] using h)
  | .tuple xs, y, h => by
    cases y <;> first | (simp [alike] at h; done) | skip
    rename_i ys
    rw [dataLt_tuple]
    exact lts_eq xs ys (by simpa [alike] using h)
  | .dict _, y, h => by simp [alike] at h
theorem lts_eq : ∀ (xs ys : List PyData), alikeAll xs ys = true → PyProof.Rows.lexLt itemOrd (keyToksAll xs) (keyToksAll ys) = ltDs xs ys
  | [], [], _ => by simp only [keyToksAll, ltDs]; rfl
  | [], y :: ys, _ => by simp only [keyToksAll, ltDs]; rfl
  | x :: xs, [], _ => by simp only [keyToksAll, ltDs]; rfl
  | x :: xs, y :: ys, h => by
    obtain ⟨h1, h2⟩ := alike_all_cons h
    rw [dataLt_cons h1, lts_eq xs ys h2, lt_eq x y h1]
    simp only [ltDs]
end
/-! the kinds that are sorted -/
inductive Kd where
  | i
  | s
  | ns
  | is
  | li
  | pr (a b : Kd)
def isInt : PyData → Bool
  | .int _ => true
  | _ => false
def ofKd : Kd → PyData → Bool
  | .i, .int _ => true
  | .s, .str _ => true
  | .ns, .tuple xs => xs.all isInt
  | .is, .tuple xs => !xs.isEmpty && xs.all isInt
  | .li, .list xs => xs.all isInt
  | .pr a b, .tuple [x, y] => ofKd a x && ofKd b y
  | _, _ => false
theorem all_alike : ∀ {xs ys : List PyData}, xs.all isInt = true → ys.all isInt = true → alikeAll xs ys = true
  | [], ys, _, _ => by simp [alikeAll]
  | x :: xs, [], _, _ => by simp [alikeAll]
  | x :: xs, y :: ys, h1, h2 => by
    simp only [List.all_cons, Bool.and_eq_true] at h1 h2
    rw [alikeAll, all_alike h1.2 h2.2]
    cases x <;> first | (cases h1.1; done) | skip
    cases y <;> first | (cases h2.1; done) | skip
    rfl
theorem depth_ints' : ∀ {xs : List PyData}, xs.all isInt = true → PyData.depthAll xs = 0
  | [], _ => by simp [PyData.depthAll]
  | x :: xs, h => by
    simp only [List.all_cons, Bool.and_eq_true] at h
    rw [PyData.depthAll, depth_ints' h.2]
    cases x <;> first | (cases h.1; done) | skip
    simp [PyData.depth]
theorem kd_pr {a b : Kd} {x : PyData} (h : ofKd (.pr a b) x = true) : ∃ u v, x = .tuple [u, v] ∧ ofKd a u = true ∧ ofKd b v = true := by
  cases x <;> first | (cases h; done) | skip
  rename_i xs
  match xs, h with
  | [u, v], h =>
    simp only [ofKd, Bool.and_eq_true] at h
    exact ⟨u, v, rfl, h.1, h.2⟩
theorem kd_alike : ∀ {k : Kd} {x y : PyData}, ofKd k x = true → ofKd k y = true → alike x y = true
  | .i, x, y, h1, h2 => by
    cases x <;> first | (cases h1; done) | skip
    cases y <;> first | (cases h2; done) | skip
    rfl
  | .s, x, y, h1, h2 => by
    cases x <;> first | (cases h1; done) | skip
    cases y <;> first | (cases h2; done) | skip
    rfl
  | .ns, x, y, h1, h2 => by
    cases x <;> first | (cases h1; done) | skip
    cases y <;> first | (cases h2; done) | skip
    simp only [ofKd] at h1 h2
    simp only [alike]
    exact all_alike h1 h2
  | .is, x, y, h1, h2 => by
    cases x <;> first | (cases h1; done) | skip
    cases y <;> first | (cases h2; done) | skip
    simp only [ofKd, Bool.and_eq_true] at h1 h2
    simp only [alike]
    exact all_alike h1.2 h2.2
  | .li, x, y, h1, h2 => by
    cases x <;> first | (cases h1; done) | skip
    cases y <;> first | (cases h2; done) | skip
    simp only [ofKd] at h1 h2
    simp only [alike]
    exact all_alike h1 h2
  | .pr a b, x, y, h1, h2 => by
    obtain ⟨u, v, rfl, q1, q2⟩ := kd_pr h1
    obtain ⟨u', v', rfl, q3, q4⟩ := kd_pr h2
    simp only [alike, alikeAll, kd_alike q1 q3, kd_alike q2 q4]
    rfl
def Kd.dp : Kd → Nat
  | .i => 1
  | .s => 1
  | .ns => 1
  | .is => 1
  | .li => 1
  | .pr a b => a.dp + b.dp + 1
theorem kd_depth : ∀ {k : Kd} {x : PyData}, ofKd k x = true → x.depth ≤ k.dp
  | .i, x, h => by
    cases x <;> first | (cases h; done) | simp [PyData.depth]
  | .s, x, h => by
    cases x <;> first | (cases h; done) | simp [PyData.depth]
  | .ns, x, h => by
    cases x <;> first | (cases h; done) | skip
    simp only [ofKd] at h
    simp only [PyData.depth, depth_ints' h, Kd.dp]
    omega
  | .is, x, h => by
    cases x <;> first | (cases h; done) | skip
    simp only [ofKd, Bool.and_eq_true] at h
    simp only [PyData.depth, depth_ints' h.2, Kd.dp]
    omega
  | .li, x, h => by
    cases x <;> first | (cases h; done) | skip
    simp only [ofKd] at h
    simp only [PyData.depth, depth_ints' h, Kd.dp]
    omega
  | .pr a b, x, h => by
    obtain ⟨u, v, rfl, q1, q2⟩ := kd_pr h
    have h1 := kd_depth q1
    have h2 := kd_depth q2
    simp only [PyData.depth, PyData.depthAll, Kd.dp]
    omega
def kds : List Kd := [.i, .is, .s, .li, .pr .ns .i, .pr .i .li, .pr .i .i]
def kdTup : Kd → Bool
  | .is => true
  | .pr _ _ => true
  | .i => false
  | .s => false
  | .li => false
  | .ns => false
theorem kds_dp {k : Kd} (hk : k ∈ kds) : k.dp ≤ 5 := by
  simp only [kds, List.mem_cons, List.not_mem_nil, or_false] at hk
  rcases hk with h | h | h | h | h | h | h <;> subst h <;> decide
theorem kd_sortable {k : Kd} (hk : k ∈ kds) {xs : List PyData} (h : xs.all (ofKd k) = true) : Sortable xs := by
  rw [List.all_eq_true] at h
  cases e : kdTup k with
  | true =>
    refine .inl fun d hd => ?_
    have := h d hd
    cases k <;> first | (cases e; done) | skip
    · cases d <;> first | (cases this; done) | skip
      rename_i ds
      cases ds with
      | nil => cases this
      | cons y ys => exact ⟨y, ys, rfl⟩
    · obtain ⟨u, v, rfl, _⟩ := kd_pr this
      exact ⟨u, [v], rfl⟩
  | false =>
    refine .inr fun d hd => ?_
    have := h d hd
    have hn : k ≠ .ns := by rintro rfl; simp [kds] at hk
    cases k <;> first | (cases e; done) | (exact absurd rfl hn) | skip
    all_goals cases d <;> first | (cases this; done) | exact ⟨(by intro z; cases z), (by intro ys z; cases z)⟩
/-! the stable insertion sort -/
section
variable {α : Type} (le : α → α → Bool)
def insO (x : α) : List α → List α
  | [] => [x]
  | y :: ys => if le x y = true then x :: y :: ys else y :: insO x ys
def insS : List α → List α
  | [] => []
  | x :: xs => insO le x (insS xs)
variable {le}
theorem insO_sorted (t : TotalLe le) (x : α) : ∀ {ys : List α}, ys.Pairwise (fun a b => le a b = true) → (insO le x ys).Pairwise (fun a b => le a b = true) ∧ ∀ a, a ∈ insO le x ys → a = x ∨ a ∈ ys
  | [], _ => ⟨by simp [insO], fun a h => by simpa [insO] using h⟩
  | y :: ys, h => by
    rw [List.pairwise_cons] at h
    unfold insO
    split
    · rename_i hxy
      refine ⟨List.pairwise_cons.mpr ⟨fun a ha => ?_, List.pairwise_cons.mpr h⟩, fun a ha => by simpa using ha⟩
      rcases List.mem_cons.mp ha with e | e
      · subst e; exact hxy
      · exact t.trans _ _ _ hxy (h.1 a e)
    · rename_i hxy
      obtain ⟨h1, h2⟩ := insO_sorted t x h.2
      have hyx : le y x = true := (t.total x y).resolve_left hxy
      refine ⟨List.pairwise_cons.mpr ⟨fun a ha => ?_, h1⟩, fun a ha => ?_⟩
      · rcases h2 a ha with e | e
        · subst e; exact hyx
        · exact h.1 a e
      · rcases List.mem_cons.mp ha with e | e
        · exact .inr (by simp [e])
        · rcases h2 a e with e | e
          · exact .inl e
          · exact .inr (by simp [e])
theorem insO_filter (t : TotalLe le) (c x : α) : ∀ ys : List α, (insO le x ys).filter (sameRank le c) = (x :: ys).filter (sameRank le c)
  | [] => rfl
  | y :: ys => by
    unfold insO
    split
    · rfl
    · rename_i hxy
      rw [List.filter_cons, insO_filter t c x ys, List.filter_cons, List.filter_cons, List.filter_cons]
      by_cases h1 : sameRank le c x = true
      · by_cases h2 : sameRank le c y = true
        · unfold sameRank at h1 h2
          rw [Bool.and_eq_true] at h1 h2
          exact absurd (t.trans _ _ _ h1.2 h2.1) hxy
        · simp [h1, h2]
      · simp [h1]
theorem insS_sorted (t : TotalLe le) : ∀ xs : List α, (insS le xs).Pairwise (fun a b => le a b = true)
  | [] => List.Pairwise.nil
  | x :: xs => (insO_sorted t x (insS_sorted t xs)).1
theorem insS_filter (t : TotalLe le) (c : α) : ∀ xs : List α, (insS le xs).filter (sameRank le c) = xs.filter (sameRank le c)
  | [] => rfl
  | x :: xs => by
    show (insO le x (insS le xs)).filter _ = _
    rw [insO_filter t, List.filter_cons, List.filter_cons, insS_filter t c xs]
theorem insS_eq (t : TotalLe le) (xs : List α) : insS le xs = xs.mergeSort le := sort_unique t (insS_sorted t xs) fun c => insS_filter t c xs
theorem insO_congr {le' : α → α → Bool} (x : α) : ∀ {ys : List α}, (∀ y ∈ ys, le x y = le' x y) → insO le x ys = insO le' x ys
  | [], _ => rfl
  | y :: ys, h => by
    unfold insO
    rw [h y (by simp), insO_congr x (ys := ys) fun z hz => h z (by simp [hz])]
theorem insO_mem (x : α) : ∀ {ys : List α} {a : α}, a ∈ insO le x ys → a = x ∨ a ∈ ys
  | [], a, h => by simpa [insO] using h
  | y :: ys, a, h => by
    unfold insO at h
    split at h
    · simpa using h
    · rcases List.mem_cons.mp h with e | e
      · exact .inr (by simp [e])
      · rcases insO_mem x e with e | e
        · exact .inl e
        · exact .inr (by simp [e])
theorem insS_mem : ∀ {xs : List α} {a : α}, a ∈ insS le xs → a ∈ xs
  | [], a, h => by simpa [insS] using h
  | x :: xs, a, h => by
    rcases insO_mem x h with e | e
    · simp [e]
    · simp [insS_mem e]
theorem insS_congr {le' : α → α → Bool} : ∀ {xs : List α}, (∀ x ∈ xs, ∀ y ∈ xs, le x y = le' x y) → insS le xs = insS le' xs
  | [], _ => rfl
  | x :: xs, h => by
    show insO le x (insS le xs) = insO le' x (insS le' xs)
    rw [← insS_congr (xs := xs) fun a ha b hb => h a (by simp [ha]) b (by simp [hb])]
    exact insO_congr x fun y hy => h x (by simp) y (by simp [insS_mem hy])
end
def leD' (x y : PyData) : Bool := !ltD' y x
def kdOk (xs : List PyData) : Bool := kds.any fun k => xs.all (ofKd k)
/-- the empty tuple alone -/
def isE : List PyData → Bool
  | [.tuple []] => true
  | _ => false
theorem isE_eq {xs : List PyData} (h : isE xs = true) : xs = [.tuple []] := by
  unfold isE at h
  split at h
  · rfl
  · cases h
def sortD (xs : List PyData) : Option (List PyData) := if ((kdOk xs || isE xs) && decide (xs.length ≤ lim)) = true then some (insS leD' xs) else none
/-- what sorted asks, with the empty tuple alone -/
theorem sortsAt {prog : Program} {w : World} {A : Around} {s : Shared} {vs : List Value} {ds : List PyData} (e : EachIs (fun v d => ∃ as, Reads s.heap v d as) vs ds) (hal : AllAlike ds) (hk : Sortable ds ∨ ds = [.tuple []]) (hu : ∀ d, d ∈ ds → A.units + d.depth < cLine) : SortsAt prog w A s (dataKind s.heap ds) vs := by
  rcases hk with hk | hk
  · exact SortsAt.data e hal hk hu
  · subst hk
    have hlen : vs.length = 1 := by simpa using e.length
    refine ⟨fun v hv => ?_, tuples' false, fun E x y a b Q ha hb hq => ?_, fun h2 => absurd h2 (by omega)⟩
    · obtain ⟨d, hd, as, r⟩ := e.left v hv
      exact ⟨_, dataKind_some hal hd r⟩
    · obtain ⟨d, as, hd, ra, rfl⟩ := dataKind_inv ha
      obtain ⟨d', as', hd', rb, rfl⟩ := dataKind_inv hb
      have hroom := hu d hd
      have e1 : d = .tuple [] := by simpa using hd
      have e2 : d' = .tuple [] := by simpa using hd'
      subst e1 e2
      have hq' : Q (dataLt (.tuple []) (.tuple [])) s := hq
      rw [dataLt_tuple] at hq'
      cases ra with
      | @tuple l o xs n _ _ h1 h2 h3 h4 =>
        cases rb with
        | @tuple l' o' xs' n' _ _ k1 k2 k3 k4 =>
          have n1 : xs.size = 0 := by simpa using SeqAt.ReadsAll.length _ _ _ h4
          have n2 : xs'.size = 0 := by simpa using SeqAt.ReadsAll.length _ _ _ k4
          have r0 : A.units < cLine := by omega
          exact kat_lt h1 h3 k1 k3 (katLex_alike [] [] 0 _ _ _ _ h4 k4 rfl (by simpa [PyData.depthAll] using r0) (fun hb => (by cases hb)) (by rw [n1, n2]; rfl) hq')
theorem sorted_data' {prog : Program} {w : World} {A : Around} {E : Value → Shared → Prop} {s : Shared} {β : Type} {R : Value → β → Prop} {enc : β → PyData} {vs : List Value} {bs : List β} {l : Addr} {Q : Value → Shared → Prop} (hl : s.heap.IsList l vs.toArray) (e : EachIs R vs bs) (er : EachIs (fun v b => ∃ as, Reads s.heap v (enc b) as) vs bs) (hal : AllAlike (bs.map enc)) (hk : Sortable (bs.map enc) ∨ bs.map enc = [.tuple []]) (hL : bs.length ≤ sizeLine)
    (hu : ∀ b, b ∈ bs → A.units + 2 + (enc b).depth < cLine) (h : ∀ out, out.length = bs.length → EachIs R out (bs.mergeSort (dataLe false enc)) → Q (.ref (s.heap.objs.size + 1)) { s with heap := PyProof.Rows.sortedAll s.heap vs (List.toArray out) }) :
    wpAny (model prog w) A (call (.builtin "sorted") [.ref l]) Q E s := by
  have er' : EachIs (fun v b => ∃ as, Reads (sortingHeap (copyHeap s.heap vs) (s.heap.objs.size + 1) vs) v (enc b) as) vs bs := er.mono fun _ _ ⟨as, r⟩ => ⟨as, PyProof.Rows.Reads.keeps (fun _ _ => sorting_copy_old) r⟩
  exact sorted_vals hl (sortsAt (s := { s with heap := sortingHeap (copyHeap s.heap vs) (s.heap.objs.size + 1) vs }) (each_map (R := fun v d => ∃ as, Reads (sortingHeap (copyHeap s.heap vs) (s.heap.objs.size + 1) vs) v d as) enc er') hal hk (bound_map hu)) (by rw [e.length]; exact hL)
    (h _ (by rw [sortVals_length false rfl]; exact e.length) (sortVals_data false e er' hal))
theorem sort_by {k : Kd} {xs : List PyData} (h : xs.all (ofKd k) = true) : insS leD' xs = xs.mergeSort (dataLe false fun d => d) := by
  rw [← insS_eq (le := dataLe false fun d : PyData => d) (sortLe_total _ _ _)]
  rw [List.all_eq_true] at h
  refine insS_congr fun x hx y hy => ?_
  show (!ltD' y x) = (!dataLt y x)
  rw [lt_eq y x (kd_alike (h y hy) (h x hx))]
section
variable {K : PySem.W.Frag} {F : Addr → Prop} {H : Hp}
theorem RFs.mem {vs : List V} {ds : List PyData} (h : RFs K F H vs ds) : ∀ p ∈ vs.zip ds, RF K F H p.1 p.2 := by
  induction vs generalizing ds with
  | nil => intro p hp; simp at hp
  | cons v vs ih =>
    cases h with
    | cons h1 h2 =>
      intro p hp
      rcases List.mem_cons.mp hp with e | e
      · subst e; exact h1
      · exact ih h2 p e
theorem rfs_unzip : ∀ {zs : List (V × PyData)}, (∀ p ∈ zs, RF K F H p.1 p.2) → RFs K F H (zs.map (·.1)) (zs.map (·.2))
  | [], _ => .nil
  | z :: zs, h => .cons (h z (by simp)) (rfs_unzip fun p hp => h p (by simp [hp]))
theorem each_zip {vs : List V} {us : List Value} (r : Vals vs us) : ∀ {ds : List PyData}, vs.length = ds.length → EachIs (fun (u : Value) (b : V × PyData) => RelV b.1 u) us (vs.zip ds) := by
  unfold Vals at r
  induction r with
  | nil => intro ds _; exact .nil
  | cons h _ ih =>
    intro ds hl
    cases ds with
    | nil => simp at hl
    | cons d ds => exact .cons h (ih (by simpa using hl))
theorem each_vals : ∀ {us : List Value} {zs : List (V × PyData)}, EachIs (fun (u : Value) (b : V × PyData) => RelV b.1 u) us zs → Vals (zs.map (·.1)) us
  | _, _, .nil => .nil
  | _, _, .cons h t => .cons h (each_vals t)
end
section
variable {X : Cx} {pins : List (Addr × Obj)} {σ : St} {H : Hp} {s : Shared} {F : Addr → Prop}
theorem kdOk_ex {xs : List PyData} (h : kdOk xs = true) : ∃ k, k ∈ kds ∧ xs.all (ofKd k) = true := by
  unfold kdOk at h
  rw [List.any_eq_true] at h
  exact h
/-- what the sort leaves -/
theorem sort_end {ws : List V} {ds ds' : List PyData} {out : List Value} {P : Program} {w : World} (fs : RFs X.K F H ws ds) (e : sortD ds = some ds') (h : EachIs (fun (u : Value) (b : V × PyData) => RelV b.1 u) out ((ws.zip ds).mergeSort (dataLe false (·.2)))) :
    ∃ ws', RFs X.K F H ws' ds' ∧ Vals ws' out ∧ ws'.length = ws.length := by
  have hl := fs.length
  unfold sortD at e
  split at e
  · rename_i hc
    rw [Bool.and_eq_true] at hc
    cases e
    have hsb : insS leD' ds = ds.mergeSort (dataLe false fun d => d) := by
      rcases Bool.or_eq_true _ _ ▸ hc.1 with hc1 | hc1
      · obtain ⟨k, _, hk⟩ := kdOk_ex hc1
        exact sort_by hk
      · rw [isE_eq hc1]
        simp [insS, insO]
    refine ⟨((ws.zip ds).mergeSort (dataLe false (·.2))).map (·.1), ?_, each_vals h, ?_⟩
    · have e1 : ((ws.zip ds).mergeSort (dataLe false (·.2))).map (·.2) = ds.mergeSort (dataLe false fun d => d) := by
        have q := sort_maps (r := dataLe false fun p : V × PyData => p.2) (s := dataLe false fun d : PyData => d) (fun p : V × PyData => p.2) (l := ws.zip ds) (fun _ _ _ _ => rfl)
        rw [q, List.map_snd_zip (by omega)]
      rw [hsb, ← e1]
      exact rfs_unzip fun p hp => fs.mem p ((List.mergeSort_perm _ _).mem_iff.mp hp)
    · rw [List.length_map, List.length_mergeSort, List.length_zip]
      omega
  · cases e
def sortedX : Op
  | [.list xs] => (sortD xs).map fun ys => (.list ys, true)
  | [.tuple xs] => (sortD xs).map fun ys => (.list ys, true)
  | _ => none
theorem sort_facts {ws : List V} {ds ds' : List PyData} {its : List Value} (I : Inv X pins σ H s) (hu : X.A.units + 64 < cLine) (fs : RFs X.K F H ws ds) (r : Vals ws its) (e : sortD ds = some ds') :
    ∃ er : EachIs (fun v (b : V × PyData) => ∃ as, Reads s.heap v b.2 as) its (ws.zip ds), AllAlike ((ws.zip ds).map (·.2)) ∧ (Sortable ((ws.zip ds).map (·.2)) ∨ (ws.zip ds).map (·.2) = [.tuple []]) ∧ (ws.zip ds).length ≤ sizeLine ∧ ∀ b, b ∈ ws.zip ds → X.A.units + 2 + b.2.depth < cLine := by
  have hl := fs.length
  have e1 : (ws.zip ds).map (·.2) = ds := List.map_snd_zip (by omega)
  unfold sortD at e
  split at e
  · rename_i hc
    rw [Bool.and_eq_true] at hc
    obtain ⟨as, h4⟩ := Dp.readsAll I ds ws its fs.dp r
    have h4' : ReadsAll s.heap its ((ws.zip ds).map (·.2)) as := by rw [e1]; exact h4
    have hlen : ds.length ≤ lim := by simpa using hc.2
    have hL : (ws.zip ds).length ≤ sizeLine := by
      rw [List.length_zip]
      exact lim_le (Nat.le_trans (Nat.min_le_right _ _) hlen)
    rcases Bool.or_eq_true _ _ ▸ hc.1 with hc1 | hc1
    · obtain ⟨k, hm, hk⟩ := kdOk_ex hc1
      have hall := List.all_eq_true.mp hk
      refine ⟨readsAll_each (fun b : V × PyData => b.2) h4', by rw [e1]; exact fun d hd d' hd' => kd_alike (hall d hd) (hall d' hd'), .inl (by rw [e1]; exact kd_sortable hm hk), hL, fun b hb => ?_⟩
      have h1 := kd_depth (hall b.2 (List.of_mem_zip hb).2)
      have h2 := kds_dp hm
      omega
    · have hE := isE_eq hc1
      refine ⟨readsAll_each (fun b : V × PyData => b.2) h4', by rw [e1, hE]; intro d hd d' hd'; have q1 : d = .tuple [] := by { simpa using hd }; have q2 : d' = .tuple [] := by { simpa using hd' }; subst q1 q2; rfl, .inr (by rw [e1, hE]), hL, fun b hb => ?_⟩
      have hb2 := (List.of_mem_zip hb).2
      rw [hE] at hb2
      have q : b.2 = .tuple [] := by simpa using hb2
      rw [q]
      have : (PyData.tuple []).depth = 1 := by decide
      omega
  · cases e
/-- a tuple's items, in a list -/
theorem collectT {prog : Program} {w : World} {A : Around} {E : Value → Shared → Prop} {s : Shared} {t : Addr} {o : Obj} {us : List Value} {n : Nat} {Q : List Value → Shared → Prop} (at' : s.heap.get? t = some o) (cl : o.cls = .type "tuple") (dt : o.data = .seq us.toArray n) (few : us.length ≤ sizeLine)
    (h : Q us { s with heap := (s.heap.push (seqObj "list" #[] 0)).update s.heap.objs.size (Obj.mapSeq (· ++ us.toArray)) }) : wpAny (model prog w) A (collect (.ref t)) Q E s := by
  have at2 : (s.heap.push (seqObj "list" #[] 0)).get? t = some o := Heap.get?_push_of_some _ at'
  have new : (s.heap.push (seqObj "list" #[] 0)).get? s.heap.objs.size = some (seqObj "list" #[] 0) := Heap.get?_push_size _ rfl
  unfold collect
  refine wpAny_bind (wpAny_runValue (codeAny_builtin PyProof.Rows.entry_proto_collect' ?_))
  refine wpAny_bind (m := newList []) (wpAny_newList (wpAny_pure ⟨Code.quiet_builtin _ (by decide +kernel), codeAny_builtin PyProof.Rows.entry_list_iadd' ?_⟩))
  show wpAny _ _ (Builtin.List.listExtendWith (.ref s.heap.objs.size) (.ref t) (.ref s.heap.objs.size)) _ _ { s with heap := s.heap.push (seqObj "list" #[] 0) }
  unfold Builtin.List.listExtendWith
  refine wpAny_bind (wpAny_typeOf (T := "tuple") ⟨o, at2, cl⟩ ?_)
  rw [if_pos (by simp)]
  refine wpAny_bind (listItems_at at2 dt (wpAny_bind (listItems_at (xs := #[]) (n := 0) new rfl ?_)))
  rw [if_neg (by simp)]
  have sz : (#[] ++ us.toArray : Array Value).size ≤ sizeLine + 1 := by
    simp only [Array.size_append, List.size_toArray, List.length_nil]
    omega
  refine wpAny_bind (listUpdate_at (xs := #[]) (n := 0) new rfl (wpAny_pure ?_) (Nat.zero_le _) sz)
  refine wpAny_bind (m := load s.heap.objs.size) (wpAny_load (get?_update_seq new _) ?_)
  refine wpAny_pure ?_
  rw [show ((#[] : Array Value) ++ us.toArray).toList = us by simp]
  exact h
theorem sortedT {prog : Program} {w : World} {A : Around} {E : Value → Shared → Prop} {s : Shared} {t : Addr} {o : Obj} {us : List Value} {n : Nat} {bs : List (V × PyData)} {Q : Value → Shared → Prop} (at' : s.heap.get? t = some o) (cl : o.cls = .type "tuple") (dt : o.data = .seq us.toArray n)
    (e : EachIs (fun (u : Value) (b : V × PyData) => RelV b.1 u) us bs) (er : EachIs (fun v (b : V × PyData) => ∃ as, Reads s.heap v b.2 as) us bs) (hal : AllAlike (bs.map (·.2))) (hk : Sortable (bs.map (·.2)) ∨ bs.map (·.2) = [.tuple []]) (hL : bs.length ≤ sizeLine)
    (hu : ∀ b, b ∈ bs → A.units + 2 + b.2.depth < cLine) (h : ∀ out, EachIs (fun (u : Value) (b : V × PyData) => RelV b.1 u) out (bs.mergeSort (dataLe false (·.2))) → Q (.ref (s.heap.objs.size + 1)) { s with heap := PyProof.Rows.sortedAll s.heap us out.toArray }) :
    wpAny (model prog w) A (call (.builtin "sorted") [.ref t]) Q E s := by
  have few : us.length ≤ sizeLine := by rw [e.length]; exact hL
  have er' : EachIs (fun v (b : V × PyData) => ∃ as, Reads (sortingHeap (copyHeap s.heap us) (s.heap.objs.size + 1) us) v b.2 as) us bs := er.mono fun _ _ ⟨as, r⟩ => ⟨as, PyProof.Rows.Reads.keeps (fun _ _ => sorting_copy_old) r⟩
  have S : SortsAt prog w A.in1.in1 { s with heap := sortingHeap (copyHeap s.heap us) (s.heap.objs.size + 1) us } (dataKind (sortingHeap (copyHeap s.heap us) (s.heap.objs.size + 1) us) (bs.map (·.2))) us :=
    sortsAt (s := { s with heap := sortingHeap (copyHeap s.heap us) (s.heap.objs.size + 1) us }) (each_map (R := fun v d => ∃ as, Reads (sortingHeap (copyHeap s.heap us) (s.heap.objs.size + 1) us) v d as) (fun b : V × PyData => b.2) er') hal hk (bound_map hu)
  refine Calls.call_function_entry PyProof.Rows.kind_sorted PyProof.Rows.plain_sorted PyProof.Rows.entry_sorted (PyProof.Rows.args_sorted1 _) ?_
  unfold Builtin.«sorted»
  refine wpAny_bind (m := checkCount "sorted" 1 1 _) (wpAny_pure (wpAny_bind (collectT at' cl dt few (wpAny_bind (wpAny_newList ?_ few)))))
  have hsz : ((s.heap.push (seqObj "list" #[] 0)).update s.heap.objs.size (Obj.mapSeq (· ++ us.toArray))).objs.size = s.heap.objs.size + 1 := by rw [Heap.size_update, size_push']
  show wpAny _ _ _ _ _ { s with heap := copyHeap s.heap us }
  rw [hsz]
  refine wpAny_bind (wpAny_holding (wpAny_call_entry PyProof.Rows.slot_list_sort ⟨_, copyHeap_at s.heap us, rfl⟩ PyProof.Rows.entry_list_sort ?_ (PyProof.Rows.args_list_sort _)))
  refine wpAny_mono (list_sort_vals (s := { s with heap := copyHeap s.heap us }) (P := fun f s' => f = .done (.ret .none) ∧ Q (.ref (s.heap.objs.size + 1)) s') (copyHeap_at s.heap us) S few ⟨rfl, h _ (sortVals_data false e er' hal)⟩) (fun f s' hf => ?_) fun _ _ z => z
  obtain ⟨rfl, hq⟩ := hf
  exact ⟨_, rfl, wpAny_pure ⟨_, rfl, hq⟩⟩
theorem opX_sorted (hu : X.A.units + 64 < cLine) : CallR X (.builtin "sorted") (rD X.K sortedX) := by
  intro pins s σ H vs us Q I rv h
  obtain ⟨F0, l, σ', ds, z, rl, rd, e, k⟩ := h
  unfold sortedX at e
  split at e
  · rename_i xs
    rw [Option.map_eq_some_iff] at e
    obtain ⟨ys, e1, rfl⟩ := e
    obtain ⟨x, rfl, r1⟩ := rd.one
    obtain ⟨a, ws, rfl, hR, fs⟩ := rd_lst r1
    obtain ⟨u, rfl, ru⟩ := vals1 rv
    cases ru
    obtain ⟨its, r, pl, hz⟩ := I.list hR
    obtain ⟨er, hal, hso, hL, hdp⟩ := sort_facts I hu fs r e1
    refine sorted_data' (enc := fun b : V × PyData => b.2) (R := fun u b => RelV b.1 u) pl.isList (each_zip r fs.length) er hal hso hL hdp fun out hout hE => ?_
    obtain ⟨ws', q1, q2, q3⟩ := sort_end (P := X.prog) (w := X.w) fs e1 hE
    obtain ⟨ep, he⟩ := PyProof.Rows.sortedAll_at s.heap its out.toArray
    refine ⟨.ref _, upd H (s.heap.objs.size + 1) (.lst ws'), I.laid (t' := s.toks) (fun _ _ => PyProof.Rows.sortedAll_old) (Nat.le_succ _) ⟨by rw [q3]; exact hz, out, ep, q2, he⟩, rfl, k _ _ (.lst (I.hok.fresh (Nat.le_succ _)) q1)⟩
  · rename_i xs
    rw [Option.map_eq_some_iff] at e
    obtain ⟨ys, e1, rfl⟩ := e
    obtain ⟨x, rfl, r1⟩ := rd.one
    obtain ⟨a, ws, rfl, hR, fs⟩ := rd_tup r1
    obtain ⟨u, rfl, ru⟩ := vals1 rv
    cases ru
    obtain ⟨its, r, ⟨o, h1, h2, n, h3⟩, hz⟩ := I.tuple hR.sq
    obtain ⟨er, hal, hso, hL, hdp⟩ := sort_facts I hu fs r e1
    refine sortedT h1 h2 h3 (each_zip r fs.length) er hal hso hL hdp fun out hE => ?_
    obtain ⟨ws', q1, q2, q3⟩ := sort_end (P := X.prog) (w := X.w) fs e1 hE
    obtain ⟨ep, he⟩ := PyProof.Rows.sortedAll_at s.heap its out.toArray
    refine ⟨.ref _, upd H (s.heap.objs.size + 1) (.lst ws'), I.laid (t' := s.toks) (fun _ _ => PyProof.Rows.sortedAll_old) (Nat.le_succ _) ⟨by rw [q3]; exact hz, out, ep, q2, he⟩, rfl, k _ _ (.lst (I.hok.fresh (Nat.le_succ _)) q1)⟩
  · cases e
end
end L2.DL
/-! DLr: repr -/
namespace L2.DL
open PySem PySem.Spec PyProof.Rows
def reprX : Op
  | [d] => if (!isDict d && dOk d && d.showable && decide (d.shown.length ≤ lim)) = true then rV (.str d.shown) else none
  | _ => none
section
variable {X : Cx} {K : PySem.W.Frag} {F : Addr → Prop} {H : Hp}
mutual
theorem RF.noDict : ∀ {v : V} {d : PyData}, RF K F H v d → d.hasDict = false
  | _, .none, h => by simp [PyData.hasDict]
  | _, .bool _, h => by simp [PyData.hasDict]
  | _, .int _, h => by simp [PyData.hasDict]
  | _, .str _, h => by simp [PyData.hasDict]
  | _, .list ds, h => by
    cases h with
    | lst hF hs ha => simp only [PyData.hasDict]; exact RFs.noDict ha
    | lstK hs ha => simp only [PyData.hasDict]; exact RFs.noDict ha
  | _, .tuple ds, h => by
    cases h with
    | tup hs ha => simp only [PyData.hasDict]; exact RFs.noDict ha
  | _, .dict _, h => by cases h
theorem RFs.noDict : ∀ {vs : List V} {ds : List PyData}, RFs K F H vs ds → PyData.hasDictAll ds = false
  | _, [], h => by simp [PyData.hasDictAll]
  | _, d :: ds, h => by
    cases h with
    | cons h1 h2 => simp only [PyData.hasDictAll, RF.noDict h1, RFs.noDict h2]; rfl
end
theorem RD.noDict {v : V} {d : PyData} (h : RD K F H v d) (n : isDict d = false) : d.hasDict = false := by
  rcases h with h | ⟨a, e, q⟩
  · exact h.noDict
  · cases q with
    | lst h1 h2 => simp only [PyData.hasDict]; exact h2.noDict
    | dK _ _ => cases n
    | dX _ _ => cases n
theorem opX_repr (hu : X.A.units + 64 < cLine) (hg : X.A.guards = some []) : CallR X (.builtin "repr") (rD X.K reprX) := by
  intro pins s σ H vs us Q I rv h
  obtain ⟨F0, l, σ', ds, z, rl, rd, e, k⟩ := h
  have hlim := lim_line
  unfold reprX at e
  split at e
  · rename_i d
    split at e
    · rename_i hc
      cases e
      simp only [Bool.and_eq_true, Bool.not_eq_true', decide_eq_true_eq] at hc
      obtain ⟨⟨⟨h1, h2⟩, h3⟩, h4⟩ := hc
      obtain ⟨x, rfl, r1⟩ := rd.one
      obtain ⟨u, rfl, ru⟩ := vals1 rv
      have hd : d.depth ≤ 60 := by simpa [dOk] using h2
      have ref : ∀ a, x = .ref a → wpAny (model X.prog X.w) X.A (call (.builtin "repr") [u]) (EP X pins σ Q) X.xe s := by
        rintro a rfl
        obtain ⟨⟨as, hr⟩, _⟩ := RD.reads I r1 ru h1
        cases ru
        have nd := r1.noDict h1
        refine repr_of_reads' hr h3 (by rw [nd]; intro z; cases z) hg (by omega) (fun _ _ q => q) (fun h' u tk hk => ?_) (by omega)
        exact ⟨.str _, H, I.kept (t' := tk) hk, ⟨u, rfl⟩, k _ _ (.same (.str _))⟩
      cases d with
      | none =>
        have := rd_none r1
        subst this
        cases ru
        exact PySem.P.repr_of_none ⟨.str _, H, I.tok _, ⟨_, rfl⟩, k _ _ (.same (.str _))⟩
      | bool b =>
        have := rd_bool r1
        subst this
        cases ru
        exact PySem.P.repr_of_bool ⟨.str _, H, I.tok _, ⟨_, rfl⟩, k _ _ (.same (.str _))⟩
      | int i =>
        have := rd_int r1
        subst this
        obtain ⟨t, rfl⟩ := ru
        exact PySem.P.repr_of_int (by simpa [PyData.showable] using h3) ⟨.str _, H, I.tok _, ⟨_, rfl⟩, k _ _ (.same (.str _))⟩
      | str y =>
        have := rd_str r1
        subst this
        obtain ⟨t, rfl⟩ := ru
        exact PySem.P.repr_of_str ⟨.str _, H, I.tok _, ⟨_, rfl⟩, k _ _ (.same (.str _))⟩ (by simp only [PyData.shown] at h4; omega)
      | list xs =>
        obtain ⟨a, _, e, _⟩ := rd_lst r1
        exact ref a e
      | tuple xs =>
        obtain ⟨a, _, e, _⟩ := rd_tup r1
        exact ref a e
      | dict _ => cases h1
    · cases e
  · cases e
end
end L2.DL
/-! DLv: rules at places: dicts, len, list, sorted, repr -/
namespace L2.DL
open PySem PySem.Spec PyProof.Rows
section
variable {p : Pl} {x : Str} {i : Nat} {o e k v : Expr} {es : List Expr} {m mk mv : M Opd} {ms : List (M Opd)} {apos cpos q pos : Pos}
theorem e_dct0 : EE p (.Dict [] [] pos) (eDct0 false) := fun X B I => me_dct0
theorem e_dct0X : EE p (.Dict [] [] pos) (eDct0 true) := fun X B I => me_dct0X
theorem e_dctX (hk : EE p k mk) (hv : EE p v mv) : EE p (.Dict [some k] [v] pos) (eDct mkDX [mk, mv]) := fun X B I => me_dctX I.room.units (hk X B I) (hv X B I)
/-- the pairs of a display -/
def DPs (p : Pl) (keys : List (Option Expr)) (values : List Expr) (ms : List (M Opd × M Opd)) : Prop :=
  (∀ X B, In p X B → ∀ pos, PPs X pos keys values (ms.map fun p => (tM X.K X.mg B p.1, tM X.K X.mg B p.2))) ∧ keys.all (·.isSome) = true ∧ keys.length = values.length ∧ keys.length = ms.length
theorem dps_nil : DPs p [] [] [] := ⟨fun X B I pos => pps_nil, rfl, rfl, rfl⟩
theorem dps_cons {keys : List (Option Expr)} {values : List Expr} {ps : List (M Opd × M Opd)} (hk : EE p k mk) (hv : EE p v mv) (h : DPs p keys values ps) : DPs p (some k :: keys) (v :: values) ((mk, mv) :: ps) :=
  ⟨fun X B I pos => pps_cons (hk X B I) (hv X B I) (h.1 X B I pos), by simp only [List.all_cons, h.2.1]; rfl, by simp [h.2.2.1], by simp [h.2.2.2]⟩
theorem e_dctK {keys : List (Option Expr)} {values : List Expr} {ps : List (M Opd × M Opd)} (h : DPs p keys values ps) (h0 : keys.isEmpty = false) (h15 : ps.length ≤ 15) : EE p (.Dict keys values pos) (eDct mkDK (flatM ps)) := fun X B I =>
  me_dctK (h.1 X B I pos) h.2.1 h.2.2.1 (by intro z; subst z; cases h0) h15 h.2.2.2
theorem e_dget (ho : EE p o m) (ha : AA p (e :: es) ms) (hb : noSuper o = true) (hline : (apos.endLine == cpos.line) = true) (hl : (e :: es).length < 30) : EE p (.Call (.Attribute o "get" apos) (e :: es) [] cpos) (eDGet m ms) := fun X B I =>
  me_dget I.room.units (ho X B I) (ha.1 X B I) hb hline ha.2.1 hl
end
section
variable {tab : List FI} {cs : List (Str × PyData)} {bn : List Str} {n : Nat} {sc : Scope} {N : List Str} {k : Nat} {tp : Bool} {fc : Str → Bool} {x : Str} {e a b c : Expr} {es : List Expr} {m ma mb mc : M Opd} {ms : List (M Opd)} {pos q q2 q3 : Pos} {tg : Expr}
/-- more built-in functions -/
inductive Blt2R : Str → String → Op → Prop
  | len : Blt2R "len" "len" lenX
  | sorted : Blt2R "sorted" "sorted" sortedX
  | repr : Blt2R "repr" "repr" reprX
theorem Blt2R.ok {id : String} {f : Op} {X : Cx} {B : WX} {p : Pl} (h : Blt2R x id f) (I : In p X B) : CallR X (.builtin id) (rD X.K f) ∧ bootBuiltins x = some (.builtin id) := by
  cases h with
  | len => exact ⟨opX_len, PySem.boot_len⟩
  | sorted => exact ⟨opX_sorted I.room.units, by kernel_rfl⟩
  | repr => exact ⟨opX_repr I.room.units I.gd, by kernel_rfl⟩
theorem e_blt2 {id : String} {f : Op} (hf : Blt2R x id f) (h : okG sc x = true) (hb : bn.contains x = true) (ha : AA (PL tab cs bn n sc N k tp fc) (e :: es) ms) : EE (PL tab cs bn n sc N k tp fc) (.Call (.Name x q) (e :: es) [] pos) (eOps f ms) := fun X B I => by
  obtain ⟨h1, h2, h3⟩ := I.gl h
  obtain ⟨o1, o2⟩ := hf.ok I
  have hs := ha.2.1
  simp only [List.all_cons, Bool.and_eq_true] at hs
  exact me_callB o1 h1 (I.bn' hb) o2 (ha.1 X B I) h3 h2 (starEach_cons hs.1 _ _) (nostar_back _ _ hs.2)
theorem e_listX (h : okG sc "list" = true) (hb : bn.contains "list" = true) (ha : AA (PL tab cs bn n sc N k tp fc) [e] ms) : EE (PL tab cs bn n sc N k tp fc) (.Call (.Name "list" q) [e] [] pos) (eOps listX ms) := fun X B I => by
  obtain ⟨h1, h2, h3⟩ := I.gl h
  have hs := ha.2.1
  simp only [List.all_cons, Bool.and_eq_true] at hs
  exact me_callTy (T := "list") (opX_list I.room.hd I.calm) h1 (I.bn' hb) (by kernel_rfl) (ha.1 X B I) h3 h2 (starEach_cons hs.1 _ _) (nostar_back _ _ hs.2)
end
end L2.DL
/-! DLq: calls by names -/
namespace L2.DL
open PySem PySem.Spec PyProof.Rows
section
variable {K : PySem.W.Frag} {mg : Str → Option Value} {B : WX} {F F1 : Addr → Prop} {l l1 : L} {σ : St} {H H1 : Hp}
theorem ROps.pair {os : List Opd} {vs : List V} (h : ROps K F l σ H os vs) : ∀ {i j : Nat} {d d' : PyData} {a : Addr}, i ≠ j → os[i]? = some (.t d) → vs[i]? = some (.ref a) → os[j]? = some (.t d') → vs[j]? = some (.ref a) → False := by
  induction h with
  | nil => intro i j d d' a _ h1; simp at h1
  | @cons o v os vs h1 h2 h3 ih =>
    have mem : ∀ {j : Nat} {d' : PyData} {a : Addr}, os[j]? = some (.t d') → vs[j]? = some (.ref a) → (Opd.t d', V.ref a) ∈ os.zip vs := fun {j d' a} e1 e2 => by
      refine List.mem_of_getElem? (i := j) ?_
      rw [List.getElem?_zip_eq_some]
      exact ⟨e1, e2⟩
    intro i j d d' a hne e1 e2 e3 e4
    cases i with
    | zero =>
      cases j with
      | zero => exact hne rfl
      | succ j =>
        simp at e1 e2 e3 e4
        exact h3 d d' a e1 e2 (mem e3 e4)
    | succ i =>
      cases j with
      | zero =>
        simp at e1 e2 e3 e4
        exact h3 d' d a e3 e4 (mem e1 e2)
      | succ j =>
        simp at e1 e2 e3 e4
        exact ih (by omega) e1 e2 e3 e4
def permL {α : Type} (perm : List Nat) (xs : List α) (d : α) : List α := perm.map fun k => xs.getD k d
theorem ROps.perm {os : List Opd} {vs : List V} (h : ROps K F l σ H os vs) : ∀ {perm : List Nat}, perm.Nodup → (∀ k ∈ perm, k < os.length) → ROps K F l σ H (permL perm os (.v .none)) (permL perm vs .non)
  | [], _, _ => .nil
  | k :: perm, hn, hk => by
    rw [List.nodup_cons] at hn
    have hlt : k < os.length := hk k (by simp)
    have hlv : k < vs.length := by rw [← h.length]; exact hlt
    have e1 : os.getD k (.v .none) = os[k] := by simp [List.getD_eq_getElem?_getD, hlt]
    have e2 : vs.getD k .non = vs[k] := by simp [List.getD_eq_getElem?_getD, hlv]
    have ih := ROps.perm h (perm := perm) hn.2 fun j hj => hk j (by simp [hj])
    refine ROps.cons ?_ ih ?_
    · show ROp K F l σ H (os.getD k (.v .none)) (vs.getD k .non)
      obtain ⟨v, ev, ro, _⟩ := h.at' (j := k) (o := os[k]) (by simp [hlt])
      have : v = vs[k] := by rw [List.getElem?_eq_getElem hlv] at ev; exact (Option.some.inj ev).symm
      rw [e1, e2, ← this]
      exact ro
    · intro d d' a ho hv hm
      obtain ⟨j, hj⟩ := List.getElem?_of_mem hm
      rw [List.getElem?_zip_eq_some] at hj
      obtain ⟨hj1, hj2⟩ := hj
      rw [List.getElem?_map, Option.map_eq_some_iff] at hj1 hj2
      obtain ⟨j1, q1, q2⟩ := hj1
      obtain ⟨j2, q3, q4⟩ := hj2
      rw [q1] at q3
      cases q3
      have hj1 : j1 ∈ perm := List.mem_of_getElem? q1
      have hl1 : j1 < os.length := hk j1 (by simp [hj1])
      have hl2 : j1 < vs.length := by rw [← h.length]; exact hl1
      have ne : k ≠ j1 := by rintro rfl; exact hn.1 hj1
      refine h.pair ne (d := d) (d' := d') (a := a) ?_ ?_ ?_ ?_
      · rw [List.getElem?_eq_getElem hlt, ← e1]; exact congrArg some ho
      · rw [List.getElem?_eq_getElem hlv, ← e2]; exact congrArg some hv
      · rw [List.getElem?_eq_getElem hl1]
        exact congrArg some ((by simp [List.getD_eq_getElem?_getD, hl1] : os[j1] = os.getD j1 (.v .none)).trans q2)
      · rw [List.getElem?_eq_getElem hl2]
        exact congrArg some ((by simp [List.getD_eq_getElem?_getD, hl2] : vs[j1] = vs.getD j1 .non).trans q4)
theorem NewOs.perm {os : List Opd} {vs : List V} (hl : os.length = vs.length) (h : NewOs H os vs) {perm : List Nat} (hk : ∀ k ∈ perm, k < os.length) : NewOs H (permL perm os (.v .none)) (permL perm vs .non) := fun p hp => by
  obtain ⟨j, hj⟩ := List.getElem?_of_mem hp
  rw [List.getElem?_zip_eq_some] at hj
  obtain ⟨hj1, hj2⟩ := hj
  unfold permL at hj1 hj2
  rw [List.getElem?_map, Option.map_eq_some_iff] at hj1 hj2
  obtain ⟨j1, q1, q2⟩ := hj1
  obtain ⟨j2, q3, q4⟩ := hj2
  rw [q1] at q3
  cases q3
  have hl1 : j1 < os.length := hk j1 (List.mem_of_getElem? q1)
  have hl2 : j1 < vs.length := by rw [← hl]; exact hl1
  have : (os[j1], vs[j1]) ∈ os.zip vs := by
    refine List.mem_of_getElem? (i := j1) ?_
    rw [List.getElem?_zip_eq_some]
    exact ⟨List.getElem?_eq_getElem hl1, List.getElem?_eq_getElem hl2⟩
  have q := h _ this
  have e1 : os[j1] = p.1 := by rw [← q2]; simp [List.getD_eq_getElem?_getD, hl1]
  have e2 : vs[j1] = p.2 := by rw [← q4]; simp [List.getD_eq_getElem?_getD, hl2]
  rw [← e1, ← e2]
  exact q
theorem callK_of {ms : List (M Opd)} {sem : FSem} {bs : List Bool} {perm : List Nat} {n : Nat} {Q : VK} (hn : perm.Nodup) (hlt : ∀ k ∈ perm, k < ms.length) (hlen : perm.length = n) (h : tM K mg B (eCallK sem bs perm ms) σ H Q) : tMA K mg B ms σ H fun vs H1 => spD K mg n sem (permL perm vs .non) H1 Q fun c d H' => B c d σ H' := by
  obtain ⟨F, l, r, h⟩ := h
  refine tMA_of r Step.refl (Run.bd h) fun os F1 l1 H1 vs hl r1 s1 b1 ro nw q => ?_
  have hk : ∀ k ∈ perm, k < os.length := fun k hk => by rw [hl]; exact hlt k hk
  exact call_run (b := ⟨F, l, σ, H⟩) r1 b1 (ro.perm hn hk) (NewOs.perm ro.length nw hk) (by rw [permL, List.length_map]; exact hlen) q fun o F' l' H' v r' b' ro' nw' q' => q' v ro' nw'
end
section
variable {X : Cx} {B : WX} {e : Expr} {x : Str} {nm : Option Str} {ms : List (M Opd)} {m : M Opd} {kws : List Keyword} {p pos kpos : Pos} {k n : Nat} {f : Addr} {fd : FuncData} {ps ks : List Str} {sem : FSem} {bs : List Bool} {perm : List Nat}
def MK (X : Cx) (B : WX) (kws : List Keyword) (ms : List (M Opd)) : Prop := PK X kws (tMA X.K X.mg B ms)
theorem PK.imp {t t' : TA} (h : PK X kws t) (k : ∀ σ H Q, t' σ H Q → t σ H Q) : PK X kws t' := ⟨fun pos pins s σ H Q I q => h.run pos pins s σ H Q I (k σ H Q q)⟩
theorem mk_nil : MK X B [] [] := PK.imp pk_nil fun σ H Q h => tMA_nil h
theorem mk_cons (ha : ME X B e m) (hr : MK X B kws ms) : MK X B (⟨nm, e, kpos⟩ :: kws) (m :: ms) := PK.imp (pk_cons ha hr) fun σ H Q h => tMA_cons h
theorem permV {vs : List V} {us : List Value} (r : Vals vs us) (perm : List Nat) : Vals (permL perm vs .non) (permL perm us .none) := by
  induction perm with
  | nil => exact .nil
  | cons k perm ih =>
    refine .cons ?_ ih
    show RelV (vs.getD k .non) (us.getD k .none)
    rw [List.getD_eq_getElem?_getD, List.getD_eq_getElem?_getD]
    have hl := r.length
    by_cases h : k < vs.length
    · have h2 : k < us.length := by omega
      have : ∀ {vs : List V} {us : List Value}, Vals vs us → ∀ {k : Nat} (h : k < vs.length) (h2 : k < us.length), RelV vs[k] us[k] := by
        intro vs us r
        induction r with
        | nil => intro k h; simp at h
        | cons a _ ih =>
          intro k h h2
          cases k with
          | zero => exact a
          | succ k => exact ih (by simpa using h) (by simpa using h2)
      simp only [List.getElem?_eq_getElem h, List.getElem?_eq_getElem h2, Option.getD_some]
      exact this r h h2
    · rw [List.getElem?_eq_none (by omega), List.getElem?_eq_none (by omega)]
      exact rfl
theorem me_callK (F : FnG X.prog X.w X.K X.mg X.base (L2.CX X.prog X.w) k f fd ps (spD X.K X.mg n sem)) (hps : ps.length = n) (hr : Room k X.A) (gd : X.A.guards = some []) (hg : Gl X x) (hm : X.mg x = some (.ref f)) (hk : PySem.W.keepIn X.K (.ref f) = true)
    (hb : ∀ (s : Shared) (ws : List Value), ws.length = ms.length → BindsTo s fd ⟨[], ks.zip ws⟩ (ps.zip (permL perm ws .none))) (tk : Takes X B) (ha : MK X B kws ms) (hn : perm.Nodup) (hlt : ∀ k ∈ perm, k < ms.length) (hlen : perm.length = n) (hdb : (x == ("__debug__" : Str)) = false)
    (hall : (backToKw pos (keywordEach kws X.env)).all (·.1.isSome) = true) (hks : (backToKw pos (keywordEach kws X.env)).filterMap (·.1) = ks) (hpl : (backToKw pos (keywordEach kws X.env)).any (·.1.isNone) = false) :
    ME X B (.Call (.Name x p) [] kws pos) (eCallK sem bs perm ms) := by
  refine ⟨fun pins s σ H Q I h => ?_⟩
  refine wpAny_Call_Name_kw (ld_glob I hg hm ?_ hdb)
  have h2 := callK_of hn hlt hlen h
  have h3 : tMA X.K X.mg B ms σ H fun vs H1 => vs.length = ms.length ∧ spD X.K X.mg n sem (permL perm vs .non) H1 Q fun c d H' => B c d σ H' := by
    obtain ⟨F, l, r, h2⟩ := h2
    exact tMA_of r Step.refl h2 fun os F1 l1 H1 vs hl r1 s1 b1 ro nw q => ⟨by rw [← ro.length]; exact hl, q vs ro nw⟩
  refine PySem.W.callWith_KW0 (h₀ := X.base) I.ok.mod.kin hk hall (thn (ha.run pos pins s σ H _ I h3) fun ws s1 ⟨vs, H1, I1, r, hvl, q⟩ => ⟨I1.kIn, ?_⟩) (by
    show (false || (backToKw pos (keywordEach kws X.env)).any (·.1.isNone)) = false
    rw [hpl]; rfl)
  rw [hks]
  refine wpAny_call (codeAny_mono (run_D F hr gd (hb s1 ws (by rw [← r.length]; exact hvl)) tk I1 (permV r perm) q) fun r s' hq => ?_)
  cases r with
  | error e => exact hq
  | ok fl => cases fl <;> first | exact hq | exact False.elim hq
end
/-! at places -/
section
variable {tab : List FI} {cs : List (Str × PyData)} {bn : List Str} {n : Nat} {sc : Scope} {N : List Str} {k : Nat} {tp : Bool} {fc : Str → Bool} {x : Str} {e : Expr} {ms : List (M Opd)} {m : M Opd} {kws : List Keyword} {pos q kpos : Pos} {ks : List Str} {perm : List Nat} {bs : List Bool}
def KK (p : Pl) (kws : List Keyword) (ms : List (M Opd)) (ks : List Str) : Prop := (∀ X B, In p X B → MK X B kws ms) ∧ (∀ (pos : Pos) (env : Env), (backToKw pos (keywordEach kws env)).all (·.1.isSome) = true ∧ (backToKw pos (keywordEach kws env)).filterMap (·.1) = ks ∧ (backToKw pos (keywordEach kws env)).any (·.1.isNone) = false) ∧ ms.length = ks.length
theorem kk_nil {p : Pl} : KK p [] [] [] := ⟨fun X B I => mk_nil, fun pos env => ⟨rfl, rfl, rfl⟩, rfl⟩
theorem kk_cons {p : Pl} (ha : EE p e m) (hr : KK p kws ms ks) : KK p (⟨some x, e, kpos⟩ :: kws) (m :: ms) (x :: ks) := by
  refine ⟨fun X B I => mk_cons (ha X B I) (hr.1 X B I), fun pos env => ?_, by simp [hr.2.2]⟩
  obtain ⟨h1, h2, h3⟩ := hr.2.1 pos env
  refine ⟨?_, ?_, ?_⟩
  · show (true && (backToKw pos (keywordEach kws env)).all (·.1.isSome)) = true
    rw [h1]; rfl
  · show x :: (backToKw pos (keywordEach kws env)).filterMap (·.1) = _
    rw [h2]
  · show (false || (backToKw pos (keywordEach kws env)).any (·.1.isNone)) = false
    rw [h3]; rfl
/-- how arguments by name are bound -/
def BindKw (fi : FI) (ks : List Str) (perm : List Nat) : Prop := ∀ (kV doc pm : Value) (an : Option Addr) (cd ct : Value) (ws : List Value), ws.length = ks.length → bindArgs (PySem.W.fnOf fi.name fi.name (defArgs fi.st) (defBody fi.st) (defScope fi.st) .none kV doc pm an cd ct) ⟨[], ks.zip ws⟩ = pure (fi.ps.zip (permL perm ws .none))
theorem e_callK {j : Nat} {fi : FI} (hj : tab[j]? = some fi) (hx : fi.name = x) (hk1 : fi.k ≤ k) (hk2 : fi.k < n) (h : okG sc x = true) (ha : KK (PL tab cs bn n sc N k tp fc) kws ms ks) (hb : BindKw fi ks perm) (hn : perm.Nodup) (hlt : perm.all (fun k => decide (k < ms.length)) = true) (hl : perm.length = fi.ps.length) :
    EE (PL tab cs bn n sc N k tp fc) (.Call (.Name x q) [] kws pos) (eCallK fi.sem bs perm ms) := fun X B I => by
  obtain ⟨h1, h2, h3⟩ := I.gl h
  obtain ⟨f, fd, hm, F, hbi, ok⟩ := I.g.2.2 fi (List.mem_of_getElem? hj) hk2
  subst hx
  obtain ⟨q1, q2, q3⟩ := ha.2.1 pos X.env
  refine me_callK (ks := ks) ok rfl (I.room.mono hk1) I.gd h1 hm F.kp (fun s ws hw => ?_) I.tk (ha.1 X B I) hn (fun k hk => by simpa using List.all_eq_true.mp hlt k hk) hl h2 q1 q2 q3
  obtain ⟨oc, od, kV, doc, pm, an, cd, ct, sl, rfl, _⟩ := F.ex
  exact .of_eq (hb kV doc pm an cd ct ws (hw.trans ha.2.2))
end
end L2.DL
/-! DLx: what the top has written; the end of a law -/
namespace L2.DL
open PySem PySem.Spec PyProof.Rows
/-- a def stands in the module -/
def DAt (K : PySem.W.Frag) (x : Str) (st : Stmt) : Prop := ∃ (f : Addr) (oc : Value) (od : Option Addr) (kV doc pm : Value) (an : Option Addr) (cd ct : Value) (sl : Array (Option Value)),
  PySem.W.nsIn K mainGlobals x = some (some (.ref f)) ∧ K.lookup f = some ⟨oc, od, .func (PySem.W.fnOf x x (defArgs st) (defBody st) (defScope st) .none kV doc pm an cd ct), sl⟩ ∧ PySem.W.codeIn K cd x = true ∧ PySem.W.keepIn K (.ref f) = true
theorem DAt.mk {K : PySem.W.Frag} {x : Str} {st : Stmt} {f : Addr} {oc : Value} {od : Option Addr} {kV doc pm : Value} {an : Option Addr} {cd ct : Value} {sl : Array (Option Value)}
    (h1 : PySem.W.nsIn K mainGlobals x = some (some (.ref f))) (h2 : K.lookup f = some ⟨oc, od, .func (PySem.W.fnOf x x (defArgs st) (defBody st) (defScope st) .none kV doc pm an cd ct), sl⟩) (h3 : PySem.W.codeIn K cd x = true) (h4 : PySem.W.keepIn K (.ref f) = true) : DAt K x st :=
  ⟨f, oc, od, kV, doc, pm, an, cd, ct, sl, h1, h2, h3, h4⟩
inductive DefAll (K : PySem.W.Frag) : List FI → Prop
  | nil : DefAll K []
  | cons {e : FI} {es : List FI} : DAt K e.name e.st → DefAll K es → DefAll K (e :: es)
inductive NoneAll (K : PySem.W.Frag) : List Str → Prop
  | nil : NoneAll K []
  | cons {x : Str} {xs : List Str} : PySem.W.nsIn K mainGlobals x = some none → NoneAll K xs → NoneAll K (x :: xs)
/-- what the written part says of a class that is raised -/
structure ClsAt (K : PySem.W.Frag) (x : Str) (sups : List PyData) : Prop where
  ex : ∃ C, PySem.W.nsIn K mainGlobals x = some (some (.ref C)) ∧ PySem.W.excIn K C reBm "RuntimeError.__new__" = true ∧ PySem.W.keepIn K (.ref C) = true ∧ PySem.W.subIn K (.ref C) (.type "BaseException") = some true ∧ PySem.W.typeIn K (.ref C) = some (.type "type") ∧
    PySem.W.exmOne K (.ref C) (.ref C) = some true ∧ ExcC K C ∧ ∀ s, PyData.str s ∈ sups → ∃ S, PySem.W.nsIn K mainGlobals s = some (some (.ref S)) ∧ PySem.W.kitOne K (.ref C) (.ref S) = some true
theorem ClsAt.one {K : PySem.W.Frag} {x s : Str} {C S : Addr} (h1 : PySem.W.nsIn K mainGlobals x = some (some (.ref C))) (h2 : PySem.W.excIn K C reBm "RuntimeError.__new__" = true) (h3 : PySem.W.keepIn K (.ref C) = true) (h4 : PySem.W.subIn K (.ref C) (.type "BaseException") = some true) (h5 : PySem.W.typeIn K (.ref C) = some (.type "type"))
    (h6 : PySem.W.subIn K (.ref C) (.ref C) = some true) (g1 : PySem.W.findIn K (.ref C) "__getattribute__" = some (some (.builtin "BaseException.__getattribute__"))) (g2 : PySem.W.findIn K (.ref C) "__getattr__" = some none) (g3 : PySem.W.hasDictIn K C = true) (g4 : PySem.W.findIn K (.ref C) "__class__" = some (some (.builtin "object.__class__")))
    (g5 : PySem.W.specialIn K (.builtin "object.__class__") "__get__" = some (some (.builtin "getset_descriptor.__get__"))) (g6 : PySem.W.takesIn K (.builtin "object.__class__") = some true) (g7 : PySem.W.mroIn K C (.type "object") = some true)
    (k1 : PySem.W.nsIn K mainGlobals s = some (some (.ref S))) (k2 : PySem.W.typeIn K (.ref S) = some (.type "type")) (k3 : PySem.W.hasDictIn K S = true) (k4 : PySem.W.subIn K (.ref C) (.ref S) = some true) : ClsAt K x [.str s] := by
  refine ⟨C, h1, h2, h3, h4, h5, PySem.W.exm_ref h4 g3 h5 h6, ⟨g1, g2, h4, g3, g4, g5, g6, g7⟩, fun t ht => ?_⟩
  simp only [List.mem_cons, List.not_mem_nil, or_false, PyData.str.injEq] at ht
  subst ht
  refine ⟨S, k1, ?_⟩
  obtain ⟨cd, hc, _⟩ := PySem.W.any_some k3
  have e2 : ((PySem.W.clsIn K S).isSome && PySem.W.typeIn K (.ref S) == some (.type "type")) = true := by rw [hc, k2] <;> rfl
  unfold PySem.W.kitOne
  split
  · rfl
  · show (if ((PySem.W.clsIn K S).isSome && PySem.W.typeIn K (.ref S) == some (.type "type")) = true then PySem.W.subIn K (.ref C) (.ref S) else none) = some true
    rw [if_pos e2, k4]
inductive CstAll (K : PySem.W.Frag) : List (Str × PyData) → Prop
  | nil : CstAll K []
  | cons {x : Str} {i : Int} {t : Tok} {xs : List (Str × PyData)} : PySem.W.nsIn K mainGlobals x = some (some (.int i t)) → CstAll K xs → CstAll K ((x, .int i) :: xs)
  | str {x i : Str} {t : Tok} {xs : List (Str × PyData)} : PySem.W.nsIn K mainGlobals x = some (some (.str i t)) → CstAll K xs → CstAll K ((x, .str i) :: xs)
  | cls {x : Str} {sups : List PyData} {xs : List (Str × PyData)} : ClsAt K x sups → CstAll K xs → CstAll K ((x, .list sups) :: xs)
theorem DefAll.at' {K : PySem.W.Frag} {tab : List FI} (h : DefAll K tab) : ∀ e ∈ tab, DAt K e.name e.st := by
  induction h with
  | nil => intro e he; simp at he
  | cons h1 _ ih =>
    intro e he
    rcases List.mem_cons.mp he with z | z
    · subst z; exact h1
    · exact ih e z
section
variable {P : Program} {w : World} {K : PySem.W.Frag} {h : Heap} {mg : Str → Option Value} {base : Heap} {tab : List FI} {cs : List (Str × PyData)} {bn : List Str}
theorem NoneAll.at' (X : K.In h) (G : h.Ns mainGlobals mg) (q : NoneAll K bn) : ∀ x ∈ bn, mg x = none := by
  induction q with
  | nil => intro e he; simp at he
  | cons h1 _ ih =>
    intro e he
    rcases List.mem_cons.mp he with z | z
    · subst z; exact PySem.W.mg_none_of X G h1
    · exact ih e z
theorem CstAll.at' (X : K.In h) (G : h.Ns mainGlobals mg) (q : CstAll K cs) : ∀ c ∈ cs, CstIs K mg c := by
  induction q with
  | nil => intro e he; simp at he
  | cons h1 _ ih =>
    intro e he
    rcases List.mem_cons.mp he with z | z
    · subst z; exact ⟨_, PySem.W.mg_of X G h1⟩
    · exact ih e z
  | str h1 _ ih =>
    intro e he
    rcases List.mem_cons.mp he with z | z
    · subst z; exact ⟨_, PySem.W.mg_of X G h1⟩
    · exact ih e z
  | cls h1 _ ih =>
    intro e he
    rcases List.mem_cons.mp he with z | z
    · subst z
      obtain ⟨C, q1, q2, q3, q4, q5, q6, q7, q8⟩ := h1.ex
      refine ⟨C, PySem.W.mg_of X G q1, q2, q3, q4, q5, q6, q7, fun s hs => ?_⟩
      obtain ⟨S, r1, r2⟩ := q8 s hs
      exact ⟨S, PySem.W.mg_of X G r1, r2⟩
    · exact ih e z
/-- how arguments are bound to a def's parameters -/
def BindOk (x : Str) (st : Stmt) (ps : List Str) : Prop := ∀ (kV doc pm : Value) (an : Option Addr) (cd ct : Value) (us : List Value), us.length = ps.length → bindArgs (PySem.W.fnOf x x (defArgs st) (defBody st) (defScope st) .none kV doc pm an cd ct) ⟨us, []⟩ = pure (ps.zip us)
/-- a def's promise, by its body's code -/
theorem fnx_mk {e : FI} {N : List Str} {k : Nat} {code : C} (X : K.In h) (G : h.Ns mainGlobals mg) (d : DAt K e.name e.st) (g : Gm P w K mg base tab cs bn e.k) (hb : BindOk e.name e.st e.ps) (S : FnScope N e.ps (defScope e.st)) (hl : e.ps.length ≤ N.length)
    (hk : e.k = k + 1) (hs : e.sem = mkF e.ps.length N.length code) (hw : SSs (PL tab cs bn e.k (defScope e.st) N k true (fun _ => true)) (defBody e.st) code) : FnX P w K mg base e := by
  obtain ⟨f, oc, od, kV, doc, pm, an, cd, ct, sl, h1, h2, h3, h4⟩ := d
  have F := fun_mk (st := e.st) h2 h3 h4
  refine ⟨f, _, PySem.W.mg_of X G h1, F, F.binds hb, ?_⟩
  rw [hs]
  have q := fn_mk (k := k) F S (G := GmP tab cs bn e.k) g hl hw
  rw [← hk] at q
  exact q
end
/-- the law's promise: it ends and gives True -/
def spLaw (K : PySem.W.Frag) : Sp := fun vs H Q _ => vs.length = 1 ∧ ∃ (a : Addr) (ns : List Int), vs = [.ref a] ∧ ns.length ≤ 63 ∧ SqL K H a (ns.map V.int) ∧ ∀ H', Q (.bl true) H'
theorem FnG.imp {P : Program} {w : World} {K : PySem.W.Frag} {mg : Str → Option Value} {base : Heap} {CX : CXT} {k : Nat} {f : Addr} {fd : FuncData} {ps : List Str} {sp sp' : Sp} (F : FnG P w K mg base CX k f fd ps sp)
    (h : ∀ vs H Q E, sp' vs H Q E → sp vs H Q E) : FnG P w K mg base CX k f fd ps sp' :=
  ⟨fun vs H Q E q => F.few vs H Q E (h _ _ _ _ q), fun A up s H as us vs Q E gd hr he hb hv hs => F.go A up s H as us vs Q E gd hr he hb hv (h _ _ _ _ hs)⟩
theorem ints_rfs {K : PySem.W.Frag} {F : Addr → Prop} {H : Hp} : ∀ ns : List Int, RFs K F H (ns.map V.int) (ns.map .int)
  | [] => .nil
  | n :: ns => .cons (.int n) (ints_rfs ns)
/-- the law upon trees -/
def Pure (sem : FSem) : Prop := ∀ ns : List Int, ns.length ≤ 63 → ∃ as, sem [.frz (.list (ns.map .int))] = .ok (.bool true, false) as
theorem law_imp {K : PySem.W.Frag} {mg : Str → Option Value} {sem : FSem} (pure' : Pure sem) (vs : List V) (H : Hp) (Q : VK) (E : XK) (h : spLaw K vs H Q E) : spD K mg 1 sem vs H Q E := by
  obtain ⟨hl, a, ns, rfl, hn, hs, hq⟩ := h
  obtain ⟨as, e⟩ := pure' ns hn
  have fin : ∀ F : Addr → Prop, (∀ b, F b → ∃ vs, Rd H b (.lst vs)) → RF K F H (.ref a) (.list (ns.map .int)) → spD K mg 1 sem [.ref a] H Q E := by
    intro F hF hr
    refine ⟨rfl, F, [.frz (.list (ns.map .int))], ⟨rfl, fun i s hi => ?_, fun i j s t b hi hj o1 o2 => ?_, hF⟩, ?_⟩
    · cases i with
      | zero => cases hi; exact ⟨.ref a, rfl, hr⟩
      | succ i => simp at hi
    · cases i with
      | zero => cases hi; cases o1
      | succ i => simp at hi
    · rw [e]
      intro F' σ' H' rl st v ro rt
      have ro : RF K F' H' v (.bool true) := ro
      cases ro
      exact hq H'
  rcases hs with hs | hs
  · exact fin (fun b => b = a) (fun b hb => by subst hb; exact ⟨_, hs⟩) (.lst rfl hs (ints_rfs ns))
  · exact fin (fun _ => False) (fun b hb => hb.elim) (.lstK hs (ints_rfs ns))
/-- all together -/
theorem finish {l : PySem.W.OpenLaw} {w : World} {K : PySem.W.Frag} {h : Heap} {mg : Str → Option Value} {fa : Addr} {tab : List FI} {cs : List (Str × PyData)} {bn : List Str} {law : FI} (X : K.In h) (G : h.Ns mainGlobals mg) (hfa : mg "law" = some (.ref fa))
    (hb : NoneAll K bn) (hc : CstAll K cs) (hd : DefAll K tab) (hlaw : law ∈ tab) (hn : law.name = "law") (hps : law.ps = [("script" : Str)]) (hbind : BindOk law.name law.st law.ps)
    (hx : ∀ base, ∀ e ∈ tab, DAt K e.name e.st → Gm l.prog w K mg base tab cs bn e.k → FnX l.prog w K mg base e) (pure' : Pure law.sem) (hsc : ∀ (s : Shared) (kV doc pm : Value) (an : Option Addr) (cd ct v : Value), BindsTo s (PySem.W.fnOf law.name law.name (defArgs law.st) (defBody law.st) (defScope law.st) .none kV doc pm an cd ct) ⟨[v], []⟩ [("script", v)]) :
    ∃ fd : FuncData, (∀ (s : Shared) (v : Value), BindsTo s fd ⟨[v], []⟩ [("script", v)]) ∧ ∀ base : Heap, K.In base → base.Ns mainGlobals mg → FnG l.prog w K mg base (L2.CX l.prog w) law.k fa fd ["script"] (spLaw K) := by
  obtain ⟨f, oc, od, kV, doc, pm, an, cd, ct, sl, h1, h2, h3, h4⟩ := hd.at' law hlaw
  have hf : fa = f := by
    have e := PySem.W.mg_of X G h1
    rw [hn, hfa] at e
    cases e
    rfl
  subst hf
  refine ⟨PySem.W.fnOf law.name law.name (defArgs law.st) (defBody law.st) (defScope law.st) .none kV doc pm an cd ct, fun s v => hsc s kV doc pm an cd ct v, fun base KB GB => ?_⟩
  have g := tab_ok (P := l.prog) (w := w) (base := base) (hb.at' KB GB) (hc.at' KB GB) (fun e he g => hx base e he (hd.at' e he) g) (law.k + 1)
  obtain ⟨f', fd', e1, F', B', ok⟩ := g.2.2 law hlaw (Nat.lt_succ_self _)
  rw [hn, hfa] at e1
  cases e1
  obtain ⟨oc2, od2, kV2, doc2, pm2, an2, cd2, ct2, sl2, rfl, l2, _⟩ := F'.ex
  rw [h2] at l2
  cases l2
  rw [hps] at ok
  exact ok.imp fun vs H Q E q => law_imp pure' vs H Q E q
theorem walkL {l : PySem.W.OpenLaw} {q : Program} {loose : List Str} {XP : (Str → Option Value) → Heap → Prop} {YP : World → Heap → Prop} {d : DefRec} {K : Params → PySem.W.Frag} {k : Nat} (hn : l.most = some 63) (hdf : d.params.defaults = [])
    (hY : ∀ (w : World) (h : Heap), YP w h → (K w.params).In h) (hr : Room k callerA)
    (F : ∀ (w : World) (mg : Str → Option Value) (fa : Addr) (h : Heap), (K w.params).In h → h.Ns mainGlobals mg → mg d.name = some (.ref fa) →
      ∃ fd : FuncData, (∀ (s : Shared) (u : Value), BindsTo s fd ⟨[u], []⟩ [("script", u)]) ∧ ∀ base : Heap, (K w.params).In base → base.Ns mainGlobals mg → FnG l.prog w (K w.params) mg base (L2.CX l.prog w) k fa fd ["script"] (spLaw (K w.params))) :
    PySem.W.WalkO q loose XP YP l.row.toRowW d [] (fun f vs => PySem.call f vs) :=
  walk_ofG (n := 63) (k := k) (x := "script") (CX := fun w => L2.CX l.prog w) (sp := fun w => spLaw (K w.params)) hn (by decide) hdf hr hY F (fun _ _ a ns hl _ hS => ⟨rfl, a, ns, rfl, hl, hS, fun _ => rfl⟩)
    fun _ _ _ _ _ h => by
      obtain ⟨_, _, _, _, _, _, _, _, _, _, _, _, z⟩ := h
      exact z.elim
end L2.DL
set_option maxHeartbeats 4000000
namespace L2.DL.K68
open PySem PySem.Spec PyProof.Rows
def top (i : Nat) : Stmt := PySem.Challenge.pw_cardpacks_k68_whole_dealt_and_riffled_by.main.body.getD i (.Pass ⟨0, 0, 0, 0⟩)
def code_is_integer : C :=
  sRet (eAnd (eOps (isiD ["int"]) [eV 0]) (eNot (eOps (isiD ["bool"]) [eV 0])))
def sem_is_integer : FSem := mkF 1 1 code_is_integer
def code_is_within : C :=
  sRet (eAnd (eCall sem_is_integer [false] [eV 0]) (eChain leD leD (eV 1) (eV 0) (eV 2)))
def sem_is_within : FSem := mkF 3 3 code_is_within
def code_want_many : C :=
  sIf (DL.tNot (tOf (eCall sem_is_within [false, false, false] [eV 0, eK (.int 0), eK (.int 52)]))) (stuck) (sNx)
def sem_want_many : FSem := mkF 1 1 code_want_many
def code_is_pack_value : C :=
  sq (sIf (DL.tOr (DL.tNot (tOf (eOps (isiD ["tuple"]) [eV 0]))) (DL.tNot (tB' (eChain leD leD (eK (.int 1)) (eOps lenX [eV 0]) (eK (.int 52)))))) (sRet (eK (.bool false))) (sNx))
  (sRet (eAnd (eOps allD [eComp [1] (.nm 1) (iSeq (eV 0)) (rt true) (eCall sem_is_within [false, false, false] [eV 1, eK (.int 0), eOps subD [eOps lenX [eV 0], eK (.int 1)]])]) (eOps eqD [eOps lenSetD [eV 0], eOps lenX [eV 0]])))
def sem_is_pack_value : FSem := mkF 1 2 code_is_pack_value
def code_want_pack : C :=
  sIf (DL.tNot (tOf (eCall sem_is_pack_value [false] [eV 0]))) (stuck) (sNx)
def sem_want_pack : FSem := mkF 1 1 code_want_pack
def code_dealt_down : C :=
  sq (sEx (eCall sem_want_pack [false] [eV 0]))
  (sq (sEx (eCall sem_want_many [false] [eV 1]))
  (sq (sAsg (.nm 2) (eOps minD' [eV 1, eOps lenX [eV 0]]))
  (sRet (eOps addD [eSlc sliceO (eV 0) (some (eV 2)) none none, eSlc sliceO (eSlc sliceO (eV 0) none (some (eV 2)) none) none none (some (eOps negD [eK (.int 1)]))]))))
def sem_dealt_down : FSem := mkF 2 3 code_dealt_down
def code__law_by_hand : C :=
  sq (sAsg (.nm 3) (eCall sem_dealt_down [false, false] [eV 0, eV 1]))
  (sq (sPar [4, 5, 6] [eOps listX [eSlc sliceO (eV 3) none (some (eOps subD [eOps lenX [eV 0], eV 1])) none], eOps listX [eSlc sliceO (eV 3) (some (eOps subD [eOps lenX [eV 0], eV 1])) none none], eLst []])
  (sq (sFor (.nm 7) (iSeq (eV 2)) (sEx (eMut 6 appendU [tIte (tB' (eOps eqD [eV 7, eK (.int 1)])) (eMut 4 popU [eK (.int 0)]) (eMut 5 popU [eK (.int 0)])])))
  (sRet (eOps tupleD [eV 6]))))
def sem__law_by_hand : FSem := mkF 3 8 code__law_by_hand
def code__law_draw : C :=
  sq (sIf (tB' (eOps gtD [eOps idxX [eV 0, eK (.int 0)], eK (.int 0)])) (sq (sAsg (.tp [.ix 0 (eK (.int 0)), .nm 2]) (eOps divmodD [eOps idxX [eV 0, eK (.int 0)], eV 1]))
  (sRet (eV 2))) (sNx))
  (sq (sAsg (.ix 0 (eK (.int 1))) (eOps modD [eOps intD [eOps addD [eOps mulD [eOps idxX [eV 0, eK (.int 1)], eK (.int 40692)], eK (.int 9767)]], eK (.int 2147483587)]))
  (sRet (eOps modD [eOps intD [eOps fdivD [eOps modD [eOps intD [eOps mulD [eOps idxX [eV 0, eK (.int 1)], eOps idxX [eV 0, eK (.int 1)]]], eK (.int 2147483549)], eK (.int 43)]], eV 1])))
def sem__law_draw : FSem := mkF 2 3 code__law_draw
def code__law_mixed : C :=
  sq (sPar [2, 3] [eOps listX [eV 1], eLst []])
  (sq (sWh (tB' (eOps neD [eV 2, eLst []])) (sEx (eMut 3 appendU [eMut 2 popU [eCall sem__law_draw [true, false] [eV 0, eOps lenX [eV 2]]]])))
  (sRet (eV 3)))
def sem__law_mixed : FSem := mkF 2 4 code__law_mixed
def code__law_row : C :=
  sq (sAsg (.nm 2) (eCall sem__law_draw [true, false] [eV 0, eOps addD [eV 1, eK (.int 1)]]))
  (sRet (eTup [eV 2, eCall sem__law_mixed [true, false] [eV 0, eOps addD [eOps mulD [eLst [eK (.int 0)], eV 2], eOps mulD [eLst [eK (.int 1)], eOps subD [eV 1, eV 2]]]]]))
def sem__law_row : FSem := mkF 2 3 code__law_row
def code_unlike_place : C :=
  sq (sFor (.nm 2) (iRange [eOps subD [eOps lenX [eV 0], eV 1]]) (sIf (tB' (eOps neD [eOps idxX [eV 0, eV 2], eOps idxX [eV 0, eOps addD [eV 2, eV 1]]])) (sRet (eV 2)) (sNx)))
  (sRet (eK .none))
def sem_unlike_place : FSem := mkF 2 3 code_unlike_place
def code_is_count : C :=
  sRet (eAnd (eCall sem_is_integer [false] [eV 0]) (eOps geD [eV 0, eK (.int 0)]))
def sem_is_count : FSem := mkF 1 1 code_is_count
def code_is_list : C :=
  sRet (eOps (isiD ["list", "tuple"]) [eV 0])
def sem_is_list : FSem := mkF 1 1 code_is_list
def code_want_kinds : C :=
  sIf (DL.tOr (DL.tNot (tOf (eCall sem_is_list [false] [eV 0]))) (DL.tOr (DL.tNot (tB' (eChain leD leD (eK (.int 1)) (eOps lenX [eV 0]) (eK (.int 52))))) (DL.tNot (tOf (eOps allD [eComp [1] (.nm 1) (iSeq (eV 0)) (rt true) (eCall sem_is_count [false] [eV 1])]))))) (stuck) (sNx)
def sem_want_kinds : FSem := mkF 1 2 code_want_kinds
def code_want_size : C :=
  sIf (DL.tNot (tOf (eCall sem_is_within [false, false, false] [eV 0, eK (.int 1), eK (.int 52)]))) (stuck) (sNx)
def sem_want_size : FSem := mkF 1 1 code_want_size
def code_want_kinds_and_size : C :=
  sq (sEx (eCall sem_want_kinds [false] [eV 0]))
  (sEx (eCall sem_want_size [false] [eV 1]))
def sem_want_kinds_and_size : FSem := mkF 2 2 code_want_kinds_and_size
def code_always_kept : C :=
  sq (sEx (eCall sem_want_kinds_and_size [false, false] [eV 0, eV 1]))
  (sRet (eOps (isD false isNoneB) [eCall sem_unlike_place [false, false] [eV 0, eV 1]]))
def sem_always_kept : FSem := mkF 2 2 code_always_kept
def code_is_row_of : C :=
  sq (sIf (DL.tOr (DL.tNot (tOf (eCall sem_is_list [false] [eV 2]))) (DL.tOr (tB' (eOps neD [eOps lenX [eV 2], eV 0])) (DL.tNot (tOf (eOps allD [eComp [3] (.nm 3) (iSeq (eV 2)) (rt true) (eCall sem_is_within [false, false, false] [eV 3, eK (.int 0), eK (.int 1)])]))))) (sRet (eK (.bool false))) (sNx))
  (sRet (eOps eqD [eMeth countD (eOps listX [eV 2]) [eK (.int 0)], eV 1]))
def sem_is_row_of : FSem := mkF 3 4 code_is_row_of
def code_move_by_row : C :=
  sq (sPar [3, 4, 5] [eOps subD [eV 1, eK (.int 1)], eV 1, eLst []])
  (sq (sFor (.nm 6) (iSeq (eV 2)) (sq (sEx (eMut 5 appendU [tIte (tB' (eOps eqD [eV 6, eK (.int 1)])) (eV 4) (eV 3)]))
  (sAsg (.tp [.nm 3, .nm 4]) (tIte (tB' (eOps eqD [eV 6, eK (.int 1)])) (eTup [eV 3, eOps addD [eV 4, eK (.int 1)]]) (eTup [eOps subD [eV 3, eK (.int 1)], eV 4])))))
  (sRet (eOps tupleD [eV 5])))
def sem_move_by_row : FSem := mkF 3 7 code_move_by_row
def code_want_cards : C :=
  sIf (DL.tNot (tOf (eCall sem_is_within [false, false, false] [eV 0, eK (.int 1), eK (.int 52)]))) (stuck) (sNx)
def sem_want_cards : FSem := mkF 1 1 code_want_cards
def code_deal_riffle : C :=
  sq (sEx (eCall sem_want_cards [false] [eV 0]))
  (sq (sEx (eCall sem_want_many [false] [eV 1]))
  (sq (sIf (DL.tNot (tOf (eCall sem_is_row_of [false, false, false] [eV 0, eV 1, eV 2]))) (stuck) (sNx))
  (sRet (eCall sem_move_by_row [false, false, false] [eV 0, eV 1, eV 2]))))
def sem_deal_riffle : FSem := mkF 3 3 code_deal_riffle
def code_is_kept : C :=
  sq (sPar [3, 4] [eOps sortedX [eSlc sliceO (eV 0) none (some (eV 1)) none], eComp [5] (.nm 5) (iSeq (eV 2)) (rt true) (eOps idxX [eV 0, eV 5])])
  (sq (sFor (.nm 6) (iRange [eOps fdivD [eOps lenX [eV 0], eV 1]]) (sIf (tB' (eOps neD [eOps sortedX [eSlc sliceO (eV 4) (some (eOps mulD [eV 6, eV 1])) (some (eOps mulD [eOps addD [eV 6, eK (.int 1)], eV 1])) none], eV 3])) (sRet (eK (.bool false))) (sNx)))
  (sRet (eK (.bool true))))
def sem_is_kept : FSem := mkF 3 7 code_is_kept
def code_want_move : C :=
  sIf (DL.tNot (tOf (eCall sem_is_pack_value [false] [eV 0]))) (stuck) (sNx)
def sem_want_move : FSem := mkF 1 1 code_want_move
def code_keeps_kinds : C :=
  sq (sEx (eCall sem_want_kinds_and_size [false, false] [eV 0, eV 1]))
  (sq (sEx (eCall sem_want_move [false] [eV 2]))
  (sq (sIf (tB' (eOps neD [eOps lenX [eV 0], eOps lenX [eV 2]])) (stuck) (sNx))
  (sRet (eCall sem_is_kept [false, false, false] [eOps listX [eV 0], eV 1, eV 2]))))
def sem_keeps_kinds : FSem := mkF 3 3 code_keeps_kinds
def code_still_of : C :=
  sRet (eOps rngTupD [eV 0])
def sem_still_of : FSem := mkF 1 1 code_still_of
def code_plain : C :=
  sq (sEx (eCall sem_want_cards [false] [eV 0]))
  (sRet (eCall sem_still_of [false] [eV 0]))
def sem_plain : FSem := mkF 1 1 code_plain
def code_bar_of : C :=
  sq (sPar [1, 2] [eOps idxX [eV 0, eK (.int 0)], eOps idxX [eV 0, eK (.int 0)]])
  (sq (sFor (.nm 3) (iRange [eK (.int 1), eOps lenX [eV 0]]) (sIf (tB' (eOps eqD [eOps idxX [eV 0, eV 3], eOps subD [eV 1, eK (.int 1)]])) (sAsg (.nm 1) (eOps subD [eV 1, eK (.int 1)])) (sIf (tB' (eOps eqD [eOps idxX [eV 0, eV 3], eOps addD [eV 2, eK (.int 1)]])) (sAsg (.nm 2) (eOps addD [eV 2, eK (.int 1)])) (sRet (eOps addD [eV 3, eK (.int 1)])))))
  (sRet (eK .none)))
def sem_bar_of : FSem := mkF 1 4 code_bar_of
def code_row_by : C :=
  sRet (eComp [2] (.nm 2) (iSeq (eV 0)) (rt true) (tIte (tB' (eOps geD [eV 2, eV 1])) (eK (.int 1)) (eK (.int 0))))
def sem_row_by : FSem := mkF 2 3 code_row_by
def code_riffled_paper : C :=
  sq (sEx (eCall sem_want_move [false] [eV 0]))
  (sq (sAsg (.nm 1) (eCall sem_bar_of [false] [eV 0]))
  (sRet (tIte (tB' (eOps (isD false isNoneB) [eV 1])) (eTup [eK (.str "deal"), eOps idxX [eV 0, eK (.int 0)], eCall sem_row_by [false, false] [eV 0, eOps idxX [eV 0, eK (.int 0)]]]) (eTup [eK (.str "bar"), eV 1]))))
def sem_riffled_paper : FSem := mkF 1 2 code_riffled_paper
def code__law_colours_right : C :=
  sq (sAsg (.nm 1) (eOps mulD [eK (.int 4), eOps addD [eK (.int 1), eCall sem__law_draw [true, false] [eV 0, eK (.int 13)]]]))
  (sq (sAsg (.tp [.nm 2, .nm 3]) (eCall sem__law_row [true, false] [eV 0, eV 1]))
  (sq (sAsg (.nm 4) (eCall sem__law_by_hand [false, false, false] [eCall sem_plain [false] [eV 1], eV 2, eV 3]))
  (sq (sAsg (.tp [.nm 5, .nm 6]) (eTup [eComp [7] (.nm 7) (iRange [eV 1]) (rt true) (eOps modD [eV 7, eK (.int 2)]), eComp [7] (.nm 7) (iRange [eV 1]) (rt true) (eOps idxX [eLst [eK (.int 0), eK (.int 1), eK (.int 2), eK (.int 3)], eOps modD [eV 7, eK (.int 4)]])]))
  (sq (sIf (DL.tNot (tOf (eOps allD [eComp [8] (.nm 8) (iRange [eK (.int 0), eV 1, eK (.int 2)]) (rt true) (eOps neD [eOps idxX [eV 5, eOps idxX [eV 4, eV 8]], eOps idxX [eV 5, eOps idxX [eV 4, eOps addD [eV 8, eK (.int 1)]]]])]))) (sRet (eK (.bool false))) (sNx))
  (sq (sIf (DL.tNot (tOf (eOps allD [eComp [8] (.nm 8) (iRange [eK (.int 0), eV 1, eK (.int 4)]) (rt true) (eOps eqD [eOps sortedX [eComp [9] (.nm 9) (iRange [eV 8, eOps addD [eV 8, eK (.int 4)]]) (rt true) (eOps idxX [eV 6, eOps idxX [eV 4, eV 9]])], eLst [eK (.int 0), eK (.int 1), eK (.int 2), eK (.int 3)]])]))) (sRet (eK (.bool false))) (sNx))
  (sq (sAsg (.nm 10) (eCall sem_deal_riffle [false, false, false] [eV 1, eV 2, eOps listX [eV 3]]))
  (sq (sIf (DL.tOr (tB' (eOps (isD true (isBoolB true)) [eCall sem_keeps_kinds [false, false, false] [eOps listX [eV 5], eK (.int 2), eV 10]])) (tB' (eOps (isD true (isBoolB true)) [eCall sem_keeps_kinds [false, false, false] [eOps listX [eV 6], eK (.int 4), eV 10]]))) (sRet (eK (.bool false))) (sNx))
  (sq (sAsg (.nm 11) (eCall sem__law_mixed [true, false] [eV 0, eOps rngLstD [eOps fdivD [eV 1, eK (.int 2)]]]))
  (sq (sAsg (.nm 12) (eOps addD [eV 11, eV 11]))
  (sq (sAsg (.nm 13) (eComp [9] (.nm 9) (iSeq (eV 10)) (rt true) (eOps idxX [eV 12, eV 9])))
  (sRet (eAnd (eOps (isD false (isBoolB true)) [eCall sem_always_kept [false, false] [eOps listX [eV 12], eOps fdivD [eV 1, eK (.int 2)]]]) (eAnd (eOps eqD [eOps sortedX [eSlc sliceO (eV 13) none (some (eOps fdivD [eV 1, eK (.int 2)])) none], eOps sortedX [eV 11]]) (eOps eqD [eOps idxX [eCall sem_riffled_paper [false] [eV 10], eK (.int 0)], eK (.str "deal")]))))))))))))))
def sem__law_colours_right : FSem := mkF 1 14 code__law_colours_right
def code__law_pick : C :=
  sRet (eOps idxX [eV 1, eCall sem__law_draw [true, false] [eV 0, eOps lenX [eV 1]]])
def sem__law_pick : FSem := mkF 2 2 code__law_pick
def code_moved_of : C :=
  sRet (eOps tupleD [eComp [2] (.nm 2) (iSeq (eV 1)) (rt true) (eOps idxX [eV 0, eV 2])])
def sem_moved_of : FSem := mkF 2 3 code_moved_of
def code_want_as_many : C :=
  sIf (tB' (eOps neD [eOps lenX [eV 0], eOps lenX [eV 1]])) (stuck) (sNx)
def sem_want_as_many : FSem := mkF 2 2 code_want_as_many
def code_behind : C :=
  sq (sEx (eCall sem_want_move [false] [eV 0]))
  (sq (sEx (eCall sem_want_move [false] [eV 1]))
  (sq (sEx (eCall sem_want_as_many [false, false] [eV 0, eV 1]))
  (sRet (eCall sem_moved_of [false, false] [eV 0, eV 1]))))
def sem_behind : FSem := mkF 2 2 code_behind
def code_kinds_in : C :=
  sRet (eComp [3] (.nm 3) (iSeq (eSlc sliceO (eV 0) (some (eOps mulD [eV 2, eV 1])) (some (eOps mulD [eOps addD [eV 2, eK (.int 1)], eV 1])) none)) (rt true) (eOps modD [eV 3, eV 1]))
def sem_kinds_in : FSem := mkF 3 4 code_kinds_in
def code_block_kinds : C :=
  sq (sEx (eCall sem_want_move [false] [eV 0]))
  (sq (sEx (eCall sem_want_size [false] [eV 1]))
  (sRet (eComp [2] (.nm 2) (iRange [eOps fdivD [eOps subD [eOps addD [eOps lenX [eV 0], eV 1], eK (.int 1)], eV 1]]) (rt true) (eCall sem_kinds_in [false, false, false] [eV 0, eV 1, eV 2]))))
def sem_block_kinds : FSem := mkF 2 3 code_block_kinds
def code_cut : C :=
  sq (sEx (eCall sem_want_pack [false] [eV 0]))
  (sq (sEx (eCall sem_want_many [false] [eV 1]))
  (sRet (eOps addD [eSlc sliceO (eV 0) (some (eOps modD [eV 1, eOps lenX [eV 0]])) none none, eSlc sliceO (eV 0) none (some (eOps modD [eV 1, eOps lenX [eV 0]])) none])))
def sem_cut : FSem := mkF 2 2 code_cut
def code_is_deal_riffle : C :=
  sq (sEx (eCall sem_want_move [false] [eV 0]))
  (sRet (eOps (isD false isNoneB) [eCall sem_bar_of [false] [eV 0]]))
def sem_is_deal_riffle : FSem := mkF 1 1 code_is_deal_riffle
def code_is_barring : C :=
  sRet (eOps ltD [eOps lenSetD [eCall sem_kinds_in [false, false, false] [eV 0, eV 1, eV 2]], eV 1])
def sem_is_barring : FSem := mkF 3 3 code_is_barring
def code_keeps_blocks : C :=
  sq (sEx (eCall sem_want_move [false] [eV 0]))
  (sq (sEx (eCall sem_want_size [false] [eV 1]))
  (sRet (eNot (eOps anyD [eComp [2] (.nm 2) (iRange [eOps fdivD [eOps lenX [eV 0], eV 1]]) (rt true) (eCall sem_is_barring [false, false, false] [eV 0, eV 1, eV 2])]))))
def sem_keeps_blocks : FSem := mkF 2 3 code_keeps_blocks
def code_back_of : C :=
  sq (sAsg (.nm 1) (eOps mulD [eLst [eK (.int 0)], eOps lenX [eV 0]]))
  (sq (sFor (.tp [.nm 2, .nm 3]) (iEnum (eV 0)) (sAsg (.ix 1 (eV 3)) (eV 2)))
  (sRet (eOps tupleD [eV 1])))
def sem_back_of : FSem := mkF 1 4 code_back_of
def code_move_between : C :=
  sq (sEx (eCall sem_want_pack [false] [eV 0]))
  (sq (sEx (eCall sem_want_pack [false] [eV 1]))
  (sq (sEx (eCall sem_want_as_many [false, false] [eV 0, eV 1]))
  (sRet (eCall sem_moved_of [false, false] [eCall sem_back_of [false] [eV 0], eV 1]))))
def sem_move_between : FSem := mkF 2 2 code_move_between
def code_moved : C :=
  sq (sEx (eCall sem_want_pack [false] [eV 0]))
  (sq (sEx (eCall sem_want_move [false] [eV 1]))
  (sq (sEx (eCall sem_want_as_many [false, false] [eV 0, eV 1]))
  (sRet (eCall sem_moved_of [false, false] [eV 0, eV 1]))))
def sem_moved : FSem := mkF 2 2 code_moved
def code__law_pack_right : C :=
  sq (sAsg (.tp [.nm 2, .tp [.nm 3, .nm 4]]) (eTup [eOps tupleD [eCall sem__law_mixed [true, false] [eV 0, eOps rngLstD [eV 1]]], eCall sem__law_row [true, false] [eV 0, eV 1]]))
  (sq (sAsg (.nm 5) (eCall sem_deal_riffle [false, false, false] [eV 1, eV 3, eOps listX [eV 4]]))
  (sq (sAsg (.nm 6) (eCall sem__law_by_hand [false, false, false] [eV 2, eV 3, eV 4]))
  (sq (sIf (DL.tOr (tB' (eOps neD [eCall sem_moved [false, false] [eV 2, eV 5], eV 6])) (DL.tOr (tB' (eOps neD [eCall sem_move_between [false, false] [eV 2, eV 6], eV 5])) (tB' (eOps (isD true (isBoolB true)) [eCall sem_is_deal_riffle [false] [eV 5]])))) (sRet (eK (.bool false))) (sNx))
  (sq (sAsg (.nm 7) (eCall sem_cut [false, false] [eCall sem_plain [false] [eV 1], eCall sem__law_draw [true, false] [eV 0, eK (.int 53)]]))
  (sq (sAsg (.nm 8) (eCall sem_behind [false, false] [eV 7, eV 5]))
  (sq (sIf (tB' (eOps neD [eCall sem_moved [false, false] [eV 2, eV 8], eCall sem__law_by_hand [false, false, false] [eCall sem_moved [false, false] [eV 2, eV 7], eV 3, eV 4]])) (sRet (eK (.bool false))) (sNx))
  (sq (sAsg (.nm 9) (eComp [10] (.nm 10) (iRange [eK (.int 1), eOps addD [eV 1, eK (.int 1)]]) (tB' (eOps eqD [eOps modD [eOps intD [eV 1], eV 10], eK (.int 0)])) (eV 10)))
  (sq (sAsg (.nm 10) (eCall sem__law_pick [true, false] [eV 0, eV 9]))
  (sRet (eAnd (eOps (isD false (isBoolB true)) [eCall sem_keeps_blocks [false, false] [eV 8, eV 10]]) (eOps allD [eComp [11] (.nm 11) (iSeq (eCall sem_block_kinds [false, false] [eV 8, eV 10])) (rt true) (eOps eqD [eOps sortedX [eV 11], eOps rngLstD [eV 10]])])))))))))))
def sem__law_pack_right : FSem := mkF 2 12 code__law_pack_right
def code__law_pot : C :=
  sq (sAsg (.nm 2) (tIte (tB' (eOps ltD [eV 1, eOps lenX [eV 0]])) (eOps absD [eOps idxX [eV 0, eV 1]]) (eOps addD [eOps addD [eOps mulD [eK (.int 3371), eV 1], eK (.int 2593)], eOps modD [eOps intD [eOps sumD [eSlc sliceO (eV 0) none (some (eK (.int 1))) none]], eK (.int 1000003)]])))
  (sRet (eLst [eOps maxD' [eK (.int 0), eOps subD [eV 2, eOps powD [eK (.int 10), eK (.int 18)]]], eOps addD [eOps modD [eOps intD [eOps addD [eOps addD [eOps mulD [eOps modD [eOps intD [eV 2], eK (.int 2147483549)], eK (.int 40253)], eOps mulD [eK (.int 9767), eV 1]], eK (.int 71)]], eK (.int 2147483563)], eK (.int 1)]]))
def sem__law_pot : FSem := mkF 2 3 code__law_pot
def code_law : C :=
  sq (sPar [1, 2] [eCall sem__law_pot [false, false] [eV 0, eK (.int 0)], eCall sem__law_pot [false, false] [eV 0, eK (.int 1)]])
  (sRet (eAnd (eCall sem__law_pack_right [true, false] [eV 1, eOps addD [eK (.int 1), eCall sem__law_draw [true, false] [eV 1, eK (.int 12)]]]) (eAnd (eCall sem__law_pack_right [true, false] [eV 2, eOps addD [eK (.int 1), eCall sem__law_draw [true, false] [eV 2, eK (.int 52)]]]) (eAnd (eCall sem__law_colours_right [true] [eV 2]) (eCall sem__law_colours_right [true] [eV 1])))))
def sem_law : FSem := mkF 1 3 code_law
abbrev st_is_integer : Stmt := top 1
def fi_is_integer : FI := ⟨"is_integer", st_is_integer, ["value"], sem_is_integer, 1⟩
abbrev st_is_within : Stmt := top 2
def fi_is_within : FI := ⟨"is_within", st_is_within, ["value", "least", "most"], sem_is_within, 2⟩
abbrev st_want_many : Stmt := top 23
def fi_want_many : FI := ⟨"want_many", st_want_many, ["many"], sem_want_many, 3⟩
abbrev st_is_pack_value : Stmt := top 18
def fi_is_pack_value : FI := ⟨"is_pack_value", st_is_pack_value, ["value"], sem_is_pack_value, 3⟩
abbrev st_want_pack : Stmt := top 19
def fi_want_pack : FI := ⟨"want_pack", st_want_pack, ["pack"], sem_want_pack, 4⟩
abbrev st_dealt_down : Stmt := top 56
def fi_dealt_down : FI := ⟨"dealt_down", st_dealt_down, ["pack", "many"], sem_dealt_down, 5⟩
abbrev st__law_by_hand : Stmt := top 63
def fi__law_by_hand : FI := ⟨"_law_by_hand", st__law_by_hand, ["pack", "many", "row"], sem__law_by_hand, 6⟩
abbrev st__law_draw : Stmt := top 59
def fi__law_draw : FI := ⟨"_law_draw", st__law_draw, ["pot", "size"], sem__law_draw, 1⟩
abbrev st__law_mixed : Stmt := top 61
def fi__law_mixed : FI := ⟨"_law_mixed", st__law_mixed, ["pot", "some"], sem__law_mixed, 2⟩
abbrev st__law_row : Stmt := top 64
def fi__law_row : FI := ⟨"_law_row", st__law_row, ["pot", "cards"], sem__law_row, 3⟩
abbrev st_unlike_place : Stmt := top 52
def fi_unlike_place : FI := ⟨"unlike_place", st_unlike_place, ["kinds", "size"], sem_unlike_place, 1⟩
abbrev st_is_count : Stmt := top 3
def fi_is_count : FI := ⟨"is_count", st_is_count, ["value"], sem_is_count, 2⟩
abbrev st_is_list : Stmt := top 4
def fi_is_list : FI := ⟨"is_list", st_is_list, ["value"], sem_is_list, 1⟩
abbrev st_want_kinds : Stmt := top 49
def fi_want_kinds : FI := ⟨"want_kinds", st_want_kinds, ["kinds"], sem_want_kinds, 3⟩
abbrev st_want_size : Stmt := top 43
def fi_want_size : FI := ⟨"want_size", st_want_size, ["size"], sem_want_size, 3⟩
abbrev st_want_kinds_and_size : Stmt := top 50
def fi_want_kinds_and_size : FI := ⟨"want_kinds_and_size", st_want_kinds_and_size, ["kinds", "size"], sem_want_kinds_and_size, 4⟩
abbrev st_always_kept : Stmt := top 54
def fi_always_kept : FI := ⟨"always_kept", st_always_kept, ["kinds", "size"], sem_always_kept, 5⟩
abbrev st_is_row_of : Stmt := top 35
def fi_is_row_of : FI := ⟨"is_row_of", st_is_row_of, ["cards", "many", "value"], sem_is_row_of, 3⟩
abbrev st_move_by_row : Stmt := top 37
def fi_move_by_row : FI := ⟨"move_by_row", st_move_by_row, ["cards", "many", "row"], sem_move_by_row, 1⟩
abbrev st_want_cards : Stmt := top 22
def fi_want_cards : FI := ⟨"want_cards", st_want_cards, ["cards"], sem_want_cards, 3⟩
abbrev st_deal_riffle : Stmt := top 40
def fi_deal_riffle : FI := ⟨"deal_riffle", st_deal_riffle, ["cards", "many", "row"], sem_deal_riffle, 4⟩
abbrev st_is_kept : Stmt := top 51
def fi_is_kept : FI := ⟨"is_kept", st_is_kept, ["kinds", "size", "move"], sem_is_kept, 1⟩
abbrev st_want_move : Stmt := top 20
def fi_want_move : FI := ⟨"want_move", st_want_move, ["move"], sem_want_move, 4⟩
abbrev st_keeps_kinds : Stmt := top 53
def fi_keeps_kinds : FI := ⟨"keeps_kinds", st_keeps_kinds, ["kinds", "size", "move"], sem_keeps_kinds, 5⟩
abbrev st_still_of : Stmt := top 24
def fi_still_of : FI := ⟨"still_of", st_still_of, ["cards"], sem_still_of, 1⟩
abbrev st_plain : Stmt := top 27
def fi_plain : FI := ⟨"plain", st_plain, ["cards"], sem_plain, 4⟩
abbrev st_bar_of : Stmt := top 36
def fi_bar_of : FI := ⟨"bar_of", st_bar_of, ["move"], sem_bar_of, 1⟩
abbrev st_row_by : Stmt := top 38
def fi_row_by : FI := ⟨"row_by", st_row_by, ["move", "many"], sem_row_by, 1⟩
abbrev st_riffled_paper : Stmt := top 41
def fi_riffled_paper : FI := ⟨"riffled_paper", st_riffled_paper, ["move"], sem_riffled_paper, 5⟩
abbrev st__law_colours_right : Stmt := top 66
def fi__law_colours_right : FI := ⟨"_law_colours_right", st__law_colours_right, ["pot"], sem__law_colours_right, 7⟩
abbrev st__law_pick : Stmt := top 60
def fi__law_pick : FI := ⟨"_law_pick", st__law_pick, ["pot", "some"], sem__law_pick, 2⟩
abbrev st_moved_of : Stmt := top 25
def fi_moved_of : FI := ⟨"moved_of", st_moved_of, ["pack", "move"], sem_moved_of, 1⟩
abbrev st_want_as_many : Stmt := top 21
def fi_want_as_many : FI := ⟨"want_as_many", st_want_as_many, ["pack", "move"], sem_want_as_many, 1⟩
abbrev st_behind : Stmt := top 29
def fi_behind : FI := ⟨"behind", st_behind, ["move", "other"], sem_behind, 5⟩
abbrev st_kinds_in : Stmt := top 44
def fi_kinds_in : FI := ⟨"kinds_in", st_kinds_in, ["move", "size", "block"], sem_kinds_in, 1⟩
abbrev st_block_kinds : Stmt := top 46
def fi_block_kinds : FI := ⟨"block_kinds", st_block_kinds, ["move", "size"], sem_block_kinds, 5⟩
abbrev st_cut : Stmt := top 31
def fi_cut : FI := ⟨"cut", st_cut, ["pack", "many"], sem_cut, 5⟩
abbrev st_is_deal_riffle : Stmt := top 39
def fi_is_deal_riffle : FI := ⟨"is_deal_riffle", st_is_deal_riffle, ["move"], sem_is_deal_riffle, 5⟩
abbrev st_is_barring : Stmt := top 45
def fi_is_barring : FI := ⟨"is_barring", st_is_barring, ["move", "size", "block"], sem_is_barring, 2⟩
abbrev st_keeps_blocks : Stmt := top 47
def fi_keeps_blocks : FI := ⟨"keeps_blocks", st_keeps_blocks, ["move", "size"], sem_keeps_blocks, 5⟩
abbrev st_back_of : Stmt := top 26
def fi_back_of : FI := ⟨"back_of", st_back_of, ["move"], sem_back_of, 1⟩
abbrev st_move_between : Stmt := top 30
def fi_move_between : FI := ⟨"move_between", st_move_between, ["pack", "late"], sem_move_between, 5⟩
abbrev st_moved : Stmt := top 28
def fi_moved : FI := ⟨"moved", st_moved, ["pack", "move"], sem_moved, 5⟩
abbrev st__law_pack_right : Stmt := top 65
def fi__law_pack_right : FI := ⟨"_law_pack_right", st__law_pack_right, ["pot", "cards"], sem__law_pack_right, 7⟩
abbrev st__law_pot : Stmt := top 58
def fi__law_pot : FI := ⟨"_law_pot", st__law_pot, ["script", "k"], sem__law_pot, 1⟩
abbrev st_law : Stmt := top 67
def fi_law : FI := ⟨"law", st_law, ["script"], sem_law, 8⟩
def tab : List FI := [fi_is_integer, fi_is_within, fi_want_many, fi_is_pack_value, fi_want_pack, fi_dealt_down, fi__law_by_hand, fi__law_draw, fi__law_mixed, fi__law_row, fi_unlike_place, fi_is_count, fi_is_list, fi_want_kinds, fi_want_size, fi_want_kinds_and_size, fi_always_kept, fi_is_row_of, fi_move_by_row, fi_want_cards, fi_deal_riffle, fi_is_kept, fi_want_move, fi_keeps_kinds, fi_still_of, fi_plain, fi_bar_of, fi_row_by, fi_riffled_paper, fi__law_colours_right, fi__law_pick, fi_moved_of, fi_want_as_many, fi_behind, fi_kinds_in, fi_block_kinds, fi_cut, fi_is_deal_riffle, fi_is_barring, fi_keeps_blocks, fi_back_of, fi_move_between, fi_moved, fi__law_pack_right, fi__law_pot, fi_law]
def cs : List (Str × PyData) := [("BAR_WORD", .str "bar"), ("DEAL_WORD", .str "deal"), ("MOST_CARDS", .int 52)]
def bn : List Str := ["len", "abs", "divmod", "max", "min", "all", "any", "sum", "tuple", "list", "int", "range", "isinstance", "set", "enumerate", "zip", "bool", "str", "sorted", "repr", "dict"]
def N_is_integer : List Str := ["value"]
theorem w_is_integer : SSs (PL tab cs bn 1 (defScope st_is_integer) N_is_integer 0 true (fun _ => true)) (defBody st_is_integer) code_is_integer :=
  (ss_one (s_ret (e_and (e_isi (by decide +kernel) (by decide +kernel) (e_name (i := 0) rfl (by decide +kernel)) rfl (by decide +kernel) (by decide +kernel) (by kernel_rfl) (by decide +kernel)) (e_one (e_not (e_isi (by decide +kernel) (by decide +kernel) (e_name (i := 0) rfl (by decide +kernel)) rfl (by decide +kernel) (by decide +kernel) (by kernel_rfl) (by decide +kernel)))))))
theorem b_is_integer : BindOk fi_is_integer.name fi_is_integer.st fi_is_integer.ps := fun _ _ _ _ _ _ us hl => match us, hl with | [_], _ => rfl
theorem sc_is_integer : FnScope N_is_integer fi_is_integer.ps (defScope fi_is_integer.st) := ⟨rfl, rfl, rfl, by decide +kernel, rfl, by decide +kernel, by decide +kernel⟩
theorem x_is_integer {P : Program} {w : World} {K : PySem.W.Frag} {h : Heap} {mg : Str → Option Value} {base : Heap} (X : K.In h) (G : h.Ns mainGlobals mg) (d : DAt K fi_is_integer.name fi_is_integer.st) (g : Gm P w K mg base tab cs bn fi_is_integer.k) : FnX P w K mg base fi_is_integer := fnx_mk (k := 0) X G d g b_is_integer sc_is_integer (by decide) rfl rfl w_is_integer
def N_is_within : List Str := ["value", "least", "most"]
theorem w_is_within : SSs (PL tab cs bn 2 (defScope st_is_within) N_is_within 1 true (fun _ => true)) (defBody st_is_within) code_is_within :=
  (ss_one (s_ret (e_and (e_call (j := 0) (fi := fi_is_integer) (bs := [false]) rfl rfl (by decide) (by decide) (by decide +kernel) (a_cons (e_name (i := 0) rfl (by decide +kernel)) a_nil rfl (by decide)) rfl) (e_one (e_chain .le .le (e_name (i := 1) rfl (by decide +kernel)) (e_name (i := 0) rfl (by decide +kernel)) (e_name (i := 2) rfl (by decide +kernel)) rfl)))))
theorem b_is_within : BindOk fi_is_within.name fi_is_within.st fi_is_within.ps := fun _ _ _ _ _ _ us hl => match us, hl with | [_, _, _], _ => rfl
theorem sc_is_within : FnScope N_is_within fi_is_within.ps (defScope fi_is_within.st) := ⟨rfl, rfl, rfl, by decide +kernel, rfl, by decide +kernel, by decide +kernel⟩
theorem x_is_within {P : Program} {w : World} {K : PySem.W.Frag} {h : Heap} {mg : Str → Option Value} {base : Heap} (X : K.In h) (G : h.Ns mainGlobals mg) (d : DAt K fi_is_within.name fi_is_within.st) (g : Gm P w K mg base tab cs bn fi_is_within.k) : FnX P w K mg base fi_is_within := fnx_mk (k := 1) X G d g b_is_within sc_is_within (by decide) rfl rfl w_is_within
def N_want_many : List Str := ["many"]
theorem w_want_many : SSs (PL tab cs bn 3 (defScope st_want_many) N_want_many 2 true (fun _ => true)) (defBody st_want_many) code_want_many :=
  (ss_one (s_if (t_not (t_val (e_call (j := 1) (fi := fi_is_within) (bs := [false, false, false]) rfl rfl (by decide) (by decide) (by decide +kernel) (a_cons (e_name (i := 0) rfl (by decide +kernel)) (a_cons e_int (a_cons (e_cst (j := 2) rfl (by decide +kernel)) a_nil rfl (by decide)) rfl (by decide)) rfl (by decide)) rfl) rfl)) (ss_one s_stk) ss_nil))
theorem b_want_many : BindOk fi_want_many.name fi_want_many.st fi_want_many.ps := fun _ _ _ _ _ _ us hl => match us, hl with | [_], _ => rfl
theorem sc_want_many : FnScope N_want_many fi_want_many.ps (defScope fi_want_many.st) := ⟨rfl, rfl, rfl, by decide +kernel, rfl, by decide +kernel, by decide +kernel⟩
theorem x_want_many {P : Program} {w : World} {K : PySem.W.Frag} {h : Heap} {mg : Str → Option Value} {base : Heap} (X : K.In h) (G : h.Ns mainGlobals mg) (d : DAt K fi_want_many.name fi_want_many.st) (g : Gm P w K mg base tab cs bn fi_want_many.k) : FnX P w K mg base fi_want_many := fnx_mk (k := 2) X G d g b_want_many sc_want_many (by decide) rfl rfl w_want_many
def N_is_pack_value : List Str := ["value", "one"]
theorem w_is_pack_value : SSs (PL tab cs bn 3 (defScope st_is_pack_value) N_is_pack_value 2 true (fun _ => true)) (defBody st_is_pack_value) code_is_pack_value :=
  (ss_cons (s_if (t_w (w_or (t_not (t_val (e_isi (by decide +kernel) (by decide +kernel) (e_name (i := 0) rfl (by decide +kernel)) rfl (by decide +kernel) (by decide +kernel) (by kernel_rfl) (by decide +kernel)) rfl)) (w_or1 (t_not (t_chain .le .le e_int (e_blt2 .len (by decide +kernel) (by decide +kernel) (a_cons (e_name (i := 0) rfl (by decide +kernel)) a_nil rfl (by decide))) (e_cst (j := 2) rfl (by decide +kernel)) rfl))))) (ss_one (s_ret e_bl)) ss_nil)
  (ss_one (s_ret (e_and (e_blt .all (by decide +kernel) (by decide +kernel) (a_cons (e_comp (own := [("one", 1)]) (i_seq (e_name (i := 0) rfl (by decide +kernel))) (by decide +kernel) (gt_name (i := 1) rfl (by decide +kernel)) ts_nil (e_call (j := 1) (fi := fi_is_within) (bs := [false, false, false]) rfl rfl (by decide) (by decide) (by decide +kernel) (a_cons (e_name (i := 1) rfl (by decide +kernel)) (a_cons e_int (a_cons (e_sub (e_blt2 .len (by decide +kernel) (by decide +kernel) (a_cons (e_name (i := 0) rfl (by decide +kernel)) a_nil rfl (by decide))) e_int) a_nil rfl (by decide)) rfl (by decide)) rfl (by decide)) rfl) rfl) a_nil rfl (by decide))) (e_one (e_cmp .eq (e_lenSet (by decide +kernel) (by decide +kernel) (by decide +kernel) (by decide +kernel) (e_name (i := 0) rfl (by decide +kernel)) rfl) (e_blt2 .len (by decide +kernel) (by decide +kernel) (a_cons (e_name (i := 0) rfl (by decide +kernel)) a_nil rfl (by decide))) rfl))))))
theorem b_is_pack_value : BindOk fi_is_pack_value.name fi_is_pack_value.st fi_is_pack_value.ps := fun _ _ _ _ _ _ us hl => match us, hl with | [_], _ => rfl
theorem sc_is_pack_value : FnScope N_is_pack_value fi_is_pack_value.ps (defScope fi_is_pack_value.st) := ⟨rfl, rfl, rfl, by decide +kernel, rfl, by decide +kernel, by decide +kernel⟩
theorem x_is_pack_value {P : Program} {w : World} {K : PySem.W.Frag} {h : Heap} {mg : Str → Option Value} {base : Heap} (X : K.In h) (G : h.Ns mainGlobals mg) (d : DAt K fi_is_pack_value.name fi_is_pack_value.st) (g : Gm P w K mg base tab cs bn fi_is_pack_value.k) : FnX P w K mg base fi_is_pack_value := fnx_mk (k := 2) X G d g b_is_pack_value sc_is_pack_value (by decide) rfl rfl w_is_pack_value
def N_want_pack : List Str := ["pack"]
theorem w_want_pack : SSs (PL tab cs bn 4 (defScope st_want_pack) N_want_pack 3 true (fun _ => true)) (defBody st_want_pack) code_want_pack :=
  (ss_one (s_if (t_not (t_val (e_call (j := 3) (fi := fi_is_pack_value) (bs := [false]) rfl rfl (by decide) (by decide) (by decide +kernel) (a_cons (e_name (i := 0) rfl (by decide +kernel)) a_nil rfl (by decide)) rfl) rfl)) (ss_one s_stk) ss_nil))
theorem b_want_pack : BindOk fi_want_pack.name fi_want_pack.st fi_want_pack.ps := fun _ _ _ _ _ _ us hl => match us, hl with | [_], _ => rfl
theorem sc_want_pack : FnScope N_want_pack fi_want_pack.ps (defScope fi_want_pack.st) := ⟨rfl, rfl, rfl, by decide +kernel, rfl, by decide +kernel, by decide +kernel⟩
theorem x_want_pack {P : Program} {w : World} {K : PySem.W.Frag} {h : Heap} {mg : Str → Option Value} {base : Heap} (X : K.In h) (G : h.Ns mainGlobals mg) (d : DAt K fi_want_pack.name fi_want_pack.st) (g : Gm P w K mg base tab cs bn fi_want_pack.k) : FnX P w K mg base fi_want_pack := fnx_mk (k := 3) X G d g b_want_pack sc_want_pack (by decide) rfl rfl w_want_pack
def N_dealt_down : List Str := ["pack", "many", "size"]
theorem w_dealt_down : SSs (PL tab cs bn 5 (defScope st_dealt_down) N_dealt_down 4 true (fun _ => true)) (defBody st_dealt_down) code_dealt_down :=
  (ss_cons (s_expr (e_call (j := 4) (fi := fi_want_pack) (bs := [false]) rfl rfl (by decide) (by decide) (by decide +kernel) (a_cons (e_name (i := 0) rfl (by decide +kernel)) a_nil rfl (by decide)) rfl) rfl)
  (ss_cons (s_expr (e_call (j := 2) (fi := fi_want_many) (bs := [false]) rfl rfl (by decide) (by decide) (by decide +kernel) (a_cons (e_name (i := 1) rfl (by decide +kernel)) a_nil rfl (by decide)) rfl) rfl)
  (ss_cons (s_asg (e_blt .min (by decide +kernel) (by decide +kernel) (a_cons (e_name (i := 1) rfl (by decide +kernel)) (a_cons (e_blt2 .len (by decide +kernel) (by decide +kernel) (a_cons (e_name (i := 0) rfl (by decide +kernel)) a_nil rfl (by decide))) a_nil rfl (by decide)) rfl (by decide))) (g_name (i := 2) rfl (by decide +kernel)) rfl rfl)
  (ss_one (s_ret (e_add (e_slice (e_name (i := 0) rfl (by decide +kernel)) (p_some (e_name (i := 2) rfl (by decide +kernel))) p_none p_none) (e_slice (e_slice (e_name (i := 0) rfl (by decide +kernel)) p_none (p_some (e_name (i := 2) rfl (by decide +kernel))) p_none) p_none p_none (p_some (e_neg e_int)))))))))
theorem b_dealt_down : BindOk fi_dealt_down.name fi_dealt_down.st fi_dealt_down.ps := fun _ _ _ _ _ _ us hl => match us, hl with | [_, _], _ => rfl
theorem sc_dealt_down : FnScope N_dealt_down fi_dealt_down.ps (defScope fi_dealt_down.st) := ⟨rfl, rfl, rfl, by decide +kernel, rfl, by decide +kernel, by decide +kernel⟩
theorem x_dealt_down {P : Program} {w : World} {K : PySem.W.Frag} {h : Heap} {mg : Str → Option Value} {base : Heap} (X : K.In h) (G : h.Ns mainGlobals mg) (d : DAt K fi_dealt_down.name fi_dealt_down.st) (g : Gm P w K mg base tab cs bn fi_dealt_down.k) : FnX P w K mg base fi_dealt_down := fnx_mk (k := 4) X G d g b_dealt_down sc_dealt_down (by decide) rfl rfl w_dealt_down
def N__law_by_hand : List Str := ["pack", "many", "row", "late", "rest", "heap", "found", "bit"]
theorem w__law_by_hand : SSs (PL tab cs bn 6 (defScope st__law_by_hand) N__law_by_hand 5 true (fun _ => true)) (defBody st__law_by_hand) code__law_by_hand :=
  (ss_cons (s_asg (e_call (j := 5) (fi := fi_dealt_down) (bs := [false, false]) rfl rfl (by decide) (by decide) (by decide +kernel) (a_cons (e_name (i := 0) rfl (by decide +kernel)) (a_cons (e_name (i := 1) rfl (by decide +kernel)) a_nil rfl (by decide)) rfl (by decide)) rfl) (g_name (i := 3) rfl (by decide +kernel)) rfl rfl)
  (ss_cons (s_par3 (i := 4) (j := 5) (k := 6) rfl rfl rfl (by decide) (by decide) (by decide) (by decide +kernel) (by decide +kernel) (by decide +kernel) (a_cons (e_listX (by decide +kernel) (by decide +kernel) (a_cons (e_slice (e_name (i := 3) rfl (by decide +kernel)) p_none (p_some (e_sub (e_blt2 .len (by decide +kernel) (by decide +kernel) (a_cons (e_name (i := 0) rfl (by decide +kernel)) a_nil rfl (by decide))) (e_name (i := 1) rfl (by decide +kernel)))) p_none) a_nil rfl (by decide))) (a_cons (e_listX (by decide +kernel) (by decide +kernel) (a_cons (e_slice (e_name (i := 3) rfl (by decide +kernel)) (p_some (e_sub (e_blt2 .len (by decide +kernel) (by decide +kernel) (a_cons (e_name (i := 0) rfl (by decide +kernel)) a_nil rfl (by decide))) (e_name (i := 1) rfl (by decide +kernel)))) p_none p_none) a_nil rfl (by decide))) (a_cons (e_lst a_nil) a_nil rfl (by decide)) rfl (by decide)) rfl (by decide)) (by decide +kernel))
  (ss_cons (s_for (i_seq (e_name (i := 2) rfl (by decide +kernel))) (gt_name (i := 7) rfl (by decide +kernel)) (ss_one (s_expr (e_mut (i := 6) .append rfl (by decide +kernel) (a_cons (e_ite (t_cmp .eq (e_name (i := 7) rfl (by decide +kernel)) e_int rfl) (e_mut (i := 4) .pop rfl (by decide +kernel) (a_cons e_int a_nil rfl (by decide)) rfl (by decide)) (e_mut (i := 5) .pop rfl (by decide +kernel) (a_cons e_int a_nil rfl (by decide)) rfl (by decide))) a_nil rfl (by decide)) rfl (by decide)) rfl)) rfl)
  (ss_one (s_ret (e_typ .tuple (by decide +kernel) (by decide +kernel) (a_cons (e_name (i := 6) rfl (by decide +kernel)) a_nil rfl (by decide))))))))
theorem b__law_by_hand : BindOk fi__law_by_hand.name fi__law_by_hand.st fi__law_by_hand.ps := fun _ _ _ _ _ _ us hl => match us, hl with | [_, _, _], _ => rfl
theorem sc__law_by_hand : FnScope N__law_by_hand fi__law_by_hand.ps (defScope fi__law_by_hand.st) := ⟨rfl, rfl, rfl, by decide +kernel, rfl, by decide +kernel, by decide +kernel⟩
theorem x__law_by_hand {P : Program} {w : World} {K : PySem.W.Frag} {h : Heap} {mg : Str → Option Value} {base : Heap} (X : K.In h) (G : h.Ns mainGlobals mg) (d : DAt K fi__law_by_hand.name fi__law_by_hand.st) (g : Gm P w K mg base tab cs bn fi__law_by_hand.k) : FnX P w K mg base fi__law_by_hand := fnx_mk (k := 5) X G d g b__law_by_hand sc__law_by_hand (by decide) rfl rfl w__law_by_hand
def N__law_draw : List Str := ["pot", "size", "digit"]
theorem w__law_draw : SSs (PL tab cs bn 1 (defScope st__law_draw) N__law_draw 0 true (fun _ => true)) (defBody st__law_draw) code__law_draw :=
  (ss_cons (s_if (t_cmp .gt (e_idx (e_name (i := 0) rfl (by decide +kernel)) e_int rfl) e_int rfl) (ss_cons (s_asg (e_blt .divmod (by decide +kernel) (by decide +kernel) (a_cons (e_idx (e_name (i := 0) rfl (by decide +kernel)) e_int rfl) (a_cons (e_name (i := 1) rfl (by decide +kernel)) a_nil rfl (by decide)) rfl (by decide))) (g_tup (gs_cons (g_sub (i := 0) rfl (by decide +kernel) e_int rfl) (gs_cons (g_name (i := 2) rfl (by decide +kernel)) gs_nil))) rfl rfl)
  (ss_one (s_ret (e_name (i := 2) rfl (by decide +kernel))))) ss_nil)
  (ss_cons (s_asg (e_mod (e_typ .int (by decide +kernel) (by decide +kernel) (a_cons (e_add (e_mul (e_idx (e_name (i := 0) rfl (by decide +kernel)) e_int rfl) e_int) e_int) a_nil rfl (by decide))) e_int) (g_sub (i := 0) rfl (by decide +kernel) e_int rfl) rfl rfl)
  (ss_one (s_ret (e_mod (e_typ .int (by decide +kernel) (by decide +kernel) (a_cons (e_fdiv (e_mod (e_typ .int (by decide +kernel) (by decide +kernel) (a_cons (e_mul (e_idx (e_name (i := 0) rfl (by decide +kernel)) e_int rfl) (e_idx (e_name (i := 0) rfl (by decide +kernel)) e_int rfl)) a_nil rfl (by decide))) e_int) e_int) a_nil rfl (by decide))) (e_name (i := 1) rfl (by decide +kernel)))))))
theorem b__law_draw : BindOk fi__law_draw.name fi__law_draw.st fi__law_draw.ps := fun _ _ _ _ _ _ us hl => match us, hl with | [_, _], _ => rfl
theorem sc__law_draw : FnScope N__law_draw fi__law_draw.ps (defScope fi__law_draw.st) := ⟨rfl, rfl, rfl, by decide +kernel, rfl, by decide +kernel, by decide +kernel⟩
theorem x__law_draw {P : Program} {w : World} {K : PySem.W.Frag} {h : Heap} {mg : Str → Option Value} {base : Heap} (X : K.In h) (G : h.Ns mainGlobals mg) (d : DAt K fi__law_draw.name fi__law_draw.st) (g : Gm P w K mg base tab cs bn fi__law_draw.k) : FnX P w K mg base fi__law_draw := fnx_mk (k := 0) X G d g b__law_draw sc__law_draw (by decide) rfl rfl w__law_draw
def N__law_mixed : List Str := ["pot", "some", "left", "found"]
theorem w__law_mixed : SSs (PL tab cs bn 2 (defScope st__law_mixed) N__law_mixed 1 true (fun _ => true)) (defBody st__law_mixed) code__law_mixed :=
  (ss_cons (s_par2 (i := 2) (j := 3) rfl rfl (by decide) (by decide +kernel) (by decide +kernel) (a_cons (e_listX (by decide +kernel) (by decide +kernel) (a_cons (e_name (i := 1) rfl (by decide +kernel)) a_nil rfl (by decide))) (a_cons (e_lst a_nil) a_nil rfl (by decide)) rfl (by decide)) (by decide +kernel))
  (ss_cons (s_while (t_cmp .ne (e_name (i := 2) rfl (by decide +kernel)) (e_lst a_nil) rfl) (ss_one (s_expr (e_mut (i := 3) .append rfl (by decide +kernel) (a_cons (e_mut (i := 2) .pop rfl (by decide +kernel) (a_cons (e_call (j := 7) (fi := fi__law_draw) (bs := [true, false]) rfl rfl (by decide) (by decide) (by decide +kernel) (a_cons (e_name (i := 0) rfl (by decide +kernel)) (a_cons (e_blt2 .len (by decide +kernel) (by decide +kernel) (a_cons (e_name (i := 2) rfl (by decide +kernel)) a_nil rfl (by decide))) a_nil rfl (by decide)) rfl (by decide)) rfl) a_nil rfl (by decide)) rfl (by decide)) a_nil rfl (by decide)) rfl (by decide)) rfl)))
  (ss_one (s_ret (e_name (i := 3) rfl (by decide +kernel))))))
theorem b__law_mixed : BindOk fi__law_mixed.name fi__law_mixed.st fi__law_mixed.ps := fun _ _ _ _ _ _ us hl => match us, hl with | [_, _], _ => rfl
theorem sc__law_mixed : FnScope N__law_mixed fi__law_mixed.ps (defScope fi__law_mixed.st) := ⟨rfl, rfl, rfl, by decide +kernel, rfl, by decide +kernel, by decide +kernel⟩
theorem x__law_mixed {P : Program} {w : World} {K : PySem.W.Frag} {h : Heap} {mg : Str → Option Value} {base : Heap} (X : K.In h) (G : h.Ns mainGlobals mg) (d : DAt K fi__law_mixed.name fi__law_mixed.st) (g : Gm P w K mg base tab cs bn fi__law_mixed.k) : FnX P w K mg base fi__law_mixed := fnx_mk (k := 1) X G d g b__law_mixed sc__law_mixed (by decide) rfl rfl w__law_mixed
def N__law_row : List Str := ["pot", "cards", "many"]
theorem w__law_row : SSs (PL tab cs bn 3 (defScope st__law_row) N__law_row 2 true (fun _ => true)) (defBody st__law_row) code__law_row :=
  (ss_cons (s_asg (e_call (j := 7) (fi := fi__law_draw) (bs := [true, false]) rfl rfl (by decide) (by decide) (by decide +kernel) (a_cons (e_name (i := 0) rfl (by decide +kernel)) (a_cons (e_add (e_name (i := 1) rfl (by decide +kernel)) e_int) a_nil rfl (by decide)) rfl (by decide)) rfl) (g_name (i := 2) rfl (by decide +kernel)) rfl rfl)
  (ss_one (s_ret (e_tup (a_cons (e_name (i := 2) rfl (by decide +kernel)) (a_cons (e_call (j := 8) (fi := fi__law_mixed) (bs := [true, false]) rfl rfl (by decide) (by decide) (by decide +kernel) (a_cons (e_name (i := 0) rfl (by decide +kernel)) (a_cons (e_add (e_mul (e_lst (a_cons e_int a_nil rfl (by decide))) (e_name (i := 2) rfl (by decide +kernel))) (e_mul (e_lst (a_cons e_int a_nil rfl (by decide))) (e_sub (e_name (i := 1) rfl (by decide +kernel)) (e_name (i := 2) rfl (by decide +kernel))))) a_nil rfl (by decide)) rfl (by decide)) rfl) a_nil rfl (by decide)) rfl (by decide))))))
theorem b__law_row : BindOk fi__law_row.name fi__law_row.st fi__law_row.ps := fun _ _ _ _ _ _ us hl => match us, hl with | [_, _], _ => rfl
theorem sc__law_row : FnScope N__law_row fi__law_row.ps (defScope fi__law_row.st) := ⟨rfl, rfl, rfl, by decide +kernel, rfl, by decide +kernel, by decide +kernel⟩
theorem x__law_row {P : Program} {w : World} {K : PySem.W.Frag} {h : Heap} {mg : Str → Option Value} {base : Heap} (X : K.In h) (G : h.Ns mainGlobals mg) (d : DAt K fi__law_row.name fi__law_row.st) (g : Gm P w K mg base tab cs bn fi__law_row.k) : FnX P w K mg base fi__law_row := fnx_mk (k := 2) X G d g b__law_row sc__law_row (by decide) rfl rfl w__law_row
def N_unlike_place : List Str := ["kinds", "size", "at"]
theorem w_unlike_place : SSs (PL tab cs bn 1 (defScope st_unlike_place) N_unlike_place 0 true (fun _ => true)) (defBody st_unlike_place) code_unlike_place :=
  (ss_cons (s_for (i_range1 (by decide +kernel) (by decide +kernel) (a_cons (e_sub (e_blt2 .len (by decide +kernel) (by decide +kernel) (a_cons (e_name (i := 0) rfl (by decide +kernel)) a_nil rfl (by decide))) (e_name (i := 1) rfl (by decide +kernel))) a_nil rfl (by decide))) (gt_name (i := 2) rfl (by decide +kernel)) (ss_one (s_if (t_cmp .ne (e_idx (e_name (i := 0) rfl (by decide +kernel)) (e_name (i := 2) rfl (by decide +kernel)) rfl) (e_idx (e_name (i := 0) rfl (by decide +kernel)) (e_add (e_name (i := 2) rfl (by decide +kernel)) (e_name (i := 1) rfl (by decide +kernel))) rfl) rfl) (ss_one (s_ret (e_name (i := 2) rfl (by decide +kernel)))) ss_nil)) rfl)
  (ss_one (s_ret e_non)))
theorem b_unlike_place : BindOk fi_unlike_place.name fi_unlike_place.st fi_unlike_place.ps := fun _ _ _ _ _ _ us hl => match us, hl with | [_, _], _ => rfl
theorem sc_unlike_place : FnScope N_unlike_place fi_unlike_place.ps (defScope fi_unlike_place.st) := ⟨rfl, rfl, rfl, by decide +kernel, rfl, by decide +kernel, by decide +kernel⟩
theorem x_unlike_place {P : Program} {w : World} {K : PySem.W.Frag} {h : Heap} {mg : Str → Option Value} {base : Heap} (X : K.In h) (G : h.Ns mainGlobals mg) (d : DAt K fi_unlike_place.name fi_unlike_place.st) (g : Gm P w K mg base tab cs bn fi_unlike_place.k) : FnX P w K mg base fi_unlike_place := fnx_mk (k := 0) X G d g b_unlike_place sc_unlike_place (by decide) rfl rfl w_unlike_place
def N_is_count : List Str := ["value"]
theorem w_is_count : SSs (PL tab cs bn 2 (defScope st_is_count) N_is_count 1 true (fun _ => true)) (defBody st_is_count) code_is_count :=
  (ss_one (s_ret (e_and (e_call (j := 0) (fi := fi_is_integer) (bs := [false]) rfl rfl (by decide) (by decide) (by decide +kernel) (a_cons (e_name (i := 0) rfl (by decide +kernel)) a_nil rfl (by decide)) rfl) (e_one (e_cmp .ge (e_name (i := 0) rfl (by decide +kernel)) e_int rfl)))))
theorem b_is_count : BindOk fi_is_count.name fi_is_count.st fi_is_count.ps := fun _ _ _ _ _ _ us hl => match us, hl with | [_], _ => rfl
theorem sc_is_count : FnScope N_is_count fi_is_count.ps (defScope fi_is_count.st) := ⟨rfl, rfl, rfl, by decide +kernel, rfl, by decide +kernel, by decide +kernel⟩
theorem x_is_count {P : Program} {w : World} {K : PySem.W.Frag} {h : Heap} {mg : Str → Option Value} {base : Heap} (X : K.In h) (G : h.Ns mainGlobals mg) (d : DAt K fi_is_count.name fi_is_count.st) (g : Gm P w K mg base tab cs bn fi_is_count.k) : FnX P w K mg base fi_is_count := fnx_mk (k := 1) X G d g b_is_count sc_is_count (by decide) rfl rfl w_is_count
def N_is_list : List Str := ["value"]
theorem w_is_list : SSs (PL tab cs bn 1 (defScope st_is_list) N_is_list 0 true (fun _ => true)) (defBody st_is_list) code_is_list :=
  (ss_one (s_ret (e_isiT (Ts := ["list", "tuple"]) (by decide +kernel) (by decide +kernel) (e_name (i := 0) rfl (by decide +kernel)) rfl (.cons (by decide +kernel) (by decide +kernel) (by kernel_rfl) (.cons (by decide +kernel) (by decide +kernel) (by kernel_rfl) .nil)) (by decide +kernel) (by decide))))
theorem b_is_list : BindOk fi_is_list.name fi_is_list.st fi_is_list.ps := fun _ _ _ _ _ _ us hl => match us, hl with | [_], _ => rfl
theorem sc_is_list : FnScope N_is_list fi_is_list.ps (defScope fi_is_list.st) := ⟨rfl, rfl, rfl, by decide +kernel, rfl, by decide +kernel, by decide +kernel⟩
theorem x_is_list {P : Program} {w : World} {K : PySem.W.Frag} {h : Heap} {mg : Str → Option Value} {base : Heap} (X : K.In h) (G : h.Ns mainGlobals mg) (d : DAt K fi_is_list.name fi_is_list.st) (g : Gm P w K mg base tab cs bn fi_is_list.k) : FnX P w K mg base fi_is_list := fnx_mk (k := 0) X G d g b_is_list sc_is_list (by decide) rfl rfl w_is_list
def N_want_kinds : List Str := ["kinds", "one"]
theorem w_want_kinds : SSs (PL tab cs bn 3 (defScope st_want_kinds) N_want_kinds 2 true (fun _ => true)) (defBody st_want_kinds) code_want_kinds :=
  (ss_one (s_if (t_w (w_or (t_not (t_val (e_call (j := 12) (fi := fi_is_list) (bs := [false]) rfl rfl (by decide) (by decide) (by decide +kernel) (a_cons (e_name (i := 0) rfl (by decide +kernel)) a_nil rfl (by decide)) rfl) rfl)) (w_or (t_not (t_chain .le .le e_int (e_blt2 .len (by decide +kernel) (by decide +kernel) (a_cons (e_name (i := 0) rfl (by decide +kernel)) a_nil rfl (by decide))) (e_cst (j := 2) rfl (by decide +kernel)) rfl)) (w_or1 (t_not (t_val (e_blt .all (by decide +kernel) (by decide +kernel) (a_cons (e_comp (own := [("one", 1)]) (i_seq (e_name (i := 0) rfl (by decide +kernel))) (by decide +kernel) (gt_name (i := 1) rfl (by decide +kernel)) ts_nil (e_call (j := 11) (fi := fi_is_count) (bs := [false]) rfl rfl (by decide) (by decide) (by decide +kernel) (a_cons (e_name (i := 1) rfl (by decide +kernel)) a_nil rfl (by decide)) rfl) rfl) a_nil rfl (by decide))) rfl)))))) (ss_one s_stk) ss_nil))
theorem b_want_kinds : BindOk fi_want_kinds.name fi_want_kinds.st fi_want_kinds.ps := fun _ _ _ _ _ _ us hl => match us, hl with | [_], _ => rfl
theorem sc_want_kinds : FnScope N_want_kinds fi_want_kinds.ps (defScope fi_want_kinds.st) := ⟨rfl, rfl, rfl, by decide +kernel, rfl, by decide +kernel, by decide +kernel⟩
theorem x_want_kinds {P : Program} {w : World} {K : PySem.W.Frag} {h : Heap} {mg : Str → Option Value} {base : Heap} (X : K.In h) (G : h.Ns mainGlobals mg) (d : DAt K fi_want_kinds.name fi_want_kinds.st) (g : Gm P w K mg base tab cs bn fi_want_kinds.k) : FnX P w K mg base fi_want_kinds := fnx_mk (k := 2) X G d g b_want_kinds sc_want_kinds (by decide) rfl rfl w_want_kinds
def N_want_size : List Str := ["size"]
theorem w_want_size : SSs (PL tab cs bn 3 (defScope st_want_size) N_want_size 2 true (fun _ => true)) (defBody st_want_size) code_want_size :=
  (ss_one (s_if (t_not (t_val (e_call (j := 1) (fi := fi_is_within) (bs := [false, false, false]) rfl rfl (by decide) (by decide) (by decide +kernel) (a_cons (e_name (i := 0) rfl (by decide +kernel)) (a_cons e_int (a_cons (e_cst (j := 2) rfl (by decide +kernel)) a_nil rfl (by decide)) rfl (by decide)) rfl (by decide)) rfl) rfl)) (ss_one s_stk) ss_nil))
theorem b_want_size : BindOk fi_want_size.name fi_want_size.st fi_want_size.ps := fun _ _ _ _ _ _ us hl => match us, hl with | [_], _ => rfl
theorem sc_want_size : FnScope N_want_size fi_want_size.ps (defScope fi_want_size.st) := ⟨rfl, rfl, rfl, by decide +kernel, rfl, by decide +kernel, by decide +kernel⟩
theorem x_want_size {P : Program} {w : World} {K : PySem.W.Frag} {h : Heap} {mg : Str → Option Value} {base : Heap} (X : K.In h) (G : h.Ns mainGlobals mg) (d : DAt K fi_want_size.name fi_want_size.st) (g : Gm P w K mg base tab cs bn fi_want_size.k) : FnX P w K mg base fi_want_size := fnx_mk (k := 2) X G d g b_want_size sc_want_size (by decide) rfl rfl w_want_size
def N_want_kinds_and_size : List Str := ["kinds", "size"]
theorem w_want_kinds_and_size : SSs (PL tab cs bn 4 (defScope st_want_kinds_and_size) N_want_kinds_and_size 3 true (fun _ => true)) (defBody st_want_kinds_and_size) code_want_kinds_and_size :=
  (ss_cons (s_expr (e_call (j := 13) (fi := fi_want_kinds) (bs := [false]) rfl rfl (by decide) (by decide) (by decide +kernel) (a_cons (e_name (i := 0) rfl (by decide +kernel)) a_nil rfl (by decide)) rfl) rfl)
  (ss_one (s_expr (e_call (j := 14) (fi := fi_want_size) (bs := [false]) rfl rfl (by decide) (by decide) (by decide +kernel) (a_cons (e_name (i := 1) rfl (by decide +kernel)) a_nil rfl (by decide)) rfl) rfl)))
theorem b_want_kinds_and_size : BindOk fi_want_kinds_and_size.name fi_want_kinds_and_size.st fi_want_kinds_and_size.ps := fun _ _ _ _ _ _ us hl => match us, hl with | [_, _], _ => rfl
theorem sc_want_kinds_and_size : FnScope N_want_kinds_and_size fi_want_kinds_and_size.ps (defScope fi_want_kinds_and_size.st) := ⟨rfl, rfl, rfl, by decide +kernel, rfl, by decide +kernel, by decide +kernel⟩
theorem x_want_kinds_and_size {P : Program} {w : World} {K : PySem.W.Frag} {h : Heap} {mg : Str → Option Value} {base : Heap} (X : K.In h) (G : h.Ns mainGlobals mg) (d : DAt K fi_want_kinds_and_size.name fi_want_kinds_and_size.st) (g : Gm P w K mg base tab cs bn fi_want_kinds_and_size.k) : FnX P w K mg base fi_want_kinds_and_size := fnx_mk (k := 3) X G d g b_want_kinds_and_size sc_want_kinds_and_size (by decide) rfl rfl w_want_kinds_and_size
def N_always_kept : List Str := ["kinds", "size"]
theorem w_always_kept : SSs (PL tab cs bn 5 (defScope st_always_kept) N_always_kept 4 true (fun _ => true)) (defBody st_always_kept) code_always_kept :=
  (ss_cons (s_expr (e_call (j := 15) (fi := fi_want_kinds_and_size) (bs := [false, false]) rfl rfl (by decide) (by decide) (by decide +kernel) (a_cons (e_name (i := 0) rfl (by decide +kernel)) (a_cons (e_name (i := 1) rfl (by decide +kernel)) a_nil rfl (by decide)) rfl (by decide)) rfl) rfl)
  (ss_one (s_ret (e_isN (e_call (j := 10) (fi := fi_unlike_place) (bs := [false, false]) rfl rfl (by decide) (by decide) (by decide +kernel) (a_cons (e_name (i := 0) rfl (by decide +kernel)) (a_cons (e_name (i := 1) rfl (by decide +kernel)) a_nil rfl (by decide)) rfl (by decide)) rfl)))))
theorem b_always_kept : BindOk fi_always_kept.name fi_always_kept.st fi_always_kept.ps := fun _ _ _ _ _ _ us hl => match us, hl with | [_, _], _ => rfl
theorem sc_always_kept : FnScope N_always_kept fi_always_kept.ps (defScope fi_always_kept.st) := ⟨rfl, rfl, rfl, by decide +kernel, rfl, by decide +kernel, by decide +kernel⟩
theorem x_always_kept {P : Program} {w : World} {K : PySem.W.Frag} {h : Heap} {mg : Str → Option Value} {base : Heap} (X : K.In h) (G : h.Ns mainGlobals mg) (d : DAt K fi_always_kept.name fi_always_kept.st) (g : Gm P w K mg base tab cs bn fi_always_kept.k) : FnX P w K mg base fi_always_kept := fnx_mk (k := 4) X G d g b_always_kept sc_always_kept (by decide) rfl rfl w_always_kept
def N_is_row_of : List Str := ["cards", "many", "value", "bit"]
theorem w_is_row_of : SSs (PL tab cs bn 3 (defScope st_is_row_of) N_is_row_of 2 true (fun _ => true)) (defBody st_is_row_of) code_is_row_of :=
  (ss_cons (s_if (t_w (w_or (t_not (t_val (e_call (j := 12) (fi := fi_is_list) (bs := [false]) rfl rfl (by decide) (by decide) (by decide +kernel) (a_cons (e_name (i := 2) rfl (by decide +kernel)) a_nil rfl (by decide)) rfl) rfl)) (w_or (t_cmp .ne (e_blt2 .len (by decide +kernel) (by decide +kernel) (a_cons (e_name (i := 2) rfl (by decide +kernel)) a_nil rfl (by decide))) (e_name (i := 0) rfl (by decide +kernel)) rfl) (w_or1 (t_not (t_val (e_blt .all (by decide +kernel) (by decide +kernel) (a_cons (e_comp (own := [("bit", 3)]) (i_seq (e_name (i := 2) rfl (by decide +kernel))) (by decide +kernel) (gt_name (i := 3) rfl (by decide +kernel)) ts_nil (e_call (j := 1) (fi := fi_is_within) (bs := [false, false, false]) rfl rfl (by decide) (by decide) (by decide +kernel) (a_cons (e_name (i := 3) rfl (by decide +kernel)) (a_cons e_int (a_cons e_int a_nil rfl (by decide)) rfl (by decide)) rfl (by decide)) rfl) rfl) a_nil rfl (by decide))) rfl)))))) (ss_one (s_ret e_bl)) ss_nil)
  (ss_one (s_ret (e_cmp .eq (e_count (e_listX (by decide +kernel) (by decide +kernel) (a_cons (e_name (i := 2) rfl (by decide +kernel)) a_nil rfl (by decide))) (a_cons e_int a_nil rfl (by decide)) rfl rfl (by decide)) (e_name (i := 1) rfl (by decide +kernel)) rfl))))
theorem b_is_row_of : BindOk fi_is_row_of.name fi_is_row_of.st fi_is_row_of.ps := fun _ _ _ _ _ _ us hl => match us, hl with | [_, _, _], _ => rfl
theorem sc_is_row_of : FnScope N_is_row_of fi_is_row_of.ps (defScope fi_is_row_of.st) := ⟨rfl, rfl, rfl, by decide +kernel, rfl, by decide +kernel, by decide +kernel⟩
theorem x_is_row_of {P : Program} {w : World} {K : PySem.W.Frag} {h : Heap} {mg : Str → Option Value} {base : Heap} (X : K.In h) (G : h.Ns mainGlobals mg) (d : DAt K fi_is_row_of.name fi_is_row_of.st) (g : Gm P w K mg base tab cs bn fi_is_row_of.k) : FnX P w K mg base fi_is_row_of := fnx_mk (k := 2) X G d g b_is_row_of sc_is_row_of (by decide) rfl rfl w_is_row_of
def N_move_by_row : List Str := ["cards", "many", "row", "down", "up", "found", "bit"]
theorem w_move_by_row : SSs (PL tab cs bn 1 (defScope st_move_by_row) N_move_by_row 0 true (fun _ => true)) (defBody st_move_by_row) code_move_by_row :=
  (ss_cons (s_par3 (i := 3) (j := 4) (k := 5) rfl rfl rfl (by decide) (by decide) (by decide) (by decide +kernel) (by decide +kernel) (by decide +kernel) (a_cons (e_sub (e_name (i := 1) rfl (by decide +kernel)) e_int) (a_cons (e_name (i := 1) rfl (by decide +kernel)) (a_cons (e_lst a_nil) a_nil rfl (by decide)) rfl (by decide)) rfl (by decide)) (by decide +kernel))
  (ss_cons (s_for (i_seq (e_name (i := 2) rfl (by decide +kernel))) (gt_name (i := 6) rfl (by decide +kernel)) (ss_cons (s_expr (e_mut (i := 5) .append rfl (by decide +kernel) (a_cons (e_ite (t_cmp .eq (e_name (i := 6) rfl (by decide +kernel)) e_int rfl) (e_name (i := 4) rfl (by decide +kernel)) (e_name (i := 3) rfl (by decide +kernel))) a_nil rfl (by decide)) rfl (by decide)) rfl)
  (ss_one (s_asg (e_ite (t_cmp .eq (e_name (i := 6) rfl (by decide +kernel)) e_int rfl) (e_tup (a_cons (e_name (i := 3) rfl (by decide +kernel)) (a_cons (e_add (e_name (i := 4) rfl (by decide +kernel)) e_int) a_nil rfl (by decide)) rfl (by decide))) (e_tup (a_cons (e_sub (e_name (i := 3) rfl (by decide +kernel)) e_int) (a_cons (e_name (i := 4) rfl (by decide +kernel)) a_nil rfl (by decide)) rfl (by decide)))) (g_tup (gs_cons (g_name (i := 3) rfl (by decide +kernel)) (gs_cons (g_name (i := 4) rfl (by decide +kernel)) gs_nil))) rfl rfl))) rfl)
  (ss_one (s_ret (e_typ .tuple (by decide +kernel) (by decide +kernel) (a_cons (e_name (i := 5) rfl (by decide +kernel)) a_nil rfl (by decide)))))))
theorem b_move_by_row : BindOk fi_move_by_row.name fi_move_by_row.st fi_move_by_row.ps := fun _ _ _ _ _ _ us hl => match us, hl with | [_, _, _], _ => rfl
theorem sc_move_by_row : FnScope N_move_by_row fi_move_by_row.ps (defScope fi_move_by_row.st) := ⟨rfl, rfl, rfl, by decide +kernel, rfl, by decide +kernel, by decide +kernel⟩
theorem x_move_by_row {P : Program} {w : World} {K : PySem.W.Frag} {h : Heap} {mg : Str → Option Value} {base : Heap} (X : K.In h) (G : h.Ns mainGlobals mg) (d : DAt K fi_move_by_row.name fi_move_by_row.st) (g : Gm P w K mg base tab cs bn fi_move_by_row.k) : FnX P w K mg base fi_move_by_row := fnx_mk (k := 0) X G d g b_move_by_row sc_move_by_row (by decide) rfl rfl w_move_by_row
def N_want_cards : List Str := ["cards"]
theorem w_want_cards : SSs (PL tab cs bn 3 (defScope st_want_cards) N_want_cards 2 true (fun _ => true)) (defBody st_want_cards) code_want_cards :=
  (ss_one (s_if (t_not (t_val (e_call (j := 1) (fi := fi_is_within) (bs := [false, false, false]) rfl rfl (by decide) (by decide) (by decide +kernel) (a_cons (e_name (i := 0) rfl (by decide +kernel)) (a_cons e_int (a_cons (e_cst (j := 2) rfl (by decide +kernel)) a_nil rfl (by decide)) rfl (by decide)) rfl (by decide)) rfl) rfl)) (ss_one s_stk) ss_nil))
theorem b_want_cards : BindOk fi_want_cards.name fi_want_cards.st fi_want_cards.ps := fun _ _ _ _ _ _ us hl => match us, hl with | [_], _ => rfl
theorem sc_want_cards : FnScope N_want_cards fi_want_cards.ps (defScope fi_want_cards.st) := ⟨rfl, rfl, rfl, by decide +kernel, rfl, by decide +kernel, by decide +kernel⟩
theorem x_want_cards {P : Program} {w : World} {K : PySem.W.Frag} {h : Heap} {mg : Str → Option Value} {base : Heap} (X : K.In h) (G : h.Ns mainGlobals mg) (d : DAt K fi_want_cards.name fi_want_cards.st) (g : Gm P w K mg base tab cs bn fi_want_cards.k) : FnX P w K mg base fi_want_cards := fnx_mk (k := 2) X G d g b_want_cards sc_want_cards (by decide) rfl rfl w_want_cards
def N_deal_riffle : List Str := ["cards", "many", "row"]
theorem w_deal_riffle : SSs (PL tab cs bn 4 (defScope st_deal_riffle) N_deal_riffle 3 true (fun _ => true)) (defBody st_deal_riffle) code_deal_riffle :=
  (ss_cons (s_expr (e_call (j := 19) (fi := fi_want_cards) (bs := [false]) rfl rfl (by decide) (by decide) (by decide +kernel) (a_cons (e_name (i := 0) rfl (by decide +kernel)) a_nil rfl (by decide)) rfl) rfl)
  (ss_cons (s_expr (e_call (j := 2) (fi := fi_want_many) (bs := [false]) rfl rfl (by decide) (by decide) (by decide +kernel) (a_cons (e_name (i := 1) rfl (by decide +kernel)) a_nil rfl (by decide)) rfl) rfl)
  (ss_cons (s_if (t_not (t_val (e_call (j := 17) (fi := fi_is_row_of) (bs := [false, false, false]) rfl rfl (by decide) (by decide) (by decide +kernel) (a_cons (e_name (i := 0) rfl (by decide +kernel)) (a_cons (e_name (i := 1) rfl (by decide +kernel)) (a_cons (e_name (i := 2) rfl (by decide +kernel)) a_nil rfl (by decide)) rfl (by decide)) rfl (by decide)) rfl) rfl)) (ss_one s_stk) ss_nil)
  (ss_one (s_ret (e_call (j := 18) (fi := fi_move_by_row) (bs := [false, false, false]) rfl rfl (by decide) (by decide) (by decide +kernel) (a_cons (e_name (i := 0) rfl (by decide +kernel)) (a_cons (e_name (i := 1) rfl (by decide +kernel)) (a_cons (e_name (i := 2) rfl (by decide +kernel)) a_nil rfl (by decide)) rfl (by decide)) rfl (by decide)) rfl))))))
theorem b_deal_riffle : BindOk fi_deal_riffle.name fi_deal_riffle.st fi_deal_riffle.ps := fun _ _ _ _ _ _ us hl => match us, hl with | [_, _, _], _ => rfl
theorem sc_deal_riffle : FnScope N_deal_riffle fi_deal_riffle.ps (defScope fi_deal_riffle.st) := ⟨rfl, rfl, rfl, by decide +kernel, rfl, by decide +kernel, by decide +kernel⟩
theorem x_deal_riffle {P : Program} {w : World} {K : PySem.W.Frag} {h : Heap} {mg : Str → Option Value} {base : Heap} (X : K.In h) (G : h.Ns mainGlobals mg) (d : DAt K fi_deal_riffle.name fi_deal_riffle.st) (g : Gm P w K mg base tab cs bn fi_deal_riffle.k) : FnX P w K mg base fi_deal_riffle := fnx_mk (k := 3) X G d g b_deal_riffle sc_deal_riffle (by decide) rfl rfl w_deal_riffle
def N_is_kept : List Str := ["kinds", "size", "move", "due", "late", "place", "block"]
theorem w_is_kept : SSs (PL tab cs bn 1 (defScope st_is_kept) N_is_kept 0 true (fun _ => true)) (defBody st_is_kept) code_is_kept :=
  (ss_cons (s_par2 (i := 3) (j := 4) rfl rfl (by decide) (by decide +kernel) (by decide +kernel) (a_cons (e_blt2 .sorted (by decide +kernel) (by decide +kernel) (a_cons (e_slice (e_name (i := 0) rfl (by decide +kernel)) p_none (p_some (e_name (i := 1) rfl (by decide +kernel))) p_none) a_nil rfl (by decide))) (a_cons (e_comp (own := [("place", 5)]) (i_seq (e_name (i := 2) rfl (by decide +kernel))) (by decide +kernel) (gt_name (i := 5) rfl (by decide +kernel)) ts_nil (e_idx (e_name (i := 0) rfl (by decide +kernel)) (e_name (i := 5) rfl (by decide +kernel)) rfl) rfl) a_nil rfl (by decide)) rfl (by decide)) (by decide +kernel))
  (ss_cons (s_for (i_range1 (by decide +kernel) (by decide +kernel) (a_cons (e_fdiv (e_blt2 .len (by decide +kernel) (by decide +kernel) (a_cons (e_name (i := 0) rfl (by decide +kernel)) a_nil rfl (by decide))) (e_name (i := 1) rfl (by decide +kernel))) a_nil rfl (by decide))) (gt_name (i := 6) rfl (by decide +kernel)) (ss_one (s_if (t_cmp .ne (e_blt2 .sorted (by decide +kernel) (by decide +kernel) (a_cons (e_slice (e_name (i := 4) rfl (by decide +kernel)) (p_some (e_mul (e_name (i := 6) rfl (by decide +kernel)) (e_name (i := 1) rfl (by decide +kernel)))) (p_some (e_mul (e_add (e_name (i := 6) rfl (by decide +kernel)) e_int) (e_name (i := 1) rfl (by decide +kernel)))) p_none) a_nil rfl (by decide))) (e_name (i := 3) rfl (by decide +kernel)) rfl) (ss_one (s_ret e_bl)) ss_nil)) rfl)
  (ss_one (s_ret e_bl))))
theorem b_is_kept : BindOk fi_is_kept.name fi_is_kept.st fi_is_kept.ps := fun _ _ _ _ _ _ us hl => match us, hl with | [_, _, _], _ => rfl
theorem sc_is_kept : FnScope N_is_kept fi_is_kept.ps (defScope fi_is_kept.st) := ⟨rfl, rfl, rfl, by decide +kernel, rfl, by decide +kernel, by decide +kernel⟩
theorem x_is_kept {P : Program} {w : World} {K : PySem.W.Frag} {h : Heap} {mg : Str → Option Value} {base : Heap} (X : K.In h) (G : h.Ns mainGlobals mg) (d : DAt K fi_is_kept.name fi_is_kept.st) (g : Gm P w K mg base tab cs bn fi_is_kept.k) : FnX P w K mg base fi_is_kept := fnx_mk (k := 0) X G d g b_is_kept sc_is_kept (by decide) rfl rfl w_is_kept
def N_want_move : List Str := ["move"]
theorem w_want_move : SSs (PL tab cs bn 4 (defScope st_want_move) N_want_move 3 true (fun _ => true)) (defBody st_want_move) code_want_move :=
  (ss_one (s_if (t_not (t_val (e_call (j := 3) (fi := fi_is_pack_value) (bs := [false]) rfl rfl (by decide) (by decide) (by decide +kernel) (a_cons (e_name (i := 0) rfl (by decide +kernel)) a_nil rfl (by decide)) rfl) rfl)) (ss_one s_stk) ss_nil))
theorem b_want_move : BindOk fi_want_move.name fi_want_move.st fi_want_move.ps := fun _ _ _ _ _ _ us hl => match us, hl with | [_], _ => rfl
theorem sc_want_move : FnScope N_want_move fi_want_move.ps (defScope fi_want_move.st) := ⟨rfl, rfl, rfl, by decide +kernel, rfl, by decide +kernel, by decide +kernel⟩
theorem x_want_move {P : Program} {w : World} {K : PySem.W.Frag} {h : Heap} {mg : Str → Option Value} {base : Heap} (X : K.In h) (G : h.Ns mainGlobals mg) (d : DAt K fi_want_move.name fi_want_move.st) (g : Gm P w K mg base tab cs bn fi_want_move.k) : FnX P w K mg base fi_want_move := fnx_mk (k := 3) X G d g b_want_move sc_want_move (by decide) rfl rfl w_want_move
def N_keeps_kinds : List Str := ["kinds", "size", "move"]
theorem w_keeps_kinds : SSs (PL tab cs bn 5 (defScope st_keeps_kinds) N_keeps_kinds 4 true (fun _ => true)) (defBody st_keeps_kinds) code_keeps_kinds :=
  (ss_cons (s_expr (e_call (j := 15) (fi := fi_want_kinds_and_size) (bs := [false, false]) rfl rfl (by decide) (by decide) (by decide +kernel) (a_cons (e_name (i := 0) rfl (by decide +kernel)) (a_cons (e_name (i := 1) rfl (by decide +kernel)) a_nil rfl (by decide)) rfl (by decide)) rfl) rfl)
  (ss_cons (s_expr (e_call (j := 22) (fi := fi_want_move) (bs := [false]) rfl rfl (by decide) (by decide) (by decide +kernel) (a_cons (e_name (i := 2) rfl (by decide +kernel)) a_nil rfl (by decide)) rfl) rfl)
  (ss_cons (s_if (t_cmp .ne (e_blt2 .len (by decide +kernel) (by decide +kernel) (a_cons (e_name (i := 0) rfl (by decide +kernel)) a_nil rfl (by decide))) (e_blt2 .len (by decide +kernel) (by decide +kernel) (a_cons (e_name (i := 2) rfl (by decide +kernel)) a_nil rfl (by decide))) rfl) (ss_one s_stk) ss_nil)
  (ss_one (s_ret (e_call (j := 21) (fi := fi_is_kept) (bs := [false, false, false]) rfl rfl (by decide) (by decide) (by decide +kernel) (a_cons (e_listX (by decide +kernel) (by decide +kernel) (a_cons (e_name (i := 0) rfl (by decide +kernel)) a_nil rfl (by decide))) (a_cons (e_name (i := 1) rfl (by decide +kernel)) (a_cons (e_name (i := 2) rfl (by decide +kernel)) a_nil rfl (by decide)) rfl (by decide)) rfl (by decide)) rfl))))))
theorem b_keeps_kinds : BindOk fi_keeps_kinds.name fi_keeps_kinds.st fi_keeps_kinds.ps := fun _ _ _ _ _ _ us hl => match us, hl with | [_, _, _], _ => rfl
theorem sc_keeps_kinds : FnScope N_keeps_kinds fi_keeps_kinds.ps (defScope fi_keeps_kinds.st) := ⟨rfl, rfl, rfl, by decide +kernel, rfl, by decide +kernel, by decide +kernel⟩
theorem x_keeps_kinds {P : Program} {w : World} {K : PySem.W.Frag} {h : Heap} {mg : Str → Option Value} {base : Heap} (X : K.In h) (G : h.Ns mainGlobals mg) (d : DAt K fi_keeps_kinds.name fi_keeps_kinds.st) (g : Gm P w K mg base tab cs bn fi_keeps_kinds.k) : FnX P w K mg base fi_keeps_kinds := fnx_mk (k := 4) X G d g b_keeps_kinds sc_keeps_kinds (by decide) rfl rfl w_keeps_kinds
def N_still_of : List Str := ["cards"]
theorem w_still_of : SSs (PL tab cs bn 1 (defScope st_still_of) N_still_of 0 true (fun _ => true)) (defBody st_still_of) code_still_of :=
  (ss_one (s_ret (e_tupR1 (by decide +kernel) (by decide +kernel) (by decide +kernel) (by decide +kernel) (e_name (i := 0) rfl (by decide +kernel)) rfl)))
theorem b_still_of : BindOk fi_still_of.name fi_still_of.st fi_still_of.ps := fun _ _ _ _ _ _ us hl => match us, hl with | [_], _ => rfl
theorem sc_still_of : FnScope N_still_of fi_still_of.ps (defScope fi_still_of.st) := ⟨rfl, rfl, rfl, by decide +kernel, rfl, by decide +kernel, by decide +kernel⟩
theorem x_still_of {P : Program} {w : World} {K : PySem.W.Frag} {h : Heap} {mg : Str → Option Value} {base : Heap} (X : K.In h) (G : h.Ns mainGlobals mg) (d : DAt K fi_still_of.name fi_still_of.st) (g : Gm P w K mg base tab cs bn fi_still_of.k) : FnX P w K mg base fi_still_of := fnx_mk (k := 0) X G d g b_still_of sc_still_of (by decide) rfl rfl w_still_of
def N_plain : List Str := ["cards"]
theorem w_plain : SSs (PL tab cs bn 4 (defScope st_plain) N_plain 3 true (fun _ => true)) (defBody st_plain) code_plain :=
  (ss_cons (s_expr (e_call (j := 19) (fi := fi_want_cards) (bs := [false]) rfl rfl (by decide) (by decide) (by decide +kernel) (a_cons (e_name (i := 0) rfl (by decide +kernel)) a_nil rfl (by decide)) rfl) rfl)
  (ss_one (s_ret (e_call (j := 24) (fi := fi_still_of) (bs := [false]) rfl rfl (by decide) (by decide) (by decide +kernel) (a_cons (e_name (i := 0) rfl (by decide +kernel)) a_nil rfl (by decide)) rfl))))
theorem b_plain : BindOk fi_plain.name fi_plain.st fi_plain.ps := fun _ _ _ _ _ _ us hl => match us, hl with | [_], _ => rfl
theorem sc_plain : FnScope N_plain fi_plain.ps (defScope fi_plain.st) := ⟨rfl, rfl, rfl, by decide +kernel, rfl, by decide +kernel, by decide +kernel⟩
theorem x_plain {P : Program} {w : World} {K : PySem.W.Frag} {h : Heap} {mg : Str → Option Value} {base : Heap} (X : K.In h) (G : h.Ns mainGlobals mg) (d : DAt K fi_plain.name fi_plain.st) (g : Gm P w K mg base tab cs bn fi_plain.k) : FnX P w K mg base fi_plain := fnx_mk (k := 3) X G d g b_plain sc_plain (by decide) rfl rfl w_plain
def N_bar_of : List Str := ["move", "low", "high", "at"]
theorem w_bar_of : SSs (PL tab cs bn 1 (defScope st_bar_of) N_bar_of 0 true (fun _ => true)) (defBody st_bar_of) code_bar_of :=
  (ss_cons (s_par2 (i := 1) (j := 2) rfl rfl (by decide) (by decide +kernel) (by decide +kernel) (a_cons (e_idx (e_name (i := 0) rfl (by decide +kernel)) e_int rfl) (a_cons (e_idx (e_name (i := 0) rfl (by decide +kernel)) e_int rfl) a_nil rfl (by decide)) rfl (by decide)) (by decide +kernel))
  (ss_cons (s_for (i_range2 (by decide +kernel) (by decide +kernel) (a_cons e_int (a_cons (e_blt2 .len (by decide +kernel) (by decide +kernel) (a_cons (e_name (i := 0) rfl (by decide +kernel)) a_nil rfl (by decide))) a_nil rfl (by decide)) rfl (by decide))) (gt_name (i := 3) rfl (by decide +kernel)) (ss_one (s_if (t_cmp .eq (e_idx (e_name (i := 0) rfl (by decide +kernel)) (e_name (i := 3) rfl (by decide +kernel)) rfl) (e_sub (e_name (i := 1) rfl (by decide +kernel)) e_int) rfl) (ss_one (s_asg (e_sub (e_name (i := 1) rfl (by decide +kernel)) e_int) (g_name (i := 1) rfl (by decide +kernel)) rfl rfl)) (ss_one (s_if (t_cmp .eq (e_idx (e_name (i := 0) rfl (by decide +kernel)) (e_name (i := 3) rfl (by decide +kernel)) rfl) (e_add (e_name (i := 2) rfl (by decide +kernel)) e_int) rfl) (ss_one (s_asg (e_add (e_name (i := 2) rfl (by decide +kernel)) e_int) (g_name (i := 2) rfl (by decide +kernel)) rfl rfl)) (ss_one (s_ret (e_add (e_name (i := 3) rfl (by decide +kernel)) e_int))))))) rfl)
  (ss_one (s_ret e_non))))
theorem b_bar_of : BindOk fi_bar_of.name fi_bar_of.st fi_bar_of.ps := fun _ _ _ _ _ _ us hl => match us, hl with | [_], _ => rfl
theorem sc_bar_of : FnScope N_bar_of fi_bar_of.ps (defScope fi_bar_of.st) := ⟨rfl, rfl, rfl, by decide +kernel, rfl, by decide +kernel, by decide +kernel⟩
theorem x_bar_of {P : Program} {w : World} {K : PySem.W.Frag} {h : Heap} {mg : Str → Option Value} {base : Heap} (X : K.In h) (G : h.Ns mainGlobals mg) (d : DAt K fi_bar_of.name fi_bar_of.st) (g : Gm P w K mg base tab cs bn fi_bar_of.k) : FnX P w K mg base fi_bar_of := fnx_mk (k := 0) X G d g b_bar_of sc_bar_of (by decide) rfl rfl w_bar_of
def N_row_by : List Str := ["move", "many", "place"]
theorem w_row_by : SSs (PL tab cs bn 1 (defScope st_row_by) N_row_by 0 true (fun _ => true)) (defBody st_row_by) code_row_by :=
  (ss_one (s_ret (e_comp (own := [("place", 2)]) (i_seq (e_name (i := 0) rfl (by decide +kernel))) (by decide +kernel) (gt_name (i := 2) rfl (by decide +kernel)) ts_nil (e_ite (t_cmp .ge (e_name (i := 2) rfl (by decide +kernel)) (e_name (i := 1) rfl (by decide +kernel)) rfl) e_int e_int) rfl)))
theorem b_row_by : BindOk fi_row_by.name fi_row_by.st fi_row_by.ps := fun _ _ _ _ _ _ us hl => match us, hl with | [_, _], _ => rfl
theorem sc_row_by : FnScope N_row_by fi_row_by.ps (defScope fi_row_by.st) := ⟨rfl, rfl, rfl, by decide +kernel, rfl, by decide +kernel, by decide +kernel⟩
theorem x_row_by {P : Program} {w : World} {K : PySem.W.Frag} {h : Heap} {mg : Str → Option Value} {base : Heap} (X : K.In h) (G : h.Ns mainGlobals mg) (d : DAt K fi_row_by.name fi_row_by.st) (g : Gm P w K mg base tab cs bn fi_row_by.k) : FnX P w K mg base fi_row_by := fnx_mk (k := 0) X G d g b_row_by sc_row_by (by decide) rfl rfl w_row_by
def N_riffled_paper : List Str := ["move", "bar"]
theorem w_riffled_paper : SSs (PL tab cs bn 5 (defScope st_riffled_paper) N_riffled_paper 4 true (fun _ => true)) (defBody st_riffled_paper) code_riffled_paper :=
  (ss_cons (s_expr (e_call (j := 22) (fi := fi_want_move) (bs := [false]) rfl rfl (by decide) (by decide) (by decide +kernel) (a_cons (e_name (i := 0) rfl (by decide +kernel)) a_nil rfl (by decide)) rfl) rfl)
  (ss_cons (s_asg (e_call (j := 26) (fi := fi_bar_of) (bs := [false]) rfl rfl (by decide) (by decide) (by decide +kernel) (a_cons (e_name (i := 0) rfl (by decide +kernel)) a_nil rfl (by decide)) rfl) (g_name (i := 1) rfl (by decide +kernel)) rfl rfl)
  (ss_one (s_ret (e_ite (t_isN (e_name (i := 1) rfl (by decide +kernel))) (e_tup (a_cons (e_cstS (j := 1) rfl (by decide +kernel)) (a_cons (e_idx (e_name (i := 0) rfl (by decide +kernel)) e_int rfl) (a_cons (e_call (j := 27) (fi := fi_row_by) (bs := [false, false]) rfl rfl (by decide) (by decide) (by decide +kernel) (a_cons (e_name (i := 0) rfl (by decide +kernel)) (a_cons (e_idx (e_name (i := 0) rfl (by decide +kernel)) e_int rfl) a_nil rfl (by decide)) rfl (by decide)) rfl) a_nil rfl (by decide)) rfl (by decide)) rfl (by decide))) (e_tup (a_cons (e_cstS (j := 0) rfl (by decide +kernel)) (a_cons (e_name (i := 1) rfl (by decide +kernel)) a_nil rfl (by decide)) rfl (by decide))))))))
theorem b_riffled_paper : BindOk fi_riffled_paper.name fi_riffled_paper.st fi_riffled_paper.ps := fun _ _ _ _ _ _ us hl => match us, hl with | [_], _ => rfl
theorem sc_riffled_paper : FnScope N_riffled_paper fi_riffled_paper.ps (defScope fi_riffled_paper.st) := ⟨rfl, rfl, rfl, by decide +kernel, rfl, by decide +kernel, by decide +kernel⟩
theorem x_riffled_paper {P : Program} {w : World} {K : PySem.W.Frag} {h : Heap} {mg : Str → Option Value} {base : Heap} (X : K.In h) (G : h.Ns mainGlobals mg) (d : DAt K fi_riffled_paper.name fi_riffled_paper.st) (g : Gm P w K mg base tab cs bn fi_riffled_paper.k) : FnX P w K mg base fi_riffled_paper := fnx_mk (k := 4) X G d g b_riffled_paper sc_riffled_paper (by decide) rfl rfl w_riffled_paper
def N__law_colours_right : List Str := ["pot", "cards", "many", "row", "late", "colours", "suits", "card", "at", "place", "move", "half", "kinds", "told"]
theorem w__law_colours_right : SSs (PL tab cs bn 7 (defScope st__law_colours_right) N__law_colours_right 6 true (fun _ => true)) (defBody st__law_colours_right) code__law_colours_right :=
  (ss_cons (s_asg (e_mul e_int (e_add e_int (e_call (j := 7) (fi := fi__law_draw) (bs := [true, false]) rfl rfl (by decide) (by decide) (by decide +kernel) (a_cons (e_name (i := 0) rfl (by decide +kernel)) (a_cons e_int a_nil rfl (by decide)) rfl (by decide)) rfl))) (g_name (i := 1) rfl (by decide +kernel)) rfl rfl)
  (ss_cons (s_asg (e_call (j := 9) (fi := fi__law_row) (bs := [true, false]) rfl rfl (by decide) (by decide) (by decide +kernel) (a_cons (e_name (i := 0) rfl (by decide +kernel)) (a_cons (e_name (i := 1) rfl (by decide +kernel)) a_nil rfl (by decide)) rfl (by decide)) rfl) (g_tup (gs_cons (g_name (i := 2) rfl (by decide +kernel)) (gs_cons (g_name (i := 3) rfl (by decide +kernel)) gs_nil))) rfl rfl)
  (ss_cons (s_asg (e_call (j := 6) (fi := fi__law_by_hand) (bs := [false, false, false]) rfl rfl (by decide) (by decide) (by decide +kernel) (a_cons (e_call (j := 25) (fi := fi_plain) (bs := [false]) rfl rfl (by decide) (by decide) (by decide +kernel) (a_cons (e_name (i := 1) rfl (by decide +kernel)) a_nil rfl (by decide)) rfl) (a_cons (e_name (i := 2) rfl (by decide +kernel)) (a_cons (e_name (i := 3) rfl (by decide +kernel)) a_nil rfl (by decide)) rfl (by decide)) rfl (by decide)) rfl) (g_name (i := 4) rfl (by decide +kernel)) rfl rfl)
  (ss_cons (s_asgT (e_tup (a_cons (e_comp (own := [("card", 7)]) (i_range1 (by decide +kernel) (by decide +kernel) (a_cons (e_name (i := 1) rfl (by decide +kernel)) a_nil rfl (by decide))) (by decide +kernel) (gt_name (i := 7) rfl (by decide +kernel)) ts_nil (e_mod (e_name (i := 7) rfl (by decide +kernel)) e_int) rfl) (a_cons (e_comp (own := [("card", 7)]) (i_range1 (by decide +kernel) (by decide +kernel) (a_cons (e_name (i := 1) rfl (by decide +kernel)) a_nil rfl (by decide))) (by decide +kernel) (gt_name (i := 7) rfl (by decide +kernel)) ts_nil (e_idx (e_lst (a_cons e_int (a_cons e_int (a_cons e_int (a_cons e_int a_nil rfl (by decide)) rfl (by decide)) rfl (by decide)) rfl (by decide))) (e_mod (e_name (i := 7) rfl (by decide +kernel)) e_int) rfl) rfl) a_nil rfl (by decide)) rfl (by decide))) (g_tup (gs_cons (g_name (i := 5) rfl (by decide +kernel)) (gs_cons (g_name (i := 6) rfl (by decide +kernel)) gs_nil))) (by decide +kernel))
  (ss_cons (s_if (t_not (t_val (e_blt .all (by decide +kernel) (by decide +kernel) (a_cons (e_comp (own := [("at", 8)]) (i_range3 (by decide +kernel) (by decide +kernel) (a_cons e_int (a_cons (e_name (i := 1) rfl (by decide +kernel)) (a_cons e_int a_nil rfl (by decide)) rfl (by decide)) rfl (by decide))) (by decide +kernel) (gt_name (i := 8) rfl (by decide +kernel)) ts_nil (e_cmp .ne (e_idx (e_name (i := 5) rfl (by decide +kernel)) (e_idx (e_name (i := 4) rfl (by decide +kernel)) (e_name (i := 8) rfl (by decide +kernel)) rfl) rfl) (e_idx (e_name (i := 5) rfl (by decide +kernel)) (e_idx (e_name (i := 4) rfl (by decide +kernel)) (e_add (e_name (i := 8) rfl (by decide +kernel)) e_int) rfl) rfl) rfl) rfl) a_nil rfl (by decide))) rfl)) (ss_one (s_ret e_bl)) ss_nil)
  (ss_cons (s_if (t_not (t_val (e_blt .all (by decide +kernel) (by decide +kernel) (a_cons (e_comp (own := [("at", 8)]) (i_range3 (by decide +kernel) (by decide +kernel) (a_cons e_int (a_cons (e_name (i := 1) rfl (by decide +kernel)) (a_cons e_int a_nil rfl (by decide)) rfl (by decide)) rfl (by decide))) (by decide +kernel) (gt_name (i := 8) rfl (by decide +kernel)) ts_nil (e_cmp .eq (e_blt2 .sorted (by decide +kernel) (by decide +kernel) (a_cons (e_comp (own := [("place", 9)]) (i_range2 (by decide +kernel) (by decide +kernel) (a_cons (e_name (i := 8) rfl (by decide +kernel)) (a_cons (e_add (e_name (i := 8) rfl (by decide +kernel)) e_int) a_nil rfl (by decide)) rfl (by decide))) (by decide +kernel) (gt_name (i := 9) rfl (by decide +kernel)) ts_nil (e_idx (e_name (i := 6) rfl (by decide +kernel)) (e_idx (e_name (i := 4) rfl (by decide +kernel)) (e_name (i := 9) rfl (by decide +kernel)) rfl) rfl) rfl) a_nil rfl (by decide))) (e_lst (a_cons e_int (a_cons e_int (a_cons e_int (a_cons e_int a_nil rfl (by decide)) rfl (by decide)) rfl (by decide)) rfl (by decide))) rfl) rfl) a_nil rfl (by decide))) rfl)) (ss_one (s_ret e_bl)) ss_nil)
  (ss_cons (s_asg (e_call (j := 20) (fi := fi_deal_riffle) (bs := [false, false, false]) rfl rfl (by decide) (by decide) (by decide +kernel) (a_cons (e_name (i := 1) rfl (by decide +kernel)) (a_cons (e_name (i := 2) rfl (by decide +kernel)) (a_cons (e_listX (by decide +kernel) (by decide +kernel) (a_cons (e_name (i := 3) rfl (by decide +kernel)) a_nil rfl (by decide))) a_nil rfl (by decide)) rfl (by decide)) rfl (by decide)) rfl) (g_name (i := 10) rfl (by decide +kernel)) rfl rfl)
  (ss_cons (s_if (t_w (w_or (t_notB (e_call (j := 23) (fi := fi_keeps_kinds) (bs := [false, false, false]) rfl rfl (by decide) (by decide) (by decide +kernel) (a_cons (e_listX (by decide +kernel) (by decide +kernel) (a_cons (e_name (i := 5) rfl (by decide +kernel)) a_nil rfl (by decide))) (a_cons e_int (a_cons (e_name (i := 10) rfl (by decide +kernel)) a_nil rfl (by decide)) rfl (by decide)) rfl (by decide)) rfl)) (w_or1 (t_notB (e_call (j := 23) (fi := fi_keeps_kinds) (bs := [false, false, false]) rfl rfl (by decide) (by decide) (by decide +kernel) (a_cons (e_listX (by decide +kernel) (by decide +kernel) (a_cons (e_name (i := 6) rfl (by decide +kernel)) a_nil rfl (by decide))) (a_cons e_int (a_cons (e_name (i := 10) rfl (by decide +kernel)) a_nil rfl (by decide)) rfl (by decide)) rfl (by decide)) rfl))))) (ss_one (s_ret e_bl)) ss_nil)
  (ss_cons (s_asg (e_call (j := 8) (fi := fi__law_mixed) (bs := [true, false]) rfl rfl (by decide) (by decide) (by decide +kernel) (a_cons (e_name (i := 0) rfl (by decide +kernel)) (a_cons (e_lstR1 (by decide +kernel) (by decide +kernel) (by decide +kernel) (by decide +kernel) (e_fdiv (e_name (i := 1) rfl (by decide +kernel)) e_int) rfl) a_nil rfl (by decide)) rfl (by decide)) rfl) (g_name (i := 11) rfl (by decide +kernel)) rfl rfl)
  (ss_cons (s_asg (e_add (e_name (i := 11) rfl (by decide +kernel)) (e_name (i := 11) rfl (by decide +kernel))) (g_name (i := 12) rfl (by decide +kernel)) rfl rfl)
  (ss_cons (s_setC (i := 13) rfl (by decide +kernel) (by decide +kernel) (by decide +kernel) (own := [("place", 9)]) (i_seq (e_name (i := 10) rfl (by decide +kernel))) (by decide +kernel) (gt_name (i := 9) rfl (by decide +kernel)) ts_nil (e_idx (e_name (i := 12) rfl (by decide +kernel)) (e_name (i := 9) rfl (by decide +kernel)) rfl) rfl)
  (ss_one (s_ret (e_and (e_isB (e_call (j := 16) (fi := fi_always_kept) (bs := [false, false]) rfl rfl (by decide) (by decide) (by decide +kernel) (a_cons (e_listX (by decide +kernel) (by decide +kernel) (a_cons (e_name (i := 12) rfl (by decide +kernel)) a_nil rfl (by decide))) (a_cons (e_fdiv (e_name (i := 1) rfl (by decide +kernel)) e_int) a_nil rfl (by decide)) rfl (by decide)) rfl)) (e_and (e_cmp .eq (e_blt2 .sorted (by decide +kernel) (by decide +kernel) (a_cons (e_slice (e_name (i := 13) rfl (by decide +kernel)) p_none (p_some (e_fdiv (e_name (i := 1) rfl (by decide +kernel)) e_int)) p_none) a_nil rfl (by decide))) (e_blt2 .sorted (by decide +kernel) (by decide +kernel) (a_cons (e_name (i := 11) rfl (by decide +kernel)) a_nil rfl (by decide))) rfl) (e_one (e_cmp .eq (e_idx (e_call (j := 28) (fi := fi_riffled_paper) (bs := [false]) rfl rfl (by decide) (by decide) (by decide +kernel) (a_cons (e_name (i := 10) rfl (by decide +kernel)) a_nil rfl (by decide)) rfl) e_int rfl) e_str rfl)))))))))))))))))
theorem b__law_colours_right : BindOk fi__law_colours_right.name fi__law_colours_right.st fi__law_colours_right.ps := fun _ _ _ _ _ _ us hl => match us, hl with | [_], _ => rfl
theorem sc__law_colours_right : FnScope N__law_colours_right fi__law_colours_right.ps (defScope fi__law_colours_right.st) := ⟨rfl, rfl, rfl, by decide +kernel, rfl, by decide +kernel, by decide +kernel⟩
theorem x__law_colours_right {P : Program} {w : World} {K : PySem.W.Frag} {h : Heap} {mg : Str → Option Value} {base : Heap} (X : K.In h) (G : h.Ns mainGlobals mg) (d : DAt K fi__law_colours_right.name fi__law_colours_right.st) (g : Gm P w K mg base tab cs bn fi__law_colours_right.k) : FnX P w K mg base fi__law_colours_right := fnx_mk (k := 6) X G d g b__law_colours_right sc__law_colours_right (by decide) rfl rfl w__law_colours_right
def N__law_pick : List Str := ["pot", "some"]
theorem w__law_pick : SSs (PL tab cs bn 2 (defScope st__law_pick) N__law_pick 1 true (fun _ => true)) (defBody st__law_pick) code__law_pick :=
  (ss_one (s_ret (e_idx (e_name (i := 1) rfl (by decide +kernel)) (e_call (j := 7) (fi := fi__law_draw) (bs := [true, false]) rfl rfl (by decide) (by decide) (by decide +kernel) (a_cons (e_name (i := 0) rfl (by decide +kernel)) (a_cons (e_blt2 .len (by decide +kernel) (by decide +kernel) (a_cons (e_name (i := 1) rfl (by decide +kernel)) a_nil rfl (by decide))) a_nil rfl (by decide)) rfl (by decide)) rfl) rfl)))
theorem b__law_pick : BindOk fi__law_pick.name fi__law_pick.st fi__law_pick.ps := fun _ _ _ _ _ _ us hl => match us, hl with | [_, _], _ => rfl
theorem sc__law_pick : FnScope N__law_pick fi__law_pick.ps (defScope fi__law_pick.st) := ⟨rfl, rfl, rfl, by decide +kernel, rfl, by decide +kernel, by decide +kernel⟩
theorem x__law_pick {P : Program} {w : World} {K : PySem.W.Frag} {h : Heap} {mg : Str → Option Value} {base : Heap} (X : K.In h) (G : h.Ns mainGlobals mg) (d : DAt K fi__law_pick.name fi__law_pick.st) (g : Gm P w K mg base tab cs bn fi__law_pick.k) : FnX P w K mg base fi__law_pick := fnx_mk (k := 1) X G d g b__law_pick sc__law_pick (by decide) rfl rfl w__law_pick
def N_moved_of : List Str := ["pack", "move", "place"]
theorem w_moved_of : SSs (PL tab cs bn 1 (defScope st_moved_of) N_moved_of 0 true (fun _ => true)) (defBody st_moved_of) code_moved_of :=
  (ss_one (s_ret (e_typ .tuple (by decide +kernel) (by decide +kernel) (a_cons (e_comp (own := [("place", 2)]) (i_seq (e_name (i := 1) rfl (by decide +kernel))) (by decide +kernel) (gt_name (i := 2) rfl (by decide +kernel)) ts_nil (e_idx (e_name (i := 0) rfl (by decide +kernel)) (e_name (i := 2) rfl (by decide +kernel)) rfl) rfl) a_nil rfl (by decide)))))
theorem b_moved_of : BindOk fi_moved_of.name fi_moved_of.st fi_moved_of.ps := fun _ _ _ _ _ _ us hl => match us, hl with | [_, _], _ => rfl
theorem sc_moved_of : FnScope N_moved_of fi_moved_of.ps (defScope fi_moved_of.st) := ⟨rfl, rfl, rfl, by decide +kernel, rfl, by decide +kernel, by decide +kernel⟩
theorem x_moved_of {P : Program} {w : World} {K : PySem.W.Frag} {h : Heap} {mg : Str → Option Value} {base : Heap} (X : K.In h) (G : h.Ns mainGlobals mg) (d : DAt K fi_moved_of.name fi_moved_of.st) (g : Gm P w K mg base tab cs bn fi_moved_of.k) : FnX P w K mg base fi_moved_of := fnx_mk (k := 0) X G d g b_moved_of sc_moved_of (by decide) rfl rfl w_moved_of
def N_want_as_many : List Str := ["pack", "move"]
theorem w_want_as_many : SSs (PL tab cs bn 1 (defScope st_want_as_many) N_want_as_many 0 true (fun _ => true)) (defBody st_want_as_many) code_want_as_many :=
  (ss_one (s_if (t_cmp .ne (e_blt2 .len (by decide +kernel) (by decide +kernel) (a_cons (e_name (i := 0) rfl (by decide +kernel)) a_nil rfl (by decide))) (e_blt2 .len (by decide +kernel) (by decide +kernel) (a_cons (e_name (i := 1) rfl (by decide +kernel)) a_nil rfl (by decide))) rfl) (ss_one s_stk) ss_nil))
theorem b_want_as_many : BindOk fi_want_as_many.name fi_want_as_many.st fi_want_as_many.ps := fun _ _ _ _ _ _ us hl => match us, hl with | [_, _], _ => rfl
theorem sc_want_as_many : FnScope N_want_as_many fi_want_as_many.ps (defScope fi_want_as_many.st) := ⟨rfl, rfl, rfl, by decide +kernel, rfl, by decide +kernel, by decide +kernel⟩
theorem x_want_as_many {P : Program} {w : World} {K : PySem.W.Frag} {h : Heap} {mg : Str → Option Value} {base : Heap} (X : K.In h) (G : h.Ns mainGlobals mg) (d : DAt K fi_want_as_many.name fi_want_as_many.st) (g : Gm P w K mg base tab cs bn fi_want_as_many.k) : FnX P w K mg base fi_want_as_many := fnx_mk (k := 0) X G d g b_want_as_many sc_want_as_many (by decide) rfl rfl w_want_as_many
def N_behind : List Str := ["move", "other"]
theorem w_behind : SSs (PL tab cs bn 5 (defScope st_behind) N_behind 4 true (fun _ => true)) (defBody st_behind) code_behind :=
  (ss_cons (s_expr (e_call (j := 22) (fi := fi_want_move) (bs := [false]) rfl rfl (by decide) (by decide) (by decide +kernel) (a_cons (e_name (i := 0) rfl (by decide +kernel)) a_nil rfl (by decide)) rfl) rfl)
  (ss_cons (s_expr (e_call (j := 22) (fi := fi_want_move) (bs := [false]) rfl rfl (by decide) (by decide) (by decide +kernel) (a_cons (e_name (i := 1) rfl (by decide +kernel)) a_nil rfl (by decide)) rfl) rfl)
  (ss_cons (s_expr (e_call (j := 32) (fi := fi_want_as_many) (bs := [false, false]) rfl rfl (by decide) (by decide) (by decide +kernel) (a_cons (e_name (i := 0) rfl (by decide +kernel)) (a_cons (e_name (i := 1) rfl (by decide +kernel)) a_nil rfl (by decide)) rfl (by decide)) rfl) rfl)
  (ss_one (s_ret (e_call (j := 31) (fi := fi_moved_of) (bs := [false, false]) rfl rfl (by decide) (by decide) (by decide +kernel) (a_cons (e_name (i := 0) rfl (by decide +kernel)) (a_cons (e_name (i := 1) rfl (by decide +kernel)) a_nil rfl (by decide)) rfl (by decide)) rfl))))))
theorem b_behind : BindOk fi_behind.name fi_behind.st fi_behind.ps := fun _ _ _ _ _ _ us hl => match us, hl with | [_, _], _ => rfl
theorem sc_behind : FnScope N_behind fi_behind.ps (defScope fi_behind.st) := ⟨rfl, rfl, rfl, by decide +kernel, rfl, by decide +kernel, by decide +kernel⟩
theorem x_behind {P : Program} {w : World} {K : PySem.W.Frag} {h : Heap} {mg : Str → Option Value} {base : Heap} (X : K.In h) (G : h.Ns mainGlobals mg) (d : DAt K fi_behind.name fi_behind.st) (g : Gm P w K mg base tab cs bn fi_behind.k) : FnX P w K mg base fi_behind := fnx_mk (k := 4) X G d g b_behind sc_behind (by decide) rfl rfl w_behind
def N_kinds_in : List Str := ["move", "size", "block", "place"]
theorem w_kinds_in : SSs (PL tab cs bn 1 (defScope st_kinds_in) N_kinds_in 0 true (fun _ => true)) (defBody st_kinds_in) code_kinds_in :=
  (ss_one (s_ret (e_comp (own := [("place", 3)]) (i_seq (e_slice (e_name (i := 0) rfl (by decide +kernel)) (p_some (e_mul (e_name (i := 2) rfl (by decide +kernel)) (e_name (i := 1) rfl (by decide +kernel)))) (p_some (e_mul (e_add (e_name (i := 2) rfl (by decide +kernel)) e_int) (e_name (i := 1) rfl (by decide +kernel)))) p_none)) (by decide +kernel) (gt_name (i := 3) rfl (by decide +kernel)) ts_nil (e_mod (e_name (i := 3) rfl (by decide +kernel)) (e_name (i := 1) rfl (by decide +kernel))) rfl)))
theorem b_kinds_in : BindOk fi_kinds_in.name fi_kinds_in.st fi_kinds_in.ps := fun _ _ _ _ _ _ us hl => match us, hl with | [_, _, _], _ => rfl
theorem sc_kinds_in : FnScope N_kinds_in fi_kinds_in.ps (defScope fi_kinds_in.st) := ⟨rfl, rfl, rfl, by decide +kernel, rfl, by decide +kernel, by decide +kernel⟩
theorem x_kinds_in {P : Program} {w : World} {K : PySem.W.Frag} {h : Heap} {mg : Str → Option Value} {base : Heap} (X : K.In h) (G : h.Ns mainGlobals mg) (d : DAt K fi_kinds_in.name fi_kinds_in.st) (g : Gm P w K mg base tab cs bn fi_kinds_in.k) : FnX P w K mg base fi_kinds_in := fnx_mk (k := 0) X G d g b_kinds_in sc_kinds_in (by decide) rfl rfl w_kinds_in
def N_block_kinds : List Str := ["move", "size", "block"]
theorem w_block_kinds : SSs (PL tab cs bn 5 (defScope st_block_kinds) N_block_kinds 4 true (fun _ => true)) (defBody st_block_kinds) code_block_kinds :=
  (ss_cons (s_expr (e_call (j := 22) (fi := fi_want_move) (bs := [false]) rfl rfl (by decide) (by decide) (by decide +kernel) (a_cons (e_name (i := 0) rfl (by decide +kernel)) a_nil rfl (by decide)) rfl) rfl)
  (ss_cons (s_expr (e_call (j := 14) (fi := fi_want_size) (bs := [false]) rfl rfl (by decide) (by decide) (by decide +kernel) (a_cons (e_name (i := 1) rfl (by decide +kernel)) a_nil rfl (by decide)) rfl) rfl)
  (ss_one (s_ret (e_comp (own := [("block", 2)]) (i_range1 (by decide +kernel) (by decide +kernel) (a_cons (e_fdiv (e_sub (e_add (e_blt2 .len (by decide +kernel) (by decide +kernel) (a_cons (e_name (i := 0) rfl (by decide +kernel)) a_nil rfl (by decide))) (e_name (i := 1) rfl (by decide +kernel))) e_int) (e_name (i := 1) rfl (by decide +kernel))) a_nil rfl (by decide))) (by decide +kernel) (gt_name (i := 2) rfl (by decide +kernel)) ts_nil (e_call (j := 34) (fi := fi_kinds_in) (bs := [false, false, false]) rfl rfl (by decide) (by decide) (by decide +kernel) (a_cons (e_name (i := 0) rfl (by decide +kernel)) (a_cons (e_name (i := 1) rfl (by decide +kernel)) (a_cons (e_name (i := 2) rfl (by decide +kernel)) a_nil rfl (by decide)) rfl (by decide)) rfl (by decide)) rfl) rfl)))))
theorem b_block_kinds : BindOk fi_block_kinds.name fi_block_kinds.st fi_block_kinds.ps := fun _ _ _ _ _ _ us hl => match us, hl with | [_, _], _ => rfl
theorem sc_block_kinds : FnScope N_block_kinds fi_block_kinds.ps (defScope fi_block_kinds.st) := ⟨rfl, rfl, rfl, by decide +kernel, rfl, by decide +kernel, by decide +kernel⟩
theorem x_block_kinds {P : Program} {w : World} {K : PySem.W.Frag} {h : Heap} {mg : Str → Option Value} {base : Heap} (X : K.In h) (G : h.Ns mainGlobals mg) (d : DAt K fi_block_kinds.name fi_block_kinds.st) (g : Gm P w K mg base tab cs bn fi_block_kinds.k) : FnX P w K mg base fi_block_kinds := fnx_mk (k := 4) X G d g b_block_kinds sc_block_kinds (by decide) rfl rfl w_block_kinds
def N_cut : List Str := ["pack", "many"]
theorem w_cut : SSs (PL tab cs bn 5 (defScope st_cut) N_cut 4 true (fun _ => true)) (defBody st_cut) code_cut :=
  (ss_cons (s_expr (e_call (j := 4) (fi := fi_want_pack) (bs := [false]) rfl rfl (by decide) (by decide) (by decide +kernel) (a_cons (e_name (i := 0) rfl (by decide +kernel)) a_nil rfl (by decide)) rfl) rfl)
  (ss_cons (s_expr (e_call (j := 2) (fi := fi_want_many) (bs := [false]) rfl rfl (by decide) (by decide) (by decide +kernel) (a_cons (e_name (i := 1) rfl (by decide +kernel)) a_nil rfl (by decide)) rfl) rfl)
  (ss_one (s_ret (e_add (e_slice (e_name (i := 0) rfl (by decide +kernel)) (p_some (e_mod (e_name (i := 1) rfl (by decide +kernel)) (e_blt2 .len (by decide +kernel) (by decide +kernel) (a_cons (e_name (i := 0) rfl (by decide +kernel)) a_nil rfl (by decide))))) p_none p_none) (e_slice (e_name (i := 0) rfl (by decide +kernel)) p_none (p_some (e_mod (e_name (i := 1) rfl (by decide +kernel)) (e_blt2 .len (by decide +kernel) (by decide +kernel) (a_cons (e_name (i := 0) rfl (by decide +kernel)) a_nil rfl (by decide))))) p_none))))))
theorem b_cut : BindOk fi_cut.name fi_cut.st fi_cut.ps := fun _ _ _ _ _ _ us hl => match us, hl with | [_, _], _ => rfl
theorem sc_cut : FnScope N_cut fi_cut.ps (defScope fi_cut.st) := ⟨rfl, rfl, rfl, by decide +kernel, rfl, by decide +kernel, by decide +kernel⟩
theorem x_cut {P : Program} {w : World} {K : PySem.W.Frag} {h : Heap} {mg : Str → Option Value} {base : Heap} (X : K.In h) (G : h.Ns mainGlobals mg) (d : DAt K fi_cut.name fi_cut.st) (g : Gm P w K mg base tab cs bn fi_cut.k) : FnX P w K mg base fi_cut := fnx_mk (k := 4) X G d g b_cut sc_cut (by decide) rfl rfl w_cut
def N_is_deal_riffle : List Str := ["move"]
theorem w_is_deal_riffle : SSs (PL tab cs bn 5 (defScope st_is_deal_riffle) N_is_deal_riffle 4 true (fun _ => true)) (defBody st_is_deal_riffle) code_is_deal_riffle :=
  (ss_cons (s_expr (e_call (j := 22) (fi := fi_want_move) (bs := [false]) rfl rfl (by decide) (by decide) (by decide +kernel) (a_cons (e_name (i := 0) rfl (by decide +kernel)) a_nil rfl (by decide)) rfl) rfl)
  (ss_one (s_ret (e_isN (e_call (j := 26) (fi := fi_bar_of) (bs := [false]) rfl rfl (by decide) (by decide) (by decide +kernel) (a_cons (e_name (i := 0) rfl (by decide +kernel)) a_nil rfl (by decide)) rfl)))))
theorem b_is_deal_riffle : BindOk fi_is_deal_riffle.name fi_is_deal_riffle.st fi_is_deal_riffle.ps := fun _ _ _ _ _ _ us hl => match us, hl with | [_], _ => rfl
theorem sc_is_deal_riffle : FnScope N_is_deal_riffle fi_is_deal_riffle.ps (defScope fi_is_deal_riffle.st) := ⟨rfl, rfl, rfl, by decide +kernel, rfl, by decide +kernel, by decide +kernel⟩
theorem x_is_deal_riffle {P : Program} {w : World} {K : PySem.W.Frag} {h : Heap} {mg : Str → Option Value} {base : Heap} (X : K.In h) (G : h.Ns mainGlobals mg) (d : DAt K fi_is_deal_riffle.name fi_is_deal_riffle.st) (g : Gm P w K mg base tab cs bn fi_is_deal_riffle.k) : FnX P w K mg base fi_is_deal_riffle := fnx_mk (k := 4) X G d g b_is_deal_riffle sc_is_deal_riffle (by decide) rfl rfl w_is_deal_riffle
def N_is_barring : List Str := ["move", "size", "block"]
theorem w_is_barring : SSs (PL tab cs bn 2 (defScope st_is_barring) N_is_barring 1 true (fun _ => true)) (defBody st_is_barring) code_is_barring :=
  (ss_one (s_ret (e_cmp .lt (e_lenSet (by decide +kernel) (by decide +kernel) (by decide +kernel) (by decide +kernel) (e_call (j := 34) (fi := fi_kinds_in) (bs := [false, false, false]) rfl rfl (by decide) (by decide) (by decide +kernel) (a_cons (e_name (i := 0) rfl (by decide +kernel)) (a_cons (e_name (i := 1) rfl (by decide +kernel)) (a_cons (e_name (i := 2) rfl (by decide +kernel)) a_nil rfl (by decide)) rfl (by decide)) rfl (by decide)) rfl) rfl) (e_name (i := 1) rfl (by decide +kernel)) rfl)))
theorem b_is_barring : BindOk fi_is_barring.name fi_is_barring.st fi_is_barring.ps := fun _ _ _ _ _ _ us hl => match us, hl with | [_, _, _], _ => rfl
theorem sc_is_barring : FnScope N_is_barring fi_is_barring.ps (defScope fi_is_barring.st) := ⟨rfl, rfl, rfl, by decide +kernel, rfl, by decide +kernel, by decide +kernel⟩
theorem x_is_barring {P : Program} {w : World} {K : PySem.W.Frag} {h : Heap} {mg : Str → Option Value} {base : Heap} (X : K.In h) (G : h.Ns mainGlobals mg) (d : DAt K fi_is_barring.name fi_is_barring.st) (g : Gm P w K mg base tab cs bn fi_is_barring.k) : FnX P w K mg base fi_is_barring := fnx_mk (k := 1) X G d g b_is_barring sc_is_barring (by decide) rfl rfl w_is_barring
def N_keeps_blocks : List Str := ["move", "size", "block"]
theorem w_keeps_blocks : SSs (PL tab cs bn 5 (defScope st_keeps_blocks) N_keeps_blocks 4 true (fun _ => true)) (defBody st_keeps_blocks) code_keeps_blocks :=
  (ss_cons (s_expr (e_call (j := 22) (fi := fi_want_move) (bs := [false]) rfl rfl (by decide) (by decide) (by decide +kernel) (a_cons (e_name (i := 0) rfl (by decide +kernel)) a_nil rfl (by decide)) rfl) rfl)
  (ss_cons (s_expr (e_call (j := 14) (fi := fi_want_size) (bs := [false]) rfl rfl (by decide) (by decide) (by decide +kernel) (a_cons (e_name (i := 1) rfl (by decide +kernel)) a_nil rfl (by decide)) rfl) rfl)
  (ss_one (s_ret (e_not (e_blt .any (by decide +kernel) (by decide +kernel) (a_cons (e_comp (own := [("block", 2)]) (i_range1 (by decide +kernel) (by decide +kernel) (a_cons (e_fdiv (e_blt2 .len (by decide +kernel) (by decide +kernel) (a_cons (e_name (i := 0) rfl (by decide +kernel)) a_nil rfl (by decide))) (e_name (i := 1) rfl (by decide +kernel))) a_nil rfl (by decide))) (by decide +kernel) (gt_name (i := 2) rfl (by decide +kernel)) ts_nil (e_call (j := 38) (fi := fi_is_barring) (bs := [false, false, false]) rfl rfl (by decide) (by decide) (by decide +kernel) (a_cons (e_name (i := 0) rfl (by decide +kernel)) (a_cons (e_name (i := 1) rfl (by decide +kernel)) (a_cons (e_name (i := 2) rfl (by decide +kernel)) a_nil rfl (by decide)) rfl (by decide)) rfl (by decide)) rfl) rfl) a_nil rfl (by decide))))))))
theorem b_keeps_blocks : BindOk fi_keeps_blocks.name fi_keeps_blocks.st fi_keeps_blocks.ps := fun _ _ _ _ _ _ us hl => match us, hl with | [_, _], _ => rfl
theorem sc_keeps_blocks : FnScope N_keeps_blocks fi_keeps_blocks.ps (defScope fi_keeps_blocks.st) := ⟨rfl, rfl, rfl, by decide +kernel, rfl, by decide +kernel, by decide +kernel⟩
theorem x_keeps_blocks {P : Program} {w : World} {K : PySem.W.Frag} {h : Heap} {mg : Str → Option Value} {base : Heap} (X : K.In h) (G : h.Ns mainGlobals mg) (d : DAt K fi_keeps_blocks.name fi_keeps_blocks.st) (g : Gm P w K mg base tab cs bn fi_keeps_blocks.k) : FnX P w K mg base fi_keeps_blocks := fnx_mk (k := 4) X G d g b_keeps_blocks sc_keeps_blocks (by decide) rfl rfl w_keeps_blocks
def N_back_of : List Str := ["move", "found", "place", "one"]
theorem w_back_of : SSs (PL tab cs bn 1 (defScope st_back_of) N_back_of 0 true (fun _ => true)) (defBody st_back_of) code_back_of :=
  (ss_cons (s_asg (e_mul (e_lst (a_cons e_int a_nil rfl (by decide))) (e_blt2 .len (by decide +kernel) (by decide +kernel) (a_cons (e_name (i := 0) rfl (by decide +kernel)) a_nil rfl (by decide)))) (g_name (i := 1) rfl (by decide +kernel)) rfl rfl)
  (ss_cons (s_for (i_enum (by decide +kernel) (by decide +kernel) (e_name (i := 0) rfl (by decide +kernel)) rfl) (gt_tup (gts_cons (gt_name (i := 2) rfl (by decide +kernel)) (gts_cons (gt_name (i := 3) rfl (by decide +kernel)) gts_nil))) (ss_one (s_asg (e_name (i := 2) rfl (by decide +kernel)) (g_sub (i := 1) rfl (by decide +kernel) (e_name (i := 3) rfl (by decide +kernel)) rfl) rfl rfl)) rfl)
  (ss_one (s_ret (e_typ .tuple (by decide +kernel) (by decide +kernel) (a_cons (e_name (i := 1) rfl (by decide +kernel)) a_nil rfl (by decide)))))))
theorem b_back_of : BindOk fi_back_of.name fi_back_of.st fi_back_of.ps := fun _ _ _ _ _ _ us hl => match us, hl with | [_], _ => rfl
theorem sc_back_of : FnScope N_back_of fi_back_of.ps (defScope fi_back_of.st) := ⟨rfl, rfl, rfl, by decide +kernel, rfl, by decide +kernel, by decide +kernel⟩
theorem x_back_of {P : Program} {w : World} {K : PySem.W.Frag} {h : Heap} {mg : Str → Option Value} {base : Heap} (X : K.In h) (G : h.Ns mainGlobals mg) (d : DAt K fi_back_of.name fi_back_of.st) (g : Gm P w K mg base tab cs bn fi_back_of.k) : FnX P w K mg base fi_back_of := fnx_mk (k := 0) X G d g b_back_of sc_back_of (by decide) rfl rfl w_back_of
def N_move_between : List Str := ["pack", "late"]
theorem w_move_between : SSs (PL tab cs bn 5 (defScope st_move_between) N_move_between 4 true (fun _ => true)) (defBody st_move_between) code_move_between :=
  (ss_cons (s_expr (e_call (j := 4) (fi := fi_want_pack) (bs := [false]) rfl rfl (by decide) (by decide) (by decide +kernel) (a_cons (e_name (i := 0) rfl (by decide +kernel)) a_nil rfl (by decide)) rfl) rfl)
  (ss_cons (s_expr (e_call (j := 4) (fi := fi_want_pack) (bs := [false]) rfl rfl (by decide) (by decide) (by decide +kernel) (a_cons (e_name (i := 1) rfl (by decide +kernel)) a_nil rfl (by decide)) rfl) rfl)
  (ss_cons (s_expr (e_call (j := 32) (fi := fi_want_as_many) (bs := [false, false]) rfl rfl (by decide) (by decide) (by decide +kernel) (a_cons (e_name (i := 0) rfl (by decide +kernel)) (a_cons (e_name (i := 1) rfl (by decide +kernel)) a_nil rfl (by decide)) rfl (by decide)) rfl) rfl)
  (ss_one (s_ret (e_call (j := 31) (fi := fi_moved_of) (bs := [false, false]) rfl rfl (by decide) (by decide) (by decide +kernel) (a_cons (e_call (j := 40) (fi := fi_back_of) (bs := [false]) rfl rfl (by decide) (by decide) (by decide +kernel) (a_cons (e_name (i := 0) rfl (by decide +kernel)) a_nil rfl (by decide)) rfl) (a_cons (e_name (i := 1) rfl (by decide +kernel)) a_nil rfl (by decide)) rfl (by decide)) rfl))))))
theorem b_move_between : BindOk fi_move_between.name fi_move_between.st fi_move_between.ps := fun _ _ _ _ _ _ us hl => match us, hl with | [_, _], _ => rfl
theorem sc_move_between : FnScope N_move_between fi_move_between.ps (defScope fi_move_between.st) := ⟨rfl, rfl, rfl, by decide +kernel, rfl, by decide +kernel, by decide +kernel⟩
theorem x_move_between {P : Program} {w : World} {K : PySem.W.Frag} {h : Heap} {mg : Str → Option Value} {base : Heap} (X : K.In h) (G : h.Ns mainGlobals mg) (d : DAt K fi_move_between.name fi_move_between.st) (g : Gm P w K mg base tab cs bn fi_move_between.k) : FnX P w K mg base fi_move_between := fnx_mk (k := 4) X G d g b_move_between sc_move_between (by decide) rfl rfl w_move_between
def N_moved : List Str := ["pack", "move"]
theorem w_moved : SSs (PL tab cs bn 5 (defScope st_moved) N_moved 4 true (fun _ => true)) (defBody st_moved) code_moved :=
  (ss_cons (s_expr (e_call (j := 4) (fi := fi_want_pack) (bs := [false]) rfl rfl (by decide) (by decide) (by decide +kernel) (a_cons (e_name (i := 0) rfl (by decide +kernel)) a_nil rfl (by decide)) rfl) rfl)
  (ss_cons (s_expr (e_call (j := 22) (fi := fi_want_move) (bs := [false]) rfl rfl (by decide) (by decide) (by decide +kernel) (a_cons (e_name (i := 1) rfl (by decide +kernel)) a_nil rfl (by decide)) rfl) rfl)
  (ss_cons (s_expr (e_call (j := 32) (fi := fi_want_as_many) (bs := [false, false]) rfl rfl (by decide) (by decide) (by decide +kernel) (a_cons (e_name (i := 0) rfl (by decide +kernel)) (a_cons (e_name (i := 1) rfl (by decide +kernel)) a_nil rfl (by decide)) rfl (by decide)) rfl) rfl)
  (ss_one (s_ret (e_call (j := 31) (fi := fi_moved_of) (bs := [false, false]) rfl rfl (by decide) (by decide) (by decide +kernel) (a_cons (e_name (i := 0) rfl (by decide +kernel)) (a_cons (e_name (i := 1) rfl (by decide +kernel)) a_nil rfl (by decide)) rfl (by decide)) rfl))))))
theorem b_moved : BindOk fi_moved.name fi_moved.st fi_moved.ps := fun _ _ _ _ _ _ us hl => match us, hl with | [_, _], _ => rfl
theorem sc_moved : FnScope N_moved fi_moved.ps (defScope fi_moved.st) := ⟨rfl, rfl, rfl, by decide +kernel, rfl, by decide +kernel, by decide +kernel⟩
theorem x_moved {P : Program} {w : World} {K : PySem.W.Frag} {h : Heap} {mg : Str → Option Value} {base : Heap} (X : K.In h) (G : h.Ns mainGlobals mg) (d : DAt K fi_moved.name fi_moved.st) (g : Gm P w K mg base tab cs bn fi_moved.k) : FnX P w K mg base fi_moved := fnx_mk (k := 4) X G d g b_moved sc_moved (by decide) rfl rfl w_moved
def N__law_pack_right : List Str := ["pot", "cards", "pack", "many", "row", "move", "late", "first", "both", "sizes", "size", "one"]
theorem w__law_pack_right : SSs (PL tab cs bn 7 (defScope st__law_pack_right) N__law_pack_right 6 true (fun _ => true)) (defBody st__law_pack_right) code__law_pack_right :=
  (ss_cons (s_asgT (e_tup (a_cons (e_typ .tuple (by decide +kernel) (by decide +kernel) (a_cons (e_call (j := 8) (fi := fi__law_mixed) (bs := [true, false]) rfl rfl (by decide) (by decide) (by decide +kernel) (a_cons (e_name (i := 0) rfl (by decide +kernel)) (a_cons (e_lstR1 (by decide +kernel) (by decide +kernel) (by decide +kernel) (by decide +kernel) (e_name (i := 1) rfl (by decide +kernel)) rfl) a_nil rfl (by decide)) rfl (by decide)) rfl) a_nil rfl (by decide))) (a_cons (e_call (j := 9) (fi := fi__law_row) (bs := [true, false]) rfl rfl (by decide) (by decide) (by decide +kernel) (a_cons (e_name (i := 0) rfl (by decide +kernel)) (a_cons (e_name (i := 1) rfl (by decide +kernel)) a_nil rfl (by decide)) rfl (by decide)) rfl) a_nil rfl (by decide)) rfl (by decide))) (g_tup (gs_cons (g_name (i := 2) rfl (by decide +kernel)) (gs_cons (g_tup (gs_cons (g_name (i := 3) rfl (by decide +kernel)) (gs_cons (g_name (i := 4) rfl (by decide +kernel)) gs_nil))) gs_nil))) (by decide +kernel))
  (ss_cons (s_asg (e_call (j := 20) (fi := fi_deal_riffle) (bs := [false, false, false]) rfl rfl (by decide) (by decide) (by decide +kernel) (a_cons (e_name (i := 1) rfl (by decide +kernel)) (a_cons (e_name (i := 3) rfl (by decide +kernel)) (a_cons (e_listX (by decide +kernel) (by decide +kernel) (a_cons (e_name (i := 4) rfl (by decide +kernel)) a_nil rfl (by decide))) a_nil rfl (by decide)) rfl (by decide)) rfl (by decide)) rfl) (g_name (i := 5) rfl (by decide +kernel)) rfl rfl)
  (ss_cons (s_asg (e_call (j := 6) (fi := fi__law_by_hand) (bs := [false, false, false]) rfl rfl (by decide) (by decide) (by decide +kernel) (a_cons (e_name (i := 2) rfl (by decide +kernel)) (a_cons (e_name (i := 3) rfl (by decide +kernel)) (a_cons (e_name (i := 4) rfl (by decide +kernel)) a_nil rfl (by decide)) rfl (by decide)) rfl (by decide)) rfl) (g_name (i := 6) rfl (by decide +kernel)) rfl rfl)
  (ss_cons (s_if (t_w (w_or (t_cmp .ne (e_call (j := 42) (fi := fi_moved) (bs := [false, false]) rfl rfl (by decide) (by decide) (by decide +kernel) (a_cons (e_name (i := 2) rfl (by decide +kernel)) (a_cons (e_name (i := 5) rfl (by decide +kernel)) a_nil rfl (by decide)) rfl (by decide)) rfl) (e_name (i := 6) rfl (by decide +kernel)) rfl) (w_or (t_cmp .ne (e_call (j := 41) (fi := fi_move_between) (bs := [false, false]) rfl rfl (by decide) (by decide) (by decide +kernel) (a_cons (e_name (i := 2) rfl (by decide +kernel)) (a_cons (e_name (i := 6) rfl (by decide +kernel)) a_nil rfl (by decide)) rfl (by decide)) rfl) (e_name (i := 5) rfl (by decide +kernel)) rfl) (w_or1 (t_notB (e_call (j := 37) (fi := fi_is_deal_riffle) (bs := [false]) rfl rfl (by decide) (by decide) (by decide +kernel) (a_cons (e_name (i := 5) rfl (by decide +kernel)) a_nil rfl (by decide)) rfl)))))) (ss_one (s_ret e_bl)) ss_nil)
  (ss_cons (s_asg (e_call (j := 36) (fi := fi_cut) (bs := [false, false]) rfl rfl (by decide) (by decide) (by decide +kernel) (a_cons (e_call (j := 25) (fi := fi_plain) (bs := [false]) rfl rfl (by decide) (by decide) (by decide +kernel) (a_cons (e_name (i := 1) rfl (by decide +kernel)) a_nil rfl (by decide)) rfl) (a_cons (e_call (j := 7) (fi := fi__law_draw) (bs := [true, false]) rfl rfl (by decide) (by decide) (by decide +kernel) (a_cons (e_name (i := 0) rfl (by decide +kernel)) (a_cons e_int a_nil rfl (by decide)) rfl (by decide)) rfl) a_nil rfl (by decide)) rfl (by decide)) rfl) (g_name (i := 7) rfl (by decide +kernel)) rfl rfl)
  (ss_cons (s_asg (e_call (j := 33) (fi := fi_behind) (bs := [false, false]) rfl rfl (by decide) (by decide) (by decide +kernel) (a_cons (e_name (i := 7) rfl (by decide +kernel)) (a_cons (e_name (i := 5) rfl (by decide +kernel)) a_nil rfl (by decide)) rfl (by decide)) rfl) (g_name (i := 8) rfl (by decide +kernel)) rfl rfl)
  (ss_cons (s_if (t_cmp .ne (e_call (j := 42) (fi := fi_moved) (bs := [false, false]) rfl rfl (by decide) (by decide) (by decide +kernel) (a_cons (e_name (i := 2) rfl (by decide +kernel)) (a_cons (e_name (i := 8) rfl (by decide +kernel)) a_nil rfl (by decide)) rfl (by decide)) rfl) (e_call (j := 6) (fi := fi__law_by_hand) (bs := [false, false, false]) rfl rfl (by decide) (by decide) (by decide +kernel) (a_cons (e_call (j := 42) (fi := fi_moved) (bs := [false, false]) rfl rfl (by decide) (by decide) (by decide +kernel) (a_cons (e_name (i := 2) rfl (by decide +kernel)) (a_cons (e_name (i := 7) rfl (by decide +kernel)) a_nil rfl (by decide)) rfl (by decide)) rfl) (a_cons (e_name (i := 3) rfl (by decide +kernel)) (a_cons (e_name (i := 4) rfl (by decide +kernel)) a_nil rfl (by decide)) rfl (by decide)) rfl (by decide)) rfl) rfl) (ss_one (s_ret e_bl)) ss_nil)
  (ss_cons (s_setC (i := 9) rfl (by decide +kernel) (by decide +kernel) (by decide +kernel) (own := [("size", 10)]) (i_range2 (by decide +kernel) (by decide +kernel) (a_cons e_int (a_cons (e_add (e_name (i := 1) rfl (by decide +kernel)) e_int) a_nil rfl (by decide)) rfl (by decide))) (by decide +kernel) (gt_name (i := 10) rfl (by decide +kernel)) (ts_one (t_cmp .eq (e_mod (e_typ .int (by decide +kernel) (by decide +kernel) (a_cons (e_name (i := 1) rfl (by decide +kernel)) a_nil rfl (by decide))) (e_name (i := 10) rfl (by decide +kernel))) e_int rfl)) (e_name (i := 10) rfl (by decide +kernel)) rfl)
  (ss_cons (s_asg (e_call (j := 30) (fi := fi__law_pick) (bs := [true, false]) rfl rfl (by decide) (by decide) (by decide +kernel) (a_cons (e_name (i := 0) rfl (by decide +kernel)) (a_cons (e_name (i := 9) rfl (by decide +kernel)) a_nil rfl (by decide)) rfl (by decide)) rfl) (g_name (i := 10) rfl (by decide +kernel)) rfl rfl)
  (ss_one (s_ret (e_and (e_isB (e_call (j := 39) (fi := fi_keeps_blocks) (bs := [false, false]) rfl rfl (by decide) (by decide) (by decide +kernel) (a_cons (e_name (i := 8) rfl (by decide +kernel)) (a_cons (e_name (i := 10) rfl (by decide +kernel)) a_nil rfl (by decide)) rfl (by decide)) rfl)) (e_one (e_blt .all (by decide +kernel) (by decide +kernel) (a_cons (e_comp (own := [("one", 11)]) (i_seq (e_call (j := 35) (fi := fi_block_kinds) (bs := [false, false]) rfl rfl (by decide) (by decide) (by decide +kernel) (a_cons (e_name (i := 8) rfl (by decide +kernel)) (a_cons (e_name (i := 10) rfl (by decide +kernel)) a_nil rfl (by decide)) rfl (by decide)) rfl)) (by decide +kernel) (gt_name (i := 11) rfl (by decide +kernel)) ts_nil (e_cmp .eq (e_blt2 .sorted (by decide +kernel) (by decide +kernel) (a_cons (e_name (i := 11) rfl (by decide +kernel)) a_nil rfl (by decide))) (e_lstR1 (by decide +kernel) (by decide +kernel) (by decide +kernel) (by decide +kernel) (e_name (i := 10) rfl (by decide +kernel)) rfl) rfl) rfl) a_nil rfl (by decide))))))))))))))))
theorem b__law_pack_right : BindOk fi__law_pack_right.name fi__law_pack_right.st fi__law_pack_right.ps := fun _ _ _ _ _ _ us hl => match us, hl with | [_, _], _ => rfl
theorem sc__law_pack_right : FnScope N__law_pack_right fi__law_pack_right.ps (defScope fi__law_pack_right.st) := ⟨rfl, rfl, rfl, by decide +kernel, rfl, by decide +kernel, by decide +kernel⟩
theorem x__law_pack_right {P : Program} {w : World} {K : PySem.W.Frag} {h : Heap} {mg : Str → Option Value} {base : Heap} (X : K.In h) (G : h.Ns mainGlobals mg) (d : DAt K fi__law_pack_right.name fi__law_pack_right.st) (g : Gm P w K mg base tab cs bn fi__law_pack_right.k) : FnX P w K mg base fi__law_pack_right := fnx_mk (k := 6) X G d g b__law_pack_right sc__law_pack_right (by decide) rfl rfl w__law_pack_right
def N__law_pot : List Str := ["script", "k", "cell"]
theorem w__law_pot : SSs (PL tab cs bn 1 (defScope st__law_pot) N__law_pot 0 true (fun _ => true)) (defBody st__law_pot) code__law_pot :=
  (ss_cons (s_asg (e_ite (t_cmp .lt (e_name (i := 1) rfl (by decide +kernel)) (e_blt2 .len (by decide +kernel) (by decide +kernel) (a_cons (e_name (i := 0) rfl (by decide +kernel)) a_nil rfl (by decide))) rfl) (e_blt .abs (by decide +kernel) (by decide +kernel) (a_cons (e_idx (e_name (i := 0) rfl (by decide +kernel)) (e_name (i := 1) rfl (by decide +kernel)) rfl) a_nil rfl (by decide))) (e_add (e_add (e_mul e_int (e_name (i := 1) rfl (by decide +kernel))) e_int) (e_mod (e_typ .int (by decide +kernel) (by decide +kernel) (a_cons (e_blt .sum (by decide +kernel) (by decide +kernel) (a_cons (e_slice (e_name (i := 0) rfl (by decide +kernel)) p_none (p_some e_int) p_none) a_nil rfl (by decide))) a_nil rfl (by decide))) e_int))) (g_name (i := 2) rfl (by decide +kernel)) rfl rfl)
  (ss_one (s_ret (e_lst (a_cons (e_blt .max (by decide +kernel) (by decide +kernel) (a_cons e_int (a_cons (e_sub (e_name (i := 2) rfl (by decide +kernel)) (e_pow e_int e_int)) a_nil rfl (by decide)) rfl (by decide))) (a_cons (e_add (e_mod (e_typ .int (by decide +kernel) (by decide +kernel) (a_cons (e_add (e_add (e_mul (e_mod (e_typ .int (by decide +kernel) (by decide +kernel) (a_cons (e_name (i := 2) rfl (by decide +kernel)) a_nil rfl (by decide))) e_int) e_int) (e_mul e_int (e_name (i := 1) rfl (by decide +kernel)))) e_int) a_nil rfl (by decide))) e_int) e_int) a_nil rfl (by decide)) rfl (by decide))))))
theorem b__law_pot : BindOk fi__law_pot.name fi__law_pot.st fi__law_pot.ps := fun _ _ _ _ _ _ us hl => match us, hl with | [_, _], _ => rfl
theorem sc__law_pot : FnScope N__law_pot fi__law_pot.ps (defScope fi__law_pot.st) := ⟨rfl, rfl, rfl, by decide +kernel, rfl, by decide +kernel, by decide +kernel⟩
theorem x__law_pot {P : Program} {w : World} {K : PySem.W.Frag} {h : Heap} {mg : Str → Option Value} {base : Heap} (X : K.In h) (G : h.Ns mainGlobals mg) (d : DAt K fi__law_pot.name fi__law_pot.st) (g : Gm P w K mg base tab cs bn fi__law_pot.k) : FnX P w K mg base fi__law_pot := fnx_mk (k := 0) X G d g b__law_pot sc__law_pot (by decide) rfl rfl w__law_pot
def N_law : List Str := ["script", "pot", "late"]
theorem w_law : SSs (PL tab cs bn 8 (defScope st_law) N_law 7 true (fun _ => true)) (defBody st_law) code_law :=
  (ss_cons (s_par2 (i := 1) (j := 2) rfl rfl (by decide) (by decide +kernel) (by decide +kernel) (a_cons (e_call (j := 44) (fi := fi__law_pot) (bs := [false, false]) rfl rfl (by decide) (by decide) (by decide +kernel) (a_cons (e_name (i := 0) rfl (by decide +kernel)) (a_cons e_int a_nil rfl (by decide)) rfl (by decide)) rfl) (a_cons (e_call (j := 44) (fi := fi__law_pot) (bs := [false, false]) rfl rfl (by decide) (by decide) (by decide +kernel) (a_cons (e_name (i := 0) rfl (by decide +kernel)) (a_cons e_int a_nil rfl (by decide)) rfl (by decide)) rfl) a_nil rfl (by decide)) rfl (by decide)) (by decide +kernel))
  (ss_one (s_ret (e_and (e_call (j := 43) (fi := fi__law_pack_right) (bs := [true, false]) rfl rfl (by decide) (by decide) (by decide +kernel) (a_cons (e_name (i := 1) rfl (by decide +kernel)) (a_cons (e_add e_int (e_call (j := 7) (fi := fi__law_draw) (bs := [true, false]) rfl rfl (by decide) (by decide) (by decide +kernel) (a_cons (e_name (i := 1) rfl (by decide +kernel)) (a_cons e_int a_nil rfl (by decide)) rfl (by decide)) rfl)) a_nil rfl (by decide)) rfl (by decide)) rfl) (e_and (e_call (j := 43) (fi := fi__law_pack_right) (bs := [true, false]) rfl rfl (by decide) (by decide) (by decide +kernel) (a_cons (e_name (i := 2) rfl (by decide +kernel)) (a_cons (e_add e_int (e_call (j := 7) (fi := fi__law_draw) (bs := [true, false]) rfl rfl (by decide) (by decide) (by decide +kernel) (a_cons (e_name (i := 2) rfl (by decide +kernel)) (a_cons e_int a_nil rfl (by decide)) rfl (by decide)) rfl)) a_nil rfl (by decide)) rfl (by decide)) rfl) (e_and (e_call (j := 29) (fi := fi__law_colours_right) (bs := [true]) rfl rfl (by decide) (by decide) (by decide +kernel) (a_cons (e_name (i := 2) rfl (by decide +kernel)) a_nil rfl (by decide)) rfl) (e_one (e_call (j := 29) (fi := fi__law_colours_right) (bs := [true]) rfl rfl (by decide) (by decide) (by decide +kernel) (a_cons (e_name (i := 1) rfl (by decide +kernel)) a_nil rfl (by decide)) rfl))))))))
theorem b_law : BindOk fi_law.name fi_law.st fi_law.ps := fun _ _ _ _ _ _ us hl => match us, hl with | [_], _ => rfl
theorem sc_law : FnScope N_law fi_law.ps (defScope fi_law.st) := ⟨rfl, rfl, rfl, by decide +kernel, rfl, by decide +kernel, by decide +kernel⟩
theorem x_law {P : Program} {w : World} {K : PySem.W.Frag} {h : Heap} {mg : Str → Option Value} {base : Heap} (X : K.In h) (G : h.Ns mainGlobals mg) (d : DAt K fi_law.name fi_law.st) (g : Gm P w K mg base tab cs bn fi_law.k) : FnX P w K mg base fi_law := fnx_mk (k := 7) X G d g b_law sc_law (by decide) rfl rfl w_law
theorem x_all {P : Program} {w : World} {K : PySem.W.Frag} {h : Heap} {mg : Str → Option Value} (X : K.In h) (G : h.Ns mainGlobals mg) : ∀ base, ∀ e ∈ tab, DAt K e.name e.st → Gm P w K mg base tab cs bn e.k → FnX P w K mg base e := by
  intro base e he d g
  simp only [tab, List.mem_cons, List.not_mem_nil, or_false] at he
  rcases he with h | h | h | h | h | h | h | h | h | h | h | h | h | h | h | h | h | h | h | h | h | h | h | h | h | h | h | h | h | h | h | h | h | h | h | h | h | h | h | h | h | h | h | h | h | h
  · subst h; exact x_is_integer X G d g
  · subst h; exact x_is_within X G d g
  · subst h; exact x_want_many X G d g
  · subst h; exact x_is_pack_value X G d g
  · subst h; exact x_want_pack X G d g
  · subst h; exact x_dealt_down X G d g
  · subst h; exact x__law_by_hand X G d g
  · subst h; exact x__law_draw X G d g
  · subst h; exact x__law_mixed X G d g
  · subst h; exact x__law_row X G d g
  · subst h; exact x_unlike_place X G d g
  · subst h; exact x_is_count X G d g
  · subst h; exact x_is_list X G d g
  · subst h; exact x_want_kinds X G d g
  · subst h; exact x_want_size X G d g
  · subst h; exact x_want_kinds_and_size X G d g
  · subst h; exact x_always_kept X G d g
  · subst h; exact x_is_row_of X G d g
  · subst h; exact x_move_by_row X G d g
  · subst h; exact x_want_cards X G d g
  · subst h; exact x_deal_riffle X G d g
  · subst h; exact x_is_kept X G d g
  · subst h; exact x_want_move X G d g
  · subst h; exact x_keeps_kinds X G d g
  · subst h; exact x_still_of X G d g
  · subst h; exact x_plain X G d g
  · subst h; exact x_bar_of X G d g
  · subst h; exact x_row_by X G d g
  · subst h; exact x_riffled_paper X G d g
  · subst h; exact x__law_colours_right X G d g
  · subst h; exact x__law_pick X G d g
  · subst h; exact x_moved_of X G d g
  · subst h; exact x_want_as_many X G d g
  · subst h; exact x_behind X G d g
  · subst h; exact x_kinds_in X G d g
  · subst h; exact x_block_kinds X G d g
  · subst h; exact x_cut X G d g
  · subst h; exact x_is_deal_riffle X G d g
  · subst h; exact x_is_barring X G d g
  · subst h; exact x_keeps_blocks X G d g
  · subst h; exact x_back_of X G d g
  · subst h; exact x_move_between X G d g
  · subst h; exact x_moved X G d g
  · subst h; exact x__law_pack_right X G d g
  · subst h; exact x__law_pot X G d g
  · subst h; exact x_law X G d g
end L2.DL.K68
/-! DLz: running code upon slots, by simp -/
namespace L2.DL
open PySem
section
variable {α β : Type}
/-- what comes behind a run -/
def R.th (r : R α) (f : α → M β) : R β := match r with
  | .ok a l => f a l
  | .err x l => .err x l
  | .stk => .stk
@[simp] theorem th_ok (a : α) (l : L) (f : α → M β) : (R.ok a l).th f = f a l := rfl
@[simp] theorem th_err (x : Exn) (l : L) (f : α → M β) : (R.err x l : R α).th f = .err x l := rfl
@[simp] theorem th_stk (f : α → M β) : (R.stk : R α).th f = .stk := rfl
@[simp] theorem bd_run (m : M α) (f : α → M β) (l : L) : bd m f l = (m l).th f := rfl
@[simp] theorem rt_run (a : α) (l : L) : rt a l = .ok a l := rfl
@[simp] theorem stuck_run (l : L) : (stuck : M α) l = .stk := rfl
@[simp] theorem lft_some (a : α) (l : L) : lft (some a) l = .ok a l := rfl
@[simp] theorem lft_none (l : L) : lft (none : Option α) l = .stk := rfl
end
/-! operands -/
@[simp] theorem readO_v (d : PyData) (l : L) : readO (.v d) l = .ok d l := rfl
@[simp] theorem readO_t (d : PyData) (l : L) : readO (.t d) l = .ok d l := rfl
def rdS (s : Sl) (l : L) : R PyData := match s.get with
  | some d => .ok d l
  | none => .stk
@[simp] theorem readO_s (i : Nat) (l : L) : readO (.s i) l = rdS (l.getD i .non) l := rfl
@[simp] theorem rdS_frz (d : PyData) (l : L) : rdS (.frz d) l = .ok d l := rfl
@[simp] theorem rdS_own (d : PyData) (l : L) : rdS (.own d) l = .ok d l := rfl
@[simp] theorem rdS_bor (d : PyData) (l : L) : rdS (.bor d) l = .ok d l := rfl
@[simp] theorem rdS_lck (b : Bool) (d : PyData) (l : L) : rdS (.lck b d) l = .ok d l := rfl
@[simp] theorem readAll_nil (l : L) : readAll [] l = .ok [] l := rfl
@[simp] theorem readAll_cons (o : Opd) (os : List Opd) (l : L) : readAll (o :: os) l = (readO o l).th fun d => bd (readAll os) fun ds => rt (d :: ds) := rfl
@[simp] theorem shareO_v (d : PyData) (l : L) : shareO (.v d) l = .ok d l := rfl
@[simp] theorem shareO_t (xs : List PyData) (l : L) : shareO (.t (.list xs)) l = .ok (.list xs) l := rfl
def fzS (s : Sl) (i : Nat) (l : L) : R PyData := match s with
  | .frz d => .ok d l
  | .own (.list xs) => .ok (.list xs) (l.set i (.frz (.list xs)))
  | .lck false (.list xs) => .ok (.list xs) (l.set i (.frz (.list xs)))
  | _ => .stk
theorem frzS_run (i : Nat) (l : L) : frzS i l = fzS (l.getD i .non) i l := rfl
@[simp] theorem shareO_s (i : Nat) (l : L) : shareO (.s i) l = fzS (l.getD i .non) i l := rfl
@[simp] theorem fzS_frz (d : PyData) (i : Nat) (l : L) : fzS (.frz d) i l = .ok d l := rfl
@[simp] theorem fzS_own (xs : List PyData) (i : Nat) (l : L) : fzS (.own (.list xs)) i l = .ok (.list xs) (l.set i (.frz (.list xs))) := rfl
@[simp] theorem shareAll_nil (l : L) : shareAll [] l = .ok [] l := rfl
@[simp] theorem shareAll_cons (o : Opd) (os : List Opd) (l : L) : shareAll (o :: os) l = (shareO o l).th fun d => bd (shareAll os) fun ds => rt (d :: ds) := rfl
@[simp] theorem evs_nil (l : L) : evs [] l = .ok [] l := rfl
@[simp] theorem evs_cons (m : M Opd) (ms : List (M Opd)) (l : L) : evs (m :: ms) l = (m l).th fun o => bd (evs ms) fun os => rt (o :: os) := rfl
@[simp] theorem mkO_t (d : PyData) : mkO (d, true) = .t d := rfl
@[simp] theorem mkO_v (d : PyData) : mkO (d, false) = .v d := rfl
/-! expressions -/
def evS (s : Sl) (i : Nat) (l : L) : R Opd := match s with
  | .non => .stk
  | .frz d => .ok (.v d) l
  | _ => .ok (.s i) l
@[simp] theorem eV_run (i : Nat) (l : L) : eV i l = evS (l.getD i .non) i l := rfl
@[simp] theorem evS_frz (d : PyData) (i : Nat) (l : L) : evS (.frz d) i l = .ok (.v d) l := rfl
@[simp] theorem evS_own (d : PyData) (i : Nat) (l : L) : evS (.own d) i l = .ok (.s i) l := rfl
@[simp] theorem evS_bor (d : PyData) (i : Nat) (l : L) : evS (.bor d) i l = .ok (.s i) l := rfl
@[simp] theorem evS_lck (b : Bool) (d : PyData) (i : Nat) (l : L) : evS (.lck b d) i l = .ok (.s i) l := rfl
@[simp] theorem eK_run (d : PyData) (l : L) : eK d l = .ok (.v d) l := rfl
@[simp] theorem eOps_run (f : List PyData → Option (PyData × Bool)) (es : List (M Opd)) (l : L) : eOps f es l = (evs es l).th fun os => bd (readAll os) fun ds => bd (lft (f ds)) fun z => rt (mkO z) := rfl
@[simp] theorem eTup_run (es : List (M Opd)) (l : L) : eTup es l = (evs es l).th fun os => bd (shareAll os) fun ds => rt (.v (.tuple ds)) := rfl
@[simp] theorem eLst_run (es : List (M Opd)) (l : L) : eLst es l = (evs es l).th fun os => bd (shareAll os) fun ds => rt (.t (.list ds)) := rfl
def pick {α : Type} (k : Bool) (a b : M α) : M α := match k with
  | true => a
  | false => b
@[simp] theorem pick_true {α : Type} (a b : M α) : pick true a b = a := rfl
@[simp] theorem pick_false {α : Type} (a b : M α) : pick false a b = b := rfl
theorem pick_dec {α : Type} {p : Prop} [Decidable p] (a b : M α) (l : L) : pick (decide p) a b l = if p then a l else b l := by
  by_cases h : p <;> simp [h]
@[simp] theorem tOf_run (m : M Opd) (l : L) : tOf m l = (m l).th fun o => bd (readO o) fun d => lft (truth d) := rfl
@[simp] theorem truth_bool (b : Bool) : truth (.bool b) = some b := rfl
@[simp] theorem truth_int (i : Int) : truth (.int i) = some (i != 0) := rfl
@[simp] theorem truth_none : truth .none = some false := rfl
@[simp] theorem truth_list (xs : List PyData) : truth (.list xs) = some (!xs.isEmpty) := rfl
@[simp] theorem truth_tuple (xs : List PyData) : truth (.tuple xs) = some (!xs.isEmpty) := rfl
@[simp] theorem eT_run (t : M Bool) (l : L) : eT t l = (t l).th fun b => rt (.v (.bool b)) := rfl
theorem tAnd_run' (a b : M Bool) (l : L) : tAnd a b l = (a l).th fun k => pick k b (rt false) := by
  have e : tAnd a b = bd a fun k => pick k b (rt false) := by
    rfl
  rw [e]
  rfl
theorem tOr_run' (a b : M Bool) (l : L) : tOr a b l = (a l).th fun k => pick k (rt true) b := by
  have e : tOr a b = bd a fun k => pick k (rt true) b := by
    rfl
  rw [e]
  rfl
@[simp] theorem tAnd_run (a b : M Bool) (l : L) : tAnd a b l = (a l).th fun k => pick k b (rt false) := tAnd_run' a b l
@[simp] theorem tOr_run (a b : M Bool) (l : L) : tOr a b l = (a l).th fun k => pick k (rt true) b := tOr_run' a b l
@[simp] theorem tNot_run (a : M Bool) (l : L) : tNot a l = (a l).th fun k => rt (!k) := rfl
@[simp] theorem tIte_run {α : Type} (t : M Bool) (a b : M α) (l : L) : tIte t a b l = (t l).th fun k => pick k a b := by
  have e : tIte t a b = bd t fun k => pick k a b := by
    rfl
  rw [e]
  rfl
@[simp] theorem eAnd_run (a b : M Opd) (l : L) : eAnd a b l = (a l).th fun o => bd (readO o) fun d => bd (lft (truth d)) fun k => pick k b (rt o) := by
  have e : eAnd a b = bd a fun o => bd (readO o) fun d => bd (lft (truth d)) fun k => pick k b (rt o) := by
    rfl
  rw [e]
  rfl
@[simp] theorem eOr_run (a b : M Opd) (l : L) : eOr a b l = (a l).th fun o => bd (readO o) fun d => bd (lft (truth d)) fun k => pick k (rt o) b := by
  have e : eOr a b = bd a fun o => bd (readO o) fun d => bd (lft (truth d)) fun k => pick k (rt o) b := by
    rfl
  rw [e]
  rfl
@[simp] theorem eNot_run (a : M Opd) (l : L) : eNot a l = (a l).th fun o => bd (readO o) fun d => bd (lft (truth d)) fun k => rt (.v (.bool (!k))) := rfl
def boolO : Opd → M Bool
  | .v (.bool k) => rt k
  | _ => stuck
@[simp] theorem boolO_v (k : Bool) : boolO (.v (.bool k)) = rt k := rfl
@[simp] theorem tB_run (m : M Opd) (l : L) : tB' m l = (m l).th boolO := by
  have e : tB' m = bd m boolO := by
    rfl
  rw [e]
  rfl
def intO : Opd → M (Option Int)
  | .v (.int i) => rt (some i)
  | _ => stuck
@[simp] theorem intO_v (i : Int) : intO (.v (.int i)) = rt (some i) := rfl
@[simp] theorem evP_none (l : L) : evP none l = .ok none l := rfl
@[simp] theorem evP_some (m : M Opd) (l : L) : evP (some m) l = (m l).th intO := by
  have e : evP (some m) = bd m intO := by
    rfl
  rw [e]
  rfl
@[simp] theorem eSlc_run (f : PyData → Option Int → Option Int → Option Int → Option (PyData × Bool)) (m : M Opd) (lo hi st : Option (M Opd)) (l : L) : eSlc f m lo hi st l = (m l).th fun o => bd (evP lo) fun a => bd (evP hi) fun b => bd (evP st) fun c => bd (readO o) fun d => bd (lft (f d a b c)) fun z => rt (mkO z) := rfl
def chainK (g : List PyData → Option (PyData × Bool)) (y : Opd) (c : M Opd) : PyData × Bool → M Opd
  | (.bool k, false) => pick k (bd c fun w => bd (readAll [y, w]) fun es => bd (lft (g es)) fun u => rt (mkO u)) (rt (.v (.bool false)))
  | _ => stuck
@[simp] theorem chainK_b (g : List PyData → Option (PyData × Bool)) (y : Opd) (c : M Opd) (k : Bool) : chainK g y c (.bool k, false) = pick k (bd c fun w => bd (readAll [y, w]) fun es => bd (lft (g es)) fun u => rt (mkO u)) (rt (.v (.bool false))) := rfl
@[simp] theorem eChain_run (f g : List PyData → Option (PyData × Bool)) (a b c : M Opd) (l : L) : eChain f g a b c l = (a l).th fun x => bd b fun y => bd (readAll [x, y]) fun ds => bd (lft (f ds)) fun z => chainK g y c z := by
  have e : eChain f g a b c = bd a fun x => bd b fun y => bd (readAll [x, y]) fun ds => bd (lft (f ds)) fun z => chainK g y c z := by
    unfold eChain
    congr 1
    funext x
    congr 1
    funext y
    congr 1
    funext ds
    congr 1
    funext z
    obtain ⟨d, b⟩ := z
    cases b
    · cases d with
      | bool k => cases k <;> rfl
      | _ => rfl
    · cases d <;> first | rfl | (rename_i k; cases k <;> rfl)
  rw [e]
  rfl
/-! statements -/
def sqK (b : C) : Fl → C
  | .nx => b
  | f => rt f
@[simp] theorem sqK_nx (b : C) : sqK b .nx = b := rfl
@[simp] theorem sqK_rt (b : C) (o : Opd) : sqK b (.rt o) = rt (.rt o) := rfl
@[simp] theorem sqK_bk (b : C) : sqK b .bk = rt .bk := rfl
@[simp] theorem sqK_ct (b : C) : sqK b .ct = rt .ct := rfl
@[simp] theorem sq_run (a b : C) (l : L) : sq a b l = (a l).th (sqK b) := by
  have e : sq a b = bd a (sqK b) := by
    rfl
  rw [e]
  rfl
@[simp] theorem sNx_run (l : L) : sNx l = .ok .nx l := rfl
@[simp] theorem sIf_run (t : M Bool) (a b : C) (l : L) : sIf t a b l = (t l).th fun k => pick k a b := tIte_run t a b l
@[simp] theorem sEx_run (m : M Opd) (l : L) : sEx m l = (m l).th fun _ => sNx := rfl
@[simp] theorem sRet_run (m : M Opd) (l : L) : sRet m l = (m l).th fun o => bd (retO o) fun x => rt (.rt x) := rfl
@[simp] theorem sRetN_run (l : L) : sRetN l = .ok (.rt (.v .none)) l := rfl
@[simp] theorem sBk_run (l : L) : sBk l = .ok .bk l := rfl
@[simp] theorem sCt_run (l : L) : sCt l = .ok .ct l := rfl
@[simp] theorem retO_v (d : PyData) (l : L) : retO (.v d) l = .ok (.v d) l := rfl
@[simp] theorem retO_t (d : PyData) (l : L) : retO (.t d) l = .ok (.t d) l := rfl
def rtS (s : Sl) (i : Nat) (l : L) : R Opd := match s with
  | .frz d => .ok (.v d) l
  | .own d => .ok (.t d) (l.set i .non)
  | .lck false d => .ok (.t d) (l.set i .non)
  | _ => .stk
@[simp] theorem retO_s (i : Nat) (l : L) : retO (.s i) l = rtS (l.getD i .non) i l := rfl
@[simp] theorem rtS_frz (d : PyData) (i : Nat) (l : L) : rtS (.frz d) i l = .ok (.v d) l := rfl
@[simp] theorem rtS_own (d : PyData) (i : Nat) (l : L) : rtS (.own d) i l = .ok (.t d) (l.set i .non) := rfl
@[simp] theorem normO_v (d : PyData) (l : L) : normO (.v d) l = .ok (.v d) l := rfl
@[simp] theorem normO_t (d : PyData) (l : L) : normO (.t d) l = .ok (.t d) l := rfl
@[simp] theorem normO_s (i : Nat) (l : L) : normO (.s i) l = (fzS (l.getD i .non) i l).th fun d => rt (.v d) := rfl
@[simp] theorem slOf_v (d : PyData) : slOf (.v d) = .frz d := rfl
@[simp] theorem slOf_t (d : PyData) : slOf (.t d) = .own d := rfl
def stS (s : Sl) (i : Nat) (x : Sl) (l : L) : R Unit := match s with
  | .bor _ => .stk
  | .lck true _ => .stk
  | _ => .ok () (l.set i x)
@[simp] theorem setF_run (i : Nat) (x : Sl) (l : L) : setF i x l = if i < l.length then stS (l.getD i .non) i x l else .stk := rfl
@[simp] theorem stS_non (i : Nat) (x : Sl) (l : L) : stS .non i x l = .ok () (l.set i x) := rfl
@[simp] theorem stS_frz (d : PyData) (i : Nat) (x : Sl) (l : L) : stS (.frz d) i x l = .ok () (l.set i x) := rfl
@[simp] theorem stS_own (d : PyData) (i : Nat) (x : Sl) (l : L) : stS (.own d) i x l = .ok () (l.set i x) := rfl
@[simp] theorem asgA_nm (i : Nat) (o : Opd) (l : L) : asgA (.nm i) o l = (normO o l).th fun x => setF i (slOf x) := rfl
@[simp] theorem asgA_ix (i : Nat) (e : M Opd) (o : Opd) (l : L) : asgA (.ix i e) o l = (shareO o l).th fun d => bd (eV i) fun _ => bd e fun k => bd (readO k) fun n => upS i fun c => putAt c n d := rfl
@[simp] theorem asgA_tp (ts : List TgA) (ds : List PyData) (l : L) : asgA (.tp ts) (.v (.tuple ds)) l = if ts.length = ds.length then asgAs ts (ds.map .v) l else .stk := by
  simp only [asgA]
  split <;> rfl
@[simp] theorem asgAs_nil (l : L) : asgAs [] [] l = .ok () l := by simp [asgAs]
@[simp] theorem asgAs_cons (t : TgA) (ts : List TgA) (o : Opd) (os : List Opd) (l : L) : asgAs (t :: ts) (o :: os) l = (asgA t o l).th fun _ => asgAs ts os := by simp [asgAs]
def upK (s : Sl) (i : Nat) (l : L) (f : PyData → Option PyData) : R Unit := match s with
  | .own c => match f c with
    | some c' => .ok () (l.set i (.own c'))
    | none => .stk
  | .bor c => match f c with
    | some c' => .ok () (l.set i (.bor c'))
    | none => .stk
  | _ => .stk
@[simp] theorem upS_run (i : Nat) (f : PyData → Option PyData) (l : L) : upS i f l = upK (l.getD i .non) i l f := rfl
def okO (i : Nat) (mk : PyData → Sl) (l : L) : Option PyData → R Unit
  | some c => .ok () (l.set i (mk c))
  | none => .stk
@[simp] theorem okO_some (i : Nat) (mk : PyData → Sl) (l : L) (c : PyData) : okO i mk l (some c) = .ok () (l.set i (mk c)) := rfl
@[simp] theorem upK_own (c : PyData) (i : Nat) (l : L) (f : PyData → Option PyData) : upK (.own c) i l f = okO i .own l (f c) := by
  show (match f c with | some c' => R.ok () (l.set i (.own c')) | none => .stk) = _
  cases f c <;> rfl
@[simp] theorem upK_bor (c : PyData) (i : Nat) (l : L) (f : PyData → Option PyData) : upK (.bor c) i l f = okO i .bor l (f c) := by
  show (match f c with | some c' => R.ok () (l.set i (.bor c')) | none => .stk) = _
  cases f c <;> rfl
@[simp] theorem sAsg_run (g : TgA) (m : M Opd) (l : L) : sAsg g m l = (m l).th fun o => bd (asgA g o) fun _ => sNx := rfl
@[simp] theorem sPar_run (is : List Nat) (es : List (M Opd)) (l : L) : sPar is es l = (evs es l).th fun os => bd (normAll os) fun xs => bd (setAll is xs) fun _ => sNx := rfl
@[simp] theorem normAll_nil (l : L) : normAll [] l = .ok [] l := rfl
@[simp] theorem normAll_cons (o : Opd) (os : List Opd) (l : L) : normAll (o :: os) l = (normO o l).th fun x => bd (normAll os) fun xs => rt (x :: xs) := rfl
@[simp] theorem setAll_nil (l : L) : setAll [] [] l = .ok () l := rfl
@[simp] theorem setAll_cons (i : Nat) (is : List Nat) (o : Opd) (os : List Opd) (l : L) : setAll (i :: is) (o :: os) l = (setF i (slOf o) l).th fun _ => setAll is os := rfl
end L2.DL
/-! DLy: calls, operations, loops, by simp -/
namespace L2.DL
open PySem
/-! calls -/
@[simp] theorem mutS_nil : mutS [] [] = [] := rfl
@[simp] theorem mutS_f (bs : List Bool) (o : Opd) (os : List Opd) : mutS (false :: bs) (o :: os) = mutS bs os := rfl
@[simp] theorem mutS_t (bs : List Bool) (i : Nat) (os : List Opd) : mutS (true :: bs) (.s i :: os) = i :: mutS bs os := rfl
@[simp] theorem lentS_nil : lentS [] [] = [] := rfl
@[simp] theorem lentS_t (bs : List Bool) (o : Opd) (os : List Opd) : lentS (true :: bs) (o :: os) = lentS bs os := rfl
@[simp] theorem lentS_s (bs : List Bool) (i : Nat) (os : List Opd) : lentS (false :: bs) (.s i :: os) = i :: lentS bs os := rfl
@[simp] theorem lentS_v (bs : List Bool) (d : PyData) (os : List Opd) : lentS (false :: bs) (.v d :: os) = lentS bs os := rfl
@[simp] theorem lentS_tt (bs : List Bool) (d : PyData) (os : List Opd) : lentS (false :: bs) (.t d :: os) = lentS bs os := rfl
@[simp] theorem argOf_fv (l : L) (d : PyData) : argOf l false (.v d) = some (.frz d) := rfl
@[simp] theorem argOf_ft (l : L) (xs : List PyData) : argOf l false (.t (.list xs)) = some (.frz (.list xs)) := rfl
@[simp] theorem argOf_fs (l : L) (i : Nat) : argOf l false (.s i) = handed (l.getD i .non) := rfl
def borS : Sl → Option Sl
  | .own d => some (.bor d)
  | .bor d => some (.bor d)
  | _ => none
@[simp] theorem argOf_ts (l : L) (i : Nat) : argOf l true (.s i) = borS (l.getD i .non) := rfl
@[simp] theorem borS_own (d : PyData) : borS (.own d) = some (.bor d) := rfl
@[simp] theorem borS_bor (d : PyData) : borS (.bor d) = some (.bor d) := rfl
@[simp] theorem handed_frz (d : PyData) : handed (.frz d) = some (.frz d) := rfl
@[simp] theorem handed_own (xs : List PyData) : handed (.own (.list xs)) = some (.frz (.list xs)) := rfl
@[simp] theorem handed_bor (xs : List PyData) : handed (.bor (.list xs)) = some (.frz (.list xs)) := rfl
@[simp] theorem handed_lck (b : Bool) (xs : List PyData) : handed (.lck b (.list xs)) = some (.frz (.list xs)) := rfl
def consA : Option Sl → Option (List Sl) → Option (List Sl)
  | some a, some as => some (a :: as)
  | _, _ => none
@[simp] theorem consA_some (a : Sl) (as : List Sl) : consA (some a) (some as) = some (a :: as) := rfl
@[simp] theorem argsOf_nil (l : L) : argsOf l [] [] = some [] := rfl
@[simp] theorem argsOf_cons (l : L) (b : Bool) (bs : List Bool) (o : Opd) (os : List Opd) : argsOf l (b :: bs) (o :: os) = consA (argOf l b o) (argsOf l bs os) := rfl
def callK (f : FSem) (bs : List Bool) (os : List Opd) (l : L) : Option (List Sl) → R Opd
  | some as => afterC bs os l (f as)
  | none => .stk
@[simp] theorem callK_some (f : FSem) (bs : List Bool) (os : List Opd) (l : L) (as : List Sl) : callK f bs os l (some as) = afterC bs os l (f as) := rfl
@[simp] theorem callM_run (f : FSem) (bs : List Bool) (os : List Opd) (l : L) : callM f bs os l = if okArgs (mutS bs os) (lentS bs os) = true then callK f bs os l (argsOf l bs os) else .stk := rfl
@[simp] theorem okArgs_nil (ls : List Nat) : okArgs [] ls = true := rfl
@[simp] theorem okArgs_one (i : Nat) : okArgs [i] [] = true := by simp [okArgs, distinct]
@[simp] theorem eCall_run (f : FSem) (bs : List Bool) (es : List (M Opd)) (l : L) : eCall f bs es l = (evs es l).th fun os => callM f bs os := rfl
@[simp] theorem afterC_ok (bs : List Bool) (os : List Opd) (l : L) (z : PyData × Bool) (as : List Sl) : afterC bs os l (.ok z as) = afterK bs os l z as := rfl
@[simp] theorem afterC_err (bs : List Bool) (os : List Opd) (l : L) (x : Exn) (as : List Sl) : afterC bs os l (.err x as) = afterE bs os l x as := rfl
@[simp] theorem backS_nil (l : L) : backS [] [] [] l = some l := rfl
@[simp] theorem backS_f (bs : List Bool) (o : Opd) (os : List Opd) (a : Sl) (as : List Sl) (l : L) : backS (false :: bs) (o :: os) (a :: as) l = backS bs os as l := by cases o <;> rfl
def backK (bs : List Bool) (os : List Opd) (as : List Sl) (i : Nat) (d : PyData) (l : L) : Sl → Option L
  | .own _ => backS bs os as (l.set i (.own d))
  | .bor _ => backS bs os as (l.set i (.bor d))
  | _ => none
@[simp] theorem backS_t (bs : List Bool) (i : Nat) (os : List Opd) (d : PyData) (as : List Sl) (l : L) : backS (true :: bs) (.s i :: os) (.bor d :: as) l = backK bs os as i d l (l.getD i .non) := rfl
@[simp] theorem backK_own (bs : List Bool) (os : List Opd) (as : List Sl) (i : Nat) (d e : PyData) (l : L) : backK bs os as i d l (.own e) = backS bs os as (l.set i (.own d)) := rfl
@[simp] theorem backK_bor (bs : List Bool) (os : List Opd) (as : List Sl) (i : Nat) (d e : PyData) (l : L) : backK bs os as i d l (.bor e) = backS bs os as (l.set i (.bor d)) := rfl
def endK (bs : List Bool) (os : List Opd) (z : PyData × Bool) : Option L → R Opd
  | some l1 => if ((mutS bs os).isEmpty && pure0 z.1) = true then .ok (mkO z) l1 else (frzAll (lentS bs os) l1).th fun _ => rt (mkO z)
  | none => .stk
@[simp] theorem afterK_run (bs : List Bool) (os : List Opd) (l : L) (z : PyData × Bool) (as : List Sl) : afterK bs os l z as = endK bs os z (backS bs os as l) := rfl
@[simp] theorem endK_some (bs : List Bool) (os : List Opd) (z : PyData × Bool) (l1 : L) : endK bs os z (some l1) = if ((mutS bs os).isEmpty && pure0 z.1) = true then .ok (mkO z) l1 else (frzAll (lentS bs os) l1).th fun _ => rt (mkO z) := rfl
@[simp] theorem frzAll_nil (l : L) : frzAll [] l = .ok () l := rfl
@[simp] theorem frzAll_cons (i : Nat) (is : List Nat) (l : L) : frzAll (i :: is) l = (fzS (l.getD i .non) i l).th fun _ => frzAll is := rfl
@[simp] theorem pure0_none : pure0 .none = true := rfl
@[simp] theorem pure0_bool (b : Bool) : pure0 (.bool b) = true := rfl
@[simp] theorem pure0_int (b : Int) : pure0 (.int b) = true := rfl
@[simp] theorem pure0_str (b : Str) : pure0 (.str b) = true := rfl
@[simp] theorem pure0_list (b : List PyData) : pure0 (.list b) = false := rfl
@[simp] theorem pure0_tup (xs : List PyData) : pure0 (.tuple xs) = pure0s xs := by simp [pure0]
@[simp] theorem pure0s_nil : pure0s [] = true := by simp [pure0s]
@[simp] theorem pure0s_cons (x : PyData) (xs : List PyData) : pure0s (x :: xs) = (pure0 x && pure0s xs) := by simp [pure0s]
@[simp] theorem pure0s_ints (xs : List Int) : pure0s (xs.map .int) = true := by
  induction xs with
  | nil => simp
  | cons x xs ih => simp [ih]
@[simp] theorem pure0s_append (xs ys : List PyData) : pure0s (xs ++ ys) = (pure0s xs && pure0s ys) := by
  induction xs with
  | nil => simp
  | cons x xs ih => simp [ih, Bool.and_assoc]
@[simp] theorem mkF_run (n k : Nat) (b : C) (args : List Sl) : mkF n k b args = endF n (b (args ++ List.replicate (k - n) .non)) := rfl
@[simp] theorem endF_nx (n : Nat) (l : L) : endF n (.ok .nx l) = .ok (.none, false) (l.take n) := rfl
@[simp] theorem endF_v (n : Nat) (d : PyData) (l : L) : endF n (.ok (.rt (.v d)) l) = .ok (d, false) (l.take n) := rfl
@[simp] theorem endF_t (n : Nat) (d : PyData) (l : L) : endF n (.ok (.rt (.t d)) l) = .ok (d, true) (l.take n) := rfl
@[simp] theorem endF_err (n : Nat) (x : Exn) (l : L) : endF n (.err x l) = .err x (l.take n) := rfl
/-! operations -/
@[simp] theorem addD_i (i j : Int) : addD [.int i, .int j] = some (.int (i + j), false) := rfl
@[simp] theorem subD_i (i j : Int) : subD [.int i, .int j] = some (.int (i - j), false) := rfl
@[simp] theorem negD_i (i : Int) : negD [.int i] = some (.int (-i), false) := rfl
theorem addD_t (xs ys : List PyData) (h : xs.length + ys.length ≤ lim) : addD [.tuple xs, .tuple ys] = some (.tuple (xs ++ ys), false) := by simp [addD, h, rV]
theorem addD_l (xs ys : List PyData) (h : xs.length + ys.length ≤ lim) : addD [.list xs, .list ys] = some (.list (xs ++ ys), true) := by simp [addD, h, rT]
theorem mulD_i (i j : Int) (h : sm64 i = true ∨ sm64 j = true) : mulD [.int i, .int j] = some (.int (i * j), false) := by
  rcases h with h | h <;> simp [mulD, h, rI']
theorem sm64_of {i : Int} (h1 : -1000000 ≤ i) (h2 : i ≤ 1000000000000) : sm64 i = true := by
  unfold sm64
  simp only [Bool.and_eq_true, decide_eq_true_eq]
  omega
theorem mulD_of (i j : Int) (h1 : -1000000 ≤ i) (h2 : i ≤ 1000000000000) : mulD [.int i, .int j] = some (.int (i * j), false) := mulD_i i j (.inl (sm64_of h1 h2))
theorem mulD_of' (i j : Int) (h1 : -1000000 ≤ j) (h2 : j ≤ 1000000000000) : mulD [.int i, .int j] = some (.int (i * j), false) := mulD_i i j (.inr (sm64_of h1 h2))
theorem fdivD_i (i j : Int) (h : 0 < j) (h2 : j < 1073741824) : fdivD [.int i, .int j] = some (.int (i / j), false) := by
  simp [fdivD, h, h2, rI']
theorem modD_i (i j : Int) (h : 0 < j) : modD [.int i, .int j] = some (.int (i % j), false) := by simp [modD, h, rI']
theorem divmodD_i (i j : Int) (h : 0 < j) (h2 : j < 1073741824) : divmodD [.int i, .int j] = some (.tuple [.int (i / j), .int (i % j)], false) := by simp [divmodD, h, h2, rV]
@[simp] theorem ltD_i (i j : Int) : ltD [.int i, .int j] = some (.bool (decide (i < j)), false) := rfl
@[simp] theorem leD_i (i j : Int) : leD [.int i, .int j] = some (.bool (decide (i ≤ j)), false) := rfl
@[simp] theorem gtD_i (i j : Int) : gtD [.int i, .int j] = some (.bool (decide (j < i)), false) := rfl
@[simp] theorem geD_i (i j : Int) : geD [.int i, .int j] = some (.bool (decide (j ≤ i)), false) := rfl
@[simp] theorem eqv_i (i j : Int) : PyData.eqv (.int i) (.int j) = decide (i = j) := by
  by_cases h : i = j <;> simp [PyData.eqv, h]
@[simp] theorem eqD_i (i j : Int) : eqD [.int i, .int j] = some (.bool (decide (i = j)), false) := by
  show (if (dOk (.int i) || dOk (.int j)) && !isDict (.int i) && !isDict (.int j) then rB (PyData.eqv (.int i) (.int j)) else none) = _
  rw [eqv_i]
  simp [dOk, PyData.depth, isDict, rB]
@[simp] theorem neD_i (i j : Int) : neD [.int i, .int j] = some (.bool (!decide (i = j)), false) := by
  show (if (dOk (.int i) || dOk (.int j)) && !isDict (.int i) && !isDict (.int j) then rB (!PyData.eqv (.int i) (.int j)) else none) = _
  rw [eqv_i]
  simp [dOk, PyData.depth, isDict, rB]
@[simp] theorem lenX_l (xs : List PyData) : lenX [.list xs] = some (.int xs.length, false) := rfl
@[simp] theorem lenX_t (xs : List PyData) : lenX [.tuple xs] = some (.int xs.length, false) := rfl
@[simp] theorem intD_i (i : Int) : intD [.int i] = some (.int i, false) := rfl
@[simp] theorem isi_int (i : Int) : isiD ["int"] [.int i] = some (.bool true, false) := by kernel_rfl
@[simp] theorem isi_bool (i : Int) : isiD ["bool"] [.int i] = some (.bool false, false) := by kernel_rfl
@[simp] theorem absD_i (i : Int) : absD [.int i] = some (.int (if i < 0 then -i else i), false) := rfl
@[simp] theorem tupleD_l (xs : List PyData) : tupleD [.list xs] = some (.tuple xs, false) := rfl
@[simp] theorem tupleD_t (xs : List PyData) : tupleD [.tuple xs] = some (.tuple xs, false) := rfl
@[simp] theorem listX_l (xs : List PyData) : listX [.list xs] = some (.list xs, true) := rfl
@[simp] theorem listX_t (xs : List PyData) : listX [.tuple xs] = some (.list xs, true) := rfl
@[simp] theorem isN_int (i : Int) : isD false isNoneB [.int i] = some (.bool false, false) := rfl
@[simp] theorem isNn_int (i : Int) : isD true isNoneB [.int i] = some (.bool true, false) := rfl
theorem idxL {xs : List PyData} {i : Int} {d : PyData} (h : 0 ≤ i) (e : xs[i.toNat]? = some d) : idxX [.list xs, .int i] = some (d, false) := by
  have hl : i.toNat < xs.length := (List.getElem?_eq_some_iff.mp e).1
  have : ixOf xs.length i = some i.toNat := by
    unfold ixOf
    rw [if_pos h, if_pos (by omega)]
  show ((ixOf xs.length i).bind fun k => xs[k]?).map _ = _
  rw [this]
  simp [e]
theorem idxT {xs : List PyData} {i : Int} {d : PyData} (h : 0 ≤ i) (e : xs[i.toNat]? = some d) : idxX [.tuple xs, .int i] = some (d, false) := by
  have hl : i.toNat < xs.length := (List.getElem?_eq_some_iff.mp e).1
  have : ixOf xs.length i = some i.toNat := by
    unfold ixOf
    rw [if_pos h, if_pos (by omega)]
  show ((ixOf xs.length i).bind fun k => xs[k]?).map _ = _
  rw [this]
  simp [e]
end L2.DL
/-! DLa: comprehensions and loops, run -/
namespace L2.DL
open PySem
/-! what is walked -/
@[simp] theorem seqOf_l (xs : List PyData) : seqOf (.list xs) = some xs := rfl
@[simp] theorem seqOf_t (xs : List PyData) : seqOf (.tuple xs) = some xs := rfl
@[simp] theorem srcOf_s (i : Nat) : srcOf (.s i) = [i] := rfl
@[simp] theorem srcOf_v (d : PyData) : srcOf (.v d) = [] := rfl
@[simp] theorem srcOf_t (d : PyData) : srcOf (.t d) = [] := rfl
@[simp] theorem iSeq_run (m : M Opd) (l : L) : iSeq m l = (m l).th fun o => bd (readO o) fun d => bd (lft (seqOf d)) fun xs => rt ⟨xs, srcOf o, false⟩ := rfl
@[simp] theorem iRange_run (es : List (M Opd)) (l : L) : iRange es l = (evs es l).th fun os => bd (readAll os) fun ds => bd (lft (rangeOf ds)) fun xs => rt ⟨xs, [], false⟩ := rfl
@[simp] theorem iEnum_run (m : M Opd) (l : L) : iEnum m l = (m l).th fun o => bd (readO o) fun d => bd (lft (seqOf d)) fun xs => rt ⟨enumL 0 xs, srcOf o, true⟩ := rfl
@[simp] theorem iZip_run (es : List (M Opd)) (l : L) : iZip es l = (evs es l).th fun os => bd (readAll os) fun ds => bd (lft (zipOf ds)) fun xs => rt ⟨xs, os.flatMap srcOf, true⟩ := rfl
/-- range(n) -/
def upto (n : Nat) : List PyData := (List.range n).map fun k => .int (k : Nat)
def fromTo (a : Int) (n : Nat) : List PyData := (List.range n).map fun k => .int (a + (k : Nat))
theorem rangeL_one (a b : Int) : rangeL a b 1 = fromTo a (b - a).toNat := by
  unfold rangeL fromTo
  rw [if_pos (by decide)]
  simp only [Int.mul_one]
  have : (b - a + 1 - 1) / 1 = b - a := by omega
  rw [this]
theorem rangeOf1 {b : Int} (h1 : -1000000000000 ≤ b) (h2 : b ≤ 1000000000000) : rangeOf [.int b] = some (upto b.toNat) := by
  show (if small b then some (rangeL 0 b 1) else none) = _
  rw [if_pos (by unfold small; simp only [Bool.and_eq_true, decide_eq_true_eq]; omega), rangeL_one]
  unfold fromTo upto
  simp
theorem rangeOf2 {a b : Int} (h1 : -1000000000000 ≤ b) (h2 : b ≤ 1000000000000) (h3 : -1000000000000 ≤ a) (h4 : a ≤ 1000000000000) : rangeOf [.int a, .int b] = some (fromTo a (b - a).toNat) := by
  show (if small a && small b then some (rangeL a b 1) else none) = _
  rw [if_pos (by unfold small; simp only [Bool.and_eq_true, decide_eq_true_eq]; omega), rangeL_one]
/-! targets -/
@[simp] theorem asgT_nm (i : Nat) (d : PyData) (l : L) : asgT (.nm i) d l = setF i (.frz d) l := by simp [asgT]
@[simp] theorem asgT_tp (ts : List Tg) (ds : List PyData) (l : L) : asgT (.tp ts) (.tuple ds) l = if ts.length = ds.length then asgTs ts ds l else .stk := by
  simp only [asgT]
  split <;> rfl
@[simp] theorem asgTs_nil (l : L) : asgTs [] [] l = .ok () l := by simp [asgTs]
@[simp] theorem asgTs_cons (t : Tg) (ts : List Tg) (d : PyData) (ds : List PyData) (l : L) : asgTs (t :: ts) (d :: ds) l = (asgT t d l).th fun _ => asgTs ts ds := by simp [asgTs]
@[simp] theorem lockAll_nil (l : L) : lockAll [] l = .ok [] l := rfl
def lkS (s : Sl) (i : Nat) (l : L) : R Bool := match s with
  | .own d => .ok true (l.set i (.lck false d))
  | .bor d => .ok true (l.set i (.lck true d))
  | .lck _ _ => .ok false l
  | .frz _ => .ok false l
  | .non => .stk
@[simp] theorem lockAll_cons (i : Nat) (is : List Nat) (l : L) : lockAll (i :: is) l = (lkS (l.getD i .non) i l).th fun b => bd (lockAll is) fun js => rt (if b then i :: js else js) := rfl
@[simp] theorem lkS_own (d : PyData) (i : Nat) (l : L) : lkS (.own d) i l = .ok true (l.set i (.lck false d)) := rfl
@[simp] theorem lkS_frz (d : PyData) (i : Nat) (l : L) : lkS (.frz d) i l = .ok false l := rfl
@[simp] theorem lkS_bor (d : PyData) (i : Nat) (l : L) : lkS (.bor d) i l = .ok true (l.set i (.lck true d)) := rfl
/-! comprehensions -/
theorem bd_assoc {α β γ : Type} (m : M α) (f : α → M β) (g : β → M γ) (l : L) : bd m (fun a => bd (f a) g) l = (bd m f l).th g := by
  rw [bd_run, bd_run]
  cases m l <;> rfl
theorem compL_run {α : Type} {vs : List Nat} {tg : Tg} {t : M Bool} {e : M Opd} {l1 : L} (f : α → PyData) (p : α → Bool) (g : α → PyData) : ∀ (xs : List α) (acc : List PyData),
    (∀ x ∈ xs, ∃ l2 l3, asgT tg (f x) (wipeL vs l1) = .ok () l2 ∧ t l2 = .ok (p x) l3 ∧ (p x = false → wipeL vs l3 = wipeL vs l1) ∧ (p x = true → ∃ l4, bd e shareO l3 = .ok (g x) l4 ∧ wipeL vs l4 = wipeL vs l1)) →
    compL vs tg t e (xs.map f) acc (wipeL vs l1) = .ok (acc.reverse ++ (xs.filter p).map g) (wipeL vs l1)
  | [], acc, _ => by simp [compL]
  | x :: xs, acc, h => by
    obtain ⟨l2, l3, h1, h2, h3, h4⟩ := h x (by simp)
    have ih := fun acc => compL_run f p g xs acc fun y hy => h y (by simp [hy])
    rw [List.map_cons]
    unfold compL
    rw [bd_run, h1, th_ok, bd_run, h2, th_ok]
    cases hp : p x with
    | true =>
      obtain ⟨l4, h5, h6⟩ := h4 hp
      show (bd e fun o => bd (shareO o) fun d => bd (wipeM vs) fun _ => compL vs tg t e (xs.map f) (d :: acc)) l3 = _
      rw [bd_assoc, h5, th_ok]
      show compL vs tg t e (xs.map f) (g x :: acc) (wipeL vs l4) = _
      rw [h6, ih]
      simp [hp]
    | false =>
      show compL vs tg t e (xs.map f) acc (wipeL vs l3) = _
      rw [h3 hp, ih]
      simp [hp]
/-- a comprehension that changes no slot -/
theorem comp_run {α : Type} {vs : List Nat} {tg : Tg} {it : M Its} {t : M Bool} {e : M Opd} {l l1 : L} {xs : List α} {src js : List Nat} {pl : Bool} (f : α → PyData) (p : α → Bool) (g : α → PyData) (hx : it l = .ok ⟨xs.map f, src, pl⟩ l) (hlen : xs.length ≤ lim)
    (hf : tg.fits pl = true ∧ tg.slots.all vs.contains = true) (hk : lockAll src l = .ok js l1) (hb : unlockL js (backL vs l1 (wipeL vs l1)) = l)
    (body : ∀ x ∈ xs, ∃ l2 l3, asgT tg (f x) (wipeL vs l1) = .ok () l2 ∧ t l2 = .ok (p x) l3 ∧ (p x = false → wipeL vs l3 = wipeL vs l1) ∧ (p x = true → ∃ l4, bd e shareO l3 = .ok (g x) l4 ∧ wipeL vs l4 = wipeL vs l1)) :
    eComp vs tg it t e l = .ok (.t (.list ((xs.filter p).map g))) l := by
  unfold eComp
  rw [bd_run, hx, th_ok, if_pos ⟨by rw [List.length_map]; exact hlen, hf.1, hf.2⟩, bd_run, hk, th_ok, compL_run f p g xs [] body]
  show R.ok _ _ = _
  rw [hb]
  simp
/-- one name -/
theorem comp1_if {α : Type} {i : Nat} {it : M Its} {t : M Bool} {e : M Opd} {l : L} {xs : List α} {src js : List Nat} (l1 : L) (f : α → PyData) (p : α → Bool) (g : α → PyData) (hx : it l = .ok ⟨xs.map f, src, false⟩ l) (hlen : xs.length ≤ lim)
    (hi : i < l1.length) (hk : lockAll src l = .ok js l1) (hb : unlockL js (backL [i] l1 (wipeL [i] l1)) = l)
    (ht : ∀ x ∈ xs, t (l1.set i (.frz (f x))) = .ok (p x) (l1.set i (.frz (f x)))) (he : ∀ x ∈ xs, p x = true → bd e shareO (l1.set i (.frz (f x))) = .ok (g x) (l1.set i (.frz (f x)))) :
    eComp [i] (.nm i) it t e l = .ok (.t (.list ((xs.filter p).map g))) l := by
  have w1 : wipeL [i] l1 = l1.set i .non := rfl
  have w2 : ∀ s, wipeL [i] (l1.set i s) = l1.set i .non := fun s => by
    show (l1.set i s).set i .non = _
    rw [List.set_set]
  refine comp_run f p g hx hlen ⟨rfl, by simp [Tg.slots]⟩ hk hb fun x hx => ?_
  refine ⟨l1.set i (.frz (f x)), l1.set i (.frz (f x)), ?_, ht x hx, fun _ => by rw [w1, w2], fun hp => ⟨_, he x hx hp, by rw [w1, w2]⟩⟩
  rw [asgT_nm, setF_run, w1, if_pos (by simpa using hi)]
  have : (l1.set i .non).getD i .non = .non := by
    rw [List.getD_eq_getElem?_getD, List.getElem?_set_self hi]
    rfl
  rw [this, stS_non, List.set_set]
theorem comp1 {α : Type} {i : Nat} {it : M Its} {e : M Opd} {l : L} {xs : List α} {src js : List Nat} (l1 : L) (f g : α → PyData) (hx : it l = .ok ⟨xs.map f, src, false⟩ l) (hlen : xs.length ≤ lim)
    (hi : i < l1.length) (hk : lockAll src l = .ok js l1) (hb : unlockL js (backL [i] l1 (wipeL [i] l1)) = l)
    (he : ∀ x ∈ xs, bd e shareO (l1.set i (.frz (f x))) = .ok (g x) (l1.set i (.frz (f x)))) :
    eComp [i] (.nm i) it (rt true) e l = .ok (.t (.list (xs.map g))) l := by
  have h := comp1_if (t := rt true) (e := e) l1 f (fun _ => true) g hx hlen hi hk hb (fun _ _ => rfl) fun x hx _ => he x hx
  rw [h, List.filter_eq_self.mpr fun _ _ => rfl]
/-! loops -/
theorem forL_inv {tg : Tg} {b : C} (I : Nat → L → Prop) : ∀ (xs : List PyData) (k0 : Nat) (l : L), I k0 l →
    (∀ k l (h : k < xs.length), I (k0 + k) l → ∃ l2 f l3, asgT tg xs[k] l = .ok () l2 ∧ b l2 = .ok f l3 ∧ (f = .nx ∨ f = .ct) ∧ I (k0 + k + 1) l3) → ∃ l', forL tg b xs l = .ok .nx l' ∧ I (k0 + xs.length) l'
  | [], k0, l, h0, _ => ⟨l, rfl, h0⟩
  | x :: xs, k0, l, h0, hs => by
    obtain ⟨l2, f, l3, h1, h2, h3, h4⟩ := hs 0 l (by simp) h0
    obtain ⟨l', h5, h6⟩ := forL_inv I xs (k0 + 1) l3 h4 fun k l h hI => by
      have := hs (k + 1) l (by simpa using h) (by rw [show k0 + (k + 1) = k0 + 1 + k by omega]; exact hI)
      rw [show k0 + (k + 1) + 1 = k0 + 1 + k + 1 by omega] at this
      exact this
    refine ⟨l', ?_, by rw [List.length_cons, show k0 + (xs.length + 1) = k0 + 1 + xs.length by omega]; exact h6⟩
    unfold forL
    have h1' : asgT tg x l = .ok () l2 := h1
    rw [bd_run, h1', th_ok, bd_run, h2, th_ok]
    rcases h3 with h3 | h3 <;> subst h3 <;> exact h5
/-- a for that is walked to its end -/
theorem for_inv {tg : Tg} {it : M Its} {b : C} {l l1 : L} {xs : List PyData} {src js : List Nat} {pl : Bool} (I : Nat → L → Prop) (hx : it l = .ok ⟨xs, src, pl⟩ l) (hf : tg.fits pl = true) (hk : lockAll src l = .ok js l1) (h0 : I 0 l1)
    (hs : ∀ k l (h : k < xs.length), I k l → ∃ l2 f l3, asgT tg xs[k] l = .ok () l2 ∧ b l2 = .ok f l3 ∧ (f = .nx ∨ f = .ct) ∧ I (k + 1) l3) : ∃ l', sFor tg it b l = .ok .nx (unlockL js l') ∧ I xs.length l' := by
  obtain ⟨l', h1, h2⟩ := forL_inv (tg := tg) (b := b) I xs 0 l1 h0 fun k l h hI => by
    have := hs k l h (by simpa using hI)
    simpa using this
  refine ⟨l', ?_, by simpa using h2⟩
  unfold sFor
  rw [bd_run, hx, th_ok, if_pos hf, bd_run, hk, th_ok]
  show thenU js (forL tg b xs) l1 = _
  unfold thenU
  rw [h1]
@[simp] theorem unlockL_nil (l : L) : unlockL [] l = l := rfl
theorem whL_inv {t : M Bool} {b : C} (I : Nat → L → Prop) (Z : L → Prop) (hs : ∀ n l, I n l → (∃ l2, t l = .ok false l2 ∧ Z l2) ∨ ∃ l2 f l3 n', t l = .ok true l2 ∧ b l2 = .ok f l3 ∧ (f = .nx ∨ f = .ct) ∧ n' < n ∧ I n' l3) : ∀ (fu n : Nat) (l : L), n < fu → I n l → ∃ l', whL t b fu l = .ok .nx l' ∧ Z l'
  | 0, n, l, h, _ => absurd h (Nat.not_lt_zero _)
  | fu + 1, n, l, h, hI => by
    rcases hs n l hI with ⟨l2, h1, h2⟩ | ⟨l2, f, l3, n', h1, h2, h3, h4, h5⟩
    · refine ⟨l2, ?_, h2⟩
      unfold whL
      rw [bd_run, h1]
      rfl
    · obtain ⟨l', h6, h7⟩ := whL_inv I Z hs fu n' l3 (by omega) h5
      refine ⟨l', ?_, h7⟩
      unfold whL
      rw [bd_run, h1]
      show (bd b _) l2 = _
      rw [bd_run, h2, th_ok]
      rcases h3 with h3 | h3 <;> subst h3 <;> exact h6
theorem while_inv {t : M Bool} {b : C} {l : L} (I : Nat → L → Prop) (Z : L → Prop) (n : Nat) (hn : n < fuel) (h0 : I n l) (hs : ∀ n l, I n l → (∃ l2, t l = .ok false l2 ∧ Z l2) ∨ ∃ l2 f l3 n', t l = .ok true l2 ∧ b l2 = .ok f l3 ∧ (f = .nx ∨ f = .ct) ∧ n' < n ∧ I n' l3) : ∃ l', sWh t b l = .ok .nx l' ∧ Z l' :=
  whL_inv I Z hs fuel n l hn h0
/-! lists of ints and of bools -/
theorem intsOf_map : ∀ ns : List Int, intsOf (ns.map .int) = some ns
  | [] => rfl
  | n :: ns => by
    show (intsOf (ns.map .int)).map _ = _
    rw [intsOf_map ns]
    rfl
theorem boolsOf_map {α : Type} (p : α → Bool) : ∀ xs : List α, boolsOf (xs.map fun x => .bool (p x)) = some (xs.map p)
  | [] => rfl
  | x :: xs => by
    show (boolsOf (xs.map fun x => .bool (p x))).map _ = _
    rw [boolsOf_map p xs]
    rfl
theorem allD_map {α : Type} (p : α → Bool) (xs : List α) : allD [.list (xs.map fun x => .bool (p x))] = some (.bool (xs.all p), false) := by
  show (boolsOf (xs.map fun x => .bool (p x))).map _ = _
  rw [boolsOf_map p xs]
  simp [List.all_map, Function.comp_def]
theorem anyD_map {α : Type} (p : α → Bool) (xs : List α) : anyD [.list (xs.map fun x => .bool (p x))] = some (.bool (xs.any p), false) := by
  show (boolsOf (xs.map fun x => .bool (p x))).map _ = _
  rw [boolsOf_map p xs]
  simp [List.any_map, Function.comp_def]
theorem sumD_ints (ns : List Int) : sumD [.list (ns.map .int)] = some (.int ns.sum, false) := by
  show (intsOf (ns.map .int)).map _ = _
  rw [intsOf_map]
  rfl
theorem lenSet_l (ns : List Int) (h : ns.length ≤ 4000) : lenSetD [.list (ns.map .int)] = some (.int (dedup ns).length, false) := by
  show (match intsOf (ns.map .int) with | some ns => if ns.length ≤ 4000 then rI' ((dedup ns).length : Nat) else none | none => none) = _
  rw [intsOf_map]
  show (if ns.length ≤ 4000 then _ else _) = _
  rw [if_pos h]
  rfl
theorem lenSet_t (ns : List Int) (h : ns.length ≤ 4000) : lenSetD [.tuple (ns.map .int)] = some (.int (dedup ns).length, false) := by
  show (match intsOf (ns.map .int) with | some ns => if ns.length ≤ 4000 then rI' ((dedup ns).length : Nat) else none | none => none) = _
  rw [intsOf_map]
  show (if ns.length ≤ 4000 then _ else _) = _
  rw [if_pos h]
  rfl
@[simp] theorem isi_tup (xs : List PyData) : isiD ["tuple"] [.tuple xs] = some (.bool true, false) := by kernel_rfl
@[simp] theorem isi_lt (xs : List PyData) : isiD ["list", "tuple"] [.list xs] = some (.bool true, false) := by kernel_rfl
@[simp] theorem isi_lt2 (xs : List PyData) : isiD ["list", "tuple"] [.tuple xs] = some (.bool true, false) := by kernel_rfl
theorem mem_ints {ns : List Int} {x : PyData} (h : x ∈ ns.map PyData.int) : ∃ i, i ∈ ns ∧ x = .int i := by
  obtain ⟨i, h1, h2⟩ := List.mem_map.mp h
  exact ⟨i, h1, h2.symm⟩
end L2.DL
/-! DLk: the combinators again, by raw recursors: the kernel runs these some eight times as fast -/
noncomputable section
namespace L2.DL
open PySem
section
variable {α β : Type}
def thR (r : R α) (f : α → L → R β) : R β := R.rec (motive := fun _ => R β) f (fun x l => .err x l) .stk r
theorem thR_eq (r : R α) (f : α → M β) : thR r f = r.th f := by cases r <;> rfl
def getR (l : L) : Nat → Sl := List.rec (motive := fun _ => Nat → Sl) (fun _ => .non) (fun s _ ih n => Nat.rec (motive := fun _ => Sl) s (fun n _ => ih n) n) l
theorem getR_eq : ∀ (l : L) (n : Nat), getR l n = l.getD n .non
  | [], _ => rfl
  | _ :: _, 0 => rfl
  | _ :: l, n + 1 => by
    show getR l n = _
    rw [getR_eq l n]
    rfl
/-- the slot's content put in, where it may be -/
def setK (l : L) : Nat → Sl → (L → R β) → R β :=
  List.rec (motive := fun _ => Nat → Sl → (L → R β) → R β) (fun _ _ _ => .stk)
    (fun s t ih n x k => Nat.rec (motive := fun _ => R β) (Sl.rec (motive := fun _ => R β) (k (x :: t)) (fun _ => k (x :: t)) (fun _ => k (x :: t)) (fun _ => .stk) (fun b _ => Bool.rec (motive := fun _ => R β) (k (x :: t)) .stk b) s) (fun n _ => ih n x fun t' => k (s :: t')) n) l
theorem setK_eq : ∀ (l : L) (n : Nat) (x : Sl) (k : L → R β), setK l n x k = (setF n x l).th fun _ => k
  | [], n, x, k => rfl
  | s :: l, 0, x, k => by
    rw [setF_run, if_pos (by simp)]
    cases s with
    | lck b d => cases b <;> rfl
    | _ => rfl
  | s :: l, n + 1, x, k => by
    show setK l n x (fun t' => k (s :: t')) = _
    rw [setK_eq l n x, setF_run, setF_run]
    by_cases h : n < l.length
    · rw [if_pos h, if_pos (by simp; omega)]
      show _ = (stS (l.getD n .non) (n + 1) x (s :: l)).th _
      cases l.getD n .non with
      | lck b d => cases b <;> rfl
      | _ => rfl
    · rw [if_neg h, if_neg (by simp; omega)]
      rfl
end
def eVf (i : Nat) : M Opd := fun l => Sl.rec (motive := fun _ => R Opd) .stk (fun d => .ok (.v d) l) (fun _ => .ok (.s i) l) (fun _ => .ok (.s i) l) (fun _ _ => .ok (.s i) l) (getR l i)
theorem eVf_eq (i : Nat) : eV i = eVf i := by
  funext l
  rw [eV_run]
  unfold eVf
  rw [getR_eq]
  cases l.getD i .non <;> rfl
def mkR (z : PyData × Bool) : Opd := Prod.rec (motive := fun _ => Opd) (fun d b => Bool.rec (motive := fun _ => Opd) (.v d) (.t d) b) z
theorem mkR_eq (z : PyData × Bool) : mkR z = mkO z := by
  obtain ⟨d, b⟩ := z
  cases b <;> rfl
/-- what an operand reads -/
def rdK {β : Type} (o : Opd) (l : L) (k : PyData → R β) : R β := Opd.rec (motive := fun _ => R β) k k (fun i => Sl.rec (motive := fun _ => R β) .stk k k k (fun _ => k) (getR l i)) o
theorem rdK_ok {β : Type} {o : Opd} {l : L} {d : PyData} (h : readO o l = .ok d l) (k : PyData → R β) : rdK o l k = k d := by
  cases o with
  | v d' => cases h; rfl
  | t d' => cases h; rfl
  | s i =>
    rw [readO_s] at h
    show @Sl.rec (fun _ => R β) _ _ _ _ _ (getR l i) = _
    rw [getR_eq]
    revert h
    cases l.getD i .non <;> intro h <;> first | (cases h; done) | (cases h; rfl)
theorem rdK_stk {β : Type} {o : Opd} {l : L} (h : readO o l = .stk) (k : PyData → R β) : rdK o l k = .stk := by
  cases o with
  | v d' => cases h
  | t d' => cases h
  | s i =>
    rw [readO_s] at h
    show @Sl.rec (fun _ => R β) _ _ _ _ _ (getR l i) = _
    rw [getR_eq]
    revert h
    cases l.getD i .non <;> intro h <;> first | (cases h; done) | rfl
theorem readO_same (o : Opd) (l : L) : (∃ d, readO o l = .ok d l) ∨ readO o l = .stk := by
  rcases readO_cases (l := l) o with ⟨d, _, h⟩ | h
  · exact .inl ⟨d, h⟩
  · exact .inr h
def opK {β : Type} (z : Option (PyData × Bool)) (k : PyData × Bool → R β) : R β := Option.rec (motive := fun _ => R β) .stk k z
theorem opK_eq {β : Type} (z : Option (PyData × Bool)) (l : L) (k : PyData × Bool → M β) : opK z (fun z => k z l) = (lft z l).th k := by cases z <;> rfl
def op1 (f : List PyData → Option (PyData × Bool)) (a : M Opd) : M Opd := fun l => thR (a l) fun o1 l1 => rdK o1 l1 fun d1 => opK (f [d1]) fun z => .ok (mkR z) l1
theorem op1_eq (f : List PyData → Option (PyData × Bool)) (a : M Opd) : eOps f [a] = op1 f a := by
  funext l
  rw [eOps_run, evs_cons]
  unfold op1
  cases a l with
  | err _ _ => rfl
  | stk => rfl
  | ok o1 l1 =>
    simp only [th_ok, bd_run, evs_nil, rt_run, readAll_cons, readAll_nil]
    show _ = rdK o1 l1 _
    rcases readO_same o1 l1 with ⟨d1, h1⟩ | h1
    · rw [rdK_ok h1, h1]
      simp only [th_ok, bd_run, readAll_nil, rt_run]
      cases f [d1] with
      | none => rfl
      | some z => simp only [lft_some, th_ok, ← mkR_eq]; rfl
    · rw [rdK_stk h1, h1]; rfl
def op2 (f : List PyData → Option (PyData × Bool)) (a b : M Opd) : M Opd := fun l => thR (a l) fun o1 l1 => thR (b l1) fun o2 l2 => rdK o1 l2 fun d1 => rdK o2 l2 fun d2 => opK (f [d1, d2]) fun z => .ok (mkR z) l2
theorem op2_eq (f : List PyData → Option (PyData × Bool)) (a b : M Opd) : eOps f [a, b] = op2 f a b := by
  funext l
  rw [eOps_run, evs_cons]
  unfold op2
  cases a l with
  | err _ _ => rfl
  | stk => rfl
  | ok o1 l1 =>
    simp only [th_ok, bd_run, evs_cons, evs_nil, rt_run]
    show _ = thR (b l1) _
    cases b l1 with
    | err _ _ => rfl
    | stk => rfl
    | ok o2 l2 =>
      simp only [th_ok, bd_run, evs_nil, rt_run, readAll_cons, readAll_nil]
      show _ = rdK o1 l2 _
      rcases readO_same o1 l2 with ⟨d1, h1⟩ | h1
      · rw [rdK_ok h1, h1]
        simp only [th_ok, bd_run, readAll_cons, readAll_nil, rt_run]
        rcases readO_same o2 l2 with ⟨d2, h2⟩ | h2
        · rw [rdK_ok h2, h2]
          simp only [th_ok, bd_run, rt_run, readAll_nil]
          cases f [d1, d2] with
          | none => rfl
          | some z => simp only [lft_some, th_ok, ← mkR_eq]; rfl
        · rw [rdK_stk h2, h2]; rfl
      · rw [rdK_stk h1, h1]; rfl
/-! tests -/
def pickR {α : Type} (k : Bool) (a b : R α) : R α := Bool.rec (motive := fun _ => R α) b a k
theorem pickR_eq {α : Type} (k : Bool) (a b : M α) (l : L) : pickR k (a l) (b l) = pick k a b l := by cases k <;> rfl
def tBf (m : M Opd) : M Bool := fun l => thR (m l) fun o l1 => Opd.rec (motive := fun _ => R Bool) (fun d => boolO (.v d) l1) (fun _ => .stk) (fun _ => .stk) o
theorem tBf_eq (m : M Opd) : tB' m = tBf m := by
  funext l
  rw [tB_run]
  unfold tBf
  cases m l with
  | ok o l1 => cases o <;> rfl
  | err _ _ => rfl
  | stk => rfl
def tOff (m : M Opd) : M Bool := fun l => thR (m l) fun o l1 => rdK o l1 fun d => Option.rec (motive := fun _ => R Bool) .stk (fun k => .ok k l1) (truth d)
theorem tOff_eq (m : M Opd) : tOf m = tOff m := by
  funext l
  rw [tOf_run]
  unfold tOff
  cases m l with
  | ok o l1 =>
    simp only [th_ok, bd_run]
    show _ = rdK o l1 _
    rcases readO_same o l1 with ⟨d, h⟩ | h
    · rw [rdK_ok h, h]
      simp only [th_ok]
      cases truth d <;> rfl
    · rw [rdK_stk h, h]; rfl
  | err _ _ => rfl
  | stk => rfl
def tNotf (a : M Bool) : M Bool := fun l => thR (a l) fun k l1 => .ok (Bool.rec (motive := fun _ => Bool) true false k) l1
theorem tNotf_eq (a : M Bool) : DL.tNot a = tNotf a := by
  funext l
  rw [tNot_run]
  unfold tNotf
  cases a l with
  | ok k l1 => cases k <;> rfl
  | err _ _ => rfl
  | stk => rfl
def tAndf (a b : M Bool) : M Bool := fun l => thR (a l) fun k l1 => Bool.rec (motive := fun _ => R Bool) (.ok false l1) (b l1) k
theorem tAndf_eq (a b : M Bool) : DL.tAnd a b = tAndf a b := by
  funext l
  rw [tAnd_run]
  unfold tAndf
  cases a l with
  | ok k l1 => cases k <;> rfl
  | err _ _ => rfl
  | stk => rfl
def tOrf (a b : M Bool) : M Bool := fun l => thR (a l) fun k l1 => Bool.rec (motive := fun _ => R Bool) (b l1) (.ok true l1) k
theorem tOrf_eq (a b : M Bool) : DL.tOr a b = tOrf a b := by
  funext l
  rw [tOr_run]
  unfold tOrf
  cases a l with
  | ok k l1 => cases k <;> rfl
  | err _ _ => rfl
  | stk => rfl
def tItef {α : Type} (t : M Bool) (a b : M α) : M α := fun l => thR (t l) fun k l1 => Bool.rec (motive := fun _ => R α) (b l1) (a l1) k
theorem tItef_eq {α : Type} (t : M Bool) (a b : M α) : tIte t a b = tItef t a b := by
  funext l
  rw [tIte_run]
  unfold tItef
  cases t l with
  | ok k l1 => cases k <;> rfl
  | err _ _ => rfl
  | stk => rfl
theorem sIff_eq (t : M Bool) (a b : C) : sIf t a b = tItef t a b := tItef_eq t a b
/-! statements -/
def sqf (a b : C) : C := fun l => thR (a l) fun f l1 => Fl.rec (motive := fun _ => R Fl) (b l1) (fun o => .ok (.rt o) l1) (.ok .bk l1) (.ok .ct l1) f
theorem sqf_eq (a b : C) : sq a b = sqf a b := by
  funext l
  rw [sq_run]
  unfold sqf
  cases a l with
  | ok f l1 => cases f <;> rfl
  | err _ _ => rfl
  | stk => rfl
def asgf (i : Nat) (e : M Opd) : C := fun l => thR (e l) fun o l1 => Opd.rec (motive := fun _ => R Fl) (fun d => setK l1 i (.frz d) fun l2 => .ok .nx l2) (fun d => setK l1 i (.own d) fun l2 => .ok .nx l2) (fun j => sAsg (.nm i) (rt (.s j)) l1) o
theorem asgf_eq (i : Nat) (e : M Opd) : sAsg (.nm i) e = asgf i e := by
  funext l
  rw [sAsg_run]
  unfold asgf
  cases e l with
  | ok o l1 =>
    cases o with
    | v d =>
      show _ = setK l1 i (.frz d) fun l2 => R.ok Fl.nx l2
      rw [setK_eq]
      simp only [th_ok, bd_run, asgA_nm, normO_v, slOf_v]
      rfl
    | t d =>
      show _ = setK l1 i (.own d) fun l2 => R.ok Fl.nx l2
      rw [setK_eq]
      simp only [th_ok, bd_run, asgA_nm, normO_t, slOf_t]
      rfl
    | s j => rfl
  | err _ _ => rfl
  | stk => rfl
def sExf (m : M Opd) : C := fun l => thR (m l) fun _ l1 => .ok .nx l1
theorem sExf_eq (m : M Opd) : sEx m = sExf m := by
  funext l
  rw [sEx_run]
  unfold sExf
  cases m l <;> rfl
def forLf (tg : Nat) (b : C) (xs : List PyData) : C := List.rec (motive := fun _ => C) (fun l => .ok .nx l) (fun x _ ih l => setK l tg (.frz x) fun l1 => thR (b l1) fun f l2 => Fl.rec (motive := fun _ => R Fl) (ih l2) (fun o => .ok (.rt o) l2) (.ok .nx l2) (ih l2) f) xs
theorem forLf_eq (tg : Nat) (b : C) : ∀ xs, forL (.nm tg) b xs = forLf tg b xs
  | [] => rfl
  | x :: xs => by
    funext l
    show (bd (asgT (.nm tg) x) fun _ => bd b fun f => _) l = setK l tg (.frz x) _
    rw [setK_eq, bd_run, asgT_nm]
    cases setF tg (.frz x) l with
    | err _ _ => rfl
    | stk => rfl
    | ok _ l1 =>
      show bd b _ l1 = thR (b l1) _
      rw [bd_run]
      cases b l1 with
      | err _ _ => rfl
      | stk => rfl
      | ok f l2 =>
        have ih := congrFun (forLf_eq tg b xs) l2
        cases f with
        | nx => exact ih
        | ct => exact ih
        | bk => rfl
        | rt o => rfl
def forf (tg : Nat) (it : M Its) (b : C) : C := fun l => thR (it l) fun xs l1 => Bool.rec (motive := fun _ => R Fl) (List.rec (motive := fun _ => R Fl) (forLf tg b xs.xs l1) (fun _ _ _ => sFor (.nm tg) (rt xs) b l1) xs.src) .stk xs.pl
theorem forf_eq (tg : Nat) (it : M Its) (b : C) : sFor (.nm tg) it b = forf tg it b := by
  funext l
  unfold sFor forf
  rw [bd_run]
  cases it l with
  | err _ _ => rfl
  | stk => rfl
  | ok xs l1 =>
    obtain ⟨ys, src, pl⟩ := xs
    cases pl with
    | true => rfl
    | false =>
      cases src with
      | nil =>
        show thenU [] (forL (.nm tg) b ys) l1 = forLf tg b ys l1
        unfold thenU
        rw [forLf_eq]
        cases forLf tg b ys l1 <;> rfl
      | cons _ _ => rfl
def whf (t : M Bool) (b : C) (n : Nat) : C := Nat.rec (motive := fun _ => C) (fun _ => .stk) (fun _ ih l => thR (t l) fun k l1 => Bool.rec (motive := fun _ => R Fl) (.ok .nx l1) (thR (b l1) fun f l2 => Fl.rec (motive := fun _ => R Fl) (ih l2) (fun o => .ok (.rt o) l2) (.ok .nx l2) (ih l2) f) k) n
theorem whf_eq' (t : M Bool) (b : C) : ∀ n, whL t b n = whf t b n
  | 0 => rfl
  | n + 1 => by
    funext l
    show bd t _ l = thR (t l) _
    rw [bd_run]
    cases t l with
    | err _ _ => rfl
    | stk => rfl
    | ok k l1 =>
      cases k with
      | false => rfl
      | true =>
        show bd b _ l1 = thR (b l1) _
        rw [bd_run]
        cases b l1 with
        | err _ _ => rfl
        | stk => rfl
        | ok f l2 =>
          have ih := congrFun (whf_eq' t b n) l2
          cases f with
          | nx => exact ih
          | ct => exact ih
          | bk => rfl
          | rt o => rfl
theorem whf_eq (t : M Bool) (b : C) : sWh t b = whf t b fuel := whf_eq' t b fuel
/-! operands in a row -/
def evK {β : Type} (es : List (M Opd)) : L → (List Opd → L → R β) → R β := List.rec (motive := fun _ => L → (List Opd → L → R β) → R β) (fun l k => k [] l) (fun m _ ih l k => thR (m l) fun o l1 => ih l1 fun os l2 => k (o :: os) l2) es
theorem evK_eq {β : Type} : ∀ (es : List (M Opd)) (l : L) (k : List Opd → M β), evK es l k = (evs es l).th k
  | [], l, k => rfl
  | m :: es, l, k => by
    show thR (m l) (fun o l1 => evK es l1 fun os l2 => k (o :: os) l2) = _
    rw [evs_cons]
    cases m l with
    | err _ _ => rfl
    | stk => rfl
    | ok o l1 =>
      show evK es l1 (fun os l2 => k (o :: os) l2) = _
      rw [evK_eq es l1 fun os => k (o :: os)]
      simp only [th_ok, bd_run]
      cases evs es l1 <;> rfl
/-- all are values -/
def allV (os : List Opd) : Option (List PyData) := List.rec (motive := fun _ => Option (List PyData)) (some []) (fun o _ ih => Opd.rec (motive := fun _ => Option (List PyData)) (fun d => Option.rec (motive := fun _ => Option (List PyData)) none (fun ds => some (d :: ds)) ih) (fun _ => none) (fun _ => none) o) os
theorem allV_eq : ∀ {os : List Opd} {ds : List PyData}, allV os = some ds → os = ds.map .v
  | [], ds, h => by cases h; rfl
  | o :: os, ds, h => by
    cases o with
    | t _ => cases h
    | s _ => cases h
    | v d =>
      have h : (Option.rec (motive := fun _ => Option (List PyData)) none (fun ds => some (d :: ds)) (allV os) : Option (List PyData)) = some ds := h
      cases e : allV os with
      | none => rw [e] at h; cases h
      | some es =>
        rw [e] at h
        cases h
        rw [allV_eq e]
        rfl
def tupf (es : List (M Opd)) : M Opd := fun l => evK es l fun os l1 => Option.rec (motive := fun _ => R Opd) ((shareAll os l1).th fun ds => rt (.v (.tuple ds))) (fun ds => .ok (.v (.tuple ds)) l1) (allV os)
theorem share_v : ∀ (ds : List PyData) (l : L), shareAll (ds.map .v) l = .ok ds l
  | [], l => rfl
  | d :: ds, l => by
    rw [List.map_cons, shareAll_cons, shareO_v, th_ok, bd_run, share_v ds l]
    rfl
theorem tupf_eq (es : List (M Opd)) : eTup es = tupf es := by
  funext l
  rw [eTup_run]
  unfold tupf
  rw [evK_eq es l fun os l1 => Option.rec (motive := fun _ => R Opd) ((shareAll os l1).th fun ds => rt (.v (.tuple ds))) (fun ds => .ok (.v (.tuple ds)) l1) (allV os)]
  cases evs es l with
  | err _ _ => rfl
  | stk => rfl
  | ok os l1 =>
    simp only [th_ok, bd_run]
    cases e : allV os with
    | none => rfl
    | some ds =>
      rw [allV_eq e, share_v]
      rfl
def lstf (es : List (M Opd)) : M Opd := fun l => evK es l fun os l1 => Option.rec (motive := fun _ => R Opd) ((shareAll os l1).th fun ds => rt (.t (.list ds))) (fun ds => .ok (.t (.list ds)) l1) (allV os)
theorem lstf_eq (es : List (M Opd)) : eLst es = lstf es := by
  funext l
  rw [eLst_run]
  unfold lstf
  rw [evK_eq es l fun os l1 => Option.rec (motive := fun _ => R Opd) ((shareAll os l1).th fun ds => rt (.t (.list ds))) (fun ds => .ok (.t (.list ds)) l1) (allV os)]
  cases evs es l with
  | err _ _ => rfl
  | stk => rfl
  | ok os l1 =>
    simp only [th_ok, bd_run]
    cases e : allV os with
    | none => rfl
    | some ds =>
      rw [allV_eq e, share_v]
      rfl
/-! calls -/
def frzR (ds : List PyData) : List Sl := List.rec (motive := fun _ => List Sl) [] (fun d _ ih => .frz d :: ih) ds
theorem frzR_eq : ∀ ds : List PyData, frzR ds = ds.map .frz
  | [] => rfl
  | d :: ds => by
    show Sl.frz d :: frzR ds = _
    rw [frzR_eq ds]
    rfl
def sameL {α β : Type} (as : List α) : List β → Bool := List.rec (motive := fun _ => List β → Bool) (fun bs => List.rec (motive := fun _ => Bool) true (fun _ _ _ => false) bs) (fun _ _ ih bs => List.rec (motive := fun _ => Bool) false (fun _ t _ => ih t) bs) as
theorem sameL_eq {α β : Type} : ∀ (as : List α) (bs : List β), sameL as bs = decide (as.length = bs.length)
  | [], [] => by simp; rfl
  | [], _ :: _ => by simp; rfl
  | _ :: _, [] => by simp; rfl
  | a :: as, b :: bs => by
    show sameL as bs = _
    rw [sameL_eq as bs]
    simp
def callF (f : FSem) (bs : List Bool) (es : List (M Opd)) : M Opd := fun l => evK es l fun os l1 => Option.rec (motive := fun _ => R Opd) (callM f bs os l1)
  (fun ds => Bool.rec (motive := fun _ => R Opd) .stk (R.rec (motive := fun _ => R Opd) (fun z as => Bool.rec (motive := fun _ => R Opd) .stk (.ok (mkR z) l1) (sameL as bs)) (fun x as => Bool.rec (motive := fun _ => R Opd) .stk (.err x l1) (sameL as bs)) .stk (f (frzR ds))) (sameL ds bs)) (allV os)
theorem call_facts : ∀ (bs : List Bool) (ds : List PyData), bs.all (fun b => !b) = true → mutS bs (ds.map .v) = [] ∧ lentS bs (ds.map .v) = [] ∧ (∀ l, argsOf l bs (ds.map .v) = if ds.length = bs.length then some (ds.map .frz) else none) ∧ ∀ as l, ds.length = bs.length → backS bs (ds.map .v) as l = if as.length = bs.length then some l else none
  | [], [], _ => ⟨rfl, rfl, fun l => by simp, fun as l _ => by cases as <;> simp [backS]⟩
  | [], d :: ds, _ => ⟨rfl, rfl, fun l => by simp [argsOf], fun as l h => by simp at h⟩
  | b :: bs, [], h => ⟨by cases b <;> rfl, by cases b <;> rfl, fun l => by simp [argsOf], fun as l h => by simp at h⟩
  | b :: bs, d :: ds, h => by
    simp only [List.all_cons, Bool.and_eq_true, Bool.not_eq_true'] at h
    obtain ⟨rfl, h2⟩ := h
    obtain ⟨q1, q2, q3, q4⟩ := call_facts bs ds h2
    refine ⟨q1, q2, fun l => ?_, fun as l hl => ?_⟩
    · rw [List.map_cons, argsOf_cons, argOf_fv, q3 l]
      by_cases e : ds.length = bs.length
      · rw [if_pos e, if_pos (by simp [e])]; rfl
      · rw [if_neg e, if_neg (by simp [e])]; rfl
    · cases as with
      | nil => simp [backS]
      | cons a as =>
        rw [List.map_cons, backS_f, q4 as l (by simpa using hl)]
        simp
theorem callF_eq (f : FSem) (bs : List Bool) (es : List (M Opd)) (hb : bs.all (fun b => !b) = true) : eCall f bs es = callF f bs es := by
  funext l
  rw [eCall_run]
  unfold callF
  rw [evK_eq es l fun os l1 => Option.rec (motive := fun _ => R Opd) (callM f bs os l1)
  (fun ds => Bool.rec (motive := fun _ => R Opd) .stk (R.rec (motive := fun _ => R Opd) (fun z as => Bool.rec (motive := fun _ => R Opd) .stk (.ok (mkR z) l1) (sameL as bs)) (fun x as => Bool.rec (motive := fun _ => R Opd) .stk (.err x l1) (sameL as bs)) .stk (f (frzR ds))) (sameL ds bs)) (allV os)]
  cases evs es l with
  | err _ _ => rfl
  | stk => rfl
  | ok os l1 =>
    simp only [th_ok]
    cases e : allV os with
    | none => rfl
    | some ds =>
      obtain ⟨q1, q2, q3, q4⟩ := call_facts bs ds hb
      rw [allV_eq e, callM_run, q1, q2, okArgs_nil, if_pos rfl, q3]
      show _ = Bool.rec (motive := fun _ => R Opd) .stk _ (sameL ds bs)
      rw [sameL_eq]
      by_cases hl : ds.length = bs.length
      · rw [if_pos hl, callK_some, frzR_eq]
        simp only [hl, decide_true]
        cases f (ds.map .frz) with
        | stk => rfl
        | err x as =>
          rw [afterC_err]
          show _ = Bool.rec (motive := fun _ => R Opd) .stk (.err x l1) (sameL as bs)
          unfold afterE
          rw [q4 as l1 hl, sameL_eq, q2]
          by_cases h2 : as.length = bs.length
          · simp only [h2, if_true, decide_true]; rfl
          · simp only [h2, if_false, decide_false]
        | ok z as =>
          rw [afterC_ok, afterK_run, q4 as l1 hl]
          show _ = Bool.rec (motive := fun _ => R Opd) .stk (.ok (mkR z) l1) (sameL as bs)
          rw [sameL_eq]
          by_cases h2 : as.length = bs.length
          · simp only [h2, if_true, decide_true, endK_some, q1, q2, mkR_eq]
            split <;> rfl
          · simp only [h2, if_false, decide_false]; rfl
      · simp only [hl, if_false, decide_false]; rfl
/-! functions -/
def appR (as bs : List Sl) : List Sl := List.rec (motive := fun _ => List Sl) bs (fun a _ ih => a :: ih) as
theorem appR_eq (as bs : List Sl) : appR as bs = as ++ bs := by
  induction as with
  | nil => rfl
  | cons a as ih =>
    show a :: appR as bs = _
    rw [ih]; rfl
def repR (n : Nat) : List Sl := Nat.rec (motive := fun _ => List Sl) [] (fun _ ih => .non :: ih) n
theorem repR_eq (n : Nat) : repR n = List.replicate n .non := by
  induction n with
  | zero => rfl
  | succ n ih =>
    show Sl.non :: repR n = _
    rw [ih]; rfl
def takeR (l : List Sl) : Nat → List Sl := List.rec (motive := fun _ => Nat → List Sl) (fun _ => []) (fun s _ ih n => Nat.rec (motive := fun _ => List Sl) [] (fun n _ => s :: ih n) n) l
theorem takeR_eq : ∀ (l : List Sl) (n : Nat), takeR l n = l.take n
  | [], n => by simp; rfl
  | s :: l, 0 => rfl
  | s :: l, n + 1 => by
    show s :: takeR l n = _
    rw [takeR_eq l n]; rfl
def endR (n : Nat) (r : R Fl) : R (PyData × Bool) := R.rec (motive := fun _ => R (PyData × Bool)) (fun f l => Fl.rec (motive := fun _ => R (PyData × Bool)) (.ok (.none, false) (takeR l n)) (fun o => Opd.rec (motive := fun _ => R (PyData × Bool)) (fun d => .ok (d, false) (takeR l n)) (fun d => .ok (d, true) (takeR l n)) (fun _ => .stk) o) .stk .stk f) (fun x l => .err x (takeR l n)) .stk r
theorem endR_eq (n : Nat) (r : R Fl) : endR n r = endF n r := by
  cases r with
  | stk => rfl
  | err x l => show R.err x (takeR l n) = _; rw [takeR_eq]; rfl
  | ok f l =>
    cases f with
    | nx => show R.ok _ (takeR l n) = _; rw [takeR_eq]; rfl
    | bk => rfl
    | ct => rfl
    | rt o =>
      cases o with
      | v d => show R.ok _ (takeR l n) = _; rw [takeR_eq]; rfl
      | t d => show R.ok _ (takeR l n) = _; rw [takeR_eq]; rfl
      | s i => rfl
def mkG (n k : Nat) (b : C) : FSem := fun args => endR n (b (appR args (repR (k - n))))
theorem mkG_eq (n k : Nat) (b : C) : mkF n k b = mkG n k b := by
  funext args
  unfold mkG
  rw [endR_eq, appR_eq, repR_eq]
  rfl
def retf (m : M Opd) : C := fun l => thR (m l) fun o l1 => Opd.rec (motive := fun _ => R Fl) (fun d => .ok (.rt (.v d)) l1) (fun d => .ok (.rt (.t d)) l1) (fun i => (retO (.s i) l1).th fun x => rt (.rt x)) o
theorem retf_eq (m : M Opd) : sRet m = retf m := by
  funext l
  rw [sRet_run]
  unfold retf
  cases m l with
  | ok o l1 => cases o <;> rfl
  | err _ _ => rfl
  | stk => rfl
def andf (a b : M Opd) : M Opd := fun l => thR (a l) fun o l1 => rdK o l1 fun d => Option.rec (motive := fun _ => R Opd) .stk (fun k => Bool.rec (motive := fun _ => R Opd) (.ok o l1) (b l1) k) (truth d)
theorem andf_eq (a b : M Opd) : eAnd a b = andf a b := by
  funext l
  rw [eAnd_run]
  unfold andf
  cases a l with
  | ok o l1 =>
    simp only [th_ok, bd_run]
    show _ = rdK o l1 _
    rcases readO_same o l1 with ⟨d, h⟩ | h
    · rw [rdK_ok h, h]
      simp only [th_ok, bd_run]
      cases truth d with
      | none => rfl
      | some k => cases k <;> rfl
    · rw [rdK_stk h, h]; rfl
  | err _ _ => rfl
  | stk => rfl
def orf (a b : M Opd) : M Opd := fun l => thR (a l) fun o l1 => rdK o l1 fun d => Option.rec (motive := fun _ => R Opd) .stk (fun k => Bool.rec (motive := fun _ => R Opd) (b l1) (.ok o l1) k) (truth d)
theorem orf_eq (a b : M Opd) : eOr a b = orf a b := by
  funext l
  rw [eOr_run]
  unfold orf
  cases a l with
  | ok o l1 =>
    simp only [th_ok, bd_run]
    show _ = rdK o l1 _
    rcases readO_same o l1 with ⟨d, h⟩ | h
    · rw [rdK_ok h, h]
      simp only [th_ok, bd_run]
      cases truth d with
      | none => rfl
      | some k => cases k <;> rfl
    · rw [rdK_stk h, h]; rfl
  | err _ _ => rfl
  | stk => rfl
/-! comprehensions over one name -/
def putR (l : L) : Nat → Sl → L := List.rec (motive := fun _ => Nat → Sl → L) (fun _ _ => []) (fun s t ih n x => Nat.rec (motive := fun _ => L) (x :: t) (fun n _ => s :: ih n x) n) l
theorem putR_eq : ∀ (l : L) (n : Nat) (x : Sl), putR l n x = l.set n x
  | [], n, x => by simp; rfl
  | s :: l, 0, x => rfl
  | s :: l, n + 1, x => by
    show s :: putR l n x = _
    rw [putR_eq l n x]
    rfl
def lenR {α : Type} (xs : List α) : Nat := List.rec (motive := fun _ => Nat) 0 (fun _ _ ih => Nat.add ih 1) xs
theorem lenR_eq {α : Type} : ∀ xs : List α, lenR xs = xs.length
  | [] => rfl
  | x :: xs => by
    show Nat.add (lenR xs) 1 = _
    rw [lenR_eq xs]
    rfl
def revR {α : Type} (xs : List α) : List α → List α := List.rec (motive := fun _ => List α → List α) (fun acc => acc) (fun x _ ih acc => ih (x :: acc)) xs
theorem revR_eq {α : Type} : ∀ (xs acc : List α), revR xs acc = xs.reverse ++ acc
  | [], acc => rfl
  | x :: xs, acc => by
    show revR xs (x :: acc) = _
    rw [revR_eq xs]
    simp
def shK {β : Type} (o : Opd) (l : L) (k : PyData → L → R β) : R β := Opd.rec (motive := fun _ => R β) (fun d => k d l) (fun d => (shareO (.t d) l).th k) (fun i => (shareO (.s i) l).th k) o
theorem shK_eq {β : Type} (o : Opd) (l : L) (k : PyData → M β) : shK o l k = (shareO o l).th k := by cases o <;> rfl
def compLf (i : Nat) (t : M Bool) (e : M Opd) (xs : List PyData) : List PyData → M (List PyData) := List.rec (motive := fun _ => List PyData → M (List PyData)) (fun acc l => .ok (revR acc []) l)
  (fun x _ ih acc l => setK l i (.frz x) fun l1 => thR (t l1) fun k l2 => Bool.rec (motive := fun _ => R (List PyData)) (ih acc (putR l2 i .non)) (thR (e l2) fun o l3 => shK o l3 fun d l4 => ih (d :: acc) (putR l4 i .non)) k) xs
theorem compLf_eq (i : Nat) (t : M Bool) (e : M Opd) : ∀ xs acc, compL [i] (.nm i) t e xs acc = compLf i t e xs acc
  | [], acc => by
    funext l
    show R.ok acc.reverse l = R.ok (revR acc []) l
    rw [revR_eq]
    simp
  | x :: xs, acc => by
    funext l
    show (bd (asgT (.nm i) x) fun _ => bd t fun k => _) l = setK l i (.frz x) _
    rw [setK_eq, bd_run, asgT_nm]
    cases setF i (.frz x) l with
    | err _ _ => rfl
    | stk => rfl
    | ok _ l1 =>
      show bd t _ l1 = thR (t l1) _
      rw [bd_run]
      cases t l1 with
      | err _ _ => rfl
      | stk => rfl
      | ok k l2 =>
        cases k with
        | false =>
          show compL [i] (.nm i) t e xs acc (l2.set i .non) = compLf i t e xs acc (putR l2 i .non)
          rw [putR_eq, compLf_eq i t e xs acc]
        | true =>
          show bd e _ l2 = thR (e l2) _
          rw [bd_run]
          cases e l2 with
          | err _ _ => rfl
          | stk => rfl
          | ok o l3 =>
            show bd (shareO o) _ l3 = shK o l3 (fun d l4 => compLf i t e xs (d :: acc) (putR l4 i .non))
            rw [shK_eq o l3 fun d l4 => compLf i t e xs (d :: acc) (putR l4 i .non), bd_run]
            cases shareO o l3 with
            | err _ _ => rfl
            | stk => rfl
            | ok d l4 =>
              show compL [i] (.nm i) t e xs (d :: acc) (l4.set i .non) = compLf i t e xs (d :: acc) (putR l4 i .non)
              rw [putR_eq, compLf_eq i t e xs (d :: acc)]
def compf (i : Nat) (it : M Its) (t : M Bool) (e : M Opd) : M Opd := fun l => thR (it l) fun xs l1 => Bool.rec (motive := fun _ => R Opd) (List.rec (motive := fun _ => R Opd)
  (Bool.rec (motive := fun _ => R Opd) .stk (R.rec (motive := fun _ => R Opd) (fun acc l2 => .ok (.t (.list acc)) (putR l2 i (getR l1 i))) (fun _ _ => .stk) .stk (compLf i t e xs.xs [] (putR l1 i .non))) (Nat.ble (lenR xs.xs) lim)) (fun _ _ _ => eComp [i] (.nm i) (rt xs) t e l1) xs.src) (eComp [i] (.nm i) (rt xs) t e l1) xs.pl
theorem compf_eq (i : Nat) (it : M Its) (t : M Bool) (e : M Opd) : eComp [i] (.nm i) it t e = compf i it t e := by
  funext l
  unfold eComp compf
  rw [bd_run]
  cases it l with
  | err _ _ => rfl
  | stk => rfl
  | ok xs l1 =>
    obtain ⟨ys, src, pl⟩ := xs
    cases pl with
    | true => rfl
    | false =>
      cases src with
      | cons _ _ => rfl
      | nil =>
        show (if ys.length ≤ lim ∧ (Tg.nm i).fits false = true ∧ (Tg.nm i).slots.all [i].contains = true then (bd (lockAll []) fun js => fun l => cEnd js [i] l (compL [i] (.nm i) t e ys [] (wipeL [i] l))) else stuck) l1 =
          Bool.rec (motive := fun _ => R Opd) .stk (R.rec (motive := fun _ => R Opd) (fun acc l2 => .ok (.t (.list acc)) (putR l2 i (getR l1 i))) (fun _ _ => .stk) .stk (compLf i t e ys [] (putR l1 i .non))) (Nat.ble (lenR ys) lim)
        rw [lenR_eq]
        by_cases h : ys.length ≤ lim
        · rw [if_pos ⟨h, rfl, by simp [Tg.slots]⟩, Nat.ble_eq_true_of_le h]
          show cEnd [] [i] l1 (compL [i] (.nm i) t e ys [] (l1.set i .non)) = R.rec (motive := fun _ => R Opd) _ _ _ _
          rw [putR_eq, compLf_eq]
          cases compLf i t e ys [] (l1.set i .non) with
          | err _ _ => rfl
          | stk => rfl
          | ok acc l2 =>
            show R.ok (Opd.t (.list acc)) (l2.set i (l1.getD i .non)) = R.ok (Opd.t (.list acc)) (putR l2 i (getR l1 i))
            rw [putR_eq, getR_eq]
        · rw [if_neg fun z => h z.1]
          have : Nat.ble ys.length lim = false := by
            cases q : Nat.ble ys.length lim with
            | false => rfl
            | true => exact absurd (Nat.le_of_ble_eq_true q) h
          rw [this]
          rfl
/-! items stored -/
def ixf (i : Nat) (k : M Opd) (e : M Opd) : C := fun l => thR (e l) fun o l0 => shK o l0 fun d l1 => Sl.rec (motive := fun _ => R Fl) .stk (fun _ => (sAsg (.ix i k) (rt (.v d))) l1) (fun _ => thR (k l1) fun ko l2 => rdK ko l2 fun n => thR (upK (getR l2 i) i l2 fun c => putAt c n d) fun _ l3 => .ok .nx l3) (fun _ => (sAsg (.ix i k) (rt (.v d))) l1) (fun _ _ => (sAsg (.ix i k) (rt (.v d))) l1) (getR l1 i)
theorem ixf_eq (i : Nat) (k e : M Opd) : sAsg (.ix i k) e = ixf i k e := by
  funext l
  rw [sAsg_run]
  unfold ixf
  cases e l with
  | err _ _ => rfl
  | stk => rfl
  | ok o l0 =>
    simp only [th_ok, bd_run, asgA_ix]
    refine Eq.trans ?_ (shK_eq o l0 fun d l1 => Sl.rec (motive := fun _ => R Fl) .stk (fun _ => (sAsg (.ix i k) (rt (.v d))) l1) (fun _ => thR (k l1) fun ko l2 => rdK ko l2 fun n => thR (upK (getR l2 i) i l2 fun c => putAt c n d) fun _ l3 => .ok .nx l3) (fun _ => (sAsg (.ix i k) (rt (.v d))) l1) (fun _ _ => (sAsg (.ix i k) (rt (.v d))) l1) (getR l1 i)).symm
    cases shareO o l0 with
    | err _ _ => rfl
    | stk => rfl
    | ok d l1 =>
      simp only [th_ok, bd_run, eV_run]
      rw [getR_eq]
      cases hs : l1.getD i .non with
      | non => rfl
      | own c =>
        show ((evS (.own c) i l1).th fun _ => bd k fun k => bd (readO k) fun n => upS i fun c => putAt c n d).th (fun _ => sNx) = thR (k l1) _
        rw [evS_own, th_ok, bd_run]
        cases k l1 with
        | err _ _ => rfl
        | stk => rfl
        | ok ko l2 =>
          simp only [th_ok, bd_run]
          show _ = rdK ko l2 _
          rcases readO_same ko l2 with ⟨n, h⟩ | h
          · rw [rdK_ok h, h, getR_eq]
            simp only [th_ok, upS_run]
            cases upK (l2.getD i .non) i l2 fun c => putAt c n d <;> rfl
          · rw [rdK_stk h, h]; rfl
      | frz c =>
        show _ = (sAsg (.ix i k) (rt (.v d))) l1
        rw [sAsg_run, rt_run, th_ok, bd_run, asgA_ix, shareO_v, th_ok, bd_run, eV_run, hs]
      | bor c =>
        show _ = (sAsg (.ix i k) (rt (.v d))) l1
        rw [sAsg_run, rt_run, th_ok, bd_run, asgA_ix, shareO_v, th_ok, bd_run, eV_run, hs]
      | lck b c =>
        show _ = (sAsg (.ix i k) (rt (.v d))) l1
        rw [sAsg_run, rt_run, th_ok, bd_run, asgA_ix, shareO_v, th_ok, bd_run, eV_run, hs]
theorem callF_eq0 (f : FSem) (es : List (M Opd)) : eCall f [] es = callF f [] es := callF_eq f _ es rfl
theorem callF_eq1 (f : FSem) (es : List (M Opd)) : eCall f [false] es = callF f [false] es := callF_eq f _ es rfl
theorem callF_eq2 (f : FSem) (es : List (M Opd)) : eCall f [false, false] es = callF f [false, false] es := callF_eq f _ es rfl
theorem callF_eq3 (f : FSem) (es : List (M Opd)) : eCall f [false, false, false] es = callF f [false, false, false] es := callF_eq f _ es rfl
theorem callF_eq4 (f : FSem) (es : List (M Opd)) : eCall f [false, false, false, false] es = callF f [false, false, false, false] es := callF_eq f _ es rfl
theorem callF_eq5 (f : FSem) (es : List (M Opd)) : eCall f [false, false, false, false, false] es = callF f [false, false, false, false, false] es := callF_eq f _ es rfl
theorem callF_eq6 (f : FSem) (es : List (M Opd)) : eCall f [false, false, false, false, false, false] es = callF f [false, false, false, false, false, false] es := callF_eq f _ es rfl
theorem callF_eq7 (f : FSem) (es : List (M Opd)) : eCall f [false, false, false, false, false, false, false] es = callF f [false, false, false, false, false, false, false] es := callF_eq f _ es rfl
end L2.DL
end
/-! DLk2: lists' operations by raw recursors -/
noncomputable section
namespace L2.DL
open PySem
def nthR (xs : List PyData) : Nat → Option (PyData × Bool) := List.rec (motive := fun _ => Nat → Option (PyData × Bool)) (fun _ => none) (fun x _ ih n => Nat.rec (motive := fun _ => Option (PyData × Bool)) (some (x, false)) (fun n _ => ih n) n) xs
theorem nthR_eq : ∀ (xs : List PyData) (n : Nat), nthR xs n = (xs[n]?).map fun d => (d, false)
  | [], n => rfl
  | x :: xs, 0 => rfl
  | x :: xs, n + 1 => by
    show nthR xs n = _
    rw [nthR_eq xs n]
    simp
def idxK : List PyData → Option (PyData × Bool)
  | [.list xs, .int (.ofNat n)] => nthR xs n
  | [.tuple xs, .int (.ofNat n)] => nthR xs n
  | ds => idxX ds
theorem ixOf_nat (m n : Nat) : ixOf m (Int.ofNat n) = if n < m then some n else none := by
  unfold ixOf
  rw [if_pos (by exact Int.natCast_nonneg n)]
  by_cases h : n < m
  · rw [if_pos h, if_pos (by simpa using h)]
    rfl
  · rw [if_neg h, if_neg (by simpa using h)]
theorem idxK_eq : idxX = idxK := by
  funext ds
  unfold idxK
  split
  · rename_i xs n
    rw [nthR_eq]
    show ((ixOf xs.length (Int.ofNat n)).bind fun k => xs[k]?).map _ = _
    rw [ixOf_nat]
    by_cases h : n < xs.length
    · rw [if_pos h]; rfl
    · rw [if_neg h, List.getElem?_eq_none (by omega)]; rfl
  · rename_i xs n
    rw [nthR_eq]
    show ((ixOf xs.length (Int.ofNat n)).bind fun k => xs[k]?).map _ = _
    rw [ixOf_nat]
    by_cases h : n < xs.length
    · rw [if_pos h]; rfl
    · rw [if_neg h, List.getElem?_eq_none (by omega)]; rfl
  · rfl
/-- an item put in: what comes then, or nothing -/
def putC {β : Type} (xs : List PyData) : Nat → PyData → (List PyData → Option β) → Option β := List.rec (motive := fun _ => Nat → PyData → (List PyData → Option β) → Option β) (fun _ _ _ => none) (fun x t ih n d k => Nat.rec (motive := fun _ => Option β) (k (d :: t)) (fun n _ => ih n d fun t' => k (x :: t')) n) xs
theorem putC_eq {β : Type} : ∀ (xs : List PyData) (n : Nat) (d : PyData) (k : List PyData → Option β), putC xs n d k = if n < xs.length then k (xs.set n d) else none
  | [], n, d, k => rfl
  | x :: xs, 0, d, k => by rw [if_pos (by simp)]; rfl
  | x :: xs, n + 1, d, k => by
    show putC xs n d (fun t' => k (x :: t')) = _
    rw [putC_eq xs n d]
    by_cases h : n < xs.length
    · rw [if_pos h, if_pos (by simpa using h)]; rfl
    · rw [if_neg h, if_neg (by simpa using h)]
def putAtK (c n d : PyData) : Option PyData := match c, n with
  | .list xs, .int (.ofNat m) => putC xs m d fun ys => some (.list ys)
  | _, _ => putAt c n d
theorem putAtK_eq : putAt = putAtK := by
  funext c n d
  unfold putAtK
  split
  · rename_i xs m
    rw [putC_eq]
    show (ixOf xs.length (Int.ofNat m)).map _ = _
    rw [ixOf_nat]
    by_cases h : m < xs.length
    · rw [if_pos h, if_pos h]; rfl
    · rw [if_neg h, if_neg h]; rfl
  · rfl
/-- an item behind -/
def snocC {β : Type} (xs : List PyData) (d : PyData) : (List PyData → β) → β := List.rec (motive := fun _ => (List PyData → β) → β) (fun k => k [d]) (fun x _ ih k => ih fun t => k (x :: t)) xs
theorem snocC_eq {β : Type} (d : PyData) : ∀ (xs : List PyData) (k : List PyData → β), snocC xs d k = k (xs ++ [d])
  | [], k => rfl
  | x :: xs, k => by
    show snocC xs d (fun t => k (x :: t)) = _
    rw [snocC_eq d xs]
    rfl
def mutA (i : Nat) (e : M Opd) : M Opd := fun l => Sl.rec (motive := fun _ => R Opd) .stk (fun _ => .stk)
  (fun c => match c with
    | .list _ => thR (e l) fun o l1 => Opd.rec (motive := fun _ => R Opd) (fun d => match getR l1 i with
        | .own (.list xs) => Bool.rec (motive := fun _ => R Opd) .stk (snocC xs d fun ys => .ok (.v .none) (putR l1 i (.own (.list ys)))) (Nat.blt (lenR xs) lim)
        | _ => (bd (shareAll [.v d]) fun ds => bd (upM i (onL appendU ds)) fun z => rt (.v z)) l1) (fun d => (bd (shareAll [.t d]) fun ds => bd (upM i (onL appendU ds)) fun z => rt (.v z)) l1) (fun j => (bd (shareAll [.s j]) fun ds => bd (upM i (onL appendU ds)) fun z => rt (.v z)) l1) o
    | _ => .stk)
  (fun _ => eMut i appendU [e] l) (fun _ _ => .stk) (getR l i)
theorem mutA_eq (i : Nat) (e : M Opd) : eMut i appendU [e] = mutA i e := by
  funext l
  unfold mutA
  rw [getR_eq]
  have hc : eMut i appendU [e] l = (chkL i l).th fun _ => bd (evs [e]) fun os => bd (shareAll os) fun ds => bd (upM i (onL appendU ds)) fun z => rt (.v z) := rfl
  have hk : chkL i l = match l.getD i .non with | .own (.list _) => .ok () l | .bor (.list _) => .ok () l | _ => .stk := rfl
  cases hs : l.getD i .non with
  | non => rw [hc, hk, hs]; rfl
  | frz _ => rw [hc, hk, hs]; rfl
  | lck _ _ => rw [hc, hk, hs]; rfl
  | bor _ => rfl
  | own c =>
    rw [hc, hk, hs]
    cases c with
    | list ys =>
      simp only [th_ok, bd_run, evs_cons, evs_nil, rt_run]
      show _ = thR (e l) _
      cases e l with
      | err _ _ => rfl
      | stk => rfl
      | ok o l1 =>
        simp only [th_ok, bd_run, evs_nil, rt_run]
        cases o with
        | t d => rfl
        | s j => rfl
        | v d =>
          show ((shareAll [.v d] l1).th fun ds => bd (upM i (onL appendU ds)) fun z => rt (.v z)) = (match getR l1 i with
            | .own (.list xs) => Bool.rec (motive := fun _ => R Opd) .stk (snocC xs d fun ys => .ok (.v .none) (putR l1 i (.own (.list ys)))) (Nat.blt (lenR xs) lim)
            | _ => (bd (shareAll [.v d]) fun ds => bd (upM i (onL appendU ds)) fun z => rt (.v z)) l1)
          split
          · rename_i xs hx
            rw [getR_eq] at hx
            rw [snocC_eq, putR_eq, lenR_eq]
            have h1 : shareAll [.v d] l1 = .ok [d] l1 := rfl
            rw [h1, th_ok, bd_run]
            have h2 : upM i (onL appendU [d]) l1 = match (if xs.length < lim then some (PyData.none, PyData.list (xs ++ [d])) else none) with | some (z, c') => .ok z (l1.set i (.own c')) | none => .stk := by
              show (match l1.getD i .non with | .own c => (match onL appendU [d] c with | some (z, c') => R.ok z (l1.set i (.own c')) | none => .stk) | .bor c => (match onL appendU [d] c with | some (z, c') => R.ok z (l1.set i (.bor c')) | none => .stk) | _ => .stk) = _
              rw [hx]
              rfl
            rw [h2]
            by_cases h : xs.length < lim
            · rw [if_pos h]
              have : Nat.blt xs.length lim = true := by
                rw [Nat.blt_eq]; exact h
              rw [this]
              rfl
            · rw [if_neg h]
              have : Nat.blt xs.length lim = false := by
                cases q : Nat.blt xs.length lim with
                | false => rfl
                | true => exact absurd (Nat.blt_eq.mp q) h
              rw [this]
              rfl
          · rfl
    | _ => rfl
/-- a, b = x, y -/
def stO (o : Opd) (l : L) (i : Nat) {β : Type} (slow : R β) (k : L → R β) : R β := Opd.rec (motive := fun _ => R β) (fun d => setK l i (.frz d) k) (fun d => setK l i (.own d) k) (fun _ => slow) o
def isS (o : Opd) : Bool := Opd.rec (motive := fun _ => Bool) (fun _ => false) (fun _ => false) (fun _ => true) o
def par2f (i j : Nat) (a b : M Opd) : C := fun l => thR (a l) fun o1 l1 => thR (b l1) fun o2 l2 => Bool.rec (motive := fun _ => R Fl) (Bool.rec (motive := fun _ => R Fl) (stO o1 l2 i .stk fun l3 => stO o2 l3 j .stk fun l4 => .ok .nx l4) ((bd (normAll [o1, o2]) fun xs => bd (setAll [i, j] xs) fun _ => sNx) l2) (isS o2)) ((bd (normAll [o1, o2]) fun xs => bd (setAll [i, j] xs) fun _ => sNx) l2) (isS o1)
theorem stO_eq {β : Type} (o : Opd) (l : L) (i : Nat) (k : L → R β) (h : isS o = false) : stO o l i .stk k = (setF i (slOf o) l).th fun _ => k := by
  cases o with
  | v d => show setK l i (.frz d) k = _; rw [setK_eq]; rfl
  | t d => show setK l i (.own d) k = _; rw [setK_eq]; rfl
  | s _ => cases h
theorem par2f_eq (i j : Nat) (a b : M Opd) : sPar [i, j] [a, b] = par2f i j a b := by
  funext l
  rw [sPar_run, evs_cons]
  unfold par2f
  cases a l with
  | err _ _ => rfl
  | stk => rfl
  | ok o1 l1 =>
    simp only [th_ok, bd_run, evs_cons, evs_nil, rt_run]
    show _ = thR (b l1) _
    cases b l1 with
    | err _ _ => rfl
    | stk => rfl
    | ok o2 l2 =>
      simp only [th_ok, bd_run, evs_nil, rt_run]
      show _ = Bool.rec (motive := fun _ => R Fl) _ _ (isS o1)
      cases h1 : isS o1 with
      | true => rfl
      | false =>
        show _ = Bool.rec (motive := fun _ => R Fl) _ _ (isS o2)
        cases h2 : isS o2 with
        | true => rfl
        | false =>
          show _ = stO o1 l2 i .stk fun l3 => stO o2 l3 j .stk fun l4 => R.ok Fl.nx l4
          rw [stO_eq _ _ _ _ h1]
          have n1 : normO o1 l2 = .ok o1 l2 := by cases o1 <;> first | rfl | cases h1
          have n2 : normO o2 l2 = .ok o2 l2 := by cases o2 <;> first | rfl | cases h2
          simp only [normAll_cons, normAll_nil, n1, n2, th_ok, bd_run, rt_run, setAll_cons, setAll_nil]
          cases setF i (slOf o1) l2 with
          | err _ _ => rfl
          | stk => rfl
          | ok _ l3 =>
            simp only [th_ok, setAll_cons]
            show _ = stO o2 l3 j .stk fun l4 => R.ok Fl.nx l4
            rw [stO_eq _ _ _ _ h2]
            cases setF j (slOf o2) l3 <;> rfl
def ixK (i : Nat) (k : M Opd) (e : M Opd) : C := fun l => thR (e l) fun o l0 => shK o l0 fun d l1 => Sl.rec (motive := fun _ => R Fl) .stk (fun _ => (sAsg (.ix i k) (rt (.v d))) l1) (fun _ => thR (k l1) fun ko l2 => rdK ko l2 fun n => thR (upK (getR l2 i) i l2 fun c => putAtK c n d) fun _ l3 => .ok .nx l3) (fun _ => (sAsg (.ix i k) (rt (.v d))) l1) (fun _ _ => (sAsg (.ix i k) (rt (.v d))) l1) (getR l1 i)
theorem ixK_eq (i : Nat) (k e : M Opd) : sAsg (.ix i k) e = ixK i k e := by
  rw [ixf_eq]
  unfold ixf ixK
  rw [putAtK_eq]
def lenK : List PyData → Option (PyData × Bool)
  | [.list xs] => some (.int (.ofNat (lenR xs)), false)
  | [.tuple xs] => some (.int (.ofNat (lenR xs)), false)
  | ds => lenX ds
theorem lenK_eq : lenX = lenK := by
  funext ds
  unfold lenK
  split
  · rw [lenR_eq]; rfl
  · rw [lenR_eq]; rfl
  · rfl
end L2.DL
end
/-! DLb: what all laws use: the pot, lists by their places, ends -/
namespace L2.DL
open PySem
theorem idx0 (x : PyData) (xs : List PyData) : idxX [.list (x :: xs), .int 0] = some (x, false) := idxL (by decide) (by simp)
theorem idx1 (x y : PyData) (xs : List PyData) : idxX [.list (x :: y :: xs), .int 1] = some (y, false) := idxL (by decide) (by simp)
theorem idxT0 (x : PyData) (xs : List PyData) : idxX [.tuple (x :: xs), .int 0] = some (x, false) := idxT (by decide) (by simp)
theorem idxT1 (x y : PyData) (xs : List PyData) : idxX [.tuple (x :: y :: xs), .int 1] = some (y, false) := idxT (by decide) (by simp)
theorem putL {xs : List PyData} {i : Int} {d : PyData} (h : 0 ≤ i) (h2 : i.toNat < xs.length) : putAt (.list xs) (.int i) d = some (.list (xs.set i.toNat d)) := by
  show (ixOf xs.length i).map _ = _
  have : ixOf xs.length i = some i.toNat := by
    unfold ixOf
    rw [if_pos h, if_pos (by omega)]
  rw [this]
  rfl
theorem put0 (x d : PyData) (xs : List PyData) : putAt (.list (x :: xs)) (.int 0) d = some (.list (d :: xs)) := putL (by decide) (by simp)
theorem put1 (x y d : PyData) (xs : List PyData) : putAt (.list (x :: y :: xs)) (.int 1) d = some (.list (x :: d :: xs)) := putL (by decide) (by simp)
/-- what the draws are drawn from -/
def Pot (d : PyData) : Prop := ∃ a b : Int, d = .list [.int a, .int b] ∧ 0 ≤ a ∧ 0 ≤ b ∧ b < 4294967296
theorem pow18 : powD [.int 10, .int 18] = some (.int 1000000000000000000, false) := by kernel_rfl
theorem max0 (j : Int) : maxD' [.int 0, .int j] = some (.int (if j > 0 then j else 0), false) := rfl
/-! ends -/
def chkB : R Fl → Option PyData
  | .ok (.rt (.v (.bool true))) (.bor d :: _) => some d
  | _ => none
theorem chkB_end {r : R Fl} {d : PyData} (h : chkB r = some d) : endF 1 r = .ok (.bool true, false) [.bor d] := by
  unfold chkB at h
  split at h
  · cases h; rfl
  · cases h
theorem sqf_nx {a b : C} {l l' : L} (h : a l = .ok .nx l') : sqf a b l = b l' := by rw [← sqf_eq, sq_run, h]; rfl
theorem sq_nx {a b : C} {l l' : L} (h : a l = .ok .nx l') : sq a b l = b l' := by rw [sq_run, h]; rfl
theorem end_mk {n k : Nat} {b : C} {args : List Sl} : mkG n k b args = endF n (b (args ++ List.replicate (k - n) .non)) := by rw [← mkG_eq]; rfl
theorem map_at {β : Type} {n : Nat} {f g : Nat → β} (h : (List.range n).map f = (List.range n).map g) {k : Nat} (hk : k < n) : f k = g k := by
  have := congrArg (fun l => l[k]?) h
  simpa [hk] using this
theorem ints_map : ∀ {xs : List PyData} {ns : List Int}, intsOf xs = some ns → xs = ns.map .int
  | [], ns, h => by cases h; rfl
  | x :: xs, ns, h => by
    cases x with
    | int i =>
      simp only [intsOf, Option.map_eq_some_iff] at h
      obtain ⟨ms, h1, rfl⟩ := h
      rw [ints_map h1]
      rfl
    | _ => simp [intsOf] at h
/-! lists of ints by their places -/
def lst (c : Nat) (f : Nat → Int) : List PyData := ((List.range c).map f).map .int
@[simp] theorem lst_len (c : Nat) (f : Nat → Int) : (lst c f).length = c := by simp [lst]
theorem lst_at {c u : Nat} (f : Nat → Int) (h : u < c) : (lst c f)[u]? = some (.int (f u)) := by simp [lst, h]
theorem lst_congr {c : Nat} {f g : Nat → Int} (h : ∀ u, u < c → f u = g u) : lst c f = lst c g := by
  unfold lst
  congr 1
  exact List.map_congr_left fun u hu => h u (by simpa using hu)
theorem lst_set {c u : Nat} (f : Nat → Int) (v : Int) (h : u < c) : (lst c f).set u (.int v) = lst c fun x => if x = u then v else f x := by
  refine List.ext_getElem? fun i => ?_
  by_cases hi : i < c
  · rw [lst_at _ hi]
    by_cases e : u = i
    · subst e
      rw [List.getElem?_set_self (by simpa using h)]
      simp
    · rw [List.getElem?_set_ne e, lst_at _ hi]
      rw [if_neg (fun z => e z.symm)]
  · rw [List.getElem?_eq_none (by simpa using hi), List.getElem?_eq_none (by simpa using hi)]
theorem idx_lst {c u : Nat} {i : Int} (f : Nat → Int) (hi : i = (u : Nat)) (h : u < c) : idxX [.list (lst c f), .int i] = some (.int (f u), false) := by
  subst hi
  exact idxL (by omega) (by simpa using lst_at f h)
theorem put_lst {c u : Nat} {i : Int} (f : Nat → Int) (v : Int) (hi : i = (u : Nat)) (h : u < c) : putAt (.list (lst c f)) (.int i) (.int v) = some (.list (lst c fun x => if x = u then v else f x)) := by
  subst hi
  rw [putL (by omega) (by simpa using h)]
  simp only [Int.toNat_natCast]
  rw [lst_set f v h]
theorem mul_one_l {x : PyData} {c : Int} (h1 : 0 ≤ c) (h2 : c ≤ 1000000) : mulD [.list [x], .int c] = some (.list (List.replicate c.toNat x), true) := by
  show (if decide (-1000000 ≤ c) && decide (c ≤ 1000000) && decide ([x].length * c.toNat ≤ lim) then rT (.list (List.replicate c.toNat [x]).flatten) else none) = _
  rw [if_pos]
  · simp [rT]
  · simp only [Bool.and_eq_true, decide_eq_true_eq, List.length_cons, List.length_nil]
    have : lim = 4000000 := rfl
    omega
theorem rep_lst (c : Nat) (v : Int) : List.replicate c (PyData.int v) = lst c fun _ => v := by
  refine List.ext_getElem? fun i => ?_
  by_cases hi : i < c
  · rw [lst_at _ hi]; simp [hi]
  · rw [List.getElem?_eq_none (by simpa using hi), List.getElem?_eq_none (by simpa using hi)]
theorem sum_lst (c : Nat) (f : Nat → Int) : sumD [.list (lst c f)] = some (.int ((List.range c).map f).sum, false) := sumD_ints _
theorem fdivD_big (i j : Int) (h : 0 < j) (h2 : j.natAbs.log2 < 9000) : fdivD [.int i, .int j] = some (.int (i / j), false) := by
  simp [fdivD, h, h2, rI']
theorem stS_nb {s x : Sl} {i : Nat} {l : L} (h : s.borT = false) : stS s i x l = .ok () (l.set i x) := by
  cases s with
  | bor d => cases h
  | lck b d =>
    cases b
    · rfl
    · cases h
  | _ => rfl
@[simp] theorem borT_frz (d : PyData) : (Sl.frz d).borT = false := rfl
@[simp] theorem borT_own (d : PyData) : (Sl.own d).borT = false := rfl
@[simp] theorem borT_non : Sl.non.borT = false := rfl
theorem upto_at {n k : Nat} (h : k < (upto n).length) : (upto n)[k] = .int (k : Nat) := by simp [upto]
@[simp] theorem upto_len (n : Nat) : (upto n).length = n := by simp [upto]
theorem fromTo_at {a : Int} {n k : Nat} (h : k < (fromTo a n).length) : (fromTo a n)[k] = .int (a + (k : Nat)) := by simp [fromTo]
@[simp] theorem fromTo_len (a : Int) (n : Nat) : (fromTo a n).length = n := by simp [fromTo]
end L2.DL
/-! DLn: a for that may give back from within -/
namespace L2.DL
open PySem
theorem forL_ret {tg : Tg} {b : C} (I : Nat → L → Prop) (Z : Opd → L → Prop) : ∀ (xs : List PyData) (k0 : Nat) (l : L), I k0 l →
    (∀ k l (h : k < xs.length), I (k0 + k) l → ∃ l2, asgT tg xs[k] l = .ok () l2 ∧ ((∃ f l3, b l2 = .ok f l3 ∧ (f = .nx ∨ f = .ct) ∧ I (k0 + k + 1) l3) ∨ ∃ o l3, b l2 = .ok (.rt o) l3 ∧ Z o l3)) →
    (∃ l', forL tg b xs l = .ok .nx l' ∧ I (k0 + xs.length) l') ∨ ∃ o l', forL tg b xs l = .ok (.rt o) l' ∧ Z o l'
  | [], k0, l, h0, _ => .inl ⟨l, rfl, h0⟩
  | x :: xs, k0, l, h0, hs => by
    obtain ⟨l2, h1, h⟩ := hs 0 l (by simp) h0
    have h1' : asgT tg x l = .ok () l2 := h1
    rcases h with ⟨f, l3, h2, h3, h4⟩ | ⟨o, l3, h2, h3⟩
    · have ih := forL_ret I Z xs (k0 + 1) l3 h4 fun k l h hI => by
        have := hs (k + 1) l (by simpa using h) (by rw [show k0 + (k + 1) = k0 + 1 + k by omega]; exact hI)
        rw [show k0 + (k + 1) + 1 = k0 + 1 + k + 1 by omega] at this
        exact this
      have e : forL tg b (x :: xs) l = forL tg b xs l3 := by
        conv => lhs; unfold forL
        rw [bd_run, h1', th_ok, bd_run, h2, th_ok]
        rcases h3 with h3 | h3 <;> subst h3 <;> rfl
      rw [e, List.length_cons, show k0 + (xs.length + 1) = k0 + 1 + xs.length by omega]
      exact ih
    · refine .inr ⟨o, l3, ?_, h3⟩
      unfold forL
      rw [bd_run, h1', th_ok, bd_run, h2, th_ok]
      rfl
theorem for_ret {tg : Tg} {it : M Its} {b : C} {l l1 : L} {xs : List PyData} {src js : List Nat} {pl : Bool} (I : Nat → L → Prop) (Z : Opd → L → Prop) (hx : it l = .ok ⟨xs, src, pl⟩ l) (hf : tg.fits pl = true) (hk : lockAll src l = .ok js l1) (h0 : I 0 l1)
    (hs : ∀ k l (h : k < xs.length), I k l → ∃ l2, asgT tg xs[k] l = .ok () l2 ∧ ((∃ f l3, b l2 = .ok f l3 ∧ (f = .nx ∨ f = .ct) ∧ I (k + 1) l3) ∨ ∃ o l3, b l2 = .ok (.rt o) l3 ∧ Z o l3)) :
    (∃ l', sFor tg it b l = .ok .nx (unlockL js l') ∧ I xs.length l') ∨ ∃ o l', sFor tg it b l = .ok (.rt o) (unlockL js l') ∧ Z o l' := by
  have e : sFor tg it b l = thenU js (forL tg b xs) l1 := by
    unfold sFor
    rw [bd_run, hx, th_ok, if_pos hf, bd_run, hk, th_ok]
  rcases forL_ret (tg := tg) (b := b) I Z xs 0 l1 h0 (fun k l h hI => by
    have := hs k l h (by simpa using hI)
    simpa using this) with ⟨l', h1, h2⟩ | ⟨o, l', h1, h2⟩
  · refine .inl ⟨l', ?_, by simpa using h2⟩
    rw [e]; unfold thenU; rw [h1]
  · refine .inr ⟨o, l', ?_, h2⟩
    rw [e]; unfold thenU; rw [h1]
end L2.DL
/-! DLo: methods, by simp -/
namespace L2.DL
open PySem
def chkS (s : Sl) (l : L) : R Unit := match s with
  | .own (.list _) => .ok () l
  | .bor (.list _) => .ok () l
  | _ => .stk
@[simp] theorem chkL_run (i : Nat) (l : L) : chkL i l = chkS (l.getD i .non) l := rfl
@[simp] theorem chkS_own (xs : List PyData) (l : L) : chkS (.own (.list xs)) l = .ok () l := rfl
@[simp] theorem chkS_bor (xs : List PyData) (l : L) : chkS (.bor (.list xs)) l = .ok () l := rfl
def okM (i : Nat) (mk : PyData → Sl) (l : L) : Option (PyData × PyData) → R PyData
  | some (z, c) => .ok z (l.set i (mk c))
  | none => .stk
@[simp] theorem okM_some (i : Nat) (mk : PyData → Sl) (l : L) (z c : PyData) : okM i mk l (some (z, c)) = .ok z (l.set i (mk c)) := rfl
def upMK (s : Sl) (i : Nat) (l : L) (f : PyData → Option (PyData × PyData)) : R PyData := match s with
  | .own c => okM i .own l (f c)
  | .bor c => okM i .bor l (f c)
  | _ => .stk
@[simp] theorem upM_run (i : Nat) (f : PyData → Option (PyData × PyData)) (l : L) : upM i f l = upMK (l.getD i .non) i l f := by
  unfold upM upMK
  cases l.getD i .non with
  | own c => cases f c <;> rfl
  | bor c => cases f c <;> rfl
  | _ => rfl
@[simp] theorem upMK_own (c : PyData) (i : Nat) (l : L) (f : PyData → Option (PyData × PyData)) : upMK (.own c) i l f = okM i .own l (f c) := rfl
@[simp] theorem upMK_bor (c : PyData) (i : Nat) (l : L) (f : PyData → Option (PyData × PyData)) : upMK (.bor c) i l f = okM i .bor l (f c) := rfl
@[simp] theorem onL_list (f : PyData → List PyData → Option (PyData × PyData)) (ds xs : List PyData) : onL f ds (.list xs) = f (.list xs) ds := rfl
@[simp] theorem eMut_run (i : Nat) (f : PyData → List PyData → Option (PyData × PyData)) (es : List (M Opd)) (l : L) : eMut i f es l = (chkL i l).th fun _ => bd (evs es) fun os => bd (shareAll os) fun ds => bd (upM i (onL f ds)) fun z => rt (.v z) := rfl
theorem appendU_of {xs : List PyData} (d : PyData) (h : xs.length < 4000000) : appendU (.list xs) [d] = some (.none, .list (xs ++ [d])) := by
  show (if xs.length < lim then _ else _) = _
  exact if_pos h
theorem extendU_of {xs ys : List PyData} (h : xs.length + ys.length ≤ 4000000) : extendU (.list xs) [.list ys] = some (.none, .list (xs ++ ys)) := by
  show (if xs.length + ys.length ≤ lim then _ else _) = _
  exact if_pos h
@[simp] theorem eMeth_run (f : List PyData → Option (PyData × Bool)) (m : M Opd) (es : List (M Opd)) (l : L) : eMeth f m es l = (m l).th fun o => bd (readO o) fun d => bd (lft (seqOf d)) fun _ => bd (evs es) fun os => bd (readO o) fun d2 => bd (readAll os) fun ds => bd (lft (onS (isList d) f (d2 :: ds))) fun z => rt (mkO z) := rfl
@[simp] theorem isList_l (xs : List PyData) : isList (.list xs) = true := rfl
@[simp] theorem isList_t (xs : List PyData) : isList (.tuple xs) = false := rfl
@[simp] theorem onS_l (f : List PyData → Option (PyData × Bool)) (xs ds : List PyData) : onS true f (.list xs :: ds) = f (.list xs :: ds) := rfl
@[simp] theorem onS_t (f : List PyData → Option (PyData × Bool)) (xs ds : List PyData) : onS false f (.tuple xs :: ds) = f (.tuple xs :: ds) := rfl
theorem countP_ints (ns : List Int) (k : Int) : ((ns.map PyData.int).countP fun y => PyData.eqv y (.int k)) = ns.countP fun i => decide (i = k) := by
  rw [List.countP_map]
  have : ((fun y => PyData.eqv y (.int k)) ∘ PyData.int) = fun i => decide (i = k) := by
    funext i
    exact eqv_i i k
  rw [this]
theorem countD_l (ns : List Int) (k : Int) : countD [.list (ns.map .int), .int k] = some (.int ((ns.countP fun i => decide (i = k) : Nat) : Int), false) := by
  show (if dOk (.int k) && !isDict (.int k) then rI' ((((ns.map PyData.int).countP fun y => PyData.eqv y (.int k) : Nat)) : Int) else none) = _
  rw [countP_ints]
  simp [dOk, PyData.depth, isDict, rI']
end L2.DL
/-! DLp: rows of ints compared, shown; comprehensions that change slots -/
namespace L2.DL
open PySem
/-! equality -/
theorem eqvAll_ints : ∀ a b : List Int, PyData.eqvAll (a.map .int) (b.map .int) = decide (a = b)
  | [], [] => by simp [PyData.eqvAll]
  | [], _ :: _ => by simp [PyData.eqvAll]
  | _ :: _, [] => by simp [PyData.eqvAll]
  | x :: a, y :: b => by
    have ih := eqvAll_ints a b
    simp only [List.map_cons, PyData.eqvAll, ih, eqv_i]
    by_cases h : x = y <;> by_cases h2 : a = b <;> simp [h, h2]
theorem eqv_li (a b : List Int) : PyData.eqv (.list (a.map .int)) (.list (b.map .int)) = decide (a = b) := by
  rw [PyData.eqv]; exact eqvAll_ints a b
theorem eqv_ti (a b : List Int) : PyData.eqv (.tuple (a.map .int)) (.tuple (b.map .int)) = decide (a = b) := by
  rw [PyData.eqv]; exact eqvAll_ints a b
theorem depthAll_i : ∀ a : List Int, PyData.depthAll (a.map .int) = 0
  | [] => rfl
  | x :: a => by simp [PyData.depthAll, PyData.depth, depthAll_i a]
theorem dOk_li (a : List Int) : dOk (.list (a.map .int)) = true := by
  unfold dOk
  simp [PyData.depth, depthAll_i]
theorem dOk_ti (a : List Int) : dOk (.tuple (a.map .int)) = true := by
  unfold dOk
  simp [PyData.depth, depthAll_i]
theorem eqD_of {x y : PyData} {b : Bool} (h1 : dOk x = true) (h2 : isDict x = false) (h3 : isDict y = false) (h : PyData.eqv x y = b) : eqD [x, y] = some (.bool b, false) := by
  show (if (dOk x || dOk y) && !isDict x && !isDict y then rB (PyData.eqv x y) else none) = _
  rw [h1, h2, h3, h]; rfl
theorem neD_of {x y : PyData} {b : Bool} (h1 : dOk x = true) (h2 : isDict x = false) (h3 : isDict y = false) (h : PyData.eqv x y = b) : neD [x, y] = some (.bool (!b), false) := by
  show (if (dOk x || dOk y) && !isDict x && !isDict y then rB (!PyData.eqv x y) else none) = _
  rw [h1, h2, h3, h]; rfl
theorem eqD_li (a b : List Int) : eqD [.list (a.map .int), .list (b.map .int)] = some (.bool (decide (a = b)), false) := eqD_of (dOk_li a) rfl rfl (eqv_li a b)
theorem neD_li (a b : List Int) : neD [.list (a.map .int), .list (b.map .int)] = some (.bool (!decide (a = b)), false) := neD_of (dOk_li a) rfl rfl (eqv_li a b)
theorem eqD_ti (a b : List Int) : eqD [.tuple (a.map .int), .tuple (b.map .int)] = some (.bool (decide (a = b)), false) := eqD_of (dOk_ti a) rfl rfl (eqv_ti a b)
theorem neD_ti (a b : List Int) : neD [.tuple (a.map .int), .tuple (b.map .int)] = some (.bool (!decide (a = b)), false) := neD_of (dOk_ti a) rfl rfl (eqv_ti a b)
theorem eqD_same {x : PyData} (h1 : dOk x = true) (h2 : x.plain = true) : eqD [x, x] = some (.bool true, false) := by
  have h3 : isDict x = false := by cases x <;> first | rfl | (simp [PyData.plain] at h2)
  exact eqD_of h1 h3 h3 (PySem.SeqAt.eqv_refl_plain _ h2)
theorem neD_same {x : PyData} (h1 : dOk x = true) (h2 : x.plain = true) : neD [x, x] = some (.bool false, false) := by
  have h3 : isDict x = false := by cases x <;> first | rfl | (simp [PyData.plain] at h2)
  exact neD_of h1 h3 h3 (PySem.SeqAt.eqv_refl_plain _ h2)
/-! repr -/
mutual
/-- what is shown takes no more signs -/
def rz : PyData → Nat
  | .none => 4
  | .bool _ => 5
  | .int _ => 12
  | .str _ => 0
  | .list xs => 2 + rzs xs
  | .tuple xs => 4 + rzs xs
  | .dict _ => 0
def rzs : List PyData → Nat
  | [] => 0
  | x :: xs => rz x + 2 + rzs xs
end
mutual
/-- ints from -100 to 999, bools, None, lists and tuples of these -/
def smD : PyData → Bool
  | .none => true
  | .bool _ => true
  | .int i => decide (-100 ≤ i) && decide (i < 1000)
  | .str _ => false
  | .list xs => smDs xs
  | .tuple xs => smDs xs
  | .dict _ => false
def smDs : List PyData → Bool
  | [] => true
  | x :: xs => smD x && smDs xs
end
theorem int_shown (i : Int) (h1 : -100 ≤ i) (h2 : i < 1000) : ((toString i : String) : Str).length ≤ 12 := by
  have key : ∀ n : Nat, n < 1100 → ((toString ((n : Int) - 100) : String) : Str).length ≤ 12 := by
    have : ((List.range 1100).all fun n => decide (((toString ((n : Int) - 100) : String) : Str).length ≤ 12)) = true := by kernel_rfl
    intro n hn
    exact of_decide_eq_true (List.all_eq_true.mp this n (by simpa using hn))
  have := key (i + 100).toNat (by omega)
  have e : (((i + 100).toNat : Nat) : Int) - 100 = i := by omega
  rwa [e] at this
theorem textFrom_up : ∀ (ts : List Str) (k : Nat) (acc : Str), (textFrom k acc ts).length ≤ acc.length + (ts.map fun t => t.length + 2).sum
  | [], k, acc => by simp [textFrom]
  | t :: r, k, acc => by
    have ih := textFrom_up r (k + 1) (acc ++ (if k > 0 then ", " else "" : String) ++ t)
    rw [strLen_append, strLen_append] at ih
    have hl : (((if k > 0 then ", " else "" : String) : String) : Str).length ≤ 2 := by split <;> decide
    unfold textFrom
    simp only [List.map_cons, List.sum_cons]
    omega
end L2.DL
/-! DLp2: repr of small trees; comprehensions that change slots; sorted rows -/
namespace L2.DL
open PySem
theorem join_up : ∀ ts : List Str, (Str.join ", " ts).length ≤ (ts.map fun t => t.length + 2).sum
  | [] => Nat.zero_le _
  | [x] => by show x.length ≤ _; simp
  | x :: y :: r => by
    have ih := join_up (y :: r)
    show (x ++ ", " ++ Str.join ", " (y :: r)).length ≤ _
    rw [strLen_append, strLen_append]
    have e2 : ((", " : String) : Str).length = 2 := rfl
    simp only [List.map_cons, List.sum_cons] at ih ⊢
    omega
mutual
theorem sm_shown : ∀ d : PyData, smD d = true → d.showable = true ∧ d.shown.length ≤ rz d
  | .none, _ => ⟨rfl, by simp only [PyData.shown, rz]; decide⟩
  | .bool b, _ => ⟨rfl, by cases b <;> simp only [PyData.shown, rz] <;> decide⟩
  | .int i, h => by
    simp only [smD, Bool.and_eq_true, decide_eq_true_eq] at h
    refine ⟨?_, ?_⟩
    · simp only [PyData.showable, decide_eq_true_eq]
      have : i.natAbs < 1024 := by omega
      have h2 : i.natAbs.log2 ≤ 10 := by
        by_cases hz : i.natAbs = 0
        · rw [hz]; decide
        · have := (Nat.log2_lt hz (k := 11)).mpr (by omega)
          omega
      omega
    · simp only [PyData.shown, rz]
      exact int_shown i h.1 h.2
  | .str _, h => by simp [smD] at h
  | .list xs, h => by
    obtain ⟨h1, h2⟩ := sms_shown xs (by simpa [smD] using h)
    refine ⟨by simpa [PyData.showable] using h1, ?_⟩
    simp only [PyData.shown, rz]
    unfold listText
    rw [strLen_append]
    have h3 := textFrom_up (PyData.shownAll xs) 0 "["
    have e1 : (("[" : String) : Str).length = 1 := rfl
    have e2 : (("]" : String) : Str).length = 1 := rfl
    omega
  | .tuple xs, h => by
    obtain ⟨h1, h2⟩ := sms_shown xs (by simpa [smD] using h)
    refine ⟨by simpa [PyData.showable] using h1, ?_⟩
    simp only [PyData.shown, rz]
    unfold tupleText
    rw [strLen_append, strLen_append]
    have h3 := join_up (PyData.shownAll xs)
    have e1 : (("(" : String) : Str).length = 1 := rfl
    have e2 : (((if (PyData.shownAll xs).length == 1 then ",)" else ")" : String) : String) : Str).length ≤ 2 := by split <;> decide
    omega
  | .dict _, h => by simp [smD] at h
theorem sms_shown : ∀ xs : List PyData, smDs xs = true → PyData.showableAll xs = true ∧ ((PyData.shownAll xs).map fun t => t.length + 2).sum ≤ rzs xs
  | [], _ => ⟨rfl, by simp [PyData.shownAll, rzs]⟩
  | x :: xs, h => by
    simp only [smDs, Bool.and_eq_true] at h
    obtain ⟨h1, h2⟩ := sm_shown x h.1
    obtain ⟨h3, h4⟩ := sms_shown xs h.2
    refine ⟨by simp [PyData.showableAll, h1, h3], ?_⟩
    simp only [PyData.shownAll, List.map_cons, List.sum_cons, rzs]
    omega
end
theorem r_repr {d : PyData} (h : smD d = true) (h2 : d.depth ≤ 60) (h3 : rz d ≤ 4000000) : reprX [d] = some (.str d.shown, false) := by
  obtain ⟨q1, q2⟩ := sm_shown d h
  have nd : isDict d = false := by cases d <;> first | rfl | (simp [smD] at h)
  have hd : dOk d = true := decide_eq_true h2
  have hl : decide (d.shown.length ≤ lim) = true := decide_eq_true (Nat.le_trans q2 h3)
  show (if (!isDict d && dOk d && d.showable && decide (d.shown.length ≤ lim)) = true then rV (.str d.shown) else none) = _
  rw [nd, hd, q1, hl]
  rfl
theorem eqD_str (s : Str) : eqD [.str s, .str s] = some (.bool true, false) := eqD_same (by simp [dOk, PyData.depth]) rfl
theorem neD_str (s : Str) : neD [.str s, .str s] = some (.bool false, false) := neD_same (by simp [dOk, PyData.depth]) rfl
theorem rzs_ints (a : List Int) : rzs (a.map .int) = a.length * 14 := by
  induction a with
  | nil => rfl
  | cons x a ih => simp [rzs, rz, ih]; omega
theorem sms_ints (a : List Int) (h : ∀ i ∈ a, -100 ≤ i ∧ i < 1000) : smDs (a.map .int) = true := by
  induction a with
  | nil => rfl
  | cons x a ih =>
    have h1 := h x (by simp)
    simp [smDs, smD, h1.1, h1.2, ih fun i hi => h i (by simp [hi])]
/-! membership -/
theorem inX_ints (p : Int) (a : List Int) : inX [.int p, .list (a.map .int)] = some (.bool (decide (p ∈ a)), false) := by
  have e : ((a.map PyData.int).any fun y => PyData.eqv y (.int p)) = decide (p ∈ a) := by
    rw [List.any_map]
    rw [Bool.eq_iff_iff]
    simp only [List.any_eq_true, decide_eq_true_eq, Function.comp]
    constructor
    · rintro ⟨x, h1, h2⟩
      rw [eqv_i] at h2
      have := of_decide_eq_true h2
      subst this; exact h1
    · intro h
      exact ⟨p, h, by rw [eqv_i]; simp⟩
  show inD [.int p, .list (a.map .int)] = _
  show (if dOk (.int p) && !isDict (.int p) then rB ((a.map PyData.int).any fun y => PyData.eqv y (.int p)) else none) = _
  rw [e]
  simp [dOk, PyData.depth, isDict, rB]
/-! comprehensions -/
theorem compL_inv {vs : List Nat} {tg : Tg} {t : M Bool} {e : M Opd} (I : Nat → List PyData → L → Prop) : ∀ (xs : List PyData) (k : Nat) (acc : List PyData) (l : L), I k acc l →
    (∀ j acc l (h : j < xs.length), I (k + j) acc l → ∃ l2 l3 d l4, asgT tg xs[j] l = .ok () l2 ∧ t l2 = .ok true l3 ∧ bd e shareO l3 = .ok d l4 ∧ I (k + j + 1) (d :: acc) (wipeL vs l4)) →
    ∃ acc' l', compL vs tg t e xs acc l = .ok acc'.reverse l' ∧ I (k + xs.length) acc' l'
  | [], k, acc, l, h0, _ => ⟨acc, l, rfl, h0⟩
  | x :: xs, k, acc, l, h0, hs => by
    obtain ⟨l2, l3, d, l4, h1, h2, h3, h4⟩ := hs 0 acc l (by simp) h0
    obtain ⟨acc', l', h5, h6⟩ := compL_inv I xs (k + 1) (d :: acc) (wipeL vs l4) h4 fun j acc l h hI => by
      have := hs (j + 1) acc l (by simpa using h) (by rw [show k + (j + 1) = k + 1 + j by omega]; exact hI)
      rw [show k + (j + 1) + 1 = k + 1 + j + 1 by omega] at this
      exact this
    refine ⟨acc', l', ?_, by rw [List.length_cons, show k + (xs.length + 1) = k + 1 + xs.length by omega]; exact h6⟩
    have h1' : asgT tg x l = .ok () l2 := h1
    unfold compL
    rw [bd_run, h1', th_ok, bd_run, h2, th_ok]
    show (bd e fun o => bd (shareO o) fun d => bd (wipeM vs) fun _ => compL vs tg t e xs (d :: acc)) l3 = _
    rw [bd_assoc, h3, th_ok]
    exact h5
theorem comp_inv {vs : List Nat} {tg : Tg} {it : M Its} {t : M Bool} {e : M Opd} {l l0 l1 : L} {xs : List PyData} {src js : List Nat} {pl : Bool} (I : Nat → List PyData → L → Prop) (hx : it l = .ok ⟨xs, src, pl⟩ l0) (hlen : xs.length ≤ 4000000)
    (hf : tg.fits pl = true ∧ tg.slots.all vs.contains = true) (hk : lockAll src l0 = .ok js l1) (h0 : I 0 [] (wipeL vs l1))
    (hs : ∀ j acc l (h : j < xs.length), I j acc l → ∃ l2 l3 d l4, asgT tg xs[j] l = .ok () l2 ∧ t l2 = .ok true l3 ∧ bd e shareO l3 = .ok d l4 ∧ I (j + 1) (d :: acc) (wipeL vs l4)) :
    ∃ acc' l', eComp vs tg it t e l = .ok (.t (.list acc'.reverse)) (unlockL js (backL vs l1 l')) ∧ I xs.length acc' l' := by
  obtain ⟨acc', l', h1, h2⟩ := compL_inv (vs := vs) (tg := tg) (t := t) (e := e) I xs 0 [] (wipeL vs l1) h0 fun j acc l h hI => by
    have := hs j acc l h (by simpa using hI)
    simpa using this
  refine ⟨acc', l', ?_, by simpa using h2⟩
  unfold eComp
  rw [bd_run, hx, th_ok, if_pos ⟨hlen, hf.1, hf.2⟩, bd_run, hk, th_ok]
  show cEnd js vs l1 (compL vs tg t e xs [] (wipeL vs l1)) = _
  rw [h1]
  rfl
end L2.DL
/-! DLmath: columns of cards -/
namespace L2.DL
open PySem
/-! ## mathematics of columns -/
theorem filter_one {c o : Nat} (h : o < c) : (List.range c).filter (fun q => decide (q = o)) = [o] := by
  induction c with
  | zero => omega
  | succ c ih =>
    rw [List.range_succ, List.filter_append]
    by_cases e : o = c
    · subst e
      have : (List.range o).filter (fun q => decide (q = o)) = [] := by
        rw [List.filter_eq_nil_iff]
        intro q hq
        have := List.mem_range.mp hq
        simp; omega
      rw [this]; simp
    · rw [ih (by omega)]
      have : decide (c = o) = false := by simp; omega
      simp [this]
/-- the cards of a column, from its first on -/
def rowN (c r o : Nat) : List Nat := (List.range r).map fun i => c * i + o
theorem row_filter {c o : Nat} (h : o < c) : ∀ r : Nat, (List.range (c * r)).filter (fun q => decide (q % c = o)) = rowN c r o
  | 0 => rfl
  | r + 1 => by
    rw [Nat.mul_succ, List.range_add, List.filter_append, row_filter h r]
    unfold rowN
    rw [List.range_succ, List.map_append, List.filter_map]
    congr 1
    have : ((fun q => decide (q % c = o)) ∘ fun x => c * r + x) = fun x => decide (x % c = o) := by
      funext x
      simp [Nat.mul_add_mod]
    rw [this]
    have e2 : (List.range c).filter (fun x => decide (x % c = o)) = (List.range c).filter fun x => decide (x = o) := by
      refine List.filter_congr fun x hx => ?_
      have := List.mem_range.mp hx
      rw [Nat.mod_eq_of_lt this]
    rw [e2, filter_one h]
    simp
theorem row_len (c r o : Nat) : (rowN c r o).length = r := by simp [rowN]
theorem row_mem {c r o p : Nat} (h : o < c) : p ∈ rowN c r o ↔ p < c * r ∧ p % c = o := by
  rw [← row_filter h r, List.mem_filter]
  simp
theorem row_idx {c r p : Nat} (hc : 0 < c) (h : p < c * r) : (rowN c r (p % c)).findIdx? (fun q => decide (q = p)) = some (p / c) := by
  have hd : p / c < r := Nat.div_lt_of_lt_mul h
  rw [List.findIdx?_eq_some_iff_getElem]
  refine ⟨by rw [row_len]; exact hd, ?_, fun j hj => ?_⟩
  · simp [rowN, Nat.div_add_mod]
  · simp only [rowN, List.getElem_map, List.getElem_range, decide_eq_true_eq]
    intro e
    have e2 := Nat.div_add_mod p c
    have : c * j = c * (p / c) := by omega
    have := Nat.eq_of_mul_eq_mul_left hc this
    omega
theorem findIdx_none {α : Type} {f : α → Bool} {xs : List α} (h : ∀ x ∈ xs, f x = false) : xs.findIdx? f = none := by
  rw [List.findIdx?_eq_none_iff]
  exact h
theorem filter_compl {α : Type} (f : α → Bool) : ∀ xs : List α, (xs.filter f).length + (xs.filter fun x => !f x).length = xs.length
  | [] => rfl
  | x :: xs => by
    have ih := filter_compl f xs
    cases h : f x <;> simp [h] <;> omega
/-- where the card comes to lie -/
theorem goes_idx {c r p k : Nat} (hc : 0 < c) (h : p < c * r) (hk : k < c) (rest : List Nat) (hr : rest = (List.range c).filter fun q => decide (q ≠ p % c)) :
    (((rest.take k ++ [p % c]) ++ rest.drop k).flatMap (rowN c r)).findIdx? (fun q => decide (q = p)) = some (k * r + p / c) := by
  have ho : p % c < c := Nat.mod_lt _ hc
  have hlen : rest.length = c - 1 := by
    have h1 := filter_compl (fun q => decide (q = p % c)) (List.range c)
    rw [filter_one ho] at h1
    have h2 : (List.range c).filter (fun q => !decide (q = p % c)) = rest := by
      rw [hr]; congr 1; funext q; simp
    rw [h2] at h1
    simp at h1
    omega
  have hmem : ∀ q ∈ rest, q < c ∧ q ≠ p % c := fun q hq => by
    rw [hr, List.mem_filter] at hq
    simpa using hq
  rw [List.flatMap_append, List.flatMap_append, List.append_assoc, List.findIdx?_append, List.findIdx?_append]
  have n1 : ((rest.take k).flatMap (rowN c r)).findIdx? (fun q => decide (q = p)) = none := by
    refine findIdx_none fun q hq => ?_
    obtain ⟨o, h1, h2⟩ := List.mem_flatMap.mp hq
    obtain ⟨h3, h4⟩ := hmem o (List.mem_of_mem_take h1)
    have := (row_mem h3).mp h2
    refine decide_eq_false fun e => h4 ?_
    rw [← this.2, e]
  have l1 : ((rest.take k).flatMap (rowN c r)).length = k * r := by
    rw [List.length_flatMap]
    have : (rest.take k).map (fun a => (rowN c r a).length) = (rest.take k).map fun _ => r := List.map_congr_left fun a _ => row_len c r a
    rw [this, List.map_const', List.sum_replicate_nat, List.length_take, hlen]
    congr 1
    omega
  rw [n1, l1]
  simp only [List.flatMap_singleton, row_idx hc h]
  simp
  omega
/-- the answers of the card at p, behind choices -/
def ansF (c r : Nat) : Nat → List Nat → List Nat
  | _, [] => []
  | p, k :: ks => p % c :: ansF c r (k * r + p / c) ks
theorem ans_len (c r : Nat) : ∀ (ks : List Nat) (p : Nat), (ansF c r p ks).length = ks.length
  | [], _ => rfl
  | k :: ks, p => by simp [ansF, ans_len c r ks]
theorem ans_lt {c r : Nat} (hc : 0 < c) : ∀ (ks : List Nat) (p : Nat), ∀ a ∈ ansF c r p ks, a < c
  | [], _, a, h => by simp [ansF] at h
  | k :: ks, p, a, h => by
    rcases List.mem_cons.mp h with e | e
    · rw [e]; exact Nat.mod_lt _ hc
    · exact ans_lt hc ks _ a e
theorem goes_lt {c r p k : Nat} (hp : p < c * r) (hk : k < c) : k * r + p / c < c * r := by
  have h1 : p / c < r := Nat.div_lt_of_lt_mul hp
  have h2 : (k + 1) * r ≤ c * r := Nat.mul_le_mul_right _ hk
  rw [Nat.succ_mul] at h2
  omega
end L2.DL
/-! DLnat: rows of naturals -/
namespace L2.DL
open PySem
def nI (xs : List Nat) : List PyData := xs.map fun n => .int (n : Nat)
def nZ (xs : List Nat) : List Int := xs.map fun (n : Nat) => (n : Int)
theorem nI_eq (xs : List Nat) : nI xs = (nZ xs).map .int := by simp [nI, nZ]
theorem nI_len (xs : List Nat) : (nI xs).length = xs.length := by simp [nI]
theorem nI_append (a b : List Nat) : nI (a ++ b) = nI a ++ nI b := by simp [nI]
theorem nZ_inj {a b : List Nat} : nZ a = nZ b ↔ a = b := by
  constructor
  · intro h
    unfold nZ at h
    exact (List.map_inj_right (fun x y e => by exact_mod_cast e)).mp h
  · intro h; rw [h]
theorem eqD_n (a b : List Nat) : eqD [.list (nI a), .list (nI b)] = some (.bool (decide (a = b)), false) := by
  rw [nI_eq, nI_eq, eqD_li]
  congr 3
  exact decide_eq_decide.mpr nZ_inj
theorem neD_n (a b : List Nat) : neD [.list (nI a), .list (nI b)] = some (.bool (!decide (a = b)), false) := by
  rw [nI_eq, nI_eq, neD_li]
  congr 4
  exact decide_eq_decide.mpr nZ_inj
theorem idx_nI {xs : List Nat} {i : Nat} {x : Nat} (h : xs[i]? = some x) : idxX [.list (nI xs), .int (i : Nat)] = some (.int (x : Nat), false) :=
  idxL (by omega) (by simp [nI, h])
theorem find_n (xs : List Nat) (p : Nat) : SeqAt.dataPlace (nI xs) (.int (p : Nat)) = xs.findIdx? fun q => decide (q = p) := by
  unfold SeqAt.dataPlace nI
  rw [List.findIdx?_map]
  congr 1
  funext q
  show PyData.eqv (.int (q : Nat)) (.int (p : Nat)) = _
  rw [eqv_i]
  exact decide_eq_decide.mpr (by omega)
theorem indexD_n {xs : List Nat} {p i : Nat} (h : (xs.findIdx? fun q => decide (q = p)) = some i) : indexD [.list (nI xs), .int (p : Nat)] = some (.int (i : Nat), false) := by
  show (if dOk (.int (p : Nat)) && !isDict (.int (p : Nat)) then (SeqAt.dataPlace (nI xs) (.int (p : Nat))).map fun k => (PyData.int (k : Nat), false) else none) = _
  rw [find_n, h]
  simp [dOk, PyData.depth, isDict]
theorem inX_n (p : Nat) (a : List Nat) : inX [.int (p : Nat), .list (nI a)] = some (.bool (decide (p ∈ a)), false) := by
  rw [nI_eq, inX_ints]
  congr 3
  refine decide_eq_decide.mpr ⟨fun h => ?_, fun h => List.mem_map.mpr ⟨p, h, rfl⟩⟩
  obtain ⟨q, h1, h2⟩ := List.mem_map.mp h
  have : q = p := by omega
  subst this; exact h1
theorem rng_n {n : Nat} (h : n ≤ 1000000) : rangeOf [.int (n : Nat)] = some (nI (List.range n)) := by
  rw [rangeOf1 (by omega) (by omega)]
  simp [upto, nI]
theorem modD_n (q c : Nat) (h : 0 < c) : modD [.int (q : Nat), .int (c : Nat)] = some (.int ((q % c : Nat) : Int), false) := by
  rw [modD_i _ _ (by omega)]
  rfl
theorem fdivD_n (q c : Nat) (h : 0 < c) (h2 : c ≤ 1000000) : fdivD [.int (q : Nat), .int (c : Nat)] = some (.int ((q / c : Nat) : Int), false) := by
  rw [fdivD_i _ _ (by omega) (by omega)]
  rfl
theorem eqD_nn (a b : Nat) : eqD [.int (a : Nat), .int (b : Nat)] = some (.bool (decide (a = b)), false) := by
  rw [eqD_i]
  congr 3
  exact decide_eq_decide.mpr (by omega)
theorem neD_nn (a b : Nat) : neD [.int (a : Nat), .int (b : Nat)] = some (.bool (!decide (a = b)), false) := by
  rw [neD_i]
  congr 4
  exact decide_eq_decide.mpr (by omega)
theorem mulD_n (a b : Nat) (h : a ≤ 1000000) : mulD [.int (a : Nat), .int (b : Nat)] = some (.int ((a * b : Nat) : Int), false) := by
  rw [mulD_of _ _ (by omega) (by omega)]
  simp
theorem addD_n (a b : Nat) : addD [.int (a : Nat), .int (b : Nat)] = some (.int ((a + b : Nat) : Int), false) := by
  rw [addD_i]
  simp
theorem at_sn (xs : List PyData) (k : Nat) : sliceO (.list xs) none (some (k : Nat)) none = some (.list (xs.take k), true) := by
  show some (PyData.list (cutL xs none (some (k : Nat))), true) = _
  unfold cutL
  have h1 : HT.sIx xs.length 0 none = 0 := rfl
  rw [h1]
  have h2 : xs.take (HT.sIx xs.length xs.length (some (k : Nat)) - 0) = xs.take k := by
    have : HT.sIx xs.length xs.length (some ((k : Nat) : Int)) = min k xs.length := by
      simp [HT.sIx]
      try omega
    rw [this, Nat.sub_zero]
    by_cases h : k ≤ xs.length
    · rw [Nat.min_eq_left h]
    · rw [Nat.min_eq_right (by omega), List.take_of_length_le (by omega), List.take_of_length_le (by omega)]
  rw [List.drop_zero, h2]
theorem at_ns (xs : List PyData) (k : Nat) : sliceO (.list xs) (some (k : Nat)) none none = some (.list (xs.drop k), true) := by
  show some (PyData.list (cutL xs (some (k : Nat)) none), true) = _
  unfold cutL
  have h1 : HT.sIx xs.length xs.length none = xs.length := rfl
  have h2 : HT.sIx xs.length 0 (some ((k : Nat) : Int)) = min k xs.length := by
    simp [HT.sIx]
    try omega
  rw [h1, h2]
  by_cases h : k ≤ xs.length
  · rw [Nat.min_eq_left h, List.take_of_length_le (by rw [List.length_drop]; omega)]
  · rw [Nat.min_eq_right (by omega), List.drop_of_length_le (by omega), List.drop_of_length_le (by omega)]
    simp
end L2.DL
/-! DLcnt: a dict that counts rows of naturals; the greatest of some -/
namespace L2.DL
open PySem
@[simp] theorem eDct0_run (l : L) : eDct0 true l = .ok (.t (.dict [(.none, .none)])) l := rfl
@[simp] theorem isD'_d (kvs : List (PyData × PyData)) : isD' (.dict kvs) = some () := rfl
@[simp] theorem eDGet_run (m : M Opd) (es : List (M Opd)) (l : L) : eDGet m es l = (m l).th fun o => bd (readO o) fun d => bd (lft (isD' d)) fun _ => bd (evs es) fun os => bd (shareAll os) fun ds => bd (readO o) fun d2 => bd (lft (dGetD d2 ds)) fun z => rt (.v z) := rfl
/-- rows, each once, as they came -/
def dkeys : List (List Nat) → List (List Nat) := fun L => L.foldl (fun acc a => if a ∈ acc then acc else acc ++ [a]) []
theorem dkeys_snoc (L : List (List Nat)) (a : List Nat) : dkeys (L ++ [a]) = if a ∈ dkeys L then dkeys L else dkeys L ++ [a] := by
  unfold dkeys
  rw [List.foldl_append]
  rfl
theorem fold_mem (L : List (List Nat)) : ∀ (acc : List (List Nat)) (b : List Nat), b ∈ L.foldl (fun acc a => if a ∈ acc then acc else acc ++ [a]) acc ↔ b ∈ acc ∨ b ∈ L := by
  induction L with
  | nil => intro acc b; simp
  | cons a L ih =>
    intro acc b
    rw [List.foldl_cons, ih]
    by_cases h : a ∈ acc
    · rw [if_pos h]
      constructor
      · rintro (q | q)
        · exact .inl q
        · exact .inr (List.mem_cons_of_mem _ q)
      · rintro (q | q)
        · exact .inl q
        · rcases List.mem_cons.mp q with e | e
          · subst e; exact .inl h
          · exact .inr e
    · rw [if_neg h]
      simp only [List.mem_append, List.mem_cons, List.not_mem_nil, or_false]
      exact or_assoc
theorem mem_dkeys {L : List (List Nat)} {b : List Nat} : b ∈ dkeys L ↔ b ∈ L := by
  unfold dkeys
  rw [fold_mem]
  simp
theorem dkeys_len (L : List (List Nat)) : (dkeys L).length ≤ L.length := by
  have key : ∀ (L : List (List Nat)) (acc : List (List Nat)), (L.foldl (fun acc a => if a ∈ acc then acc else acc ++ [a]) acc).length ≤ acc.length + L.length := fun L => by
    induction L with
    | nil => intro acc; simp
    | cons a L ih =>
      intro acc
      rw [List.foldl_cons]
      by_cases h : a ∈ acc
      · rw [if_pos h]; have := ih acc; simp; omega
      · rw [if_neg h]; have := ih (acc ++ [a]); simp at this ⊢; omega
  have := key L []
  simpa [dkeys] using this
/-- the entries, each row with how often it came in L -/
def cE (ks L : List (List Nat)) : List (PyData × PyData) := ks.map fun a => (.tuple (nI a), .int ((L.count a : Nat) : Int))
theorem intsP_n : ∀ a : List Nat, intsP (nI a) = some (nZ a)
  | [] => rfl
  | x :: a => by
    show (intsP (nI a)).map _ = _
    rw [intsP_n a]; rfl
theorem keyI_n (a : List Nat) : keyI (.tuple (nI a)) = some (nZ a) := intsP_n a
theorem keyI_eq (a b : List Nat) : (keyI (.tuple (nI b)) = some (nZ a)) ↔ b = a := by
  rw [keyI_n]
  constructor
  · intro h; exact nZ_inj.mp (Option.some.inj h)
  · intro h; rw [h]
theorem find_eq {α : Type} [DecidableEq α] (a : α) : ∀ l : List α, (l.find? fun b => decide (b = a)) = if a ∈ l then some a else none
  | [] => rfl
  | b :: l => by
    rw [List.find?_cons]
    by_cases h : b = a
    · subst h; simp
    · have : decide (b = a) = false := decide_eq_false h
      rw [this]
      simp only
      rw [find_eq a l]
      have h2 : (a ∈ b :: l) ↔ a ∈ l := by simp [Ne.symm h]
      by_cases h3 : a ∈ l
      · rw [if_pos h3, if_pos (h2.mpr h3)]
      · rw [if_neg h3, if_neg fun z => h3 (h2.mp z)]
theorem look_cE (ks L : List (List Nat)) (a : List Nat) : lookD keyI (cE ks L) (nZ a) = if a ∈ ks then some (.int ((L.count a : Nat) : Int)) else none := by
  unfold lookD cE
  rw [List.find?_map]
  have e : ((fun p : PyData × PyData => decide (keyI p.1 = some (nZ a))) ∘ fun a : List Nat => ((.tuple (nI a) : PyData), (.int ((L.count a : Nat) : Int) : PyData))) = fun b => decide (b = a) := by
    funext b
    exact decide_eq_decide.mpr (keyI_eq a b)
  rw [e, find_eq]
  split <;> rfl
theorem any_cE (ks L : List (List Nat)) (a : List Nat) : ((cE ks L).any fun p => decide (keyI p.1 = some (nZ a))) = decide (a ∈ ks) := by
  rw [Bool.eq_iff_iff]
  unfold cE
  simp only [List.any_map, List.any_eq_true, decide_eq_true_eq, Function.comp]
  constructor
  · rintro ⟨b, h1, h2⟩
    rw [keyI_eq] at h2
    subst h2; exact h1
  · intro h
    exact ⟨a, h, (keyI_eq a a).mpr rfl⟩
theorem put_cE (L : List (List Nat)) (a : List Nat) : putD keyI (cE (dkeys L) L) (.tuple (nI a)) (.int ((L.count a + 1 : Nat) : Int)) (nZ a) = cE (dkeys (L ++ [a])) (L ++ [a]) := by
  have hc : ∀ b : List Nat, (L ++ [a]).count b = if b = a then L.count b + 1 else L.count b := fun b => by
    rw [List.count_append]
    by_cases h : b = a
    · subst h; simp
    · rw [if_neg h]
      have : [a].count b = 0 := List.count_eq_zero.mpr (by simp [h])
      omega
  unfold putD
  rw [any_cE, dkeys_snoc]
  by_cases h : a ∈ dkeys L
  · rw [if_pos (decide_eq_true h), if_pos h]
    unfold cE
    rw [List.map_map]
    refine List.map_congr_left fun b _ => ?_
    simp only [Function.comp]
    by_cases e : b = a
    · subst e
      rw [if_pos ((keyI_eq b b).mpr rfl), hc, if_pos rfl]
    · rw [if_neg fun z => e ((keyI_eq a b).mp z), hc, if_neg e]
  · rw [if_neg (by simpa using h), if_neg h]
    unfold cE
    rw [List.map_append]
    congr 1
    · refine List.map_congr_left fun b hb => ?_
      have : b ≠ a := fun e => h (e ▸ hb)
      rw [hc, if_neg this]
    · simp only [List.map_cons, List.map_nil]
      rw [hc, if_pos rfl]
def cD (L : List (List Nat)) : PyData := .dict ((.none, .none) :: cE (dkeys L) L)
theorem cD_get (L : List (List Nat)) (a : List Nat) : dGetD (cD L) [.tuple (nI a), .int 0] = some (.int ((L.count a : Nat) : Int)) := by
  show ((keyI (.tuple (nI a))).map fun ks => lookD keyI (cE (dkeys L) L) ks).map (·.getD (.int 0)) = _
  rw [keyI_n]
  simp only [Option.map_some]
  rw [look_cE]
  by_cases h : a ∈ dkeys L
  · rw [if_pos h]; rfl
  · rw [if_neg h]
    have : L.count a = 0 := List.count_eq_zero.mpr fun z => h (mem_dkeys.mpr z)
    rw [this]; rfl
theorem cD_put (L : List (List Nat)) (a : List Nat) (hl : L.length < 4000000) : putAt (cD L) (.tuple (nI a)) (.int ((L.count a + 1 : Nat) : Int)) = some (cD (L ++ [a])) := by
  show dPut ((.none, .none) :: cE (dkeys L) L) (.tuple (nI a)) (.int ((L.count a + 1 : Nat) : Int)) = _
  show ((keyI (.tuple (nI a))).bind fun ks => if (cE (dkeys L) L).length < lim then some (PyData.dict ((.none, .none) :: putD keyI (cE (dkeys L) L) (.tuple (nI a)) (.int ((L.count a + 1 : Nat) : Int)) ks)) else none) = _
  rw [keyI_n]
  simp only [Option.bind_some]
  have h1 : (cE (dkeys L) L).length < lim := by
    unfold cE
    rw [List.length_map]
    exact Nat.lt_of_le_of_lt (dkeys_len L) hl
  rw [if_pos h1, put_cE]
  rfl
theorem cD_idx {L : List (List Nat)} {a : List Nat} (h : a ∈ L) : idxX [cD L, .tuple (nI a)] = some (.int ((L.count a : Nat) : Int), false) := by
  have e : dGet ((.none, .none) :: cE (dkeys L) L) (.tuple (nI a)) = some (some (.int ((L.count a : Nat) : Int))) := by
    show (keyI (.tuple (nI a))).map (fun ks => lookD keyI (cE (dkeys L) L) ks) = _
    rw [keyI_n]
    simp only [Option.map_some]
    rw [look_cE, if_pos (mem_dkeys.mpr h)]
  show (match dGet ((.none, .none) :: cE (dkeys L) L) (.tuple (nI a)) with | some (some d) => some (d, false) | _ => none) = _
  rw [e]
theorem cD_keys (L : List (List Nat)) (hl : L.length ≤ 4000000) : listX [cD L] = some (.list ((dkeys L).map fun a => .tuple (nI a)), true) := by
  have h1 : dLen ((.none, .none) :: cE (dkeys L) L) ≤ lim := by
    show (cE (dkeys L) L).length ≤ lim
    unfold cE
    rw [List.length_map]
    exact Nat.le_trans (dkeys_len L) hl
  show (if dLen ((.none, .none) :: cE (dkeys L) L) ≤ lim then rT (.list (dKeys ((.none, .none) :: cE (dkeys L) L))) else none) = _
  rw [if_pos h1]
  show some (PyData.list ((cE (dkeys L) L).map (·.1)), true) = _
  unfold cE
  rw [List.map_map]
  rfl
/-! sorted -/
theorem insO_mem' {α : Type} {le : α → α → Bool} (x : α) : ∀ (ys : List α), x ∈ insO le x ys ∧ ∀ a ∈ ys, a ∈ insO le x ys
  | [] => ⟨by simp [insO], fun a h => by simp at h⟩
  | y :: ys => by
    obtain ⟨h1, h2⟩ := insO_mem' (le := le) x ys
    unfold insO
    split
    · exact ⟨by simp, fun a h => by simp only [List.mem_cons] at h ⊢; exact .inr h⟩
    · refine ⟨List.mem_cons_of_mem _ h1, fun a h => ?_⟩
      rcases List.mem_cons.mp h with e | e
      · rw [e]; simp
      · exact List.mem_cons_of_mem _ (h2 a e)
theorem insS_mem' {α : Type} {le : α → α → Bool} : ∀ {xs : List α} {a : α}, a ∈ xs → a ∈ insS le xs
  | x :: xs, a, h => by
    show a ∈ insO le x (insS le xs)
    rcases List.mem_cons.mp h with e | e
    · rw [e]; exact (insO_mem' x _).1
    · exact (insO_mem' x _).2 a (insS_mem' e)
theorem insO_len {α : Type} {le : α → α → Bool} (x : α) : ∀ ys : List α, (insO le x ys).length = ys.length + 1
  | [] => rfl
  | y :: ys => by
    unfold insO
    split
    · rfl
    · simp [insO_len x ys]
theorem insS_len {α : Type} {le : α → α → Bool} : ∀ xs : List α, (insS le xs).length = xs.length
  | [] => rfl
  | x :: xs => by
    show (insO le x (insS le xs)).length = _
    rw [insO_len, insS_len xs]; rfl
theorem all_map {α β : Type} (f : α → β) : ∀ ys : List β, (∀ y ∈ ys, ∃ a, y = f a) → ∃ zs : List α, ys = zs.map f
  | [], _ => ⟨[], rfl⟩
  | y :: ys, h => by
    obtain ⟨a, e⟩ := h y (by simp)
    obtain ⟨zs, e2⟩ := all_map f ys fun z hz => h z (by simp [hz])
    exact ⟨a :: zs, by rw [e, e2]; rfl⟩
theorem isInt_n (a : List Nat) : (nI a).all isInt = true := by
  induction a with
  | nil => rfl
  | cons x a ih => simpa [nI, isInt] using ih
theorem tup_inj {a b : List Nat} (h : PyData.tuple (nI a) = PyData.tuple (nI b)) : a = b := by
  have h1 : keyI (.tuple (nI a)) = some (nZ b) := by rw [h]; exact keyI_n b
  exact (keyI_eq b a).mp h1
/-- sorted rows, all empty or none -/
theorem sort_rows (ks : List (List Nat)) (hl : ks.length ≤ 4000000) (h : (∀ a ∈ ks, a ≠ []) ∨ ks = [[]]) : ∃ zs : List (List Nat), sortedX [.list (ks.map fun a => .tuple (nI a))] = some (.list (zs.map fun a => .tuple (nI a)), true) ∧ (∀ a, a ∈ zs ↔ a ∈ ks) := by
  obtain ⟨zs, hz⟩ := all_map (fun a : List Nat => PyData.tuple (nI a)) (insS leD' (ks.map fun a => PyData.tuple (nI a))) fun y hy => by
    obtain ⟨a, _, e⟩ := List.mem_map.mp (insS_mem hy)
    exact ⟨a, e.symm⟩
  refine ⟨zs, ?_, fun a => ⟨fun q => ?_, fun q => ?_⟩⟩
  · show (sortD (ks.map fun a => .tuple (nI a))).map _ = _
    unfold sortD
    have hk : (kdOk (ks.map fun a => PyData.tuple (nI a)) || isE (ks.map fun a => PyData.tuple (nI a))) = true := by
      rw [Bool.or_eq_true]
      rcases h with h | h
      · left
        unfold kdOk
        rw [List.any_eq_true]
        refine ⟨.is, by simp [kds], ?_⟩
        rw [List.all_eq_true]
        intro y hy
        obtain ⟨a, ha, e⟩ := List.mem_map.mp hy
        subst e
        have hne := h a ha
        simp only [ofKd, isInt_n, Bool.and_true, Bool.not_eq_true']
        cases a with
        | nil => exact absurd rfl hne
        | cons x a => rfl
      · right
        rw [h]; rfl
    have hd : decide ((ks.map fun a => PyData.tuple (nI a)).length ≤ lim) = true := decide_eq_true (by rw [List.length_map]; exact hl)
    rw [hk, hd]
    rw [hz]
    rfl
  · have : PyData.tuple (nI a) ∈ insS leD' (ks.map fun a => PyData.tuple (nI a)) := by rw [hz]; exact List.mem_map.mpr ⟨a, q, rfl⟩
    obtain ⟨b, hb, e⟩ := List.mem_map.mp (insS_mem this)
    rw [← tup_inj e]; exact hb
  · have : PyData.tuple (nI a) ∈ insS leD' (ks.map fun a => PyData.tuple (nI a)) := insS_mem' (List.mem_map.mpr ⟨a, q, rfl⟩)
    rw [hz] at this
    obtain ⟨b, hb, e⟩ := List.mem_map.mp this
    rw [← tup_inj e]; exact hb
/-! the greatest -/
theorem maxI_ge : ∀ (ns : List Int) (n : Int), n ≤ maxI n ns ∧ (∀ x ∈ ns, x ≤ maxI n ns) ∧ (maxI n ns = n ∨ maxI n ns ∈ ns)
  | [], n => ⟨Int.le_refl _, fun x h => by simp at h, .inl rfl⟩
  | m :: ns, n => by
    obtain ⟨h1, h2, h3⟩ := maxI_ge ns (max n m)
    have e : maxI n (m :: ns) = maxI (max n m) ns := rfl
    rw [e]
    refine ⟨by omega, fun x hx => ?_, ?_⟩
    · rcases List.mem_cons.mp hx with q | q
      · subst q; omega
      · exact h2 x q
    · rcases h3 with q | q
      · rw [q]
        by_cases z : m ≤ n
        · left; omega
        · right; have : max n m = m := by omega
          rw [this]; simp
      · right; exact List.mem_cons_of_mem _ q
theorem maxI_same {n m : Int} {ns ms : List Int} (h : ∀ v, v ∈ n :: ns ↔ v ∈ m :: ms) : maxI n ns = maxI m ms := by
  obtain ⟨a1, a2, a3⟩ := maxI_ge ns n
  obtain ⟨b1, b2, b3⟩ := maxI_ge ms m
  have ia : maxI n ns ∈ n :: ns := by rcases a3 with q | q <;> simp [q]
  have ib : maxI m ms ∈ m :: ms := by rcases b3 with q | q <;> simp [q]
  have ja := (h _).mp ia
  have jb := (h _).mpr ib
  have l1 : maxI n ns ≤ maxI m ms := by
    rcases List.mem_cons.mp ja with q | q
    · rw [q]; exact b1
    · exact b2 _ q
  have l2 : maxI m ms ≤ maxI n ns := by
    rcases List.mem_cons.mp jb with q | q
    · rw [q]; exact a1
    · exact a2 _ q
  omega
theorem maxD_n {x : Nat} {xs : List Nat} : maxD' [.list (nI (x :: xs))] = some (.int (maxI x (nZ xs)), false) := by
  show (intsOf (nI xs)).map _ = _
  have : intsOf (nI xs) = some (nZ xs) := by rw [nI_eq]; exact intsOf_map _
  rw [this]; rfl
end L2.DL
/-! DLtw: the first two places alike -/
namespace L2.DL
open PySem
@[simp] theorem eCallK_run (f : FSem) (bs : List Bool) (perm : List Nat) (es : List (M Opd)) (l : L) : eCallK f bs perm es l = (evs es l).th fun os => callM f bs (perm.map fun k => os.getD k (.v .none)) := rfl
theorem sq_rt' {a b : C} {l l' : L} {o : Opd} (h : a l = .ok (.rt o) l') : sq a b l = .ok (.rt o) l' := by rw [sq_run, h]; rfl
def lI (E : List (List Nat)) : List PyData := E.map fun a => .list (nI a)
theorem lI_len (E : List (List Nat)) : (lI E).length = E.length := by simp [lI]
def at' (E : List (List Nat)) (p : Nat) : List Nat := E.getD p []
theorem idx_lI {E : List (List Nat)} {p : Nat} (h : p < E.length) : idxX [.list (lI E), .int (p : Nat)] = some (.list (nI (at' E p)), false) := idxL (by omega) (by simp [lI, at', h])
theorem eqv_n (a b : List Nat) : PyData.eqv (.list (nI a)) (.list (nI b)) = decide (a = b) := by
  rw [nI_eq, nI_eq, eqv_li]
  exact decide_eq_decide.mpr nZ_inj
theorem dOk_n (a : List Nat) : dOk (.list (nI a)) = true := by rw [nI_eq]; exact dOk_li _
theorem countD_lI (E : List (List Nat)) (a : List Nat) : countD [.list (lI E), .list (nI a)] = some (.int ((E.count a : Nat) : Int), false) := by
  show (if dOk (.list (nI a)) && !isDict (.list (nI a)) then rI' ((((lI E).countP fun y => PyData.eqv y (.list (nI a)) : Nat)) : Int) else none) = _
  have : ((lI E).countP fun y => PyData.eqv y (.list (nI a))) = E.count a := by
    unfold lI
    rw [List.countP_map]
    show _ = E.countP (· == a)
    congr 1
    funext b
    show PyData.eqv (.list (nI b)) (.list (nI a)) = (b == a)
    rw [eqv_n]
    by_cases h : b = a <;> simp [h]
  rw [this, dOk_n]
  rfl
theorem indexD_lI {E : List (List Nat)} {a : List Nat} {k : Nat} (h : (E.findIdx? fun b => decide (b = a)) = some k) : indexD [.list (lI E), .list (nI a)] = some (.int (k : Nat), false) := by
  show (if dOk (.list (nI a)) && !isDict (.list (nI a)) then (SeqAt.dataPlace (lI E) (.list (nI a))).map fun k => (PyData.int (k : Nat), false) else none) = _
  have : SeqAt.dataPlace (lI E) (.list (nI a)) = some k := by
    unfold SeqAt.dataPlace lI
    rw [List.findIdx?_map, ← h]
    congr 1
    funext b
    exact eqv_n b a
  rw [this, dOk_n]
  rfl
theorem eqD_nil (xs : List PyData) : eqD [.list xs, .list []] = some (.bool xs.isEmpty, false) := by
  have h : PyData.eqv (.list xs) (.list []) = xs.isEmpty := by cases xs <;> simp [PyData.eqv, PyData.eqvAll]
  show (if (dOk (.list xs) || dOk (.list [])) && !isDict (.list xs) && !isDict (.list []) then rB (PyData.eqv (.list xs) (.list [])) else none) = _
  have h2 : dOk (.list []) = true := by decide +kernel
  rw [h, h2, Bool.or_true]
  rfl
theorem neD_nil (xs : List PyData) : neD [.list xs, .list []] = some (.bool (!xs.isEmpty), false) := by
  have h : PyData.eqv (.list xs) (.list []) = xs.isEmpty := by cases xs <;> simp [PyData.eqv, PyData.eqvAll]
  show (if (dOk (.list xs) || dOk (.list [])) && !isDict (.list xs) && !isDict (.list []) then rB (!PyData.eqv (.list xs) (.list [])) else none) = _
  have h2 : dOk (.list []) = true := by decide +kernel
  rw [h, h2, Bool.or_true]
  rfl
/-- the later places with the same -/
def laterE (E : List (List Nat)) (p : Nat) : List Nat := ((List.range (E.length - (p + 1))).filter fun k => decide (at' E p = at' E (p + 1 + k))).map fun k => p + 1 + k
def twP (E : List (List Nat)) : List (Nat × Nat) := (List.range E.length).flatMap fun p => (laterE E p).map fun q => (p, q)
theorem mem_later {E : List (List Nat)} {p q : Nat} : q ∈ laterE E p ↔ p < q ∧ q < E.length ∧ at' E p = at' E q := by
  unfold laterE
  simp only [List.mem_map, List.mem_filter, List.mem_range, decide_eq_true_eq]
  constructor
  · rintro ⟨k, ⟨h1, h2⟩, rfl⟩
    exact ⟨by omega, by omega, h2⟩
  · rintro ⟨h1, h2, h3⟩
    refine ⟨q - (p + 1), ⟨by omega, ?_⟩, by omega⟩
    rw [show p + 1 + (q - (p + 1)) = q by omega]
    exact h3
theorem head_find {α : Type} (d : α) (f : α → Bool) : ∀ D : List α, ((List.range D.length).filter fun k => f (D.getD k d)).head? = D.findIdx? f
  | [] => rfl
  | x :: D => by
    rw [List.length_cons, List.range_succ_eq_map, List.filter_cons, List.findIdx?_cons]
    have h0 : (x :: D).getD 0 d = x := rfl
    rw [h0]
    cases hx : f x with
    | true => simp
    | false =>
      simp only [if_neg Bool.false_ne_true, if_false]
      rw [List.filter_map, List.head?_map]
      have : ((fun k => f ((x :: D).getD k d)) ∘ Nat.succ) = fun k => f (D.getD k d) := by
        funext k; rfl
      rw [this, head_find d f D]
theorem later_head (E : List (List Nat)) (p : Nat) (hp : p < E.length) : (laterE E p).head? = ((E.drop (p + 1)).findIdx? fun b => decide (b = at' E p)).map fun k => p + 1 + k := by
  unfold laterE
  rw [List.head?_map, ← head_find [] (fun b => decide (b = at' E p)) (E.drop (p + 1)), List.length_drop]
  congr 2
  refine List.filter_congr fun k hk => ?_
  have hk := List.mem_range.mp hk
  have e : (E.drop (p + 1)).getD k [] = at' E (p + 1 + k) := by
    unfold at'
    simp [List.getD_eq_getElem?_getD]
  rw [e]
  exact decide_eq_decide.mpr eq_comm
theorem at_split (E : List (List Nat)) {p : Nat} (hp : p < E.length) : E = E.take p ++ at' E p :: E.drop (p + 1) := by
  have h1 : at' E p = E[p] := by simp [at', hp]
  rw [h1, ← List.drop_eq_getElem_cons hp, List.take_append_drop]
theorem mem_take {E : List (List Nat)} {a : List Nat} {p : Nat} (h : a ∈ E.take p) : ∃ q, q < p ∧ q < E.length ∧ at' E q = a := by
  obtain ⟨q, hq, e⟩ := List.mem_iff_getElem.mp h
  rw [List.length_take] at hq
  refine ⟨q, by omega, by omega, ?_⟩
  rw [← e]
  simp [at', show q < E.length by omega]
theorem mem_drop {E : List (List Nat)} {a : List Nat} {p : Nat} (h : a ∈ E.drop (p + 1)) : ∃ q, p < q ∧ q < E.length ∧ at' E q = a := by
  obtain ⟨q, hq, e⟩ := List.mem_iff_getElem.mp h
  rw [List.length_drop] at hq
  refine ⟨p + 1 + q, by omega, by omega, ?_⟩
  rw [← e]
  simp [at', show p + 1 + q < E.length by omega]
/-- no later one: it came once, if no earlier one was -/
theorem later_nil {E : List (List Nat)} {p : Nat} (hp : p < E.length) (h : E.count (at' E p) ≤ 1) : laterE E p = [] := by
  rw [List.eq_nil_iff_forall_not_mem]
  intro q hq
  obtain ⟨h1, h2, h3⟩ := mem_later.mp hq
  have e := at_split E hp
  have h4 : (E.take p ++ at' E p :: E.drop (p + 1)).count (at' E p) ≤ 1 := by rw [← e]; exact h
  rw [List.count_append, List.count_cons_self] at h4
  have h5 : at' E p ∈ E.drop (p + 1) := by
    rw [h3, List.mem_iff_getElem]
    refine ⟨q - (p + 1), by rw [List.length_drop]; omega, ?_⟩
    simp [at', h2, show p + 1 + (q - (p + 1)) = q by omega]
  have := List.count_pos_iff.mpr h5
  omega
theorem later_some {E : List (List Nat)} {p : Nat} (hp : p < E.length) (h : 1 < E.count (at' E p)) (h0 : ∀ q < p, laterE E q = []) : ∃ k, ((E.drop (p + 1)).findIdx? fun b => decide (b = at' E p)) = some k ∧ (laterE E p).head? = some (p + 1 + k) := by
  have hn : at' E p ∉ E.take p := fun z => by
    obtain ⟨q, h1, h2, h3⟩ := mem_take z
    have : p ∈ laterE E q := mem_later.mpr ⟨h1, hp, h3⟩
    rw [h0 q h1] at this
    simp at this
  have e := at_split E hp
  have h4 : 1 < (E.take p ++ at' E p :: E.drop (p + 1)).count (at' E p) := by rw [← e]; exact h
  rw [List.count_append, List.count_cons_self, List.count_eq_zero.mpr hn] at h4
  have h5 : at' E p ∈ E.drop (p + 1) := List.count_pos_iff.mp (by omega)
  cases hf : (E.drop (p + 1)).findIdx? fun b => decide (b = at' E p) with
  | none =>
    rw [List.findIdx?_eq_none_iff] at hf
    have := hf _ h5
    simp at this
  | some k =>
    exact ⟨k, rfl, by rw [later_head E p hp, hf]; rfl⟩
theorem tw_nil {E : List (List Nat)} (h : ∀ p < E.length, laterE E p = []) : twP E = [] := by
  unfold twP
  rw [List.flatMap_eq_nil_iff]
  intro p hp
  rw [h p (List.mem_range.mp hp)]; rfl
theorem tw_head {E : List (List Nat)} {p q : Nat} (hp : p < E.length) (h0 : ∀ q < p, laterE E q = []) (h : (laterE E p).head? = some q) : ∃ r, twP E = (p, q) :: r := by
  unfold twP
  have e : E.length = p + (E.length - p) := by omega
  rw [e, List.range_add, List.flatMap_append]
  have h1 : (List.range p).flatMap (fun p => (laterE E p).map fun q => (p, q)) = [] := by
    rw [List.flatMap_eq_nil_iff]
    intro x hx
    rw [h0 x (List.mem_range.mp hx)]; rfl
  rw [h1, List.nil_append]
  obtain ⟨m, hm⟩ : ∃ m, E.length - p = m + 1 := ⟨E.length - p - 1, by omega⟩
  rw [hm, List.range_succ_eq_map, List.map_cons, List.flatMap_cons]
  cases hl : laterE E p with
  | nil => rw [hl] at h; simp at h
  | cons a l =>
    rw [hl] at h
    simp only [List.head?_cons, Option.some.injEq] at h
    subst h
    exact ⟨_, rfl⟩
def tV (x : Nat × Nat) : PyData := .tuple [.int (x.1 : Nat), .int (x.2 : Nat)]
def twinV (E : List (List Nat)) : PyData := match twP E with
  | [] => .none
  | x :: _ => tV x
end L2.DL
/-! M68: one deal and one riffle, in plain Lean -/
namespace L2.DL
open PySem
/-! ## sorted naturals -/
def leN (a b : Nat) : Bool := decide (a ≤ b)
def srtN (xs : List Nat) : List Nat := insS leN xs
theorem leD_n (a b : Nat) : leD' (.int (a : Nat)) (.int (b : Nat)) = leN a b := by
  show (!decide ((b : Int) < (a : Int))) = decide (a ≤ b)
  by_cases h : a ≤ b
  · have : ¬ ((b : Int) < a) := by omega
    simp [h, this]
  · have : ((b : Int) < a) := by omega
    simp [h, this]
theorem insO_n (x : Nat) : ∀ ys : List Nat, insO leD' (.int (x : Nat)) (nI ys) = nI (insO leN x ys)
  | [] => rfl
  | y :: ys => by
    show insO leD' (.int (x : Nat)) (.int (y : Nat) :: nI ys) = _
    unfold insO
    rw [leD_n]
    split
    · rfl
    · rw [insO_n x ys]; rfl
theorem insS_n : ∀ xs : List Nat, insS leD' (nI xs) = nI (srtN xs)
  | [] => rfl
  | x :: xs => by
    show insO leD' (.int (x : Nat)) (insS leD' (nI xs)) = _
    rw [insS_n xs, insO_n]; rfl
theorem sortD_n (xs : List Nat) (h : xs.length ≤ 4000000) : sortD (nI xs) = some (nI (srtN xs)) := by
  unfold sortD
  have hk : kdOk (nI xs) = true := by
    unfold kdOk
    rw [List.any_eq_true]
    refine ⟨.i, by simp [kds], ?_⟩
    rw [List.all_eq_true]
    intro y hy
    obtain ⟨a, _, e⟩ := List.mem_map.mp hy
    subst e; rfl
  have hd : decide ((nI xs).length ≤ lim) = true := decide_eq_true (by rw [nI_len]; exact h)
  rw [hk, hd, insS_n]
  rfl
theorem sorted_n (xs : List Nat) (h : xs.length ≤ 4000000) : sortedX [.list (nI xs)] = some (.list (nI (srtN xs)), true) := by
  show (sortD (nI xs)).map _ = _
  rw [sortD_n xs h]; rfl
theorem insO_perm {α : Type} {le : α → α → Bool} (x : α) : ∀ ys : List α, (insO le x ys).Perm (x :: ys)
  | [] => List.Perm.refl _
  | y :: ys => by
    unfold insO
    split
    · exact List.Perm.refl _
    · exact ((insO_perm x ys).cons y).trans (List.Perm.swap x y ys)
theorem insS_perm {α : Type} {le : α → α → Bool} : ∀ xs : List α, (insS le xs).Perm xs
  | [] => List.Perm.refl _
  | x :: xs => (insO_perm x _).trans ((insS_perm xs).cons x)
theorem leN_tot : PySem.W.TotalLe leN := ⟨fun a b c => by unfold leN; simp; omega, fun a b => by unfold leN; simp; omega⟩
theorem srt_perm (xs : List Nat) : (srtN xs).Perm xs := insS_perm xs
theorem srt_sorted (xs : List Nat) : (srtN xs).Pairwise (fun a b => a ≤ b) := by
  refine (insS_sorted leN_tot xs).imp fun h => ?_
  simpa [leN] using h
theorem sorted_uniq : ∀ {a b : List Nat}, a.Perm b → a.Pairwise (fun x y => x ≤ y) → b.Pairwise (fun x y => x ≤ y) → a = b
  | [], b, p, _, _ => (List.nil_perm.mp p).symm
  | x :: a, b, p, h1, h2 => by
    cases b with
    | nil => exact absurd (List.perm_nil.mp p) (by simp)
    | cons y b =>
      rw [List.pairwise_cons] at h1 h2
      have hx : x ∈ y :: b := p.subset (by simp)
      have hy : y ∈ x :: a := p.symm.subset (by simp)
      have e : x = y := by
        rcases List.mem_cons.mp hx with q | q
        · exact q
        · rcases List.mem_cons.mp hy with q2 | q2
          · exact q2.symm
          · have := h2.1 x q
            have := h1.1 y q2
            omega
      subst e
      rw [sorted_uniq (List.perm_cons x |>.mp p) h1.2 h2.2]
theorem srt_eq {a b : List Nat} (p : a.Perm b) : srtN a = srtN b := sorted_uniq ((srt_perm a).trans (p.trans (srt_perm b).symm)) (srt_sorted a) (srt_sorted b)
theorem srt_range (s : Nat) : srtN (List.range s) = List.range s := sorted_uniq (srt_perm _) (srt_sorted _) (List.pairwise_lt_range.imp fun h => Nat.le_of_lt h)
theorem srt_of_range {a : List Nat} {s : Nat} (p : a.Perm (List.range s)) : srtN a = List.range s := by rw [srt_eq p, srt_range]
end L2.DL
namespace L2.DL.K68
open PySem L2.DL
/-! ## the move -/
/-- d cards left of the heap, u the next one of the rest -/
def mvN : Nat → Nat → List Nat → List Nat
  | _, _, [] => []
  | d, u, b :: r => if b = 1 then u :: mvN d (u + 1) r else (d - 1) :: mvN (d - 1) u r
def n0 (row : List Nat) : Nat := row.countP fun b => !decide (b = 1)
def n1 (row : List Nat) : Nat := row.countP fun b => decide (b = 1)
theorem n01 (row : List Nat) : n0 row + n1 row = row.length := by
  unfold n0 n1
  induction row with
  | nil => rfl
  | cons b r ih =>
    by_cases h : b = 1 <;> simp [List.countP_cons, h] <;> omega
theorem n0_one (r : List Nat) : n0 (1 :: r) = n0 r := by simp [n0, List.countP_cons]
theorem n1_one (r : List Nat) : n1 (1 :: r) = n1 r + 1 := by simp [n1, List.countP_cons]
theorem n0_zero {b : Nat} (h : b ≠ 1) (r : List Nat) : n0 (b :: r) = n0 r + 1 := by simp [n0, List.countP_cons, h]
theorem n1_zero {b : Nat} (h : b ≠ 1) (r : List Nat) : n1 (b :: r) = n1 r := by simp [n1, List.countP_cons, h]
theorem mv_len : ∀ (row : List Nat) (d u : Nat), (mvN d u row).length = row.length
  | [], _, _ => rfl
  | b :: r, d, u => by
    unfold mvN
    split <;> simp [mv_len r]
theorem mv_take : ∀ (row : List Nat) (d u j : Nat), (mvN d u row).take j = mvN d u (row.take j)
  | [], _, _, j => by simp [mvN]
  | b :: r, d, u, 0 => by simp [mvN]
  | b :: r, d, u, j + 1 => by
    rw [List.take_succ_cons]
    unfold mvN
    split <;> simp [mv_take r]
theorem mv_drop : ∀ (row : List Nat) (d u j : Nat), (mvN d u row).drop j = mvN (d - n0 (row.take j)) (u + n1 (row.take j)) (row.drop j)
  | [], _, _, j => by simp [mvN]
  | b :: r, d, u, 0 => by simp [n0, n1]
  | b :: r, d, u, j + 1 => by
    rw [List.take_succ_cons, List.drop_succ_cons]
    by_cases h : b = 1
    · subst h
      rw [n0_one, n1_one]
      have e : mvN d u (1 :: r) = u :: mvN d (u + 1) r := by simp [mvN]
      rw [e, List.drop_succ_cons, mv_drop r d (u + 1) j, show u + 1 + n1 (r.take j) = u + (n1 (r.take j) + 1) by omega]
    · rw [n0_zero h, n1_zero h]
      have e : mvN d u (b :: r) = (d - 1) :: mvN (d - 1) u r := by simp [mvN, h]
      rw [e, List.drop_succ_cons, mv_drop r (d - 1) u j, show d - 1 - n0 (r.take j) = d - (n0 (r.take j) + 1) by omega]
theorem mv_perm : ∀ (row : List Nat) (d u : Nat), n0 row ≤ d → (mvN d u row).Perm (List.range' (d - n0 row) (n0 row) ++ List.range' u (n1 row))
  | [], d, u, _ => by simp [mvN, n0, n1]
  | b :: r, d, u, h => by
    by_cases hb : b = 1
    · subst hb
      rw [n0_one] at h ⊢
      rw [n1_one]
      have e : mvN d u (1 :: r) = u :: mvN d (u + 1) r := by simp [mvN]
      rw [e, List.range'_succ]
      exact ((mv_perm r d (u + 1) h).cons u).trans List.perm_middle.symm
    · rw [n0_zero hb] at h ⊢
      rw [n1_zero hb]
      have e : mvN d u (b :: r) = (d - 1) :: mvN (d - 1) u r := by simp [mvN, hb]
      have e2 : List.range' (d - (n0 r + 1)) (n0 r + 1) = List.range' (d - 1 - n0 r) (n0 r) ++ [d - 1] := by
        rw [List.range'_1_concat, show d - (n0 r + 1) = d - 1 - n0 r by omega, show d - 1 - n0 r + n0 r = d - 1 by omega]
      rw [e, e2, List.append_assoc]
      exact ((mv_perm r (d - 1) u (by omega)).cons _).trans List.perm_middle.symm
/-- the move, whole -/
theorem mv_range (row : List Nat) (m : Nat) (h : n0 row = m) : (mvN m m row).Perm (List.range row.length) := by
  have p := mv_perm row m m (by omega)
  have e := n01 row
  rw [h] at p e
  have : List.range' (m - m) m ++ List.range' m (n1 row) = List.range row.length := by
    rw [Nat.sub_self, List.range_eq_range', ← e, ← List.range'_append_1, Nat.zero_add]
  rw [this] at p
  exact p
/-! residues -/
theorem resid (s : Nat) (hs : 0 < s) : ∀ a : Nat, ((List.range' a s).map (· % s)).Perm (List.range s)
  | 0 => by
    rw [← List.range_eq_range']
    have : (List.range s).map (· % s) = List.range s := by
      conv => rhs; rw [← List.map_id (List.range s)]
      refine List.map_congr_left fun x hx => ?_
      rw [Nat.mod_eq_of_lt (List.mem_range.mp hx)]; rfl
    rw [this]
  | a + 1 => by
    refine List.Perm.trans ?_ (resid s hs a)
    obtain ⟨t, rfl⟩ : ∃ t, s = t + 1 := ⟨s - 1, by omega⟩
    rw [List.range'_1_concat, List.range'_succ, List.map_append, List.map_cons]
    have : (a + 1 + t) % (t + 1) = a % (t + 1) := by
      rw [show a + 1 + t = a + (t + 1) by omega, Nat.add_mod_right]
    simp only [List.map_cons, List.map_nil, this]
    exact List.perm_append_singleton _ _
theorem blk (s k q d u : Nat) (row : List Nat) (hs : 0 < s) (hl : row.length = s) (hf : n0 row ≤ d) (hu : u = d + s * q) : ((mvN d u row).map fun x => (x + k) % s).Perm (List.range s) := by
  have p := (mv_perm row d u hf).map fun x => (x + k) % s
  refine p.trans ?_
  have e := n01 row
  have e1 : (List.range' u (n1 row)).map (fun x => (x + k) % s) = (List.range' d (n1 row)).map fun x => (x + k) % s := by
    rw [hu, Nat.add_comm d, ← List.map_add_range', List.map_map]
    refine List.map_congr_left fun x _ => ?_
    show (s * q + x + k) % s = _
    rw [Nat.add_assoc, Nat.mul_add_mod]
  have e2 : List.range' (d - n0 row) (n0 row) ++ List.range' d (n1 row) = List.range' (d - n0 row) s := by
    have := List.range'_append_1 (s := d - n0 row) (m := n0 row) (n := n1 row)
    rw [show d - n0 row + n0 row = d by omega] at this
    rw [this, e, hl]
  rw [List.map_append, e1, ← List.map_append, e2]
  have e3 : (List.range' (d - n0 row) s).map (fun x => (x + k) % s) = (List.range' (k + (d - n0 row)) s).map (· % s) := by
    rw [← List.map_add_range', List.map_map]
    refine List.map_congr_left fun x _ => ?_
    show _ = (k + x) % s
    rw [Nat.add_comm]
  rw [e3]
  exact resid s hs _
theorem n0_split (row : List Nat) (j : Nat) : n0 (row.take j) + n0 (row.drop j) = n0 row := by
  unfold n0
  rw [← List.countP_append, List.take_append_drop]
/-- each whole block has all residues -/
theorem blks (s k b m : Nat) (row : List Nat) (hs : 0 < s) (hm : n0 row = m) (hb : (b + 1) * s ≤ row.length) : ((((mvN m m row).drop (b * s)).take s).map fun x => (x + k) % s).Perm (List.range s) := by
  have hbs : (b + 1) * s = b * s + s := Nat.succ_mul b s
  rw [mv_drop, mv_take]
  have h1 := n01 (row.take (b * s))
  rw [List.length_take, Nat.min_eq_left (by omega)] at h1
  have h2 := n0_split row (b * s)
  have h3 := n0_split (row.drop (b * s)) s
  refine blk s k b _ _ _ hs (by rw [List.length_take, List.length_drop]; omega) (by omega) ?_
  rw [Nat.mul_comm s b]
  omega
end L2.DL.K68
namespace L2.DL.K68
open PySem L2.DL
theorem r_draw {p : PyData} (hp : Pot p) (m : Int) (h1 : 0 < m) (h2 : m < 1073741824) : ∃ d p', Pot p' ∧ 0 ≤ d ∧ d < m ∧ sem__law_draw [.bor p, .frz (.int m)] = .ok (.int d, false) [.bor p', .frz (.int m)] := by
  obtain ⟨a, b, rfl, ha, hb, hb2⟩ := hp
  by_cases h : 0 < a
  · refine ⟨a % m, .list [.int (a / m), .int b], ⟨_, _, rfl, ?_, hb, hb2⟩, Int.emod_nonneg _ (by omega), Int.emod_lt_of_pos _ h1, ?_⟩
    · exact Int.ediv_nonneg ha (by omega)
    · simp (disch := first | omega | simp) [sem__law_draw, code__law_draw, idx0, h, divmodD_i, put0]
  · have e : a = 0 := by omega
    subst e
    have q1 := Int.emod_nonneg (b * 40692 + 9767) (show (2147483587 : Int) ≠ 0 by decide)
    have q2 := Int.emod_lt_of_pos (b * 40692 + 9767) (show (0 : Int) < 2147483587 by decide)
    refine ⟨((b * 40692 + 9767) % 2147483587) * ((b * 40692 + 9767) % 2147483587) % 2147483549 / 43 % m, .list [.int 0, .int ((b * 40692 + 9767) % 2147483587)], ⟨_, _, rfl, by decide, q1, by omega⟩, Int.emod_nonneg _ (by omega), Int.emod_lt_of_pos _ h1, ?_⟩
    simp (disch := first | omega | simp) [sem__law_draw, code__law_draw, idx0, idx1, put1, mulD_of, modD_i, fdivD_i]
theorem r_drawN {p : PyData} (hp : Pot p) (m : Nat) (h1 : 0 < m) (h2 : m ≤ 1000000) : ∃ (d : Nat) (p' : PyData), Pot p' ∧ d < m ∧ sem__law_draw [.bor p, .frz (.int (m : Nat))] = .ok (.int (d : Nat), false) [.bor p', .frz (.int (m : Nat))] := by
  obtain ⟨d, p', a, b, c, e⟩ := r_draw hp m (by omega) (by omega)
  obtain ⟨n, rfl⟩ : ∃ n : Nat, d = n := ⟨d.toNat, by omega⟩
  exact ⟨n, p', a, by omega, e⟩
theorem slc1 (x : Int) (xs : List PyData) : sliceO (.list (.int x :: xs)) none (some 1) none = some (.list [.int x], true) := by
  have h := at_sn (.int x :: xs) 1
  exact h
theorem sum1 (x : Int) : sumD [.list [.int x]] = some (.int x, false) := by
  have h := sumD_ints [x]
  simpa using h
theorem slc0 : sliceO (.list []) none (some 1) none = some (.list [], true) := by kernel_rfl
theorem sum0 : sumD [.list []] = some (.int 0, false) := by kernel_rfl
theorem r_pot (ns : List Int) (k : Int) (hk : 0 ≤ k) (hk2 : k ≤ 63) : ∃ p, Pot p ∧ sem__law_pot [.frz (.list (ns.map .int)), .frz (.int k)] = .ok (p, true) [.frz (.list (ns.map .int)), .frz (.int k)] := by
  have key : ∀ c : Int, Pot (.list [.int (if c - 1000000000000000000 > 0 then c - 1000000000000000000 else 0), .int ((c % 2147483549 * 40253 + 9767 * k + 71) % 2147483563 + 1)]) := fun c => by
    have q1 := Int.emod_nonneg (c % 2147483549 * 40253 + 9767 * k + 71) (show (2147483563 : Int) ≠ 0 by decide)
    have q2 := Int.emod_lt_of_pos (c % 2147483549 * 40253 + 9767 * k + 71) (show (0 : Int) < 2147483563 by decide)
    exact ⟨_, _, rfl, by split <;> omega, by omega, by omega⟩
  by_cases h : k < (ns.length : Int)
  · have hl : k.toNat < ns.length := by omega
    have e := idxL (xs := ns.map .int) (i := k) (d := .int ns[k.toNat]) hk (by simp [hl])
    refine ⟨_, key (if ns[k.toNat] < 0 then -ns[k.toNat] else ns[k.toNat]), ?_⟩
    simp (disch := first | omega | simp) [sem__law_pot, code__law_pot, h, e, mulD_of, mulD_of', modD_i, pow18, max0]
  · have hs : ∃ x : Int, sumD [.list ((ns.map PyData.int).take 1)] = some (.int x, false) := by
      cases ns with
      | nil => exact ⟨0, sum0⟩
      | cons n ns => exact ⟨n, sum1 n⟩
    obtain ⟨x, hx⟩ := hs
    have hsl := at_sn (ns.map PyData.int) 1
    generalize (ns.map PyData.int).take 1 = Z at hx hsl
    have hsl' : sliceO (.list (ns.map PyData.int)) none (some 1) none = some (.list Z, true) := hsl
    refine ⟨_, key (3371 * k + 2593 + x % 1000003), ?_⟩
    simp (disch := first | omega | simp) [sem__law_pot, code__law_pot, h, hsl', hx, mulD_of, mulD_of', modD_i, pow18, max0]
/-! ### what is wanted -/
theorem r_is_integer (i : Int) : sem_is_integer [.frz (.int i)] = .ok (.bool true, false) [.frz (.int i)] := by
  simp [sem_is_integer, code_is_integer]
theorem r_is_within (i a b : Int) : sem_is_within [.frz (.int i), .frz (.int a), .frz (.int b)] = .ok (.bool (decide (a ≤ i ∧ i ≤ b)), false) [.frz (.int i), .frz (.int a), .frz (.int b)] := by
  by_cases h : a ≤ i <;>
  simp [sem_is_within, code_is_within, r_is_integer, h]
theorem r_want_cards (c : Int) (h : 1 ≤ c) (h2 : c ≤ 52) : sem_want_cards [.frz (.int c)] = .ok (.none, false) [.frz (.int c)] := by
  simp [sem_want_cards, code_want_cards, r_is_within, h, h2]
theorem r_want_many (c : Int) (h : 0 ≤ c) (h2 : c ≤ 52) : sem_want_many [.frz (.int c)] = .ok (.none, false) [.frz (.int c)] := by
  simp [sem_want_many, code_want_many, r_is_within, h, h2]
theorem r_want_size (c : Int) (h : 1 ≤ c) (h2 : c ≤ 52) : sem_want_size [.frz (.int c)] = .ok (.none, false) [.frz (.int c)] := by
  simp [sem_want_size, code_want_size, r_is_within, h, h2]
def packB (ns : List Int) : Bool := decide (1 ≤ ns.length ∧ ns.length ≤ 52) && (ns.all fun i => decide (0 ≤ i ∧ i ≤ (ns.length : Int) - 1)) && decide ((dedup ns).length = ns.length)
theorem r_is_pack (ns : List Int) (hl : ns.length ≤ 4000) : sem_is_pack_value [.frz (.tuple (ns.map .int))] = .ok (.bool (packB ns), false) [.frz (.tuple (ns.map .int))] := by
  have hc : eComp [1] (.nm 1) (iSeq (eV 0)) (rt true) (eCall sem_is_within [false, false, false] [eV 1, eK (.int 0), eOps subD [eOps lenX [eV 0], eK (.int 1)]]) [.frz (.tuple (ns.map .int)), .non] = .ok (.t (.list (ns.map fun i => .bool (decide (0 ≤ i ∧ i ≤ (ns.length : Int) - 1))))) [.frz (.tuple (ns.map .int)), .non] := by
    refine comp1 (xs := ns) (src := []) (js := []) [.frz (.tuple (ns.map .int)), .non] .int _ (by simp) (by simp [lim]; omega) (by simp) rfl rfl fun i hi => by simp [r_is_within]
  by_cases h1 : (1 : Int) ≤ ns.length
  · by_cases h2 : (ns.length : Int) ≤ 52
    · have h : 1 ≤ ns.length ∧ ns.length ≤ 52 := by omega
      cases h3 : ns.all fun i => decide (0 ≤ i ∧ i ≤ (ns.length : Int) - 1) <;>
      simp (disch := first | omega | simp) [sem_is_pack_value, code_is_pack_value, -List.all_eq_true, -Bool.decide_and, hc, h1, h2, allD_map, h3, packB, h, lenSet_t]
      omega
    · have h : ¬ (1 ≤ ns.length ∧ ns.length ≤ 52) := by omega
      simp (disch := first | omega | simp) [sem_is_pack_value, code_is_pack_value, h1, h2, packB, h]
  · have h : ¬ (1 ≤ ns.length ∧ ns.length ≤ 52) := by omega
    simp (disch := first | omega | simp) [sem_is_pack_value, code_is_pack_value, h1, packB, h]
/-- a pack of so many cards -/
structure Pk (c : Nat) (P : List Nat) : Prop where
  c1 : 1 ≤ c
  c52 : c ≤ 52
  perm : P.Perm (List.range c)
theorem Pk.len {c : Nat} {P : List Nat} (h : Pk c P) : P.length = c := by rw [h.perm.length_eq, List.length_range]
theorem Pk.lt {c : Nat} {P : List Nat} (h : Pk c P) {x : Nat} (hx : x ∈ P) : x < c := List.mem_range.mp (h.perm.subset hx)
theorem Pk.nodup {c : Nat} {P : List Nat} (h : Pk c P) : P.Nodup := h.perm.nodup_iff.mpr List.nodup_range
theorem nodup_nZ {P : List Nat} (h : P.Nodup) : (nZ P).Nodup := by
  unfold nZ
  unfold List.Nodup
  rw [List.pairwise_map]
  exact List.Pairwise.imp (fun hne e => hne (by omega)) h
theorem Pk.ok {c : Nat} {P : List Nat} (h : Pk c P) : packB (nZ P) = true := by
  have hl : (nZ P).length = c := by simp [nZ, h.len]
  unfold packB
  simp only [Bool.and_eq_true, decide_eq_true_eq, List.all_eq_true, hl]
  refine ⟨⟨⟨h.c1, h.c52⟩, fun i hi => ?_⟩, ?_⟩
  · obtain ⟨n, hn, e⟩ := List.mem_map.mp hi
    have := h.lt hn
    omega
  · rw [nodup_dedup_eq (nodup_nZ h.nodup), hl]
theorem r_pack {c : Nat} {P : List Nat} (h : Pk c P) : sem_is_pack_value [.frz (.tuple (nI P))] = .ok (.bool true, false) [.frz (.tuple (nI P))] := by
  have e := r_is_pack (nZ P) (by have := h.len; have := h.c52; simp [nZ]; omega)
  rw [← nI_eq, h.ok] at e
  exact e
theorem r_want_pack {c : Nat} {P : List Nat} (h : Pk c P) : sem_want_pack [.frz (.tuple (nI P))] = .ok (.none, false) [.frz (.tuple (nI P))] := by
  have e := r_pack h
  generalize nI P = X at e ⊢
  simp [sem_want_pack, code_want_pack, e]
theorem r_want_move {c : Nat} {P : List Nat} (h : Pk c P) : sem_want_move [.frz (.tuple (nI P))] = .ok (.none, false) [.frz (.tuple (nI P))] := by
  have e := r_pack h
  generalize nI P = X at e ⊢
  simp [sem_want_move, code_want_move, e]
theorem r_as_many {c : Nat} {P Q : List Nat} (h : P.length = c) (h2 : Q.length = c) : sem_want_as_many [.frz (.tuple (nI P)), .frz (.tuple (nI Q))] = .ok (.none, false) [.frz (.tuple (nI P)), .frz (.tuple (nI Q))] := by
  have e1 : (nI P).length = c := by rw [nI_len, h]
  have e2 : (nI Q).length = c := by rw [nI_len, h2]
  have e3 := neD_nn c c
  have e4 : neD [.int (c : Nat), .int (c : Nat)] = some (.bool false, false) := by rw [e3]; simp
  generalize nI P = X at e1 ⊢
  generalize nI Q = Y at e2 ⊢
  simp [sem_want_as_many, code_want_as_many, e1, e2, e4]
/-! ### mixed -/
theorem map_erase : ∀ (xs : List Nat) (i : Nat), (nI xs).eraseIdx i = nI (xs.eraseIdx i)
  | [], i => rfl
  | x :: xs, 0 => rfl
  | x :: xs, i + 1 => by
    show PyData.int (x : Nat) :: (nI xs).eraseIdx i = _
    rw [map_erase xs i]; rfl
theorem popU_n {xs : List Nat} {i : Nat} (h : i < xs.length) : popU (.list (nI xs)) [.int (i : Nat)] = some (.int (xs[i] : Nat), .list (nI (xs.eraseIdx i))) := by
  show ((ixOf (nI xs).length (i : Nat)).bind fun k => ((nI xs)[k]?).map fun d => (d, PyData.list ((nI xs).eraseIdx k))) = _
  have h1 : ixOf (nI xs).length (i : Nat) = some i := by
    unfold ixOf
    rw [nI_len]
    simp; omega
  rw [h1]
  have h2 : (nI xs).eraseIdx i = nI (xs.eraseIdx i) := map_erase xs i
  rw [← h2]
  simp [nI, h]
theorem erase_perm : ∀ (L : List Nat) (d : Nat) (h : d < L.length), (L[d] :: L.eraseIdx d).Perm L
  | a :: L, 0, _ => List.Perm.refl _
  | a :: L, d + 1, h => by
    have h' : d < L.length := by simpa using h
    show (L[d] :: a :: L.eraseIdx d).Perm (a :: L)
    exact (List.Perm.swap a L[d] _).trans ((erase_perm L d h').cons a)
theorem mix_step (p p' N : PyData) (L F : List PyData) (x : PyData) (L' : PyData) (n d : Int) (hF : F.length < 4000000) (hl : lenX [.list L] = some (.int n, false)) (e : sem__law_draw [.bor p, .frz (.int n)] = .ok (.int d, false) [.bor p', .frz (.int n)]) (h : popU (.list L) [.int d] = some (x, L')) :
    sEx (eMut 3 appendU [eMut 2 popU [eCall sem__law_draw [true, false] [eV 0, eOps lenX [eV 2]]]]) [.bor p, .frz N, .own (.list L), .own (.list F)] = .ok .nx [.bor p', .frz N, .own L', .own (.list (F ++ [x]))] := by
  have h2 := appendU_of x hF
  simp [hl, e, h, h2]
theorem r_mixed {p : PyData} (hp : Pot p) (xs : List Nat) (hx : xs.length ≤ 1000) (X : PyData) (hX : listX [X] = some (.list (nI xs), true)) : ∃ (ys : List Nat) (p' : PyData), Pot p' ∧ ys.Perm xs ∧ sem__law_mixed [.bor p, .frz X] = .ok (.list (nI ys), true) [.bor p', .frz X] := by
  have s0 : sPar [2, 3] [eOps listX [eV 1], eLst []] [.bor p, .frz X, .non, .non] = .ok .nx [.bor p, .frz X, .own (.list (nI xs)), .own (.list [])] := by
    generalize nI xs = Z at hX ⊢
    simp [hX]
  have key := while_inv (t := tB' (eOps neD [eV 2, eLst []])) (b := sEx (eMut 3 appendU [eMut 2 popU [eCall sem__law_draw [true, false] [eV 0, eOps lenX [eV 2]]]])) (l := [.bor p, .frz X, .own (.list (nI xs)), .own (.list (nI []))])
    (fun n l => ∃ (L F : List Nat) (q : PyData), Pot q ∧ L.length = n ∧ (F ++ L).Perm xs ∧ l = [.bor q, .frz X, .own (.list (nI L)), .own (.list (nI F))])
    (fun l => ∃ (F : List Nat) (q : PyData), Pot q ∧ F.Perm xs ∧ l = [.bor q, .frz X, .own (.list (nI [])), .own (.list (nI F))])
    xs.length (Nat.lt_of_le_of_lt hx (by decide)) ⟨xs, [], p, hp, rfl, List.Perm.refl _, rfl⟩
    (fun n l ⟨L, F, q, hq, hn, hpm, hl⟩ => by
      subst hl
      cases L with
      | nil =>
        left
        refine ⟨_, ?_, F, q, hq, by simpa using hpm, rfl⟩
        have h := neD_n [] []
        have h' : neD [.list (nI []), .list []] = some (.bool false, false) := h.trans (by simp)
        generalize nI F = W
        generalize nI [] = Z at h' ⊢
        simp [h']
      | cons a L =>
        right
        have hle := hpm.length_eq
        rw [List.length_append] at hle
        have hLn : (a :: L).length ≤ 1000 := by omega
        obtain ⟨d, q', hq', hd, e⟩ := r_drawN hq (a :: L).length (by simp) (by omega)
        have hpop := popU_n hd
        have h := neD_n (a :: L) []
        have h' : neD [.list (nI (a :: L)), .list []] = some (.bool true, false) := h.trans (by simp)
        refine ⟨[.bor q, .frz X, .own (.list (nI (a :: L))), .own (.list (nI F))], .nx, _, ((a :: L).eraseIdx d).length, ?_, mix_step q q' X (nI (a :: L)) (nI F) _ _ _ _ (by rw [nI_len]; omega) (by rw [lenX_l, nI_len]) e hpop, .inl rfl, ?_, (a :: L).eraseIdx d, F ++ [(a :: L)[d]], q', hq', rfl, ?_, by rw [nI_append]; rfl⟩
        · generalize nI F = W
          generalize nI (a :: L) = Z at h' ⊢
          simp [h']
        · rw [List.length_eraseIdx_of_lt hd]
          rw [← hn]
          simp
        · refine List.Perm.trans ?_ hpm
          rw [List.append_assoc]
          refine List.Perm.append_left F ?_
          exact erase_perm (a :: L) d hd)
  obtain ⟨l', e1, F, q, hq, hpm, hl'⟩ := key
  subst hl'
  refine ⟨F, q, hq, hpm, ?_⟩
  show endF 2 (code__law_mixed [.bor p, .frz X, .non, .non]) = _
  unfold code__law_mixed
  rw [sq_nx s0]
  have e1' : sWh (tB' (eOps neD [eV 2, eLst []])) (sEx (eMut 3 appendU [eMut 2 popU [eCall sem__law_draw [true, false] [eV 0, eOps lenX [eV 2]]]])) [.bor p, .frz X, .own (.list (nI xs)), .own (.list [])] = .ok .nx [.bor q, .frz X, .own (.list (nI [])), .own (.list (nI F))] := e1
  rw [sq_nx e1']
  generalize nI F = W
  generalize nI [] = Z
  simp
end L2.DL.K68
namespace L2.DL.K68
open PySem L2.DL
/-- a row of so many bits, so many of them noughts -/
structure Rw (c m : Nat) (row : List Nat) : Prop where
  c1 : 1 ≤ c
  c52 : c ≤ 52
  len : row.length = c
  n0 : n0 row = m
  bit : ∀ b ∈ row, b = 0 ∨ b = 1
theorem Rw.le {c m : Nat} {row : List Nat} (h : Rw c m row) : m ≤ c := by
  have := n01 row
  have := h.n0
  have := h.len
  omega
theorem Rw.pk {c m : Nat} {row : List Nat} (h : Rw c m row) : Pk c (mvN m m row) := ⟨h.c1, h.c52, by
  have p := mv_range row m h.n0
  rw [h.len] at p
  exact p⟩
/-! ### move_by_row -/
abbrev mbB : C := sq (sEx (eMut 5 appendU [tIte (tB' (eOps eqD [eV 6, eK (.int 1)])) (eV 4) (eV 3)]))
  (sAsg (.tp [.nm 3, .nm 4]) (tIte (tB' (eOps eqD [eV 6, eK (.int 1)])) (eTup [eV 3, eOps addD [eV 4, eK (.int 1)]]) (eTup [eOps subD [eV 3, eK (.int 1)], eV 4])))
theorem mb_one (C M R : PyData) (F : List PyData) (d u : Int) (b : PyData) (hb : eqD [b, .int 1] = some (.bool true, false)) (hF : F.length < 4000000) : mbB [.frz C, .frz M, .frz R, .frz (.int d), .frz (.int u), .own (.list F), .frz b] = .ok .nx [.frz C, .frz M, .frz R, .frz (.int d), .frz (.int (u + 1)), .own (.list (F ++ [.int u])), .frz b] := by
  simp [hb, appendU_of _ hF]
theorem mb_zero (C M R : PyData) (F : List PyData) (d u : Int) (b : PyData) (hb : eqD [b, .int 1] = some (.bool false, false)) (hF : F.length < 4000000) : mbB [.frz C, .frz M, .frz R, .frz (.int d), .frz (.int u), .own (.list F), .frz b] = .ok .nx [.frz C, .frz M, .frz R, .frz (.int (d - 1)), .frz (.int u), .own (.list (F ++ [.int d])), .frz b] := by
  simp [hb, appendU_of _ hF]
theorem mv_one (d u : Nat) (r : List Nat) : mvN d u (1 :: r) = u :: mvN d (u + 1) r := by simp [mvN]
theorem mv_zero (d u : Nat) {b : Nat} (h : b ≠ 1) (r : List Nat) : mvN d u (b :: r) = (d - 1) :: mvN (d - 1) u r := by simp [mvN, h]
theorem r_by_row {c m : Nat} {row : List Nat} (h : Rw c m row) : sem_move_by_row [.frz (.int (c : Nat)), .frz (.int (m : Nat)), .frz (.list (nI row))] = .ok (.tuple (nI (mvN m m row)), false) [.frz (.int (c : Nat)), .frz (.int (m : Nat)), .frz (.list (nI row))] := by
  have s0 : sPar [3, 4, 5] [eOps subD [eV 1, eK (.int 1)], eV 1, eLst []] [.frz (.int (c : Nat)), .frz (.int (m : Nat)), .frz (.list (nI row)), .non, .non, .non, .non] = .ok .nx [.frz (.int (c : Nat)), .frz (.int (m : Nat)), .frz (.list (nI row)), .frz (.int ((m : Nat) - 1)), .frz (.int (m : Nat)), .own (.list []), .non] := by
    generalize ((m : Nat) : Int) = M
    simp
  have hit : iSeq (eV 2) [.frz (.int (c : Nat)), .frz (.int (m : Nat)), .frz (.list (nI row)), .frz (.int ((m : Nat) - 1)), .frz (.int (m : Nat)), .own (.list []), .non] = .ok ⟨nI row, [], false⟩ [.frz (.int (c : Nat)), .frz (.int (m : Nat)), .frz (.list (nI row)), .frz (.int ((m : Nat) - 1)), .frz (.int (m : Nat)), .own (.list []), .non] := by
    simp
  obtain ⟨l', e4, fs, d, u, s6, hb6, hl', hd, hf, hm⟩ := for_inv (tg := .nm 6) (b := mbB) (src := []) (js := []) (pl := false)
    (fun j l => ∃ (fs : List Nat) (d u : Nat) (s6 : Sl), s6.borT = false ∧ l = [.frz (.int (c : Nat)), .frz (.int (m : Nat)), .frz (.list (nI row)), .frz (.int ((d : Nat) - 1)), .frz (.int (u : Nat)), .own (.list (nI fs)), s6] ∧ n0 (row.drop j) ≤ d ∧ fs.length = j ∧ fs ++ mvN d u (row.drop j) = mvN m m row) hit rfl rfl
    ⟨[], m, m, .non, rfl, rfl, Nat.le_of_eq h.n0, rfl, rfl⟩ (fun j l hj ⟨fs, d, u, s6, hb6, hl, hd, hf, hm⟩ => by
      subst hl
      have hj' : j < row.length := by rw [nI_len] at hj; exact hj
      have hx : (nI row)[j] = .int ((row[j] : Nat) : Int) := by simp [nI]
      have hdr : row.drop j = row[j] :: row.drop (j + 1) := by rw [List.drop_eq_getElem_cons hj']
      have hF : (nI fs).length < 4000000 := by rw [nI_len]; have := h.len; have := h.c52; omega
      have hasg : ∀ X : L, asgT (.nm 6) (nI row)[j] [.frz (.int (c : Nat)), .frz (.int (m : Nat)), .frz (.list (nI row)), .frz (.int ((d : Nat) - 1)), .frz (.int (u : Nat)), .own (.list (nI fs)), s6] = .ok () [.frz (.int (c : Nat)), .frz (.int (m : Nat)), .frz (.list (nI row)), .frz (.int ((d : Nat) - 1)), .frz (.int (u : Nat)), .own (.list (nI fs)), .frz (.int ((row[j] : Nat) : Int))] := fun _ => by
        rw [hx, asgT_nm, setF_run, if_pos (by simp)]
        exact stS_nb hb6
      rw [hdr] at hd hm
      by_cases hb : row[j] = 1
      · have hq : eqD [.int ((row[j] : Nat) : Int), .int 1] = some (.bool true, false) := by rw [hb]; exact (eqD_nn 1 1).trans (by simp)
        refine ⟨_, .nx, _, hasg [], mb_one _ _ _ _ _ _ _ hq hF, .inl rfl, fs ++ [u], d, u + 1, .frz (.int ((row[j] : Nat) : Int)), rfl, ?_, ?_, by simp [hf], ?_⟩
        · rw [nI_append]; rfl
        · rw [hb, n0_one] at hd; exact hd
        · rw [hb, mv_one] at hm
          rw [← hm]; simp
      · have hq : eqD [.int ((row[j] : Nat) : Int), .int 1] = some (.bool false, false) := (eqD_nn row[j] 1).trans (by simp [hb])
        rw [n0_zero hb] at hd
        have hd1 : ((d : Nat) : Int) - 1 = ((d - 1 : Nat) : Int) := by omega
        refine ⟨_, .nx, _, hasg [], mb_zero _ _ _ _ _ _ _ hq hF, .inl rfl, fs ++ [d - 1], d - 1, u, .frz (.int ((row[j] : Nat) : Int)), rfl, ?_, by omega, by simp [hf], ?_⟩
        · rw [nI_append, hd1]; rfl
        · rw [mv_zero _ _ hb] at hm
          rw [← hm]; simp)
  rw [nI_len, List.drop_length] at hm
  subst hl'
  have hm : fs = mvN m m row := by rw [← hm]; exact (List.append_nil _).symm
  subst hm
  show endF 3 (code_move_by_row [.frz (.int (c : Nat)), .frz (.int (m : Nat)), .frz (.list (nI row)), .non, .non, .non, .non]) = _
  unfold code_move_by_row
  rw [sq_nx s0, sq_nx e4, unlockL_nil]
  generalize nI (mvN m m row) = Z
  simp
/-! ### deal_riffle -/
theorem row_comp (C M R : PyData) (row : List Nat) (hl : row.length ≤ 1000) (hR : seqOf R = some (nI row)) : eComp [3] (.nm 3) (iSeq (eV 2)) (rt true) (eCall sem_is_within [false, false, false] [eV 3, eK (.int 0), eK (.int 1)]) [.frz C, .frz M, .frz R, .non] = .ok (.t (.list (row.map fun (b : Nat) => .bool (decide ((0 : Int) ≤ (b : Int) ∧ (b : Int) ≤ 1))))) [.frz C, .frz M, .frz R, .non] :=
  comp1 (xs := row) (src := []) (js := []) [.frz C, .frz M, .frz R, .non] (fun (b : Nat) => .int (b : Nat)) (fun (b : Nat) => .bool (decide ((0 : Int) ≤ (b : Int) ∧ (b : Int) ≤ 1))) (by simp [hR, nI]) (by show row.length ≤ 4000000; omega) (by simp) rfl rfl fun b _ => by
    have h := r_is_within (b : Nat) 0 1
    generalize (decide ((0 : Int) ≤ ((b : Nat) : Int) ∧ ((b : Nat) : Int) ≤ 1)) = q at h ⊢
    simp [h]
theorem count_n (row : List Nat) (hb : ∀ b ∈ row, b = 0 ∨ b = 1) : countD [.list (nI row), .int 0] = some (.int ((n0 row : Nat) : Int), false) := by
  rw [nI_eq, countD_l]
  congr 4
  unfold nZ n0
  rw [List.countP_map]
  refine List.countP_congr fun b h => ?_
  rcases hb b h with e | e <;> subst e <;> simp
theorem ror_run (C M R : PyData) (L : List PyData) (k n : PyData) (B : List PyData) (hi : isiD ["list", "tuple"] [R] = some (.bool true, false)) (hl : lenX [R] = some (k, false)) (hk : neD [k, C] = some (.bool false, false)) (hc : eComp [3] (.nm 3) (iSeq (eV 2)) (rt true) (eCall sem_is_within [false, false, false] [eV 3, eK (.int 0), eK (.int 1)]) [.frz C, .frz M, .frz R, .non] = .ok (.t (.list B)) [.frz C, .frz M, .frz R, .non])
    (ha : allD [.list B] = some (.bool true, false)) (hx : listX [R] = some (.list L, true)) (hn : countD [.list L, .int 0] = some (n, false)) (he : eqD [n, M] = some (.bool true, false)) : sem_is_row_of [.frz C, .frz M, .frz R] = .ok (.bool true, false) [.frz C, .frz M, .frz R] := by
  have h0 : sem_is_list [.frz R] = .ok (.bool true, false) [.frz R] := by simp [sem_is_list, code_is_list, hi]
  simp [sem_is_row_of, code_is_row_of, h0, hl, hk, hc, ha, hx, hn, he]
theorem r_is_row {c m : Nat} {row : List Nat} (h : Rw c m row) : sem_is_row_of [.frz (.int (c : Nat)), .frz (.int (m : Nat)), .frz (.list (nI row))] = .ok (.bool true, false) [.frz (.int (c : Nat)), .frz (.int (m : Nat)), .frz (.list (nI row))] := by
  have ha := allD_map (fun b : Nat => decide ((0 : Int) ≤ (b : Int) ∧ (b : Int) ≤ 1)) row
  have hall : (row.all fun b : Nat => decide ((0 : Int) ≤ (b : Int) ∧ (b : Int) ≤ 1)) = true := List.all_eq_true.mpr fun b hb => by
    rcases h.bit b hb with e | e <;> subst e <;> simp
  rw [hall] at ha
  have hn := count_n row h.bit
  rw [h.n0] at hn
  refine ror_run _ _ _ (nI row) (.int (c : Nat)) _ _ (isi_lt _) (by rw [lenX_l, nI_len, h.len]) ((neD_nn c c).trans (by simp)) (row_comp _ _ _ row (by have := h.len; have := h.c52; omega) rfl) ha ?_ hn ((eqD_nn m m).trans (by simp))
  simp
theorem deal_run (C M R X : PyData) (h1 : sem_want_cards [.frz C] = .ok (.none, false) [.frz C]) (h2 : sem_want_many [.frz M] = .ok (.none, false) [.frz M]) (h3 : sem_is_row_of [.frz C, .frz M, .frz R] = .ok (.bool true, false) [.frz C, .frz M, .frz R]) (h4 : sem_move_by_row [.frz C, .frz M, .frz R] = .ok (X, false) [.frz C, .frz M, .frz R]) (hp : pure0 X = true) : sem_deal_riffle [.frz C, .frz M, .frz R] = .ok (X, false) [.frz C, .frz M, .frz R] := by
  simp [sem_deal_riffle, code_deal_riffle, h1, h2, h3, h4, hp]
theorem pure_n (xs : List Nat) : pure0 (.tuple (nI xs)) = true := by
  show pure0s (nI xs) = true
  induction xs with
  | nil => rfl
  | cons x xs ih => exact ih
theorem r_deal {c m : Nat} {row : List Nat} (h : Rw c m row) : sem_deal_riffle [.frz (.int (c : Nat)), .frz (.int (m : Nat)), .frz (.list (nI row))] = .ok (.tuple (nI (mvN m m row)), false) [.frz (.int (c : Nat)), .frz (.int (m : Nat)), .frz (.list (nI row))] :=
  deal_run _ _ _ _ (r_want_cards _ (by have := h.c1; omega) (by have := h.c52; omega)) (r_want_many _ (by omega) (by have := h.le; have := h.c52; omega)) (r_is_row h) (r_by_row h) (pure_n _)
/-! ### the row -/
theorem rowm_run (p p1 p2 C : PyData) (m k n : Int) (Z O A R : List PyData) (hc : addD [C, .int 1] = some (.int n, false)) (e : sem__law_draw [.bor p, .frz (.int n)] = .ok (.int m, false) [.bor p1, .frz (.int n)]) (h1 : mulD [.list [.int 0], .int m] = some (.list Z, true)) (h2 : subD [C, .int m] = some (.int k, false)) (h3 : mulD [.list [.int 1], .int k] = some (.list O, true)) (h4 : addD [.list Z, .list O] = some (.list A, true))
    (e2 : sem__law_mixed [.bor p1, .frz (.list A)] = .ok (.list R, true) [.bor p2, .frz (.list A)]) : sem__law_row [.bor p, .frz C] = .ok (.tuple [.int m, .list R], false) [.bor p2, .frz C] := by
  simp [sem__law_row, code__law_row, hc, e, h1, h2, h3, h4, e2]
theorem n0_rep (m k : Nat) : n0 (List.replicate m 0 ++ List.replicate k 1) = m := by
  unfold n0
  rw [List.countP_append, List.countP_replicate, List.countP_replicate]
  simp
theorem rw_of {c m : Nat} (h1 : 1 ≤ c) (h2 : c ≤ 52) (hm : m ≤ c) {row : List Nat} (p : row.Perm (List.replicate m 0 ++ List.replicate (c - m) 1)) : Rw c m row := by
  refine ⟨h1, h2, ?_, ?_, fun b hb => ?_⟩
  · rw [p.length_eq, List.length_append, List.length_replicate, List.length_replicate]; omega
  · unfold n0
    rw [p.countP_eq]
    exact n0_rep m (c - m)
  · have := p.subset hb
    rcases List.mem_append.mp this with q | q
    · exact .inl (List.mem_replicate.mp q).2
    · exact .inr (List.mem_replicate.mp q).2
theorem rep_nI (k x : Nat) : List.replicate k (PyData.int (x : Nat)) = nI (List.replicate k x) := by simp [nI]
theorem r_law_row {p : PyData} (hp : Pot p) {c : Nat} (h1 : 1 ≤ c) (h2 : c ≤ 52) : ∃ (m : Nat) (row : List Nat) (p' : PyData), Pot p' ∧ Rw c m row ∧ sem__law_row [.bor p, .frz (.int (c : Nat))] = .ok (.tuple [.int (m : Nat), .list (nI row)], false) [.bor p', .frz (.int (c : Nat))] := by
  obtain ⟨m, p1, hp1, hm, e1⟩ := r_drawN hp (c + 1) (by omega) (by omega)
  have hlen : (List.replicate m 0 ++ List.replicate (c - m) 1).length ≤ 1000 := by
    rw [List.length_append, List.length_replicate, List.length_replicate]; omega
  obtain ⟨row, p2, hp2, hr, e2⟩ := r_mixed hp1 (List.replicate m 0 ++ List.replicate (c - m) 1) hlen (.list (nI (List.replicate m 0 ++ List.replicate (c - m) 1))) (by simp)
  refine ⟨m, row, p2, hp2, rw_of h1 h2 (by omega) hr, ?_⟩
  have w1 : mulD [.list [.int 0], .int (m : Nat)] = some (.list (nI (List.replicate m 0)), true) := by
    rw [mul_one_l (by omega) (by omega), ← rep_nI]; simp
  have w2 : mulD [.list [.int 1], .int ((c : Int) - (m : Nat))] = some (.list (nI (List.replicate (c - m) 1)), true) := by
    rw [mul_one_l (by omega) (by omega), ← rep_nI]
    have : ((c : Int) - (m : Nat)).toNat = c - m := by omega
    rw [this]; rfl
  have w3 : addD [.list (nI (List.replicate m 0)), .list (nI (List.replicate (c - m) 1))] = some (.list (nI (List.replicate m 0 ++ List.replicate (c - m) 1)), true) := by
    rw [nI_append]
    exact addD_l _ _ (by rw [nI_len, nI_len, List.length_replicate, List.length_replicate]; show _ ≤ 4000000; omega)
  exact rowm_run p p1 p2 _ _ _ _ _ _ _ _ (addD_n c 1) e1 w1 (by simp) w2 w3 e2
end L2.DL.K68
namespace L2.DL.K68
open PySem L2.DL
/-! ### slices of tuples -/
theorem tup_of {xs ys : List PyData} {a b : Option Int} (h : sliceO (.list xs) a b none = some (.list ys, true)) : sliceO (.tuple xs) a b none = some (.tuple ys, false) := by
  have h' : some (PyData.list (cutL xs a b), true) = some (PyData.list ys, true) := h
  have e : cutL xs a b = ys := by simpa using h'
  show some (PyData.tuple (cutL xs a b), false) = _
  rw [e]
theorem at_snT (xs : List PyData) (k : Nat) : sliceO (.tuple xs) none (some (k : Nat)) none = some (.tuple (xs.take k), false) := tup_of (at_sn xs k)
theorem at_nsT (xs : List PyData) (k : Nat) : sliceO (.tuple xs) (some (k : Nat)) none none = some (.tuple (xs.drop k), false) := tup_of (at_ns xs k)
theorem step_all : ((List.range 53).all fun n => decide (stepT n none none (-1) = (List.range n).map fun m => n - 1 - m)) = true := by kernel_rfl
theorem pick_rev : ∀ (xs : List PyData), pickAt xs ((List.range xs.length).map fun m => xs.length - 1 - m) = xs.reverse := fun xs => by
  refine List.ext_getElem? fun i => ?_
  have g : ∀ (l : List Nat), (∀ m ∈ l, xs.length - 1 - m < xs.length) → (l.map fun m => xs.length - 1 - m).filterMap (fun i => xs[i]?) = l.map fun m => xs.getD (xs.length - 1 - m) .none := fun l => by
    induction l with
    | nil => intro _; rfl
    | cons m l ih =>
      intro h
      have hm := h m (by simp)
      rw [List.map_cons, List.map_cons, List.filterMap_cons_some (b := xs.getD (xs.length - 1 - m) .none) (by simp [List.getD_eq_getElem?_getD, hm]), ih fun x hx => h x (by simp [hx])]
  have e : pickAt xs ((List.range xs.length).map fun m => xs.length - 1 - m) = (List.range xs.length).map fun m => xs.getD (xs.length - 1 - m) .none := g _ fun m hm => by
    have hm' := List.mem_range.mp hm
    omega
  rw [e]
  by_cases h : i < xs.length
  · rw [List.getElem?_reverse h]
    simp [h, List.getD_eq_getElem?_getD, show xs.length - 1 - i < xs.length by omega]
  · rw [List.getElem?_eq_none (by simpa using h), List.getElem?_eq_none (by simpa using h)]
theorem revT (xs : List PyData) (h : xs.length ≤ 52) : sliceO (.tuple xs) none none (some (-1)) = some (.tuple xs.reverse, false) := by
  have h1 := of_decide_eq_true (List.all_eq_true.mp step_all xs.length (List.mem_range.mpr (by omega)))
  show (if (-1 : Int) = 0 then none else if (stepT xs.length none none (-1)).length ≤ lim then some (PyData.tuple (pickAt xs (stepT xs.length none none (-1))), false) else none) = _
  rw [h1, pick_rev, if_neg (by decide), if_pos (by rw [List.length_map, List.length_range]; show _ ≤ 4000000; omega)]
theorem drop_n (P : List Nat) (k : Nat) : (nI P).drop k = nI (P.drop k) := by simp [nI]
theorem take_n (P : List Nat) (k : Nat) : (nI P).take k = nI (P.take k) := by simp [nI]
theorem rev_n (P : List Nat) : (nI P).reverse = nI P.reverse := by simp [nI]
/-! ### dealt_down -/
def dd (P : List Nat) (m : Nat) : List Nat := P.drop m ++ (P.take m).reverse
theorem dd_run (P M : PyData) (s n : Int) (A B R Z : PyData) (h1 : sem_want_pack [.frz P] = .ok (.none, false) [.frz P]) (h2 : sem_want_many [.frz M] = .ok (.none, false) [.frz M]) (hl : lenX [P] = some (.int n, false)) (hm : minD' [M, .int n] = some (.int s, false)) (ha : sliceO P (some s) none none = some (A, false)) (hb : sliceO P none (some s) none = some (B, false)) (hr : sliceO B none none (some (-1)) = some (R, false)) (hz : addD [A, R] = some (Z, false)) :
    sem_dealt_down [.frz P, .frz M] = .ok (Z, false) [.frz P, .frz M] := by
  simp [sem_dealt_down, code_dealt_down, h1, h2, hl, hm, ha, hb, hr, hz]
theorem min_n (a b : Nat) (h : a ≤ b) : minD' [.int (a : Nat), .int (b : Nat)] = some (.int (a : Nat), false) := by
  show some (PyData.int (if ((b : Nat) : Int) < ((a : Nat) : Int) then _ else _), false) = _
  rw [if_neg (by omega)]
theorem addT_n (A B : List Nat) (h : A.length + B.length ≤ 4000000) : addD [.tuple (nI A), .tuple (nI B)] = some (.tuple (nI (A ++ B)), false) := by
  rw [addD_t _ _ (by rw [nI_len, nI_len]; exact h), nI_append]
theorem r_dealt {c m : Nat} {P : List Nat} (h : Pk c P) (hm : m ≤ c) : sem_dealt_down [.frz (.tuple (nI P)), .frz (.int (m : Nat))] = .ok (.tuple (nI (dd P m)), false) [.frz (.tuple (nI P)), .frz (.int (m : Nat))] := by
  have hl := h.len
  have hc := h.c52
  refine dd_run _ _ (m : Nat) (c : Nat) (.tuple (nI (P.drop m))) (.tuple (nI (P.take m))) (.tuple (nI (P.take m).reverse)) _ (r_want_pack h) (r_want_many _ (by omega) (by omega)) (by rw [lenX_t, nI_len, hl]) (min_n m c hm) (by rw [at_nsT, drop_n]) (by rw [at_snT, take_n]) ?_ (addT_n _ _ ?_)
  · rw [revT _ (by rw [nI_len, List.length_take]; omega), rev_n]
  · rw [List.length_reverse, List.length_take, List.length_drop]; omega
/-! ### by hand -/
def pg (P : List Nat) (i : Nat) : Nat := P.getD i 0
abbrev bhB : C := sEx (eMut 6 appendU [tIte (tB' (eOps eqD [eV 7, eK (.int 1)])) (eMut 4 popU [eK (.int 0)]) (eMut 5 popU [eK (.int 0)])])
theorem pop0 (x : PyData) (L : List PyData) : popU (.list (x :: L)) [.int 0] = some (x, .list L) := by
  have h1 : ixOf (x :: L).length 0 = some 0 := by unfold ixOf; simp
  show ((ixOf (x :: L).length 0).bind fun k => ((x :: L)[k]?).map fun d => (d, PyData.list ((x :: L).eraseIdx k))) = _
  rw [h1]; rfl
theorem bh_one (P M R D x b : PyData) (A B F : List PyData) (hb : eqD [b, .int 1] = some (.bool true, false)) (hF : F.length < 4000000) : bhB [.frz P, .frz M, .frz R, .frz D, .own (.list (x :: A)), .own (.list B), .own (.list F), .frz b] = .ok .nx [.frz P, .frz M, .frz R, .frz D, .own (.list A), .own (.list B), .own (.list (F ++ [x])), .frz b] := by
  simp [hb, appendU_of _ hF, pop0]
theorem bh_zero (P M R D x b : PyData) (A B F : List PyData) (hb : eqD [b, .int 1] = some (.bool false, false)) (hF : F.length < 4000000) : bhB [.frz P, .frz M, .frz R, .frz D, .own (.list A), .own (.list (x :: B)), .own (.list F), .frz b] = .ok .nx [.frz P, .frz M, .frz R, .frz D, .own (.list A), .own (.list B), .own (.list (F ++ [x])), .frz b] := by
  simp [hb, appendU_of _ hF, pop0]
theorem bh_s0 (P M R D : PyData) (h : sem_dealt_down [.frz P, .frz M] = .ok (D, false) [.frz P, .frz M]) (hp : pure0 D = true) : sAsg (.nm 3) (eCall sem_dealt_down [false, false] [eV 0, eV 1]) [.frz P, .frz M, .frz R, .non, .non, .non, .non, .non] = .ok .nx [.frz P, .frz M, .frz R, .frz D, .non, .non, .non, .non] := by
  simp [h, hp]
theorem bh_s1 (P M R D A' B' : PyData) (n k : Int) (A B : List PyData) (hl : lenX [P] = some (.int n, false)) (hk : subD [.int n, M] = some (.int k, false)) (ha : sliceO D none (some k) none = some (A', false)) (hb : sliceO D (some k) none none = some (B', false)) (ha' : listX [A'] = some (.list A, true)) (hb' : listX [B'] = some (.list B, true)) :
    sPar [4, 5, 6] [eOps listX [eSlc sliceO (eV 3) none (some (eOps subD [eOps lenX [eV 0], eV 1])) none], eOps listX [eSlc sliceO (eV 3) (some (eOps subD [eOps lenX [eV 0], eV 1])) none none], eLst []] [.frz P, .frz M, .frz R, .frz D, .non, .non, .non, .non] = .ok .nx [.frz P, .frz M, .frz R, .frz D, .own (.list A), .own (.list B), .own (.list (nI [])), .non] := by
  have hn : nI [] = [] := rfl
  rw [hn]
  simp [hl, hk, ha, hb, ha', hb']
theorem sub_n (a b : Nat) (h : b ≤ a) : subD [.int (a : Nat), .int (b : Nat)] = some (.int ((a - b : Nat) : Int), false) := by
  have : ((a - b : Nat) : Int) = (a : Int) - b := by omega
  rw [this]
  simp
theorem r_by_hand {c m : Nat} {row P : List Nat} (h : Rw c m row) (hP : Pk c P) : sem__law_by_hand [.frz (.tuple (nI P)), .frz (.int (m : Nat)), .frz (.list (nI row))] = .ok (.tuple (nI ((mvN m m row).map (pg P))), false) [.frz (.tuple (nI P)), .frz (.int (m : Nat)), .frz (.list (nI row))] := by
  have hm := h.le
  have hl := hP.len
  have s0 := bh_s0 (.tuple (nI P)) (.int (m : Nat)) (.list (nI row)) _ (r_dealt hP hm) (pure_n _)
  have s1 := bh_s1 (.tuple (nI P)) (.int (m : Nat)) (.list (nI row)) (.tuple (nI (dd P m))) (.tuple (nI (P.drop m))) (.tuple (nI (P.take m).reverse)) (c : Nat) ((c - m : Nat) : Int) (nI (P.drop m)) (nI (P.take m).reverse) (by rw [lenX_t, nI_len, hl]) (sub_n c m hm)
    (by rw [at_snT, take_n]; unfold dd; rw [List.take_append_of_le_length (by rw [List.length_drop]; omega), List.take_of_length_le (by rw [List.length_drop]; omega)])
    (by rw [at_nsT, drop_n]; unfold dd; rw [List.drop_append_of_le_length (by rw [List.length_drop]; omega), List.drop_of_length_le (by rw [List.length_drop]; omega), List.nil_append]) (by simp) (by simp)
  have hit : ∀ (A B F : PyData), iSeq (eV 2) [.frz (.tuple (nI P)), .frz (.int (m : Nat)), .frz (.list (nI row)), .frz (.tuple (nI (dd P m))), .own A, .own B, .own F, .non] = .ok ⟨nI row, [], false⟩ [.frz (.tuple (nI P)), .frz (.int (m : Nat)), .frz (.list (nI row)), .frz (.tuple (nI (dd P m))), .own A, .own B, .own F, .non] := fun A B F => by
    simp
  obtain ⟨l', e4, fs, d, u, s6, hb6, hl', hd, hd2, hu, hf, hmm⟩ := for_inv (tg := .nm 7) (b := bhB) (src := []) (js := []) (pl := false)
    (fun j l => ∃ (fs : List Nat) (d u : Nat) (s6 : Sl), s6.borT = false ∧ l = [.frz (.tuple (nI P)), .frz (.int (m : Nat)), .frz (.list (nI row)), .frz (.tuple (nI (dd P m))), .own (.list (nI (P.drop u))), .own (.list (nI (P.take d).reverse)), .own (.list (nI fs)), s6] ∧ n0 (row.drop j) ≤ d ∧ d ≤ c ∧ u + n1 (row.drop j) ≤ c ∧ fs.length = j ∧ fs ++ (mvN d u (row.drop j)).map (pg P) = (mvN m m row).map (pg P)) (hit _ _ _) rfl rfl
    ⟨[], m, m, .non, rfl, rfl, Nat.le_of_eq h.n0, hm, (by have := n01 row; have := h.n0; have := h.len; show m + n1 row ≤ c; omega), rfl, rfl⟩ (fun j l hj ⟨fs, d, u, s6, hb6, hl, hd, hd2, hu, hf, hmm⟩ => by
      subst hl
      have hj' : j < row.length := by rw [nI_len] at hj; exact hj
      have hx : (nI row)[j] = .int ((row[j] : Nat) : Int) := by simp [nI]
      have hdr : row.drop j = row[j] :: row.drop (j + 1) := by rw [List.drop_eq_getElem_cons hj']
      have hF : (nI fs).length < 4000000 := by rw [nI_len]; have := h.len; have := h.c52; omega
      have hasg : asgT (.nm 7) (nI row)[j] [.frz (.tuple (nI P)), .frz (.int (m : Nat)), .frz (.list (nI row)), .frz (.tuple (nI (dd P m))), .own (.list (nI (P.drop u))), .own (.list (nI (P.take d).reverse)), .own (.list (nI fs)), s6] = .ok () [.frz (.tuple (nI P)), .frz (.int (m : Nat)), .frz (.list (nI row)), .frz (.tuple (nI (dd P m))), .own (.list (nI (P.drop u))), .own (.list (nI (P.take d).reverse)), .own (.list (nI fs)), .frz (.int ((row[j] : Nat) : Int))] := by
        rw [hx, asgT_nm, setF_run, if_pos (by simp)]
        exact stS_nb hb6
      rw [hdr] at hd hu hmm
      by_cases hb : row[j] = 1
      · have hq : eqD [.int ((row[j] : Nat) : Int), .int 1] = some (.bool true, false) := by rw [hb]; exact (eqD_nn 1 1).trans (by simp)
        rw [hb, n1_one] at hu
        have hul : u < P.length := by omega
        have e1 : nI (P.drop u) = .int ((pg P u : Nat) : Int) :: nI (P.drop (u + 1)) := by
          have e2 : pg P u = P[u] := by simp [pg, hul]
          rw [List.drop_eq_getElem_cons hul, e2]
          rfl
        refine ⟨_, .nx, _, hasg, ?_, .inl rfl, fs ++ [pg P u], d, u + 1, .frz (.int ((row[j] : Nat) : Int)), rfl, rfl, ?_, hd2, by omega, by simp [hf], ?_⟩
        · rw [e1, nI_append]
          exact bh_one _ _ _ _ _ _ _ _ _ hq hF
        · rw [hb, n0_one] at hd; exact hd
        · rw [hb, mv_one] at hmm
          rw [← hmm]; simp
      · have hq : eqD [.int ((row[j] : Nat) : Int), .int 1] = some (.bool false, false) := (eqD_nn row[j] 1).trans (by simp [hb])
        rw [n0_zero hb] at hd
        rw [n1_zero hb] at hu
        obtain ⟨e, rfl⟩ : ∃ e, d = e + 1 := ⟨d - 1, by omega⟩
        have hel : e < P.length := by omega
        have e1 : nI (P.take (e + 1)).reverse = .int ((pg P e : Nat) : Int) :: nI (P.take e).reverse := by
          have e2 : pg P e = P[e] := by simp [pg, hel]
          rw [List.take_succ_eq_append_getElem hel, List.reverse_append, e2]
          rfl
        refine ⟨_, .nx, _, hasg, ?_, .inl rfl, fs ++ [pg P e], e, u, .frz (.int ((row[j] : Nat) : Int)), rfl, rfl, by omega, by omega, hu, by simp [hf], ?_⟩
        · rw [e1, nI_append]
          exact bh_zero _ _ _ _ _ _ _ _ _ hq hF
        · rw [mv_zero _ _ hb] at hmm
          rw [← hmm]; simp)
  rw [nI_len, List.drop_length] at hmm
  subst hl'
  have hmm : fs = (mvN m m row).map (pg P) := by rw [← hmm]; exact (List.append_nil _).symm
  subst hmm
  show endF 3 (code__law_by_hand [.frz (.tuple (nI P)), .frz (.int (m : Nat)), .frz (.list (nI row)), .non, .non, .non, .non, .non]) = _
  unfold code__law_by_hand
  rw [sq_nx s0, sq_nx s1, sq_nx e4, unlockL_nil]
  generalize nI ((mvN m m row).map (pg P)) = Z
  generalize nI (P.drop u) = Y
  generalize nI (P.take d).reverse = X
  generalize nI (dd P m) = W
  simp
/-! ### moved -/
theorem mo_el (X Y x : PyData) (i : Int) (h : idxX [X, .int i] = some (x, false)) : bd (eOps idxX [eV 0, eV 2]) shareO [.frz X, .frz Y, .frz (.int i)] = .ok x [.frz X, .frz Y, .frz (.int i)] := by
  simp [h]
theorem idxT_n {P : List Nat} {i : Nat} (h : i < P.length) : idxX [.tuple (nI P), .int (i : Nat)] = some (.int ((pg P i : Nat) : Int), false) :=
  idxT (by omega) (by simp [nI, pg, h])
theorem idxL_n {P : List Nat} {i : Nat} (h : i < P.length) : idxX [.list (nI P), .int (i : Nat)] = some (.int ((pg P i : Nat) : Int), false) :=
  idxL (by omega) (by simp [nI, pg, h])
theorem moved_run (X Y : PyData) (L : List PyData) (hc : eComp [2] (.nm 2) (iSeq (eV 1)) (rt true) (eOps idxX [eV 0, eV 2]) [.frz X, .frz Y, .non] = .ok (.t (.list L)) [.frz X, .frz Y, .non]) : sem_moved_of [.frz X, .frz Y] = .ok (.tuple L, false) [.frz X, .frz Y] := by
  simp [sem_moved_of, code_moved_of, hc]
theorem r_moved_of {P M : List Nat} (h : ∀ i ∈ M, i < P.length) (hM : M.length ≤ 1000) : sem_moved_of [.frz (.tuple (nI P)), .frz (.tuple (nI M))] = .ok (.tuple (nI (M.map (pg P))), false) [.frz (.tuple (nI P)), .frz (.tuple (nI M))] := by
  refine moved_run _ _ _ ?_
  have e : nI (M.map (pg P)) = M.map fun i => PyData.int ((pg P i : Nat) : Int) := by simp [nI]
  rw [e]
  exact comp1 (xs := M) (src := []) (js := []) [.frz (.tuple (nI P)), .frz (.tuple (nI M)), .non] (fun (i : Nat) => .int (i : Nat)) (fun (i : Nat) => .int ((pg P i : Nat) : Int)) (by simp [nI]) (by show M.length ≤ 4000000; omega) (by simp) rfl rfl fun i hi => mo_el _ _ _ _ (idxT_n (h i hi))
end L2.DL.K68
namespace L2.DL.K68
open PySem L2.DL
theorem map_pg_id (P : List Nat) : (List.range P.length).map (pg P) = P := by
  refine List.ext_getElem (by simp) fun i h1 h2 => ?_
  simp [pg, h2]
/-- a pack, moved, is a pack -/
theorem Pk.mv {c : Nat} {P M : List Nat} (hP : Pk c P) (hM : Pk c M) : Pk c (M.map (pg P)) := ⟨hP.c1, hP.c52, by
  have p := hM.perm.map (pg P)
  have e := map_pg_id P
  rw [hP.len] at e
  rw [e] at p
  exact p.trans hP.perm⟩
theorem r_moved_of' {c : Nat} {P M : List Nat} (hP : P.length = c) (hM : Pk c M) : sem_moved_of [.frz (.tuple (nI P)), .frz (.tuple (nI M))] = .ok (.tuple (nI (M.map (pg P))), false) [.frz (.tuple (nI P)), .frz (.tuple (nI M))] :=
  r_moved_of (fun i hi => by rw [hP]; exact hM.lt hi) (by have := hM.len; have := hM.c52; omega)
theorem movd_run (F : FSem) (X Y Z : PyData) (code : C) (h1 : sem_want_pack [.frz X] = .ok (.none, false) [.frz X]) (h2 : sem_want_move [.frz Y] = .ok (.none, false) [.frz Y]) (h3 : sem_want_as_many [.frz X, .frz Y] = .ok (.none, false) [.frz X, .frz Y]) (h4 : sem_moved_of [.frz X, .frz Y] = .ok (Z, false) [.frz X, .frz Y]) (hp : pure0 Z = true) :
    sem_moved [.frz X, .frz Y] = .ok (Z, false) [.frz X, .frz Y] := by
  simp [sem_moved, code_moved, h1, h2, h3, h4, hp]
theorem r_moved {c : Nat} {P M : List Nat} (hP : Pk c P) (hM : Pk c M) : sem_moved [.frz (.tuple (nI P)), .frz (.tuple (nI M))] = .ok (.tuple (nI (M.map (pg P))), false) [.frz (.tuple (nI P)), .frz (.tuple (nI M))] :=
  movd_run sem_moved _ _ _ code_moved (r_want_pack hP) (r_want_move hM) (r_as_many hP.len hM.len) (r_moved_of' hP.len hM) (pure_n _)
theorem beh_run (X Y Z : PyData) (h1 : sem_want_move [.frz X] = .ok (.none, false) [.frz X]) (h2 : sem_want_move [.frz Y] = .ok (.none, false) [.frz Y]) (h3 : sem_want_as_many [.frz X, .frz Y] = .ok (.none, false) [.frz X, .frz Y]) (h4 : sem_moved_of [.frz X, .frz Y] = .ok (Z, false) [.frz X, .frz Y]) (hp : pure0 Z = true) :
    sem_behind [.frz X, .frz Y] = .ok (Z, false) [.frz X, .frz Y] := by
  simp [sem_behind, code_behind, h1, h2, h3, h4, hp]
theorem r_behind {c : Nat} {P M : List Nat} (hP : Pk c P) (hM : Pk c M) : sem_behind [.frz (.tuple (nI P)), .frz (.tuple (nI M))] = .ok (.tuple (nI (M.map (pg P))), false) [.frz (.tuple (nI P)), .frz (.tuple (nI M))] :=
  beh_run _ _ _ (r_want_move hP) (r_want_move hM) (r_as_many hP.len hM.len) (r_moved_of' hP.len hM) (pure_n _)
/-! ### plain, cut -/
theorem plain_pk {c : Nat} (h1 : 1 ≤ c) (h2 : c ≤ 52) : Pk c (List.range c) := ⟨h1, h2, List.Perm.refl _⟩
theorem plain_run (C X : PyData) (h1 : sem_want_cards [.frz C] = .ok (.none, false) [.frz C]) (h2 : rngTupD [C] = some (X, false)) (hp : pure0 X = true) : sem_plain [.frz C] = .ok (X, false) [.frz C] := by
  have h3 : sem_still_of [.frz C] = .ok (X, false) [.frz C] := by simp [sem_still_of, code_still_of, h2]
  simp [sem_plain, code_plain, h1, h3, hp]
theorem rngT_n {n : Nat} (h : n ≤ 1000000) : rngTupD [.int (n : Nat)] = some (.tuple (nI (List.range n)), false) := by
  show (match rangeOf [.int (n : Nat)] with | some xs => if xs.length ≤ lim then some (PyData.tuple xs, false) else none | none => none) = _
  rw [rng_n h]
  show (if (nI (List.range n)).length ≤ lim then some (PyData.tuple (nI (List.range n)), false) else none) = _
  rw [if_pos (by rw [nI_len, List.length_range]; show n ≤ 4000000; omega)]
theorem rngL_n {n : Nat} (h : n ≤ 1000000) : rngLstD [.int (n : Nat)] = some (.list (nI (List.range n)), true) := by
  show (match rangeOf [.int (n : Nat)] with | some xs => if xs.length ≤ lim then some (PyData.list xs, true) else none | none => none) = _
  rw [rng_n h]
  show (if (nI (List.range n)).length ≤ lim then some (PyData.list (nI (List.range n)), true) else none) = _
  rw [if_pos (by rw [nI_len, List.length_range]; show n ≤ 4000000; omega)]
theorem r_plain {c : Nat} (h1 : 1 ≤ c) (h2 : c ≤ 52) : sem_plain [.frz (.int (c : Nat))] = .ok (.tuple (nI (List.range c)), false) [.frz (.int (c : Nat))] :=
  plain_run _ _ (r_want_cards _ (by omega) (by omega)) (rngT_n (by omega)) (pure_n _)
theorem cut_run (X M A B Z : PyData) (n k : Int) (h1 : sem_want_pack [.frz X] = .ok (.none, false) [.frz X]) (h2 : sem_want_many [.frz M] = .ok (.none, false) [.frz M]) (hl : lenX [X] = some (.int n, false)) (hk : modD [M, .int n] = some (.int k, false)) (ha : sliceO X (some k) none none = some (A, false)) (hb : sliceO X none (some k) none = some (B, false)) (hz : addD [A, B] = some (Z, false)) : sem_cut [.frz X, .frz M] = .ok (Z, false) [.frz X, .frz M] := by
  simp [sem_cut, code_cut, h1, h2, hl, hk, ha, hb, hz]
/-- the cut of the plain pack, at k -/
def cutN (c k : Nat) : List Nat := (List.range c).map fun i => (i + k) % c
theorem cut_eq {c k : Nat} (h : k < c) : (List.range c).drop k ++ (List.range c).take k = cutN c k := by
  unfold cutN
  refine List.ext_getElem ?_ fun i h1 h2 => ?_
  · simp; omega
  · simp only [List.length_map, List.length_range] at h2
    rw [List.getElem_append]
    by_cases hi : i < ((List.range c).drop k).length
    · rw [dif_pos hi]
      simp only [List.length_drop, List.length_range] at hi
      simp [Nat.mod_eq_of_lt (show k + i < c by omega), Nat.add_comm]
    · rw [dif_neg hi]
      simp only [List.length_drop, List.length_range] at hi
      simp only [List.getElem_take, List.getElem_range, List.getElem_map, List.length_drop, List.length_range]
      have e : i + k = (i - (c - k)) + c := by omega
      rw [e, Nat.add_mod_right, Nat.mod_eq_of_lt (by omega)]
theorem cut_pk {c k : Nat} (h1 : 1 ≤ c) (h2 : c ≤ 52) (h : k < c) : Pk c (cutN c k) := ⟨h1, h2, by
  rw [← cut_eq h]
  have p : ((List.range c).drop k ++ (List.range c).take k).Perm ((List.range c).take k ++ (List.range c).drop k) := List.perm_append_comm
  rw [List.take_append_drop] at p
  exact p⟩
theorem r_cut {c m : Nat} (h1 : 1 ≤ c) (h2 : c ≤ 52) (hm : m ≤ 52) : sem_cut [.frz (.tuple (nI (List.range c))), .frz (.int (m : Nat))] = .ok (.tuple (nI (cutN c (m % c))), false) [.frz (.tuple (nI (List.range c))), .frz (.int (m : Nat))] := by
  have hk : m % c < c := Nat.mod_lt _ (by omega)
  refine cut_run _ _ (.tuple (nI ((List.range c).drop (m % c)))) (.tuple (nI ((List.range c).take (m % c)))) _ (c : Nat) ((m % c : Nat) : Int) (r_want_pack (plain_pk h1 h2)) (r_want_many _ (by omega) (by omega)) (by rw [lenX_t, nI_len, List.length_range]) (modD_n m c (by omega)) (by rw [at_nsT, drop_n]) (by rw [at_snT, take_n]) ?_
  rw [← cut_eq hk]
  exact addT_n _ _ (by simp; omega)
/-! ### back -/
theorem bk_step (X a b : PyData) (L L' : List PyData) (h : putAt (.list L) b a = some (.list L')) (hp : pure0 a = true) : sAsg (.ix 1 (eV 3)) (eV 2) [.frz X, .own (.list L), .frz a, .frz b] = .ok .nx [.frz X, .own (.list L'), .frz a, .frz b] := by
  simp [h, hp]
theorem bk_s0 (X : PyData) (n : Int) (L : List PyData) (hl : lenX [X] = some (.int n, false)) (hm : mulD [.list [.int 0], .int n] = some (.list L, true)) : sAsg (.nm 1) (eOps mulD [eLst [eK (.int 0)], eOps lenX [eV 0]]) [.frz X, .non, .non, .non] = .ok .nx [.frz X, .own (.list L), .non, .non] := by
  simp [hl, hm]
theorem put_n (B : List Nat) {i v : Nat} (h : i < B.length) : putAt (.list (nI B)) (.int (i : Nat)) (.int (v : Nat)) = some (.list (nI (B.set i v))) := by
  rw [putL (by omega) (by rw [nI_len]; simpa using h)]
  simp [nI, List.map_set]
theorem pg_set {B : List Nat} {x v : Nat} (h : x < B.length) : pg (B.set x v) x = v := by simp [pg, h]
theorem pg_set_ne {B : List Nat} {x y v : Nat} (h : x ≠ y) : pg (B.set y v) x = pg B x := by simp [pg, List.getElem?_set, Ne.symm h]
theorem pg_inj : ∀ {P : List Nat}, P.Nodup → ∀ {i j : Nat}, i < P.length → j < P.length → pg P i = pg P j → i = j
  | [], _, i, j, h, _, _ => absurd h (Nat.not_lt_zero _)
  | x :: P, n, 0, 0, _, _, _ => rfl
  | x :: P, n, 0, j + 1, _, h2, e => by
    have hm : j < P.length := by simpa using h2
    have : pg P j ∈ P := by simp [pg, hm]
    have e' : x = pg P j := e
    rw [← e'] at this
    exact absurd this (List.nodup_cons.mp n).1
  | x :: P, n, i + 1, 0, h1, _, e => by
    have hm : i < P.length := by simpa using h1
    have : pg P i ∈ P := by simp [pg, hm]
    have e' : pg P i = x := e
    rw [e'] at this
    exact absurd this (List.nodup_cons.mp n).1
  | x :: P, n, i + 1, j + 1, h1, h2, e => by
    rw [pg_inj (List.nodup_cons.mp n).2 (by simpa using h1) (by simpa using h2) e]
theorem enum_len : ∀ (L : List PyData) (k : Nat), (enumL k L).length = L.length
  | [], _ => rfl
  | x :: L, k => by
    show (enumL (k + 1) L).length + 1 = _
    rw [enum_len L]; rfl
theorem enum_at : ∀ (L : List PyData) (k j : Nat) (h : j < (enumL k L).length), (enumL k L)[j] = .tuple [.int ((k + j : Nat) : Int), L[j]'(by rw [enum_len] at h; exact h)]
  | x :: L, k, 0, h => rfl
  | x :: L, k, j + 1, h => by
    show (enumL (k + 1) L)[j]'(by have h' : j + 1 < (enumL (k + 1) L).length + 1 := h; omega) = _
    rw [enum_at L (k + 1) j]
    have : k + 1 + j = k + (j + 1) := by omega
    rw [this]; rfl
theorem bk_asg (X B : PyData) (s2 s3 : Sl) (h2 : s2.borT = false) (h3 : s3.borT = false) (a b : PyData) : asgT (.tp [.nm 2, .nm 3]) (.tuple [a, b]) [.frz X, .own B, s2, s3] = .ok () [.frz X, .own B, .frz a, .frz b] := by
  simp [stS_nb h2, stS_nb h3]
theorem bk_it (X : List PyData) (B : PyData) : iEnum (eV 0) [.frz (.tuple X), .own B, .non, .non] = .ok ⟨enumL 0 X, [], true⟩ [.frz (.tuple X), .own B, .non, .non] := by
  simp
theorem r_back {c : Nat} {P : List Nat} (hP : Pk c P) : ∃ B : List Nat, B.length = c ∧ (∀ i, i < c → pg B (pg P i) = i) ∧ sem_back_of [.frz (.tuple (nI P))] = .ok (.tuple (nI B), false) [.frz (.tuple (nI P))] := by
  have hl := hP.len
  have hc := hP.c52
  have s0 := bk_s0 (.tuple (nI P)) (c : Nat) (nI (List.replicate c 0)) (by rw [lenX_t, nI_len, hl]) (by rw [mul_one_l (by omega) (by omega), ← rep_nI]; simp)
  obtain ⟨l', e4, B, s2, s3, hb2, hb3, hl', hB, hBi⟩ := for_inv (tg := .tp [.nm 2, .nm 3]) (b := sAsg (.ix 1 (eV 3)) (eV 2)) (src := []) (js := []) (pl := true)
    (fun j l => ∃ (B : List Nat) (s2 s3 : Sl), s2.borT = false ∧ s3.borT = false ∧ l = [.frz (.tuple (nI P)), .own (.list (nI B)), s2, s3] ∧ B.length = c ∧ ∀ i, i < j → i < c → pg B (pg P i) = i) (bk_it (nI P) (.list (nI (List.replicate c 0)))) rfl rfl
    ⟨List.replicate c 0, .non, .non, rfl, rfl, rfl, by simp, fun i h => absurd h (Nat.not_lt_zero _)⟩ (fun j l hj ⟨B, s2, s3, hb2, hb3, hl', hB, hBi⟩ => by
      subst hl'
      have hj' : j < P.length := by rw [enum_len, nI_len] at hj; exact hj
      have hjc : j < c := by omega
      have hx : (nI P)[j]'(by rw [nI_len]; exact hj') = .int ((pg P j : Nat) : Int) := by simp [nI, pg, hj']
      have hpj : pg P j < c := hP.lt (by simp [pg, hj'])
      refine ⟨_, .nx, _, by rw [enum_at, hx, Nat.zero_add]; exact bk_asg _ _ _ _ hb2 hb3 _ _, bk_step _ _ _ _ _ (put_n B (by omega)) rfl, .inl rfl, B.set (pg P j) j, _, _, rfl, rfl, rfl, by simp [hB], fun i hi hic => ?_⟩
      by_cases e : i = j
      · subst e
        exact pg_set (by omega)
      · rw [pg_set_ne fun q => e (pg_inj hP.nodup (by omega) hj' q)]
        exact hBi i (by omega) hic)
  subst hl'
  refine ⟨B, hB, fun i hi => hBi i (by rw [enum_len, nI_len]; omega) hi, ?_⟩
  show endF 1 (code_back_of [.frz (.tuple (nI P)), .non, .non, .non]) = _
  unfold code_back_of
  rw [sq_nx s0, sq_nx e4, unlockL_nil]
  generalize nI B = Z
  simp
theorem btw_run (X Y B Z : PyData) (h1 : sem_want_pack [.frz X] = .ok (.none, false) [.frz X]) (h2 : sem_want_pack [.frz Y] = .ok (.none, false) [.frz Y]) (h3 : sem_want_as_many [.frz X, .frz Y] = .ok (.none, false) [.frz X, .frz Y]) (h4 : sem_back_of [.frz X] = .ok (B, false) [.frz X]) (h5 : sem_moved_of [.frz B, .frz Y] = .ok (Z, false) [.frz B, .frz Y]) (hb : pure0 B = true) (hp : pure0 Z = true) :
    sem_move_between [.frz X, .frz Y] = .ok (Z, false) [.frz X, .frz Y] := by
  simp [sem_move_between, code_move_between, h1, h2, h3, h4, h5, hb, hp]
theorem r_between {c : Nat} {P M : List Nat} (hP : Pk c P) (hM : Pk c M) : sem_move_between [.frz (.tuple (nI P)), .frz (.tuple (nI (M.map (pg P))))] = .ok (.tuple (nI M), false) [.frz (.tuple (nI P)), .frz (.tuple (nI (M.map (pg P))))] := by
  obtain ⟨B, hB, hi, e⟩ := r_back hP
  have e2 := r_moved_of' hB (hP.mv hM)
  have e3 : (M.map (pg P)).map (pg B) = M := by
    rw [List.map_map]
    conv => rhs; rw [← List.map_id M]
    exact List.map_congr_left fun i h => hi i (hM.lt h)
  rw [e3] at e2
  exact btw_run _ _ _ _ (r_want_pack hP) (r_want_pack (hP.mv hM)) (r_as_many hP.len (hP.mv hM).len) e e2 (pure_n _) (pure_n _)
end L2.DL.K68
namespace L2.DL.K68
open PySem L2.DL
/-! ### bar_of -/
abbrev barB : C := sIf (tB' (eOps eqD [eOps idxX [eV 0, eV 3], eOps subD [eV 1, eK (.int 1)]])) (sAsg (.nm 1) (eOps subD [eV 1, eK (.int 1)])) (sIf (tB' (eOps eqD [eOps idxX [eV 0, eV 3], eOps addD [eV 2, eK (.int 1)]])) (sAsg (.nm 2) (eOps addD [eV 2, eK (.int 1)])) (sRet (eOps addD [eV 3, eK (.int 1)])))
theorem bar_dn (X A : PyData) (x lo hi : Int) (h : idxX [X, A] = some (.int x, false)) (h1 : eqD [.int x, .int (lo - 1)] = some (.bool true, false)) : barB [.frz X, .frz (.int lo), .frz (.int hi), .frz A] = .ok .nx [.frz X, .frz (.int (lo - 1)), .frz (.int hi), .frz A] := by
  simp [h, h1, -eqD_i]
theorem bar_up (X A : PyData) (x lo hi : Int) (h : idxX [X, A] = some (.int x, false)) (h1 : eqD [.int x, .int (lo - 1)] = some (.bool false, false)) (h2 : eqD [.int x, .int (hi + 1)] = some (.bool true, false)) : barB [.frz X, .frz (.int lo), .frz (.int hi), .frz A] = .ok .nx [.frz X, .frz (.int lo), .frz (.int (hi + 1)), .frz A] := by
  simp [h, h1, h2, -eqD_i]
theorem bar_s0 (X : PyData) (x : Int) (h : idxX [X, .int 0] = some (.int x, false)) : sPar [1, 2] [eOps idxX [eV 0, eK (.int 0)], eOps idxX [eV 0, eK (.int 0)]] [.frz X, .non, .non, .non] = .ok .nx [.frz X, .frz (.int x), .frz (.int x), .non] := by
  simp [h]
theorem bar_it (X A B : PyData) (n : Int) (ys : List PyData) (h : lenX [X] = some (.int n, false)) (e : rangeOf [.int 1, .int n] = some ys) : iRange [eK (.int 1), eOps lenX [eV 0]] [.frz X, .frz A, .frz B, .non] = .ok ⟨ys, [], false⟩ [.frz X, .frz A, .frz B, .non] := by
  simp [h, e]
theorem pg_head {P Q : List Nat} {j x : Nat} (h : P.drop j = x :: Q) : pg P j = x ∧ P.drop (j + 1) = Q := by
  constructor
  · have : (P.drop j)[0]? = some x := by rw [h]; rfl
    rw [List.getElem?_drop, Nat.add_zero] at this
    simp [pg, this]
  · have : (P.drop j).drop 1 = Q := by rw [h]; rfl
    rw [List.drop_drop] at this
    exact this
theorem r_bar {c m : Nat} {row : List Nat} (h : Rw c m row) : sem_bar_of [.frz (.tuple (nI (mvN m m row)))] = .ok (.none, false) [.frz (.tuple (nI (mvN m m row)))] := by
  have hl := h.len
  have hc1 := h.c1
  have hc := h.c52
  have hlm : (mvN m m row).length = c := by rw [mv_len, hl]
  obtain ⟨b, r, hrow⟩ : ∃ b r, row = b :: r := by
    cases hr : row with
    | nil => rw [hr] at hl; simp at hl; omega
    | cons b r => exact ⟨b, r, rfl⟩
  have hst : ∃ d u : Nat, (mvN m m row).drop 1 = mvN d u (row.drop 1) ∧ pg (mvN m m row) 0 = d ∧ u = d + 1 ∧ n0 (row.drop 1) ≤ d := by
    have hn := h.n0
    rw [hrow] at hn ⊢
    by_cases hb : b = 1
    · subst hb
      rw [n0_one] at hn
      refine ⟨m, m + 1, ?_, ?_, rfl, by show n0 r ≤ m; omega⟩
      · rw [mv_one]; rfl
      · rw [mv_one]; rfl
    · rw [n0_zero hb] at hn
      refine ⟨m - 1, m, ?_, ?_, by omega, by show n0 r ≤ m - 1; omega⟩
      · rw [mv_zero _ _ hb]; rfl
      · rw [mv_zero _ _ hb]; rfl
  generalize mvN m m row = mv at *
  obtain ⟨d0, u0, q1, q2, q3, q4⟩ := hst
  have s0 := bar_s0 (.tuple (nI mv)) (d0 : Nat) (by have := idxT_n (P := mv) (i := 0) (by omega); rw [q2] at this; exact this)
  have hr : rangeOf [.int 1, .int (c : Nat)] = some (fromTo 1 (c - 1)) := by
    rw [rangeOf2 (by omega) (by omega) (by omega) (by omega)]
    have : ((c : Nat) - 1 : Int).toNat = c - 1 := by omega
    rw [this]
  have hlen : ∀ n, (fromTo 1 n).length = n := fun n => by simp [fromTo]
  obtain ⟨l', e4, lo, hi, s3, hb3, hl', _⟩ := for_inv (tg := .nm 3) (b := barB) (src := []) (js := []) (pl := false)
    (fun j l => ∃ (d u : Nat) (s3 : Sl), s3.borT = false ∧ l = [.frz (.tuple (nI mv)), .frz (.int (d : Nat)), .frz (.int (u : Nat)), s3] ∧ mv.drop (j + 1) = mvN d (u + 1) (row.drop (j + 1)) ∧ d ≤ u ∧ n0 (row.drop (j + 1)) ≤ d)
    (bar_it (.tuple (nI mv)) (.int (d0 : Nat)) (.int (d0 : Nat)) (c : Nat) _ (by rw [lenX_t, nI_len, hlm]) hr) rfl rfl ⟨d0, d0, .non, rfl, rfl, by rw [q1, q3], Nat.le_refl _, q4⟩ (fun j l hj ⟨d, u, s3, hb3, hl', a1, a2, a3⟩ => by
      subst hl'
      have hj' : j + 1 < row.length := by rw [hlen] at hj; omega
      have hx : (fromTo 1 (c - 1))[j] = .int ((j + 1 : Nat) : Int) := by rw [fromTo_at]; congr 1; omega
      have hdr : row.drop (j + 1) = row[j + 1] :: row.drop (j + 1 + 1) := by rw [List.drop_eq_getElem_cons hj']
      rw [hdr] at a1 a3
      have hi := idxT_n (P := mv) (i := j + 1) (by omega)
      have hasg : asgT (.nm 3) (fromTo 1 (c - 1))[j] [.frz (.tuple (nI mv)), .frz (.int (d : Nat)), .frz (.int (u : Nat)), s3] = .ok () [.frz (.tuple (nI mv)), .frz (.int (d : Nat)), .frz (.int (u : Nat)), .frz (.int ((j + 1 : Nat) : Int))] := by
        rw [hx, asgT_nm, setF_run, if_pos (by simp)]
        exact stS_nb hb3
      by_cases hb : row[j + 1] = 1
      · rw [hb, mv_one] at a1
        rw [hb, n0_one] at a3
        obtain ⟨g1, g2⟩ := pg_head a1
        rw [g1] at hi
        refine ⟨_, .nx, _, hasg, bar_up _ _ _ _ _ hi ?_ ?_, .inl rfl, d, u + 1, .frz (.int ((j + 1 : Nat) : Int)), rfl, rfl, g2, by omega, a3⟩
        · rw [eqD_i]; have : ¬ (((u + 1 : Nat) : Int) = (d : Nat) - 1) := by omega
          rw [decide_eq_false this]
        · rw [eqD_i]; simp
      · rw [mv_zero _ _ hb] at a1
        rw [n0_zero hb] at a3
        obtain ⟨g1, g2⟩ := pg_head a1
        rw [g1] at hi
        have hd : ((d : Nat) : Int) - 1 = ((d - 1 : Nat) : Int) := by omega
        refine ⟨_, .nx, _, hasg, bar_dn _ _ _ _ _ hi ?_, .inl rfl, d - 1, u, .frz (.int ((j + 1 : Nat) : Int)), rfl, by rw [hd], g2, by omega, by omega⟩
        rw [hd, eqD_i]; simp)
  subst hl'
  show endF 1 (code_bar_of [.frz (.tuple (nI mv)), .non, .non, .non]) = _
  unfold code_bar_of
  rw [sq_nx s0, sq_nx e4, unlockL_nil]
  simp
theorem idr_run (X : PyData) (h1 : sem_want_move [.frz X] = .ok (.none, false) [.frz X]) (h2 : sem_bar_of [.frz X] = .ok (.none, false) [.frz X]) : sem_is_deal_riffle [.frz X] = .ok (.bool true, false) [.frz X] := by
  have h3 : isD false isNoneB [.none] = some (.bool true, false) := rfl
  simp [sem_is_deal_riffle, code_is_deal_riffle, h1, h2, h3]
theorem r_idr {c m : Nat} {row : List Nat} (h : Rw c m row) : sem_is_deal_riffle [.frz (.tuple (nI (mvN m m row)))] = .ok (.bool true, false) [.frz (.tuple (nI (mvN m m row)))] := idr_run _ (r_want_move h.pk) (r_bar h)
/-! ### riffled_paper -/
theorem rb_comp (M : List Nat) (k : Nat) (h : M.length ≤ 1000) : sem_row_by [.frz (.tuple (nI M)), .frz (.int (k : Nat))] = .ok (.list (nI (M.map fun i => if k ≤ i then 1 else 0)), true) [.frz (.tuple (nI M)), .frz (.int (k : Nat))] := by
  have e : nI (M.map fun i => if k ≤ i then 1 else 0) = M.map fun i => PyData.int ((if k ≤ i then 1 else 0 : Nat) : Int) := by simp [nI]
  have hc := comp1 (i := 2) (it := iSeq (eV 0)) (e := tIte (tB' (eOps geD [eV 2, eV 1])) (eK (.int 1)) (eK (.int 0))) (l := [.frz (.tuple (nI M)), .frz (.int (k : Nat)), .non]) (xs := M) (src := []) (js := []) [.frz (.tuple (nI M)), .frz (.int (k : Nat)), .non] (fun (i : Nat) => .int (i : Nat)) (fun (i : Nat) => .int ((if k ≤ i then 1 else 0 : Nat) : Int)) (by simp [nI]) (by show M.length ≤ 4000000; omega) (by simp) rfl rfl fun i _ => by
    by_cases q : k ≤ i
    · have q' : ((k : Nat) : Int) ≤ (i : Nat) := by omega
      have q2 : geD [.int (i : Nat), .int (k : Nat)] = some (.bool true, false) := by
        show some (PyData.bool (decide (((k : Nat) : Int) ≤ (i : Nat))), false) = _
        rw [decide_eq_true q']
      simp [q, q2, -geD_i]
    · have q' : ¬ ((k : Nat) : Int) ≤ (i : Nat) := by omega
      have q2 : geD [.int (i : Nat), .int (k : Nat)] = some (.bool false, false) := by
        show some (PyData.bool (decide (((k : Nat) : Int) ≤ (i : Nat))), false) = _
        rw [decide_eq_false q']
      simp [q, q2, -geD_i]
  rw [← e] at hc
  generalize nI (M.map fun i => if k ≤ i then 1 else 0) = Z at hc ⊢
  generalize nI M = Y at hc ⊢
  generalize ((k : Nat) : Int) = K at hc ⊢
  simp [sem_row_by, code_row_by, hc]
theorem rp_run (X : PyData) (x : Int) (L : List PyData) (h1 : sem_want_move [.frz X] = .ok (.none, false) [.frz X]) (h2 : sem_bar_of [.frz X] = .ok (.none, false) [.frz X]) (h3 : idxX [X, .int 0] = some (.int x, false)) (h4 : sem_row_by [.frz X, .frz (.int x)] = .ok (.list L, true) [.frz X, .frz (.int x)]) : sem_riffled_paper [.frz X] = .ok (.tuple [.str "deal", .int x, .list L], false) [.frz X] := by
  have h5 : isD false isNoneB [.none] = some (.bool true, false) := rfl
  simp [sem_riffled_paper, code_riffled_paper, h1, h2, h3, h4, h5]
theorem r_paper {c m : Nat} {row : List Nat} (h : Rw c m row) : ∃ (x : Int) (L : List PyData), sem_riffled_paper [.frz (.tuple (nI (mvN m m row)))] = .ok (.tuple [.str "deal", .int x, .list L], false) [.frz (.tuple (nI (mvN m m row)))] := by
  have hlm : (mvN m m row).length = c := by rw [mv_len, h.len]
  have h3 := idxT_n (P := mvN m m row) (i := 0) (by have := h.c1; omega)
  exact ⟨_, _, rp_run _ _ _ (r_want_move h.pk) (r_bar h) h3 (rb_comp _ _ (by have := h.c52; omega))⟩
end L2.DL.K68
namespace L2.DL.K68
open PySem L2.DL
/-! ### kinds in blocks -/
/-- a block -/
def blkN (M : List Nat) (s b : Nat) : List Nat := (M.drop (b * s)).take s
def kinN (M : List Nat) (s b : Nat) : List Nat := (blkN M s b).map (· % s)
theorem cut_nn (xs : List PyData) (a b : Nat) (h : a ≤ b) : cutL xs (some (a : Nat)) (some (b : Nat)) = (xs.drop a).take (b - a) := by
  unfold cutL
  rw [HT.sIx_nat, HT.sIx_nat]
  by_cases h1 : a ≤ xs.length
  · rw [Nat.min_eq_left h1]
    by_cases h2 : b ≤ xs.length
    · rw [Nat.min_eq_left h2]
    · rw [Nat.min_eq_right (by omega), List.take_of_length_le (by rw [List.length_drop]; omega), List.take_of_length_le (by rw [List.length_drop]; omega)]
  · rw [List.drop_of_length_le (i := min a xs.length) (by omega), List.drop_of_length_le (i := a) (by omega)]
    simp
theorem slcT_nn (M : List Nat) (a b : Nat) (h : a ≤ b) : sliceO (.tuple (nI M)) (some (a : Nat)) (some (b : Nat)) none = some (.tuple (nI ((M.drop a).take (b - a))), false) := by
  show some (PyData.tuple (cutL (nI M) (some (a : Nat)) (some (b : Nat))), false) = _
  rw [cut_nn _ _ _ h, drop_n, take_n]
theorem slcL_nn (M : List Nat) (a b : Nat) (h : a ≤ b) : sliceO (.list (nI M)) (some (a : Nat)) (some (b : Nat)) none = some (.list (nI ((M.drop a).take (b - a))), true) := by
  show some (PyData.list (cutL (nI M) (some (a : Nat)) (some (b : Nat))), true) = _
  rw [cut_nn _ _ _ h, drop_n, take_n]
theorem blk_bnd (s b : Nat) : b * s ≤ (b + 1) * s ∧ (b + 1) * s - b * s = s := by
  have := Nat.succ_mul b s
  have h : (b + 1) * s = b * s + s := this
  omega
theorem ki_it (X Y s b lo hi b1 : PyData) (L : List PyData) (lo' hi' : Int) (h1 : mulD [b, s] = some (.int lo', false)) (h2 : addD [b, .int 1] = some (b1, false)) (h3 : mulD [b1, s] = some (.int hi', false)) (h4 : sliceO X (some lo') (some hi') none = some (.tuple L, false)) : iSeq (eSlc sliceO (eV 0) (some (eOps mulD [eV 2, eV 1])) (some (eOps mulD [eOps addD [eV 2, eK (.int 1)], eV 1])) none) [.frz X, .frz s, .frz b, .non] = .ok ⟨L, [], false⟩ [.frz X, .frz s, .frz b, .non] := by
  simp [h1, h2, h3, h4]
theorem ki_el (X s b : PyData) (x k : Int) (h : modD [.int x, s] = some (.int k, false)) : bd (eOps modD [eV 3, eV 1]) shareO [.frz X, .frz s, .frz b, .frz (.int x)] = .ok (.int k) [.frz X, .frz s, .frz b, .frz (.int x)] := by
  simp [h]
theorem ki_run (X s b : PyData) (L : List PyData) (h : eComp [3] (.nm 3) (iSeq (eSlc sliceO (eV 0) (some (eOps mulD [eV 2, eV 1])) (some (eOps mulD [eOps addD [eV 2, eK (.int 1)], eV 1])) none)) (rt true) (eOps modD [eV 3, eV 1]) [.frz X, .frz s, .frz b, .non] = .ok (.t (.list L)) [.frz X, .frz s, .frz b, .non]) : sem_kinds_in [.frz X, .frz s, .frz b] = .ok (.list L, true) [.frz X, .frz s, .frz b] := by
  simp [sem_kinds_in, code_kinds_in, h]
theorem r_kinds (M : List Nat) (s b : Nat) (hs : 0 < s) (hb : b ≤ 1000) (hM : M.length ≤ 1000) : sem_kinds_in [.frz (.tuple (nI M)), .frz (.int (s : Nat)), .frz (.int (b : Nat))] = .ok (.list (nI (kinN M s b)), true) [.frz (.tuple (nI M)), .frz (.int (s : Nat)), .frz (.int (b : Nat))] := by
  obtain ⟨g1, g2⟩ := blk_bnd s b
  have h4 := slcT_nn M (b * s) ((b + 1) * s) g1
  rw [g2] at h4
  have hit := ki_it (.tuple (nI M)) .none (.int (s : Nat)) (.int (b : Nat)) .none .none _ _ _ _ (mulD_n b s (by omega)) (addD_n b 1) (mulD_n (b + 1) s (by omega)) h4
  refine ki_run _ _ _ _ ?_
  have e : nI (kinN M s b) = (blkN M s b).map fun x => PyData.int ((x % s : Nat) : Int) := by simp [nI, kinN, Function.comp_def]
  rw [e]
  exact comp1 (xs := blkN M s b) (src := []) (js := []) [.frz (.tuple (nI M)), .frz (.int (s : Nat)), .frz (.int (b : Nat)), .non] (fun (x : Nat) => .int (x : Nat)) (fun (x : Nat) => .int ((x % s : Nat) : Int)) hit (by
    show (blkN M s b).length ≤ 4000000
    unfold blkN
    rw [List.length_take, List.length_drop]; omega) (by simp) rfl rfl fun x _ => ki_el _ _ _ _ _ (modD_n x s hs)
/-- all kinds in each whole block -/
def AllK (M : List Nat) (s : Nat) : Prop := ∀ b, (b + 1) * s ≤ M.length → (kinN M s b).Perm (List.range s)
theorem bar_run (X s b : PyData) (L : List PyData) (n : Int) (s' : Int) (hs' : s = .int s') (h1 : sem_kinds_in [.frz X, .frz s, .frz b] = .ok (.list L, true) [.frz X, .frz s, .frz b]) (h2 : lenSetD [.list L] = some (.int n, false)) (h3 : ltD [.int n, .int s'] = some (.bool false, false)) : sem_is_barring [.frz X, .frz s, .frz b] = .ok (.bool false, false) [.frz X, .frz s, .frz b] := by
  subst hs'
  simp [sem_is_barring, code_is_barring, h1, h2, h3, -ltD_i]
theorem r_barring {M : List Nat} {s b : Nat} (hs : 0 < s) (hb : b ≤ 1000) (hM : M.length ≤ 1000) (h : (kinN M s b).Perm (List.range s)) : sem_is_barring [.frz (.tuple (nI M)), .frz (.int (s : Nat)), .frz (.int (b : Nat))] = .ok (.bool false, false) [.frz (.tuple (nI M)), .frz (.int (s : Nat)), .frz (.int (b : Nat))] := by
  have hl : (nZ (kinN M s b)).length = (kinN M s b).length := by simp [nZ]
  have hle : (kinN M s b).length ≤ 1000 := by
    unfold kinN blkN
    rw [List.length_map, List.length_take, List.length_drop]; omega
  have hnd : (kinN M s b).Nodup := h.nodup_iff.mpr List.nodup_range
  have h2 := lenSet_l (nZ (kinN M s b)) (by omega)
  rw [nodup_dedup_eq (nodup_nZ hnd), hl, ← nI_eq, h.length_eq, List.length_range] at h2
  refine bar_run _ _ _ _ _ _ rfl (r_kinds M s b hs hb hM) h2 ?_
  show some (PyData.bool (decide (((s : Nat) : Int) < (s : Nat))), false) = _
  rw [decide_eq_false (by omega)]
theorem kb_it (X s : PyData) (n k : Int) (ys : List PyData) (h1 : lenX [X] = some (.int n, false)) (h2 : fdivD [.int n, s] = some (.int k, false)) (h3 : rangeOf [.int k] = some ys) : iRange [eOps fdivD [eOps lenX [eV 0], eV 1]] [.frz X, .frz s, .non] = .ok ⟨ys, [], false⟩ [.frz X, .frz s, .non] := by
  simp [h1, h2, h3]
theorem kb_el (X s b : PyData) (h : sem_is_barring [.frz X, .frz s, .frz b] = .ok (.bool false, false) [.frz X, .frz s, .frz b]) : bd (eCall sem_is_barring [false, false, false] [eV 0, eV 1, eV 2]) shareO [.frz X, .frz s, .frz b] = .ok (.bool false) [.frz X, .frz s, .frz b] := by
  simp [h]
theorem kb_run (X s : PyData) (L : List PyData) (h1 : sem_want_move [.frz X] = .ok (.none, false) [.frz X]) (h2 : sem_want_size [.frz s] = .ok (.none, false) [.frz s]) (hc : eComp [2] (.nm 2) (iRange [eOps fdivD [eOps lenX [eV 0], eV 1]]) (rt true) (eCall sem_is_barring [false, false, false] [eV 0, eV 1, eV 2]) [.frz X, .frz s, .non] = .ok (.t (.list L)) [.frz X, .frz s, .non]) (ha : anyD [.list L] = some (.bool false, false)) : sem_keeps_blocks [.frz X, .frz s] = .ok (.bool true, false) [.frz X, .frz s] := by
  simp [sem_keeps_blocks, code_keeps_blocks, h1, h2, hc, ha]
theorem any_false (n : Nat) : anyD [.list ((List.range n).map fun _ => .bool false)] = some (.bool false, false) := by
  have h := anyD_map (fun _ : Nat => false) (List.range n)
  rw [h]
  simp
theorem div_bnd {c s b : Nat} (hs : 0 < s) (hb : b < c / s) : (b + 1) * s ≤ c := by
  have h1 := Nat.div_mul_le_self c s
  have h2 : (b + 1) * s ≤ c / s * s := Nat.mul_le_mul_right s hb
  omega
theorem r_keeps {c s : Nat} {M : List Nat} (hM : Pk c M) (hs : 0 < s) (hsc : s ≤ c) (h : AllK M s) : sem_keeps_blocks [.frz (.tuple (nI M)), .frz (.int (s : Nat))] = .ok (.bool true, false) [.frz (.tuple (nI M)), .frz (.int (s : Nat))] := by
  have hl := hM.len
  have hc := hM.c52
  have hq := Nat.div_le_self c s
  refine kb_run _ _ ((List.range (c / s)).map fun _ => .bool false) (r_want_move hM) (r_want_size _ (by omega) (by omega)) ?_ (any_false _)
  exact comp1 (xs := List.range (c / s)) (src := []) (js := []) [.frz (.tuple (nI M)), .frz (.int (s : Nat)), .non] (fun (b : Nat) => .int (b : Nat)) (fun _ => .bool false) (kb_it _ _ _ _ _ (by rw [lenX_t, nI_len, hl]) (fdivD_n c s hs (by omega)) (rng_n (by omega))) (by rw [List.length_range]; show c / s ≤ 4000000; omega) (by simp) rfl rfl fun b hb => kb_el _ _ _ (r_barring hs (by have := List.mem_range.mp hb; omega) (by omega) (h b (by rw [hl]; exact div_bnd hs (List.mem_range.mp hb))))
theorem bk_it2 (X s : PyData) (n : Int) (m m1 : Int) (a : Int) (ys : List PyData) (h1 : lenX [X] = some (.int n, false)) (h2 : addD [.int n, s] = some (.int a, false)) (h3 : subD [.int a, .int 1] = some (.int m, false)) (h4 : fdivD [.int m, s] = some (.int m1, false)) (h5 : rangeOf [.int m1] = some ys) : iRange [eOps fdivD [eOps subD [eOps addD [eOps lenX [eV 0], eV 1], eK (.int 1)], eV 1]] [.frz X, .frz s, .non] = .ok ⟨ys, [], false⟩ [.frz X, .frz s, .non] := by
  simp [h1, h2, h3, h4, h5, -subD_i]
theorem bk_el2 (X s b : PyData) (L : List PyData) (h : sem_kinds_in [.frz X, .frz s, .frz b] = .ok (.list L, true) [.frz X, .frz s, .frz b]) : bd (eCall sem_kinds_in [false, false, false] [eV 0, eV 1, eV 2]) shareO [.frz X, .frz s, .frz b] = .ok (.list L) [.frz X, .frz s, .frz b] := by
  simp [h]
theorem bk_run2 (X s : PyData) (L : List PyData) (h1 : sem_want_move [.frz X] = .ok (.none, false) [.frz X]) (h2 : sem_want_size [.frz s] = .ok (.none, false) [.frz s]) (hc : eComp [2] (.nm 2) (iRange [eOps fdivD [eOps subD [eOps addD [eOps lenX [eV 0], eV 1], eK (.int 1)], eV 1]]) (rt true) (eCall sem_kinds_in [false, false, false] [eV 0, eV 1, eV 2]) [.frz X, .frz s, .non] = .ok (.t (.list L)) [.frz X, .frz s, .non]) : sem_block_kinds [.frz X, .frz s] = .ok (.list L, true) [.frz X, .frz s] := by
  simp [sem_block_kinds, code_block_kinds, h1, h2, hc]
theorem ceil_div {q s : Nat} (hs : 0 < s) : (q * s + s - 1) / s = q := by
  rw [Nat.div_eq_iff hs]
  omega
theorem r_block_kinds {c s : Nat} {M : List Nat} (hM : Pk c M) (hs : 0 < s) (hsc : s ≤ c) (hd : c % s = 0) : sem_block_kinds [.frz (.tuple (nI M)), .frz (.int (s : Nat))] = .ok (.list ((List.range (c / s)).map fun b => .list (nI (kinN M s b))), true) [.frz (.tuple (nI M)), .frz (.int (s : Nat))] := by
  have hl := hM.len
  have hc := hM.c52
  have hq := Nat.div_le_self c s
  have hcs : (c + s - 1) / s = c / s := by
    have := Nat.div_add_mod c s
    rw [hd, Nat.add_zero] at this
    have h2 := ceil_div (q := c / s) hs
    rw [Nat.mul_comm, this] at h2
    exact h2
  have h4 := fdivD_n (c + s - 1) s hs (by omega)
  rw [hcs] at h4
  have h3 : subD [.int ((c + s : Nat) : Int), .int 1] = some (.int ((c + s - 1 : Nat) : Int), false) := sub_n (c + s) 1 (by omega)
  refine bk_run2 _ _ _ (r_want_move hM) (r_want_size _ (by omega) (by omega)) ?_
  exact comp1 (xs := List.range (c / s)) (src := []) (js := []) [.frz (.tuple (nI M)), .frz (.int (s : Nat)), .non] (fun (b : Nat) => .int (b : Nat)) (fun b => .list (nI (kinN M s b))) (bk_it2 _ _ (c : Nat) _ _ _ _ (by rw [lenX_t, nI_len, hl]) (addD_n c s) h3 h4 (rng_n (by omega))) (by rw [List.length_range]; show c / s ≤ 4000000; omega) (by simp) rfl rfl fun b hb => bk_el2 _ _ _ _ (r_kinds M s b hs (by have := List.mem_range.mp hb; omega) (by omega))
/-- the move, cut ahead -/
theorem allk_cut {c m k s : Nat} {row : List Nat} (h : Rw c m row) (hk : k < c) (hs : 0 < s) (hd : c % s = 0) : AllK ((mvN m m row).map (pg (cutN c k))) s := fun b hb => by
  rw [List.length_map, mv_len] at hb
  have p := blks s k b m row hs h.n0 hb
  unfold kinN blkN
  rw [← List.map_drop, ← List.map_take, List.map_map]
  have e : (((mvN m m row).drop (b * s)).take s).map ((· % s) ∘ pg (cutN c k)) = (((mvN m m row).drop (b * s)).take s).map fun x => (x + k) % s := by
    refine List.map_congr_left fun x hx => ?_
    have hxc : x < c := h.pk.lt (List.mem_of_mem_drop (List.mem_of_mem_take hx))
    show pg (cutN c k) x % s = _
    have : pg (cutN c k) x = (x + k) % c := by simp [pg, cutN, hxc]
    rw [this, Nat.mod_mod_of_dvd _ (Nat.dvd_of_mod_eq_zero hd)]
  rw [e]
  exact p
theorem allk_mv {c m s : Nat} {row : List Nat} (h : Rw c m row) (hs : 0 < s) : AllK (mvN m m row) s := fun b hb => by
  rw [mv_len] at hb
  exact blks s 0 b m row hs h.n0 hb
end L2.DL.K68
namespace L2.DL.K68
open PySem L2.DL
theorem neD_tn (a : List Nat) : neD [.tuple (nI a), .tuple (nI a)] = some (.bool false, false) := by
  have h := neD_ti (nZ a) (nZ a)
  rw [← nI_eq] at h
  exact h.trans (by simp)
theorem eqD_ln (a : List Nat) : eqD [.list (nI a), .list (nI a)] = some (.bool true, false) := (eqD_n a a).trans (by simp)
section
variable (N : PyData)
abbrev S0 : C := sAsg (.tp [.nm 2, .tp [.nm 3, .nm 4]]) (eTup [eOps tupleD [eCall sem__law_mixed [true, false] [eV 0, eOps rngLstD [eV 1]]], eCall sem__law_row [true, false] [eV 0, eV 1]])
theorem p0 (p p1 p2 M : PyData) (A Y R : List PyData) (h1 : rngLstD [N] = some (.list A, true)) (h2 : sem__law_mixed [.bor p, .frz (.list A)] = .ok (.list Y, true) [.bor p1, .frz (.list A)]) (h3 : sem__law_row [.bor p1, .frz N] = .ok (.tuple [M, .list R], false) [.bor p2, .frz N]) :
    S0 [.bor p, .frz N, .non, .non, .non, .non, .non, .non, .non, .non, .non, .non] = .ok .nx [.bor p2, .frz N, .frz (.tuple Y), .frz M, .frz (.list R), .non, .non, .non, .non, .non, .non, .non] := by
  simp [h1, h2, h3]
end
section
variable (p N P M R : PyData)
theorem p1 (R' : List PyData) (X : PyData) (h1 : listX [R] = some (.list R', true)) (h2 : sem_deal_riffle [.frz N, .frz M, .frz (.list R')] = .ok (X, false) [.frz N, .frz M, .frz (.list R')]) (hp : pure0 X = true) : sAsg (.nm 5) (eCall sem_deal_riffle [false, false, false] [eV 1, eV 3, eOps listX [eV 4]]) [.bor p, .frz N, .frz P, .frz M, .frz R, .non, .non, .non, .non, .non, .non, .non] = .ok .nx [.bor p, .frz N, .frz P, .frz M, .frz R, .frz X, .non, .non, .non, .non, .non, .non] := by
  simp [h1, h2, hp]
theorem p2 (X Y : PyData) (h2 : sem__law_by_hand [.frz P, .frz M, .frz R] = .ok (Y, false) [.frz P, .frz M, .frz R]) (hp : pure0 Y = true) : sAsg (.nm 6) (eCall sem__law_by_hand [false, false, false] [eV 2, eV 3, eV 4]) [.bor p, .frz N, .frz P, .frz M, .frz R, .frz X, .non, .non, .non, .non, .non, .non] = .ok .nx [.bor p, .frz N, .frz P, .frz M, .frz R, .frz X, .frz Y, .non, .non, .non, .non, .non] := by
  simp [h2, hp]
theorem p3 (X Y : PyData) (h1 : sem_moved [.frz P, .frz X] = .ok (Y, false) [.frz P, .frz X]) (h2 : neD [Y, Y] = some (.bool false, false)) (h3 : sem_move_between [.frz P, .frz Y] = .ok (X, false) [.frz P, .frz Y]) (h4 : neD [X, X] = some (.bool false, false)) (h5 : sem_is_deal_riffle [.frz X] = .ok (.bool true, false) [.frz X]) (hp : pure0 X = true) (hp2 : pure0 Y = true) :
    sIf (DL.tOr (tB' (eOps neD [eCall sem_moved [false, false] [eV 2, eV 5], eV 6])) (DL.tOr (tB' (eOps neD [eCall sem_move_between [false, false] [eV 2, eV 6], eV 5])) (tB' (eOps (isD true (isBoolB true)) [eCall sem_is_deal_riffle [false] [eV 5]])))) (sRet (eK (.bool false))) (sNx) [.bor p, .frz N, .frz P, .frz M, .frz R, .frz X, .frz Y, .non, .non, .non, .non, .non] = .ok .nx [.bor p, .frz N, .frz P, .frz M, .frz R, .frz X, .frz Y, .non, .non, .non, .non, .non] := by
  have hi : isD true (isBoolB true) [.bool true] = some (.bool false, false) := rfl
  simp [h1, h2, h3, h4, h5, hi, hp, hp2]
theorem p4 (X Y A F p' : PyData) (d : Int) (h1 : sem_plain [.frz N] = .ok (A, false) [.frz N]) (h2 : sem__law_draw [.bor p, .frz (.int 53)] = .ok (.int d, false) [.bor p', .frz (.int 53)]) (h3 : sem_cut [.frz A, .frz (.int d)] = .ok (F, false) [.frz A, .frz (.int d)]) (hp : pure0 A = true) (hp2 : pure0 F = true) : sAsg (.nm 7) (eCall sem_cut [false, false] [eCall sem_plain [false] [eV 1], eCall sem__law_draw [true, false] [eV 0, eK (.int 53)]]) [.bor p, .frz N, .frz P, .frz M, .frz R, .frz X, .frz Y, .non, .non, .non, .non, .non] = .ok .nx [.bor p', .frz N, .frz P, .frz M, .frz R, .frz X, .frz Y, .frz F, .non, .non, .non, .non] := by
  simp [h1, h2, h3, hp, hp2]
theorem p5 (X Y F B : PyData) (h : sem_behind [.frz F, .frz X] = .ok (B, false) [.frz F, .frz X]) (hp : pure0 B = true) : sAsg (.nm 8) (eCall sem_behind [false, false] [eV 7, eV 5]) [.bor p, .frz N, .frz P, .frz M, .frz R, .frz X, .frz Y, .frz F, .non, .non, .non, .non] = .ok .nx [.bor p, .frz N, .frz P, .frz M, .frz R, .frz X, .frz Y, .frz F, .frz B, .non, .non, .non] := by
  simp [h, hp]
theorem p6 (X Y F B Z Q : PyData) (h1 : sem_moved [.frz P, .frz B] = .ok (Z, false) [.frz P, .frz B]) (h2 : sem_moved [.frz P, .frz F] = .ok (Q, false) [.frz P, .frz F]) (h3 : sem__law_by_hand [.frz Q, .frz M, .frz R] = .ok (Z, false) [.frz Q, .frz M, .frz R]) (h4 : neD [Z, Z] = some (.bool false, false)) (hp : pure0 Z = true) (hp2 : pure0 Q = true) :
    sIf (tB' (eOps neD [eCall sem_moved [false, false] [eV 2, eV 8], eCall sem__law_by_hand [false, false, false] [eCall sem_moved [false, false] [eV 2, eV 7], eV 3, eV 4]])) (sRet (eK (.bool false))) (sNx) [.bor p, .frz N, .frz P, .frz M, .frz R, .frz X, .frz Y, .frz F, .frz B, .non, .non, .non] = .ok .nx [.bor p, .frz N, .frz P, .frz M, .frz R, .frz X, .frz Y, .frz F, .frz B, .non, .non, .non] := by
  simp [h1, h2, h3, h4, hp, hp2]
abbrev szE : L2.DL.M Opd := eComp [10] (.nm 10) (iRange [eK (.int 1), eOps addD [eV 1, eK (.int 1)]]) (tB' (eOps eqD [eOps modD [eOps intD [eV 1], eV 10], eK (.int 0)])) (eV 10)
theorem p7 (X Y F B : PyData) (L : List PyData) (E : L2.DL.M Opd) (h : E [.bor p, .frz N, .frz P, .frz M, .frz R, .frz X, .frz Y, .frz F, .frz B, .non, .non, .non] = .ok (.t (.list L)) [.bor p, .frz N, .frz P, .frz M, .frz R, .frz X, .frz Y, .frz F, .frz B, .non, .non, .non]) : sAsg (.nm 9) E [.bor p, .frz N, .frz P, .frz M, .frz R, .frz X, .frz Y, .frz F, .frz B, .non, .non, .non] = .ok .nx [.bor p, .frz N, .frz P, .frz M, .frz R, .frz X, .frz Y, .frz F, .frz B, .own (.list L), .non, .non] := by
  simp [h]
theorem p8 (X Y F B p' : PyData) (L : List PyData) (s : Int) (h : sem__law_pick [.bor p, .frz (.list L)] = .ok (.int s, false) [.bor p', .frz (.list L)]) : sAsg (.nm 10) (eCall sem__law_pick [true, false] [eV 0, eV 9]) [.bor p, .frz N, .frz P, .frz M, .frz R, .frz X, .frz Y, .frz F, .frz B, .own (.list L), .non, .non] = .ok .nx [.bor p', .frz N, .frz P, .frz M, .frz R, .frz X, .frz Y, .frz F, .frz B, .frz (.list L), .frz (.int s), .non] := by
  simp [h, okArgs, distinct]
theorem p9 (X Y F B s : PyData) (L V : List PyData) (h1 : sem_keeps_blocks [.frz B, .frz s] = .ok (.bool true, false) [.frz B, .frz s]) (E : L2.DL.M Opd) (h2 : E [.bor p, .frz N, .frz P, .frz M, .frz R, .frz X, .frz Y, .frz F, .frz B, .frz (.list L), .frz s, .non] = .ok (.t (.list V)) [.bor p, .frz N, .frz P, .frz M, .frz R, .frz X, .frz Y, .frz F, .frz B, .frz (.list L), .frz s, .non]) (h3 : allD [.list V] = some (.bool true, false)) :
    sRet (eAnd (eOps (isD false (isBoolB true)) [eCall sem_keeps_blocks [false, false] [eV 8, eV 10]]) (eOps allD [E])) [.bor p, .frz N, .frz P, .frz M, .frz R, .frz X, .frz Y, .frz F, .frz B, .frz (.list L), .frz s, .non] = .ok (.rt (.v (.bool true))) [.bor p, .frz N, .frz P, .frz M, .frz R, .frz X, .frz Y, .frz F, .frz B, .frz (.list L), .frz s, .non] := by
  have hi : isD false (isBoolB true) [.bool true] = some (.bool true, false) := rfl
  simp [h1, h2, h3, hi]
end
/-! ### put together -/
theorem sz_it (A : List Sl) (l : L) (a : Int) (ys : List PyData) (N : PyData) (x0 : Sl) (h1 : addD [N, .int 1] = some (.int a, false)) (h2 : rangeOf [.int 1, .int a] = some ys) : iRange [eK (.int 1), eOps addD [eV 1, eK (.int 1)]] (x0 :: .frz N :: l) = .ok ⟨ys, [], false⟩ (x0 :: .frz N :: l) := by
  simp [h1, h2]
/-- the sizes that divide the cards -/
def sizesN (c : Nat) : List Nat := ((List.range c).filter fun k => decide (c % (k + 1) = 0)).map (· + 1)
theorem sizes_run (p N P M R X Y F B : PyData) (c : Nat) (hc : c ≤ 52) (hN : N = .int (c : Nat)) : szE [.bor p, .frz N, .frz P, .frz M, .frz R, .frz X, .frz Y, .frz F, .frz B, .non, .non, .non] = .ok (.t (.list (nI (sizesN c)))) [.bor p, .frz N, .frz P, .frz M, .frz R, .frz X, .frz Y, .frz F, .frz B, .non, .non, .non] := by
  have hr : rangeOf [.int 1, .int ((c + 1 : Nat) : Int)] = some ((List.range c).map fun k => .int ((k + 1 : Nat) : Int)) := by
    rw [rangeOf2 (by omega) (by omega) (by omega) (by omega)]
    have : (((c + 1 : Nat) : Int) - 1).toNat = c := by omega
    rw [this]
    unfold fromTo
    congr 2
    funext k
    congr 1
    omega
  have hit := sz_it [] [.frz P, .frz M, .frz R, .frz X, .frz Y, .frz F, .frz B, .non, .non, .non] _ _ N (.bor p) (by rw [hN]; exact addD_n c 1) hr
  have h := comp1_if (i := 10) (it := iRange [eK (.int 1), eOps addD [eV 1, eK (.int 1)]]) (t := tB' (eOps eqD [eOps modD [eOps intD [eV 1], eV 10], eK (.int 0)])) (e := eV 10) (l := [.bor p, .frz N, .frz P, .frz M, .frz R, .frz X, .frz Y, .frz F, .frz B, .non, .non, .non]) (xs := List.range c) (src := []) (js := []) [.bor p, .frz N, .frz P, .frz M, .frz R, .frz X, .frz Y, .frz F, .frz B, .non, .non, .non] (fun k => .int ((k + 1 : Nat) : Int)) (fun k => decide (c % (k + 1) = 0)) (fun k => .int ((k + 1 : Nat) : Int)) hit (by rw [List.length_range]; show c ≤ 4000000; omega) (by simp) rfl rfl (fun k hk => by
      have e1 : intD [N] = some (N, false) := by rw [hN]; rfl
      have e2 : modD [N, .int ((k + 1 : Nat) : Int)] = some (.int ((c % (k + 1) : Nat) : Int), false) := by rw [hN]; exact modD_n c (k + 1) (by omega)
      have e3 : eqD [.int ((c % (k + 1) : Nat) : Int), .int 0] = some (.bool (decide (c % (k + 1) = 0)), false) := eqD_nn (c % (k + 1)) 0
      generalize ((c % (k + 1) : Nat) : Int) = W at e2 e3
      generalize ((k + 1 : Nat) : Int) = K at e2 ⊢
      simp [e1, e2, e3, -eqD_i]) (fun k _ _ => by
      generalize ((k + 1 : Nat) : Int) = K
      simp)
  have e : nI (sizesN c) = ((List.range c).filter fun k => decide (c % (k + 1) = 0)).map fun k => PyData.int ((k + 1 : Nat) : Int) := by simp [nI, sizesN, Function.comp_def]
  rw [e]
  exact h
theorem sizes_mem {c s : Nat} (h : s ∈ sizesN c) : 0 < s ∧ s ≤ c ∧ c % s = 0 := by
  obtain ⟨k, hk, rfl⟩ := List.mem_map.mp h
  obtain ⟨h1, h2⟩ := List.mem_filter.mp hk
  have := List.mem_range.mp h1
  exact ⟨by omega, by omega, by simpa using h2⟩
theorem sizes_ne {c : Nat} (h : 1 ≤ c) : 0 < (sizesN c).length := by
  have : 1 ∈ sizesN c := List.mem_map.mpr ⟨0, List.mem_filter.mpr ⟨List.mem_range.mpr (by omega), by simp [Nat.mod_one]⟩, rfl⟩
  exact List.length_pos_of_mem this
theorem sizes_len (c : Nat) : (sizesN c).length ≤ c := by
  unfold sizesN
  rw [List.length_map]
  exact Nat.le_trans (List.length_filter_le _ _) (by rw [List.length_range]; exact Nat.le_refl _)
theorem pick_run (p p' : PyData) (L : List PyData) (n d x : Int) (hl : lenX [.list L] = some (.int n, false)) (e : sem__law_draw [.bor p, .frz (.int n)] = .ok (.int d, false) [.bor p', .frz (.int n)]) (h : idxX [.list L, .int d] = some (.int x, false)) : sem__law_pick [.bor p, .frz (.list L)] = .ok (.int x, false) [.bor p', .frz (.list L)] := by
  simp [sem__law_pick, code__law_pick, hl, e, h]
theorem r_pick {p : PyData} (hp : Pot p) (xs : List Nat) (h1 : 0 < xs.length) (h2 : xs.length ≤ 1000) : ∃ (x : Nat) (p' : PyData), Pot p' ∧ x ∈ xs ∧ sem__law_pick [.bor p, .frz (.list (nI xs))] = .ok (.int (x : Nat), false) [.bor p', .frz (.list (nI xs))] := by
  obtain ⟨d, p', hp', hd, e⟩ := r_drawN hp xs.length h1 (by omega)
  exact ⟨pg xs d, p', hp', by simp [pg, hd], pick_run _ _ _ _ _ _ (by rw [lenX_l, nI_len]) e (idxL_n hd)⟩
theorem all_true {α : Type} (xs : List α) : allD [.list (xs.map fun _ => .bool true)] = some (.bool true, false) := by
  have h := allD_map (fun _ : α => true) xs
  rw [h]
  simp
theorem pe_el (p N P M R X Y F B s : PyData) (L : List PyData) (K Z : List PyData) (W : PyData) (h1 : sortedX [.list K] = some (.list Z, true)) (h2 : rngLstD [s] = some (.list Z, true)) (h3 : eqD [.list Z, .list Z] = some (.bool true, false)) : bd (eOps eqD [eOps sortedX [eV 11], eOps rngLstD [eV 10]]) shareO [.bor p, .frz N, .frz P, .frz M, .frz R, .frz X, .frz Y, .frz F, .frz B, .frz (.list L), .frz s, .frz (.list K)] = .ok (.bool true) [.bor p, .frz N, .frz P, .frz M, .frz R, .frz X, .frz Y, .frz F, .frz B, .frz (.list L), .frz s, .frz (.list K)] := by
  simp [h1, h2, h3]
theorem pe_it (p N P M R X Y F B s : PyData) (L V : List PyData) (h : sem_block_kinds [.frz B, .frz s] = .ok (.list V, true) [.frz B, .frz s]) : iSeq (eCall sem_block_kinds [false, false] [eV 8, eV 10]) [.bor p, .frz N, .frz P, .frz M, .frz R, .frz X, .frz Y, .frz F, .frz B, .frz (.list L), .frz s, .non] = .ok ⟨V, [], false⟩ [.bor p, .frz N, .frz P, .frz M, .frz R, .frz X, .frz Y, .frz F, .frz B, .frz (.list L), .frz s, .non] := by
  simp [h]
end L2.DL.K68
namespace L2.DL.K68
open PySem L2.DL
theorem pr_end (p p' N : PyData) (a1 a2 a3 a4 a5 a6 a7 a8 a9 a10 : Sl) (h : code__law_pack_right [.bor p, .frz N, .non, .non, .non, .non, .non, .non, .non, .non, .non, .non] = .ok (.rt (.v (.bool true))) [.bor p', .frz N, a1, a2, a3, a4, a5, a6, a7, a8, a9, a10]) : sem__law_pack_right [.bor p, .frz N] = .ok (.bool true, false) [.bor p', .frz N] := by
  show endF 2 (code__law_pack_right [.bor p, .frz N, .non, .non, .non, .non, .non, .non, .non, .non, .non, .non]) = _
  rw [h]
  rfl
theorem mv_comp {c k : Nat} {P mv : List Nat} (hmv : ∀ i ∈ mv, i < c) (hk : (cutN c k).length = c) : mv.map (pg ((cutN c k).map (pg P))) = (mv.map (pg (cutN c k))).map (pg P) := by
  rw [List.map_map]
  refine List.map_congr_left fun i hi => ?_
  have h := hmv i hi
  simp [pg, hk, h]
theorem r_pack_right {p : PyData} (hp : Pot p) {c : Nat} (h1 : 1 ≤ c) (h2 : c ≤ 52) : ∃ p', Pot p' ∧ sem__law_pack_right [.bor p, .frz (.int (c : Nat))] = .ok (.bool true, false) [.bor p', .frz (.int (c : Nat))] := by
  obtain ⟨P, q1, hq1, hP, e1⟩ := r_mixed hp (List.range c) (by rw [List.length_range]; omega) (.list (nI (List.range c))) (by simp)
  have kP : Pk c P := ⟨h1, h2, hP⟩
  obtain ⟨m, row, q2, hq2, hR, e2⟩ := r_law_row hq1 h1 h2
  have s0 := p0 (.int (c : Nat)) p q1 q2 (.int (m : Nat)) _ _ _ (rngL_n (n := c) (by omega)) e1 e2
  have kM := hR.pk
  have s1 := p1 q2 (.int (c : Nat)) (.tuple (nI P)) (.int (m : Nat)) (.list (nI row)) (nI row) _ (by simp) (r_deal hR) (pure_n _)
  have s2 := p2 q2 (.int (c : Nat)) (.tuple (nI P)) (.int (m : Nat)) (.list (nI row)) (.tuple (nI (mvN m m row))) _ (r_by_hand hR kP) (pure_n _)
  have s3 := p3 q2 (.int (c : Nat)) (.tuple (nI P)) (.int (m : Nat)) (.list (nI row)) (.tuple (nI (mvN m m row))) _ (r_moved kP kM) (neD_tn _) (r_between kP kM) (neD_tn _) (r_idr hR) (pure_n _) (pure_n _)
  obtain ⟨d, q3, hq3, hd, e3⟩ := r_drawN hq2 53 (by decide) (by decide)
  have hk : d % c < c := Nat.mod_lt _ (by omega)
  have kC := cut_pk h1 h2 hk
  have s4 := p4 q2 (.int (c : Nat)) (.tuple (nI P)) (.int (m : Nat)) (.list (nI row)) (.tuple (nI (mvN m m row))) (.tuple (nI ((mvN m m row).map (pg P)))) _ _ q3 _ (r_plain h1 h2) e3 (r_cut h1 h2 (by omega)) (pure_n _) (pure_n _)
  have s5 := p5 q3 (.int (c : Nat)) (.tuple (nI P)) (.int (m : Nat)) (.list (nI row)) (.tuple (nI (mvN m m row))) (.tuple (nI ((mvN m m row).map (pg P)))) _ _ (r_behind kC kM) (pure_n _)
  have kB : Pk c ((mvN m m row).map (pg (cutN c (d % c)))) := kC.mv kM
  have e6 := r_by_hand hR (kP.mv kC)
  rw [mv_comp (fun i hi => kM.lt hi) kC.len] at e6
  have s6 := p6 q3 (.int (c : Nat)) (.tuple (nI P)) (.int (m : Nat)) (.list (nI row)) (.tuple (nI (mvN m m row))) (.tuple (nI ((mvN m m row).map (pg P)))) (.tuple (nI (cutN c (d % c)))) _ _ _ (r_moved kP kB) (r_moved kP kC) e6 (neD_tn _) (pure_n _) (pure_n _)
  have s7 := p7 q3 (.int (c : Nat)) (.tuple (nI P)) (.int (m : Nat)) (.list (nI row)) (.tuple (nI (mvN m m row))) (.tuple (nI ((mvN m m row).map (pg P)))) (.tuple (nI (cutN c (d % c)))) (.tuple (nI ((mvN m m row).map (pg (cutN c (d % c)))))) _ szE (sizes_run _ _ _ _ _ _ _ _ _ c h2 rfl)
  obtain ⟨s, q4, hq4, hs, e8⟩ := r_pick hq3 (sizesN c) (sizes_ne h1) (by have := sizes_len c; omega)
  obtain ⟨g1, g2, g3⟩ := sizes_mem hs
  have s8 := p8 q3 (.int (c : Nat)) (.tuple (nI P)) (.int (m : Nat)) (.list (nI row)) (.tuple (nI (mvN m m row))) (.tuple (nI ((mvN m m row).map (pg P)))) (.tuple (nI (cutN c (d % c)))) (.tuple (nI ((mvN m m row).map (pg (cutN c (d % c)))))) q4 _ _ e8
  have hA := allk_cut hR hk g1 g3
  have e9 := r_keeps kB g1 g2 hA
  have e10 := r_block_kinds kB g1 g2 g3
  have hBl := kB.len
  generalize (mvN m m row).map (pg (cutN c (d % c))) = B at *
  have hcmp := comp1 (i := 11) (it := iSeq (eCall sem_block_kinds [false, false] [eV 8, eV 10])) (e := eOps eqD [eOps sortedX [eV 11], eOps rngLstD [eV 10]]) (l := [.bor q4, .frz (.int (c : Nat)), .frz (.tuple (nI P)), .frz (.int (m : Nat)), .frz (.list (nI row)), .frz (.tuple (nI (mvN m m row))), .frz (.tuple (nI ((mvN m m row).map (pg P)))), .frz (.tuple (nI (cutN c (d % c)))), .frz (.tuple (nI B)), .frz (.list (nI (sizesN c))), .frz (.int (s : Nat)), .non]) (xs := List.range (c / s)) (src := []) (js := []) [.bor q4, .frz (.int (c : Nat)), .frz (.tuple (nI P)), .frz (.int (m : Nat)), .frz (.list (nI row)), .frz (.tuple (nI (mvN m m row))), .frz (.tuple (nI ((mvN m m row).map (pg P)))), .frz (.tuple (nI (cutN c (d % c)))), .frz (.tuple (nI B)), .frz (.list (nI (sizesN c))), .frz (.int (s : Nat)), .non]
    (fun b => .list (nI (kinN B s b))) (fun _ => .bool true) (pe_it _ _ _ _ _ _ _ _ _ _ _ _ e10) (by rw [List.length_range]; have := Nat.div_le_self c s; show c / s ≤ 4000000; omega) (by simp) rfl rfl (fun b hb => by
      have hbs : (b + 1) * s ≤ B.length := by rw [hBl]; exact div_bnd g1 (List.mem_range.mp hb)
      have hpm := hA b hbs
      have h1' := sorted_n (kinN B s b) (by rw [hpm.length_eq, List.length_range]; omega)
      rw [srt_of_range hpm] at h1'
      exact pe_el q4 _ _ _ _ _ _ _ _ _ _ _ (nI (List.range s)) .none h1' (rngL_n (by omega)) (eqD_ln _))
  have s9 := p9 q4 (.int (c : Nat)) (.tuple (nI P)) (.int (m : Nat)) (.list (nI row)) (.tuple (nI (mvN m m row))) (.tuple (nI ((mvN m m row).map (pg P)))) (.tuple (nI (cutN c (d % c)))) (.tuple (nI B)) (.int (s : Nat)) _ _ e9 _ hcmp (all_true _)
  refine ⟨q4, hq4, pr_end p q4 _ _ _ _ _ _ _ _ _ _ _ (Eq.trans ?_ s9)⟩
  unfold code__law_pack_right
  rw [sq_nx s0, sq_nx s1, sq_nx s2, sq_nx s3, sq_nx s4, sq_nx s5, sq_nx s6, sq_nx s7, sq_nx s8]
end L2.DL.K68
namespace L2.DL.K68
open PySem L2.DL
/-! ### kinds -/
theorem r_is_count (i : Nat) : sem_is_count [.frz (.int (i : Nat))] = .ok (.bool true, false) [.frz (.int (i : Nat))] := by
  have h1 := r_is_integer (i : Nat)
  have h2 : geD [.int (i : Nat), .int 0] = some (.bool true, false) := by
    rw [geD_i, decide_eq_true (by omega)]
  generalize ((i : Nat) : Int) = I at h1 h2 ⊢
  simp [sem_is_count, code_is_count, h1, h2, -geD_i]
theorem wk_run (X : PyData) (n : Int) (L : List PyData) (hi : isiD ["list", "tuple"] [X] = some (.bool true, false)) (hl : lenX [X] = some (.int n, false)) (h1 : 1 ≤ n) (h2 : n ≤ 52) (hc : eComp [1] (.nm 1) (iSeq (eV 0)) (rt true) (eCall sem_is_count [false] [eV 1]) [.frz X, .non] = .ok (.t (.list L)) [.frz X, .non]) (ha : allD [.list L] = some (.bool true, false)) : sem_want_kinds [.frz X] = .ok (.none, false) [.frz X] := by
  have h0 : sem_is_list [.frz X] = .ok (.bool true, false) [.frz X] := by simp [sem_is_list, code_is_list, hi]
  simp [sem_want_kinds, code_want_kinds, h0, hl, h1, h2, hc, ha]
theorem wk_el (X i : PyData) (h : sem_is_count [.frz i] = .ok (.bool true, false) [.frz i]) : bd (eCall sem_is_count [false] [eV 1]) shareO [.frz X, .frz i] = .ok (.bool true) [.frz X, .frz i] := by
  simp [h]
theorem r_want_kinds (K : List Nat) (h1 : 1 ≤ K.length) (h2 : K.length ≤ 52) : sem_want_kinds [.frz (.list (nI K))] = .ok (.none, false) [.frz (.list (nI K))] := by
  refine wk_run _ (K.length : Nat) (K.map fun _ => .bool true) (isi_lt _) (by rw [lenX_l, nI_len]) (by omega) (by omega) ?_ (all_true _)
  exact comp1 (xs := K) (src := []) (js := []) [.frz (.list (nI K)), .non] (fun (i : Nat) => .int (i : Nat)) (fun _ => .bool true) (by simp [nI]) (by show K.length ≤ 4000000; omega) (by simp) rfl rfl fun i _ => wk_el _ _ (r_is_count i)
theorem wks_run (X s : PyData) (h1 : sem_want_kinds [.frz X] = .ok (.none, false) [.frz X]) (h2 : sem_want_size [.frz s] = .ok (.none, false) [.frz s]) : sem_want_kinds_and_size [.frz X, .frz s] = .ok (.none, false) [.frz X, .frz s] := by
  simp [sem_want_kinds_and_size, code_want_kinds_and_size, h1, h2]
theorem r_wks (K : List Nat) (s : Nat) (h1 : 1 ≤ K.length) (h2 : K.length ≤ 52) (h3 : 1 ≤ s) (h4 : s ≤ 52) : sem_want_kinds_and_size [.frz (.list (nI K)), .frz (.int (s : Nat))] = .ok (.none, false) [.frz (.list (nI K)), .frz (.int (s : Nat))] :=
  wks_run _ _ (r_want_kinds K h1 h2) (r_want_size _ (by omega) (by omega))
/-! always_kept -/
abbrev upB : C := sIf (tB' (eOps neD [eOps idxX [eV 0, eV 2], eOps idxX [eV 0, eOps addD [eV 2, eV 1]]])) (sRet (eV 2)) (sNx)
theorem up_step (X s k j : PyData) (x : PyData) (h1 : idxX [X, k] = some (x, false)) (h2 : addD [k, s] = some (j, false)) (h3 : idxX [X, j] = some (x, false)) (h4 : neD [x, x] = some (.bool false, false)) : upB [.frz X, .frz s, .frz k] = .ok .nx [.frz X, .frz s, .frz k] := by
  simp [h1, h2, h3, h4]
theorem up_it (X s : PyData) (n k : Int) (ys : List PyData) (h1 : lenX [X] = some (.int n, false)) (h2 : subD [.int n, s] = some (.int k, false)) (h3 : rangeOf [.int k] = some ys) : iRange [eOps subD [eOps lenX [eV 0], eV 1]] [.frz X, .frz s, .non] = .ok ⟨ys, [], false⟩ [.frz X, .frz s, .non] := by
  simp [h1, h2, h3]
theorem ak_run (X s : PyData) (h1 : sem_want_kinds_and_size [.frz X, .frz s] = .ok (.none, false) [.frz X, .frz s]) (h2 : sem_unlike_place [.frz X, .frz s] = .ok (.none, false) [.frz X, .frz s]) : sem_always_kept [.frz X, .frz s] = .ok (.bool true, false) [.frz X, .frz s] := by
  have h3 : isD false isNoneB [.none] = some (.bool true, false) := rfl
  simp [sem_always_kept, code_always_kept, h1, h2, h3]
theorem r_always (K : List Nat) (s : Nat) (h1 : 1 ≤ K.length) (h2 : K.length ≤ 52) (h3 : 1 ≤ s) (h4 : s ≤ K.length) (h : ∀ k, k + s < K.length → pg K k = pg K (k + s)) : sem_always_kept [.frz (.list (nI K)), .frz (.int (s : Nat))] = .ok (.bool true, false) [.frz (.list (nI K)), .frz (.int (s : Nat))] := by
  refine ak_run _ _ (r_wks K s h1 h2 h3 (by omega)) ?_
  obtain ⟨l', e4, s2, hb2, hl'⟩ := for_inv (tg := .nm 2) (b := upB) (src := []) (js := []) (pl := false)
    (fun j l => ∃ s2 : Sl, s2.borT = false ∧ l = [.frz (.list (nI K)), .frz (.int (s : Nat)), s2]) (up_it _ _ _ _ _ (by rw [lenX_l, nI_len]) (sub_n K.length s h4) (rng_n (by omega))) rfl rfl ⟨.non, rfl, rfl⟩ (fun j l hj ⟨s2, hb2, hl⟩ => by
      subst hl
      have hj' : j + s < K.length := by rw [nI_len, List.length_range] at hj; omega
      have hx : (nI (List.range (K.length - s)))[j] = .int (j : Nat) := by simp [nI]
      have e1 := idxL_n (P := K) (i := j) (by omega)
      have e2 := idxL_n (P := K) (i := j + s) hj'
      rw [← h j hj'] at e2
      refine ⟨[.frz (.list (nI K)), .frz (.int (s : Nat)), .frz (.int (j : Nat))], .nx, _, ?_, up_step _ _ _ _ _ e1 (addD_n j s) e2 ((neD_nn _ _).trans (by simp)), .inl rfl, .frz (.int (j : Nat)), rfl, rfl⟩
      rw [hx, asgT_nm, setF_run, if_pos (by simp)]
      exact stS_nb hb2)
  subst hl'
  show endF 2 (code_unlike_place [.frz (.list (nI K)), .frz (.int (s : Nat)), .non]) = _
  unfold code_unlike_place
  rw [sq_nx e4, unlockL_nil]
  simp
/-! keeps_kinds -/
abbrev ikB : C := sIf (tB' (eOps neD [eOps sortedX [eSlc sliceO (eV 4) (some (eOps mulD [eV 6, eV 1])) (some (eOps mulD [eOps addD [eV 6, eK (.int 1)], eV 1])) none], eV 3])) (sRet (eK (.bool false))) (sNx)
theorem ik_step (X s T b b1 : PyData) (D L B : List PyData) (lo hi : Int) (h1 : mulD [b, s] = some (.int lo, false)) (h2 : addD [b, .int 1] = some (b1, false)) (h3 : mulD [b1, s] = some (.int hi, false)) (h4 : sliceO (.list L) (some lo) (some hi) none = some (.list B, true)) (h5 : sortedX [.list B] = some (.list D, true)) (h6 : neD [.list D, .list D] = some (.bool false, false)) : ikB [.frz X, .frz s, .frz T, .own (.list D), .own (.list L), .non, .frz b] = .ok .nx [.frz X, .frz s, .frz T, .own (.list D), .own (.list L), .non, .frz b] := by
  simp [h1, h2, h3, h4, h5, h6]
theorem ik_s0 (X s T : PyData) (k : Int) (A D L : List PyData) (E : L2.DL.M Opd) (hs : s = .int k) (h1 : sliceO X none (some k) none = some (.list A, true)) (h2 : sortedX [.list A] = some (.list D, true)) (h3 : E [.frz X, .frz s, .frz T, .non, .non, .non, .non] = .ok (.t (.list L)) [.frz X, .frz s, .frz T, .non, .non, .non, .non]) : sPar [3, 4] [eOps sortedX [eSlc sliceO (eV 0) none (some (eV 1)) none], E] [.frz X, .frz s, .frz T, .non, .non, .non, .non] = .ok .nx [.frz X, .frz s, .frz T, .own (.list D), .own (.list L), .non, .non] := by
  subst hs
  simp [h1, h2, h3]
theorem ik_el (X s T x : PyData) (i : Int) (h : idxX [X, .int i] = some (x, false)) : bd (eOps idxX [eV 0, eV 5]) shareO [.frz X, .frz s, .frz T, .non, .non, .frz (.int i), .non] = .ok x [.frz X, .frz s, .frz T, .non, .non, .frz (.int i), .non] := by
  simp [h]
theorem ik_it (X s T : PyData) (D L ys : List PyData) (n k : Int) (h1 : lenX [X] = some (.int n, false)) (h2 : fdivD [.int n, s] = some (.int k, false)) (h3 : rangeOf [.int k] = some ys) : iRange [eOps fdivD [eOps lenX [eV 0], eV 1]] [.frz X, .frz s, .frz T, .own (.list D), .own (.list L), .non, .non] = .ok ⟨ys, [], false⟩ [.frz X, .frz s, .frz T, .own (.list D), .own (.list L), .non, .non] := by
  simp [h1, h2, h3]
theorem kk_run (X s T : PyData) (n : PyData) (L : List PyData) (h1 : sem_want_kinds_and_size [.frz X, .frz s] = .ok (.none, false) [.frz X, .frz s]) (h2 : sem_want_move [.frz T] = .ok (.none, false) [.frz T]) (h3 : lenX [X] = some (n, false)) (h4 : lenX [T] = some (n, false)) (h5 : neD [n, n] = some (.bool false, false)) (h6 : listX [X] = some (.list L, true)) (h7 : sem_is_kept [.frz (.list L), .frz s, .frz T] = .ok (.bool true, false) [.frz (.list L), .frz s, .frz T]) : sem_keeps_kinds [.frz X, .frz s, .frz T] = .ok (.bool true, false) [.frz X, .frz s, .frz T] := by
  simp [sem_keeps_kinds, code_keeps_kinds, h1, h2, h3, h4, h5, h6, h7]
/-- the kinds by a size -/
def modK (c s : Nat) : List Nat := (List.range c).map (· % s)
theorem modK_len (c s : Nat) : (modK c s).length = c := by simp [modK]
theorem modK_pg {c s i : Nat} (h : i < c) : pg (modK c s) i = i % s := by simp [pg, modK, h]
theorem modK_due {c s : Nat} (hsc : s ≤ c) : srtN ((modK c s).take s) = List.range s := by
  have : (modK c s).take s = List.range s := by
    refine List.ext_getElem (by simp [modK]; omega) fun i h1 h2 => ?_
    have : i < s := by simpa using h2
    simp [modK, Nat.mod_eq_of_lt this]
  rw [this, srt_range]
theorem r_is_kept {c s m : Nat} {row : List Nat} (h : Rw c m row) (hs : 0 < s) (hsc : s ≤ c) : sem_is_kept [.frz (.list (nI (modK c s))), .frz (.int (s : Nat)), .frz (.tuple (nI (mvN m m row)))] = .ok (.bool true, false) [.frz (.list (nI (modK c s))), .frz (.int (s : Nat)), .frz (.tuple (nI (mvN m m row)))] := by
  have hc := h.c52
  have kM := h.pk
  have hA := allk_mv h hs
  have hlm := kM.len
  generalize mvN m m row = mv at *
  have hcmp := comp1 (i := 5) (it := iSeq (eV 2)) (e := eOps idxX [eV 0, eV 5]) (l := [.frz (.list (nI (modK c s))), .frz (.int (s : Nat)), .frz (.tuple (nI mv)), .non, .non, .non, .non]) (xs := mv) (src := []) (js := []) [.frz (.list (nI (modK c s))), .frz (.int (s : Nat)), .frz (.tuple (nI mv)), .non, .non, .non, .non] (fun (i : Nat) => .int (i : Nat)) (fun i => .int ((i % s : Nat) : Int)) (by simp [nI]) (by show mv.length ≤ 4000000; omega) (by simp) rfl rfl (fun i hi => by
    have e := idxL_n (P := modK c s) (i := i) (by rw [modK_len]; exact kM.lt hi)
    rw [modK_pg (kM.lt hi)] at e
    exact ik_el _ _ _ _ _ e)
  have e : nI (mv.map (· % s)) = mv.map fun i => PyData.int ((i % s : Nat) : Int) := by simp [nI, Function.comp_def]
  rw [← e] at hcmp
  have s0 := ik_s0 (.list (nI (modK c s))) (.int (s : Nat)) (.tuple (nI mv)) (s : Nat) (nI ((modK c s).take s)) (nI (List.range s)) _ _ rfl (by rw [at_sn, take_n]) (by rw [sorted_n _ (by rw [List.length_take]; omega), modK_due hsc]) hcmp
  obtain ⟨l', e4, s6, hb6, hl'⟩ := for_inv (tg := .nm 6) (b := ikB) (src := []) (js := []) (pl := false)
    (fun j l => ∃ s6 : Sl, s6.borT = false ∧ l = [.frz (.list (nI (modK c s))), .frz (.int (s : Nat)), .frz (.tuple (nI mv)), .own (.list (nI (List.range s))), .own (.list (nI (mv.map (· % s)))), .non, s6]) (ik_it _ _ _ _ _ _ (c : Nat) _ (by rw [lenX_l, nI_len, modK_len]) (fdivD_n c s hs (by omega)) (rng_n (by have := Nat.div_le_self c s; omega))) rfl rfl ⟨.non, rfl, rfl⟩ (fun j l hj ⟨s6, hb6, hl⟩ => by
      subst hl
      have hj' : j < c / s := by rw [nI_len, List.length_range] at hj; exact hj
      have hx : (nI (List.range (c / s)))[j] = .int (j : Nat) := by simp [nI]
      have hbs : (j + 1) * s ≤ mv.length := by rw [hlm]; exact div_bnd hs hj'
      have hpm := hA j hbs
      obtain ⟨g1, g2⟩ := blk_bnd s j
      have h4 := slcL_nn (mv.map (· % s)) (j * s) ((j + 1) * s) g1
      have ek : ((mv.map (· % s)).drop (j * s)).take ((j + 1) * s - j * s) = kinN mv s j := by
        rw [g2, ← List.map_drop, ← List.map_take]; rfl
      rw [ek] at h4
      have h5 := sorted_n (kinN mv s j) (by rw [hpm.length_eq, List.length_range]; omega)
      rw [srt_of_range hpm] at h5
      have hq := Nat.div_le_self c s
      refine ⟨[.frz (.list (nI (modK c s))), .frz (.int (s : Nat)), .frz (.tuple (nI mv)), .own (.list (nI (List.range s))), .own (.list (nI (mv.map (· % s)))), .non, .frz (.int (j : Nat))], .nx, _, ?_, ik_step _ _ _ _ _ _ _ _ _ _ (mulD_n j s (by omega)) (addD_n j 1) (mulD_n (j + 1) s (by omega)) h4 h5 ((neD_n _ _).trans (by simp)), .inl rfl, .frz (.int (j : Nat)), rfl, rfl⟩
      rw [hx, asgT_nm, setF_run, if_pos (by simp)]
      exact stS_nb hb6)
  subst hl'
  show endF 3 (code_is_kept [.frz (.list (nI (modK c s))), .frz (.int (s : Nat)), .frz (.tuple (nI mv)), .non, .non, .non, .non]) = _
  unfold code_is_kept
  rw [sq_nx s0, sq_nx e4, unlockL_nil]
  simp
theorem r_keeps_kinds {c s m : Nat} {row : List Nat} (h : Rw c m row) (hs : 0 < s) (hsc : s ≤ c) : sem_keeps_kinds [.frz (.list (nI (modK c s))), .frz (.int (s : Nat)), .frz (.tuple (nI (mvN m m row)))] = .ok (.bool true, false) [.frz (.list (nI (modK c s))), .frz (.int (s : Nat)), .frz (.tuple (nI (mvN m m row)))] := by
  have hc := h.c52
  have hc1 := h.c1
  exact kk_run _ _ _ (.int (c : Nat)) _ (r_wks _ s (by rw [modK_len]; omega) (by rw [modK_len]; omega) (by omega) (by omega)) (r_want_move h.pk) (by rw [lenX_l, nI_len, modK_len]) (by rw [lenX_t, nI_len, h.pk.len]) ((neD_nn c c).trans (by simp)) (by simp) (r_is_kept h hs hsc)
end L2.DL.K68
namespace L2.DL.K68
open PySem L2.DL
theorem n13 : ([.non, .non, .non] : List Sl).length = 3 := rfl
theorem c0 (p p' : PyData) (d a n : Int) (h1 : sem__law_draw [.bor p, .frz (.int 13)] = .ok (.int d, false) [.bor p', .frz (.int 13)]) (h2 : addD [.int 1, .int d] = some (.int a, false)) (h3 : mulD [.int 4, .int a] = some (.int n, false)) : sAsg (.nm 1) (eOps mulD [eK (.int 4), eOps addD [eK (.int 1), eCall sem__law_draw [true, false] [eV 0, eK (.int 13)]]]) [.bor p, .non, .non, .non, .non, .non, .non, .non, .non, .non, .non, .non, .non, .non] = .ok .nx [.bor p', .frz (.int n), .non, .non, .non, .non, .non, .non, .non, .non, .non, .non, .non, .non] := by
  simp [h1, h2, h3, -addD_i]
section
variable (p N : PyData)
theorem c1 (p' M : PyData) (R : List PyData) (h : sem__law_row [.bor p, .frz N] = .ok (.tuple [M, .list R], false) [.bor p', .frz N]) : sAsg (.tp [.nm 2, .nm 3]) (eCall sem__law_row [true, false] [eV 0, eV 1]) [.bor p, .frz N, .non, .non, .non, .non, .non, .non, .non, .non, .non, .non, .non, .non] = .ok .nx [.bor p', .frz N, .frz M, .frz (.list R), .non, .non, .non, .non, .non, .non, .non, .non, .non, .non] := by
  simp [h]
variable (M R : PyData)
theorem c2 (A X : PyData) (h1 : sem_plain [.frz N] = .ok (A, false) [.frz N]) (h2 : sem__law_by_hand [.frz A, .frz M, .frz R] = .ok (X, false) [.frz A, .frz M, .frz R]) (hp : pure0 A = true) (hp2 : pure0 X = true) : sAsg (.nm 4) (eCall sem__law_by_hand [false, false, false] [eCall sem_plain [false] [eV 1], eV 2, eV 3]) [.bor p, .frz N, .frz M, .frz R, .non, .non, .non, .non, .non, .non, .non, .non, .non, .non] = .ok .nx [.bor p, .frz N, .frz M, .frz R, .frz X, .non, .non, .non, .non, .non, .non, .non, .non, .non] := by
  simp [h1, h2, hp, hp2]
variable (X : PyData)
theorem c3 (K L : List PyData) (E G : L2.DL.M Opd) (h1 : E [.bor p, .frz N, .frz M, .frz R, .frz X, .non, .non, .non, .non, .non, .non, .non, .non, .non] = .ok (.t (.list K)) [.bor p, .frz N, .frz M, .frz R, .frz X, .non, .non, .non, .non, .non, .non, .non, .non, .non]) (h2 : G [.bor p, .frz N, .frz M, .frz R, .frz X, .non, .non, .non, .non, .non, .non, .non, .non, .non] = .ok (.t (.list L)) [.bor p, .frz N, .frz M, .frz R, .frz X, .non, .non, .non, .non, .non, .non, .non, .non, .non]) : sAsg (.tp [.nm 5, .nm 6]) (eTup [E, G]) [.bor p, .frz N, .frz M, .frz R, .frz X, .non, .non, .non, .non, .non, .non, .non, .non, .non] = .ok .nx [.bor p, .frz N, .frz M, .frz R, .frz X, .frz (.list K), .frz (.list L), .non, .non, .non, .non, .non, .non, .non] := by
  simp [h1, h2]
theorem c3_it (ys : List PyData) (h : rangeOf [N] = some ys) : iRange [eV 1] [.bor p, .frz N, .frz M, .frz R, .frz X, .non, .non, .non, .non, .non, .non, .non, .non, .non] = .ok ⟨ys, [], false⟩ [.bor p, .frz N, .frz M, .frz R, .frz X, .non, .non, .non, .non, .non, .non, .non, .non, .non] := by
  simp [h]
theorem c3_e1 (k : PyData) (x : Int) (h : modD [k, .int 2] = some (.int x, false)) : bd (eOps modD [eV 7, eK (.int 2)]) shareO [.bor p, .frz N, .frz M, .frz R, .frz X, .non, .non, .frz k, .non, .non, .non, .non, .non, .non] = .ok (.int x) [.bor p, .frz N, .frz M, .frz R, .frz X, .non, .non, .frz k, .non, .non, .non, .non, .non, .non] := by
  simp [h]
theorem c3_e2 (k : PyData) (x : Int) (h : modD [k, .int 4] = some (.int x, false)) (h2 : idxX [.list [.int 0, .int 1, .int 2, .int 3], .int x] = some (.int x, false)) : bd (eOps idxX [eLst [eK (.int 0), eK (.int 1), eK (.int 2), eK (.int 3)], eOps modD [eV 7, eK (.int 4)]]) shareO [.bor p, .frz N, .frz M, .frz R, .frz X, .non, .non, .frz k, .non, .non, .non, .non, .non, .non] = .ok (.int x) [.bor p, .frz N, .frz M, .frz R, .frz X, .non, .non, .frz k, .non, .non, .non, .non, .non, .non] := by
  simp [h, h2]
variable (K L : PyData)
theorem c4 (V : List PyData) (E : L2.DL.M Opd) (h1 : E [.bor p, .frz N, .frz M, .frz R, .frz X, .frz K, .frz L, .non, .non, .non, .non, .non, .non, .non] = .ok (.t (.list V)) [.bor p, .frz N, .frz M, .frz R, .frz X, .frz K, .frz L, .non, .non, .non, .non, .non, .non, .non]) (h2 : allD [.list V] = some (.bool true, false)) : sIf (DL.tNot (tOf (eOps allD [E]))) (sRet (eK (.bool false))) (sNx) [.bor p, .frz N, .frz M, .frz R, .frz X, .frz K, .frz L, .non, .non, .non, .non, .non, .non, .non] = .ok .nx [.bor p, .frz N, .frz M, .frz R, .frz X, .frz K, .frz L, .non, .non, .non, .non, .non, .non, .non] := by
  simp [h1, h2]
theorem c4_it (s : Int) (ys : List PyData) (h : rangeOf [.int 0, N, .int s] = some ys) : iRange [eK (.int 0), eV 1, eK (.int s)] [.bor p, .frz N, .frz M, .frz R, .frz X, .frz K, .frz L, .non, .non, .non, .non, .non, .non, .non] = .ok ⟨ys, [], false⟩ [.bor p, .frz N, .frz M, .frz R, .frz X, .frz K, .frz L, .non, .non, .non, .non, .non, .non, .non] := by
  simp [h]
theorem c4_el (k k1 a b x y : PyData) (h1 : idxX [X, k] = some (a, false)) (h2 : idxX [K, a] = some (x, false)) (h3 : addD [k, .int 1] = some (k1, false)) (h4 : idxX [X, k1] = some (b, false)) (h5 : idxX [K, b] = some (y, false)) (h6 : neD [x, y] = some (.bool true, false)) : bd (eOps neD [eOps idxX [eV 5, eOps idxX [eV 4, eV 8]], eOps idxX [eV 5, eOps idxX [eV 4, eOps addD [eV 8, eK (.int 1)]]]]) shareO [.bor p, .frz N, .frz M, .frz R, .frz X, .frz K, .frz L, .non, .frz k, .non, .non, .non, .non, .non] = .ok (.bool true) [.bor p, .frz N, .frz M, .frz R, .frz X, .frz K, .frz L, .non, .frz k, .non, .non, .non, .non, .non] := by
  simp [h1, h2, h3, h4, h5, h6]
theorem c5_it (k : Int) (k4 : Int) (ys : List PyData) (h1 : addD [.int k, .int 4] = some (.int k4, false)) (h2 : rangeOf [.int k, .int k4] = some ys) : iRange [eV 8, eOps addD [eV 8, eK (.int 4)]] [.bor p, .frz N, .frz M, .frz R, .frz X, .frz K, .frz L, .non, .frz (.int k), .non, .non, .non, .non, .non] = .ok ⟨ys, [], false⟩ [.bor p, .frz N, .frz M, .frz R, .frz X, .frz K, .frz L, .non, .frz (.int k), .non, .non, .non, .non, .non] := by
  simp [h1, h2, -addD_i]
theorem c5_in (k j a x : PyData) (h1 : idxX [X, j] = some (a, false)) (h2 : idxX [L, a] = some (x, false)) : bd (eOps idxX [eV 6, eOps idxX [eV 4, eV 9]]) shareO [.bor p, .frz N, .frz M, .frz R, .frz X, .frz K, .frz L, .non, .frz k, .frz j, .non, .non, .non, .non] = .ok x [.bor p, .frz N, .frz M, .frz R, .frz X, .frz K, .frz L, .non, .frz k, .frz j, .non, .non, .non, .non] := by
  simp [h1, h2]
theorem c5_el (k : PyData) (V : List PyData) (E : L2.DL.M Opd) (h1 : E [.bor p, .frz N, .frz M, .frz R, .frz X, .frz K, .frz L, .non, .frz k, .non, .non, .non, .non, .non] = .ok (.t (.list V)) [.bor p, .frz N, .frz M, .frz R, .frz X, .frz K, .frz L, .non, .frz k, .non, .non, .non, .non, .non]) (h2 : sortedX [.list V] = some (.list [.int 0, .int 1, .int 2, .int 3], true)) (h3 : eqD [.list [.int 0, .int 1, .int 2, .int 3], .list [.int 0, .int 1, .int 2, .int 3]] = some (.bool true, false)) : bd (eOps eqD [eOps sortedX [E], eLst [eK (.int 0), eK (.int 1), eK (.int 2), eK (.int 3)]]) shareO [.bor p, .frz N, .frz M, .frz R, .frz X, .frz K, .frz L, .non, .frz k, .non, .non, .non, .non, .non] = .ok (.bool true) [.bor p, .frz N, .frz M, .frz R, .frz X, .frz K, .frz L, .non, .frz k, .non, .non, .non, .non, .non] := by
  simp [h1, h2, h3]
theorem c6 (R' : List PyData) (Y : PyData) (h1 : listX [R] = some (.list R', true)) (h2 : sem_deal_riffle [.frz N, .frz M, .frz (.list R')] = .ok (Y, false) [.frz N, .frz M, .frz (.list R')]) (hp : pure0 Y = true) : sAsg (.nm 10) (eCall sem_deal_riffle [false, false, false] [eV 1, eV 2, eOps listX [eV 3]]) [.bor p, .frz N, .frz M, .frz R, .frz X, .frz K, .frz L, .non, .non, .non, .non, .non, .non, .non] = .ok .nx [.bor p, .frz N, .frz M, .frz R, .frz X, .frz K, .frz L, .non, .non, .non, .frz Y, .non, .non, .non] := by
  simp [h1, h2, hp]
variable (Y : PyData)
theorem c7 (K' L' : List PyData) (h1 : listX [K] = some (.list K', true)) (h2 : listX [L] = some (.list L', true)) (h3 : sem_keeps_kinds [.frz (.list K'), .frz (.int 2), .frz Y] = .ok (.bool true, false) [.frz (.list K'), .frz (.int 2), .frz Y]) (h4 : sem_keeps_kinds [.frz (.list L'), .frz (.int 4), .frz Y] = .ok (.bool true, false) [.frz (.list L'), .frz (.int 4), .frz Y]) :
    sIf (DL.tOr (tB' (eOps (isD true (isBoolB true)) [eCall sem_keeps_kinds [false, false, false] [eOps listX [eV 5], eK (.int 2), eV 10]])) (tB' (eOps (isD true (isBoolB true)) [eCall sem_keeps_kinds [false, false, false] [eOps listX [eV 6], eK (.int 4), eV 10]]))) (sRet (eK (.bool false))) (sNx) [.bor p, .frz N, .frz M, .frz R, .frz X, .frz K, .frz L, .non, .non, .non, .frz Y, .non, .non, .non] = .ok .nx [.bor p, .frz N, .frz M, .frz R, .frz X, .frz K, .frz L, .non, .non, .non, .frz Y, .non, .non, .non] := by
  have hi : isD true (isBoolB true) [.bool true] = some (.bool false, false) := rfl
  simp [h1, h2, h3, h4, hi]
theorem c8 (p' : PyData) (n : Int) (A H : List PyData) (h1 : fdivD [N, .int 2] = some (.int n, false)) (h2 : rngLstD [.int n] = some (.list A, true)) (h3 : sem__law_mixed [.bor p, .frz (.list A)] = .ok (.list H, true) [.bor p', .frz (.list A)]) : sAsg (.nm 11) (eCall sem__law_mixed [true, false] [eV 0, eOps rngLstD [eOps fdivD [eV 1, eK (.int 2)]]]) [.bor p, .frz N, .frz M, .frz R, .frz X, .frz K, .frz L, .non, .non, .non, .frz Y, .non, .non, .non] = .ok .nx [.bor p', .frz N, .frz M, .frz R, .frz X, .frz K, .frz L, .non, .non, .non, .frz Y, .own (.list H), .non, .non] := by
  simp [h1, h2, h3]
theorem c9 (H B : List PyData) (h : addD [.list H, .list H] = some (.list B, true)) : sAsg (.nm 12) (eOps addD [eV 11, eV 11]) [.bor p, .frz N, .frz M, .frz R, .frz X, .frz K, .frz L, .non, .non, .non, .frz Y, .own (.list H), .non, .non] = .ok .nx [.bor p, .frz N, .frz M, .frz R, .frz X, .frz K, .frz L, .non, .non, .non, .frz Y, .own (.list H), .own (.list B), .non] := by
  simp [h]
theorem c10_el (H B : List PyData) (i x : PyData) (h : idxX [.list B, i] = some (x, false)) : bd (eOps idxX [eV 12, eV 9]) shareO [.bor p, .frz N, .frz M, .frz R, .frz X, .frz K, .frz L, .non, .non, .frz i, .frz Y, .own (.list H), .own (.list B), .non] = .ok x [.bor p, .frz N, .frz M, .frz R, .frz X, .frz K, .frz L, .non, .non, .frz i, .frz Y, .own (.list H), .own (.list B), .non] := by
  simp [h]
theorem c10 (H B T : List PyData) (E : L2.DL.M Opd) (h : E [.bor p, .frz N, .frz M, .frz R, .frz X, .frz K, .frz L, .non, .non, .non, .frz Y, .own (.list H), .own (.list B), .non] = .ok (.t (.list T)) [.bor p, .frz N, .frz M, .frz R, .frz X, .frz K, .frz L, .non, .non, .non, .frz Y, .own (.list H), .own (.list B), .non]) : sAsg (.nm 13) E [.bor p, .frz N, .frz M, .frz R, .frz X, .frz K, .frz L, .non, .non, .non, .frz Y, .own (.list H), .own (.list B), .non] = .ok .nx [.bor p, .frz N, .frz M, .frz R, .frz X, .frz K, .frz L, .non, .non, .non, .frz Y, .own (.list H), .own (.list B), .own (.list T)] := by
  simp [h]
theorem c11 (n x : Int) (H B B' T T' Q S : List PyData) (h1 : fdivD [N, .int 2] = some (.int n, false)) (h2 : listX [.list B] = some (.list B', true)) (h3 : sem_always_kept [.frz (.list B'), .frz (.int n)] = .ok (.bool true, false) [.frz (.list B'), .frz (.int n)]) (h4 : sliceO (.list T) none (some n) none = some (.list T', true)) (h5 : sortedX [.list T'] = some (.list S, true)) (h6 : sortedX [.list H] = some (.list S, true)) (h7 : eqD [.list S, .list S] = some (.bool true, false)) (h8 : sem_riffled_paper [.frz Y] = .ok (.tuple [.str "deal", .int x, .list Q], false) [.frz Y]) :
    ∃ l, sRet (eAnd (eOps (isD false (isBoolB true)) [eCall sem_always_kept [false, false] [eOps listX [eV 12], eOps fdivD [eV 1, eK (.int 2)]]]) (eAnd (eOps eqD [eOps sortedX [eSlc sliceO (eV 13) none (some (eOps fdivD [eV 1, eK (.int 2)])) none], eOps sortedX [eV 11]]) (eOps eqD [eOps idxX [eCall sem_riffled_paper [false] [eV 10], eK (.int 0)], eK (.str "deal")]))) [.bor p, .frz N, .frz M, .frz R, .frz X, .frz K, .frz L, .non, .non, .non, .frz Y, .own (.list H), .own (.list B), .own (.list T)] = .ok (.rt (.v (.bool true))) (.bor p :: l) := by
  have hi : isD false (isBoolB true) [.bool true] = some (.bool true, false) := rfl
  have h9 := idxT0 (.str "deal") [.int x, .list Q]
  have h10 := eqD_str "deal"
  simp [h1, h2, h3, h4, h5, h6, h7, h8, h9, h10, hi]
end
end L2.DL.K68
namespace L2.DL.K68
open PySem L2.DL
theorem kin_at {M : List Nat} {s b : Nat} (h : (b + 1) * s ≤ M.length) : kinN M s b = (List.range s).map fun j => pg M (b * s + j) % s := by
  obtain ⟨g1, g2⟩ := blk_bnd s b
  unfold kinN blkN
  refine List.ext_getElem (by simp; omega) fun i h1 h2 => ?_
  have hi : i < s := by simpa using h2
  have : b * s + i < M.length := by omega
  simp [pg, this]
theorem rng2 (t : Nat) (h1 : 1 ≤ t) (h2 : t ≤ 13) : rangeOf [.int 0, .int ((4 * t : Nat) : Int), .int 2] = some ((List.range (2 * t)).map fun b => .int ((b * 2 : Nat) : Int)) := by
  have h : t = 1 ∨ t = 2 ∨ t = 3 ∨ t = 4 ∨ t = 5 ∨ t = 6 ∨ t = 7 ∨ t = 8 ∨ t = 9 ∨ t = 10 ∨ t = 11 ∨ t = 12 ∨ t = 13 := by omega
  rcases h with h | h | h | h | h | h | h | h | h | h | h | h | h <;> subst h <;> kernel_rfl
theorem rng4 (t : Nat) (h1 : 1 ≤ t) (h2 : t ≤ 13) : rangeOf [.int 0, .int ((4 * t : Nat) : Int), .int 4] = some ((List.range t).map fun b => .int ((b * 4 : Nat) : Int)) := by
  have h : t = 1 ∨ t = 2 ∨ t = 3 ∨ t = 4 ∨ t = 5 ∨ t = 6 ∨ t = 7 ∨ t = 8 ∨ t = 9 ∨ t = 10 ∨ t = 11 ∨ t = 12 ∨ t = 13 := by omega
  rcases h with h | h | h | h | h | h | h | h | h | h | h | h | h <;> subst h <;> kernel_rfl
theorem idx4 (x : Nat) (h : x < 4) : idxX [.list [.int 0, .int 1, .int 2, .int 3], .int (x : Nat)] = some (.int (x : Nat), false) := by
  have h' : x = 0 ∨ x = 1 ∨ x = 2 ∨ x = 3 := by omega
  rcases h' with e | e | e | e <;> subst e <;> kernel_rfl
theorem two_ne {x y : Nat} (h : [x, y].Perm (List.range 2)) : x ≠ y := fun e => by
  have := (h.nodup_iff.mpr List.nodup_range)
  subst e
  simp at this
theorem pg_range {c i : Nat} (h : i < c) : pg (List.range c) i = i := by simp [pg, h]
theorem map_range {c : Nat} {mv : List Nat} (h : ∀ i ∈ mv, i < c) : mv.map (pg (List.range c)) = mv := by
  conv => rhs; rw [← List.map_id mv]
  exact List.map_congr_left fun i hi => pg_range (h i hi)
theorem pg_l {A B : List Nat} {i : Nat} (h : i < A.length) : pg (A ++ B) i = pg A i := by simp [pg, List.getElem?_append_left h]
theorem pg_r {A B : List Nat} {i : Nat} : pg (A ++ B) (i + A.length) = pg B i := by
  simp [pg, List.getElem?_append_right]
theorem dbl_mod {A : List Nat} {i h : Nat} (hA : A.length = h) (hi : i < 2 * h) : pg (A ++ A) i = pg A (i % h) := by
  by_cases q : i < h
  · rw [pg_l (by omega), Nat.mod_eq_of_lt q]
  · have e : i = (i - h) + A.length := by omega
    rw [e, pg_r]
    congr 1
    rw [hA, Nat.add_mod_right, Nat.mod_eq_of_lt (by omega)]
theorem col_end (p p' : PyData) (l : L) (h : code__law_colours_right [.bor p, .non, .non, .non, .non, .non, .non, .non, .non, .non, .non, .non, .non, .non] = .ok (.rt (.v (.bool true))) (.bor p' :: l)) : sem__law_colours_right [.bor p] = .ok (.bool true, false) [.bor p'] := by
  show endF 1 (code__law_colours_right [.bor p, .non, .non, .non, .non, .non, .non, .non, .non, .non, .non, .non, .non, .non]) = _
  rw [h]
  rfl
theorem r_colours {p : PyData} (hp : Pot p) : ∃ p', Pot p' ∧ sem__law_colours_right [.bor p] = .ok (.bool true, false) [.bor p'] := by
  obtain ⟨d, q1, hq1, hd, e1⟩ := r_drawN hp 13 (by decide) (by decide)
  have s0 := c0 p q1 (d : Nat) ((1 + d : Nat) : Int) ((4 * (1 + d) : Nat) : Int) e1 (addD_n 1 d) (mulD_n 4 (1 + d) (by decide))
  have r2 := rng2 (1 + d) (by omega) (by omega)
  have r4 := rng4 (1 + d) (by omega) (by omega)
  obtain ⟨c, hc⟩ : ∃ c, c = 4 * (1 + d) := ⟨_, rfl⟩
  rw [← hc] at s0 r2 r4
  have hc1 : 1 ≤ c := by omega
  have hc52 : c ≤ 52 := by omega
  obtain ⟨m, row, q2, hq2, hR, e2⟩ := r_law_row hq1 hc1 hc52
  have s1 := c1 q1 (.int (c : Nat)) q2 _ _ e2
  have kM := hR.pk
  have kP := plain_pk hc1 hc52
  have eh := r_by_hand hR kP
  rw [map_range fun i hi => kM.lt hi] at eh
  have s2 := c2 q2 (.int (c : Nat)) (.int (m : Nat)) (.list (nI row)) _ _ (r_plain hc1 hc52) eh (pure_n _) (pure_n _)
  have edeal := r_deal hR
  have a2 := allk_mv hR (s := 2) (by decide)
  have a4 := allk_mv hR (s := 4) (by decide)
  have kk2 := r_keeps_kinds hR (s := 2) (by decide) (by omega)
  have kk4 := r_keeps_kinds hR (s := 4) (by decide) (by omega)
  obtain ⟨px, pL, ep⟩ := r_paper hR
  have hblk := blks (c / 2) 0 0 m row (by omega) hR.n0 (by rw [hR.len]; omega)
  have hlm := kM.len
  generalize mvN m m row = mv at *
  have hit3 := c3_it q2 (.int (c : Nat)) (.int (m : Nat)) (.list (nI row)) (.tuple (nI mv)) _ (rng_n (n := c) (by omega))
  have cm1 := comp1 (i := 7) (it := iRange [eV 1]) (e := eOps modD [eV 7, eK (.int 2)]) (l := [.bor q2, .frz (.int (c : Nat)), .frz (.int (m : Nat)), .frz (.list (nI row)), .frz (.tuple (nI mv)), .non, .non, .non, .non, .non, .non, .non, .non, .non]) (xs := List.range c) (src := []) (js := []) [.bor q2, .frz (.int (c : Nat)), .frz (.int (m : Nat)), .frz (.list (nI row)), .frz (.tuple (nI mv)), .non, .non, .non, .non, .non, .non, .non, .non, .non] (fun k => .int (k : Nat)) (fun k => .int ((k % 2 : Nat) : Int)) hit3 (by rw [List.length_range]; show c ≤ 4000000; omega) (by simp) rfl rfl (fun k _ => c3_e1 _ _ _ _ _ _ _ (modD_n k 2 (by decide)))
  have cm2 := comp1 (i := 7) (it := iRange [eV 1]) (e := eOps idxX [eLst [eK (.int 0), eK (.int 1), eK (.int 2), eK (.int 3)], eOps modD [eV 7, eK (.int 4)]]) (l := [.bor q2, .frz (.int (c : Nat)), .frz (.int (m : Nat)), .frz (.list (nI row)), .frz (.tuple (nI mv)), .non, .non, .non, .non, .non, .non, .non, .non, .non]) (xs := List.range c) (src := []) (js := []) [.bor q2, .frz (.int (c : Nat)), .frz (.int (m : Nat)), .frz (.list (nI row)), .frz (.tuple (nI mv)), .non, .non, .non, .non, .non, .non, .non, .non, .non] (fun k => .int (k : Nat)) (fun k => .int ((k % 4 : Nat) : Int)) hit3 (by rw [List.length_range]; show c ≤ 4000000; omega) (by simp) rfl rfl (fun k _ => c3_e2 _ _ _ _ _ _ _ (modD_n k 4 (by decide)) (idx4 _ (Nat.mod_lt _ (by decide))))
  have em2 : ((List.range c).map fun k => PyData.int ((k % 2 : Nat) : Int)) = nI (modK c 2) := by simp [nI, modK, Function.comp_def]
  have em4 : ((List.range c).map fun k => PyData.int ((k % 4 : Nat) : Int)) = nI (modK c 4) := by simp [nI, modK, Function.comp_def]
  rw [em2] at cm1
  rw [em4] at cm2
  have s3 := c3 q2 (.int (c : Nat)) (.int (m : Nat)) (.list (nI row)) (.tuple (nI mv)) _ _ _ _ cm1 cm2
  have kidx : ∀ (s i : Nat), i < c → idxX [.list (nI (modK c s)), .int ((pg mv i : Nat) : Int)] = some (.int ((pg mv i % s : Nat) : Int), false) := fun s i hi => by
    have hlt : pg mv i < c := kM.lt (by simp [pg, hlm, hi])
    have := idxL_n (P := modK c s) (i := pg mv i) (by rw [modK_len]; exact hlt)
    rw [modK_pg hlt] at this
    exact this
  have cm4 := comp1 (i := 8) (it := iRange [eK (.int 0), eV 1, eK (.int 2)]) (e := eOps neD [eOps idxX [eV 5, eOps idxX [eV 4, eV 8]], eOps idxX [eV 5, eOps idxX [eV 4, eOps addD [eV 8, eK (.int 1)]]]]) (l := [.bor q2, .frz (.int (c : Nat)), .frz (.int (m : Nat)), .frz (.list (nI row)), .frz (.tuple (nI mv)), .frz (.list (nI (modK c 2))), .frz (.list (nI (modK c 4))), .non, .non, .non, .non, .non, .non, .non]) (xs := List.range (2 * (1 + d))) (src := []) (js := []) [.bor q2, .frz (.int (c : Nat)), .frz (.int (m : Nat)), .frz (.list (nI row)), .frz (.tuple (nI mv)), .frz (.list (nI (modK c 2))), .frz (.list (nI (modK c 4))), .non, .non, .non, .non, .non, .non, .non] (fun b => .int ((b * 2 : Nat) : Int)) (fun _ => .bool true) (c4_it _ _ _ _ _ _ _ _ _ r2) (by rw [List.length_range]; show _ ≤ 4000000; omega) (by simp) rfl rfl (fun b hb => by
    have hb' := List.mem_range.mp hb
    have hpm := a2 b (by rw [hlm]; omega)
    rw [kin_at (by rw [hlm]; omega)] at hpm
    have hne := two_ne (x := pg mv (b * 2 + 0) % 2) (y := pg mv (b * 2 + 1) % 2) hpm
    exact c4_el _ _ _ _ _ _ _ _ _ _ _ _ _ (idxT_n (by rw [hlm]; omega)) (kidx 2 (b * 2) (by omega)) (addD_n (b * 2) 1) (idxT_n (by rw [hlm]; omega)) (kidx 2 (b * 2 + 1) (by omega)) ((neD_nn _ _).trans (by simpa using hne)))
  have s4 := c4 q2 (.int (c : Nat)) (.int (m : Nat)) (.list (nI row)) (.tuple (nI mv)) (.list (nI (modK c 2))) (.list (nI (modK c 4))) _ _ cm4 (all_true _)
  have cm5 := comp1 (i := 8) (it := iRange [eK (.int 0), eV 1, eK (.int 4)]) (e := eOps eqD [eOps sortedX [eComp [9] (.nm 9) (iRange [eV 8, eOps addD [eV 8, eK (.int 4)]]) (rt true) (eOps idxX [eV 6, eOps idxX [eV 4, eV 9]])], eLst [eK (.int 0), eK (.int 1), eK (.int 2), eK (.int 3)]]) (l := [.bor q2, .frz (.int (c : Nat)), .frz (.int (m : Nat)), .frz (.list (nI row)), .frz (.tuple (nI mv)), .frz (.list (nI (modK c 2))), .frz (.list (nI (modK c 4))), .non, .non, .non, .non, .non, .non, .non]) (xs := List.range (1 + d)) (src := []) (js := []) [.bor q2, .frz (.int (c : Nat)), .frz (.int (m : Nat)), .frz (.list (nI row)), .frz (.tuple (nI mv)), .frz (.list (nI (modK c 2))), .frz (.list (nI (modK c 4))), .non, .non, .non, .non, .non, .non, .non] (fun b => .int ((b * 4 : Nat) : Int)) (fun _ => .bool true) (c4_it _ _ _ _ _ _ _ _ _ r4) (by rw [List.length_range]; show _ ≤ 4000000; omega) (by simp) rfl rfl (fun b hb => by
    have hb' := List.mem_range.mp hb
    have hpm := a4 b (by rw [hlm]; omega)
    have hr : rangeOf [.int ((b * 4 : Nat) : Int), .int ((b * 4 + 4 : Nat) : Int)] = some ((List.range 4).map fun j => .int ((b * 4 + j : Nat) : Int)) := by
      rw [rangeOf2 (by omega) (by omega) (by omega) (by omega)]
      have : (((b * 4 + 4 : Nat) : Int) - ((b * 4 : Nat) : Int)).toNat = 4 := by omega
      rw [this]
      unfold fromTo
      congr 2
    have cin := comp1 (i := 9) (it := iRange [eV 8, eOps addD [eV 8, eK (.int 4)]]) (e := eOps idxX [eV 6, eOps idxX [eV 4, eV 9]]) (l := [.bor q2, .frz (.int (c : Nat)), .frz (.int (m : Nat)), .frz (.list (nI row)), .frz (.tuple (nI mv)), .frz (.list (nI (modK c 2))), .frz (.list (nI (modK c 4))), .non, .frz (.int ((b * 4 : Nat) : Int)), .non, .non, .non, .non, .non]) (xs := List.range 4) (src := []) (js := []) [.bor q2, .frz (.int (c : Nat)), .frz (.int (m : Nat)), .frz (.list (nI row)), .frz (.tuple (nI mv)), .frz (.list (nI (modK c 2))), .frz (.list (nI (modK c 4))), .non, .frz (.int ((b * 4 : Nat) : Int)), .non, .non, .non, .non, .non] (fun j => .int ((b * 4 + j : Nat) : Int)) (fun j => .int ((pg mv (b * 4 + j) % 4 : Nat) : Int)) (c5_it _ _ _ _ _ _ _ _ _ _ (addD_n (b * 4) 4) hr) (by rw [List.length_range]; show _ ≤ 4000000; omega) (by simp) rfl rfl (fun j hj => by
      have hj' := List.mem_range.mp hj
      exact c5_in _ _ _ _ _ _ _ _ _ _ _ (idxT_n (by rw [hlm]; omega)) (kidx 4 (b * 4 + j) (by omega)))
    have ek : ((List.range 4).map fun j => PyData.int ((pg mv (b * 4 + j) % 4 : Nat) : Int)) = nI (kinN mv 4 b) := by
      rw [kin_at (by rw [hlm]; omega)]; simp [nI, Function.comp_def]
    rw [ek] at cin
    have h5 := sorted_n (kinN mv 4 b) (by rw [hpm.length_eq, List.length_range]; omega)
    rw [srt_of_range hpm] at h5
    exact c5_el _ _ _ _ _ _ _ _ _ _ cin h5 (eqD_ln [0, 1, 2, 3]))
  have s5 := c4 q2 (.int (c : Nat)) (.int (m : Nat)) (.list (nI row)) (.tuple (nI mv)) (.list (nI (modK c 2))) (.list (nI (modK c 4))) _ _ cm5 (all_true _)
  have s6 := c6 q2 (.int (c : Nat)) (.int (m : Nat)) (.list (nI row)) (.tuple (nI mv)) (.list (nI (modK c 2))) (.list (nI (modK c 4))) (nI row) _ (by simp) edeal (pure_n _)
  have s7 := c7 q2 (.int (c : Nat)) (.int (m : Nat)) (.list (nI row)) (.tuple (nI mv)) (.list (nI (modK c 2))) (.list (nI (modK c 4))) (.tuple (nI mv)) _ _ (by simp) (by simp) kk2 kk4
  have hch : c = 2 * (c / 2) := by omega
  generalize c / 2 = h at *
  obtain ⟨A, q3, hq3, hA, e8⟩ := r_mixed hq2 (List.range h) (by rw [List.length_range]; omega) (.list (nI (List.range h))) (by simp)
  have hAl : A.length = h := by rw [hA.length_eq, List.length_range]
  have hdiv : fdivD [.int (c : Nat), .int 2] = some (.int (h : Nat), false) := by
    have := fdivD_n c 2 (by decide) (by decide)
    rw [show c / 2 = h by omega] at this
    exact this
  have s8 := c8 q2 (.int (c : Nat)) (.int (m : Nat)) (.list (nI row)) (.tuple (nI mv)) (.list (nI (modK c 2))) (.list (nI (modK c 4))) (.tuple (nI mv)) q3 _ _ _ hdiv (rngL_n (n := h) (by omega)) e8
  have hadd : addD [.list (nI A), .list (nI A)] = some (.list (nI (A ++ A)), true) := by
    rw [addD_l _ _ (by rw [nI_len, hAl]; show _ ≤ 4000000; omega), nI_append]
  have s9 := c9 q3 (.int (c : Nat)) (.int (m : Nat)) (.list (nI row)) (.tuple (nI mv)) (.list (nI (modK c 2))) (.list (nI (modK c 4))) (.tuple (nI mv)) _ _ hadd
  have hdl : (A ++ A).length = c := by rw [List.length_append, hAl]; omega
  have cm10 := comp1 (i := 9) (it := iSeq (eV 10)) (e := eOps idxX [eV 12, eV 9]) (l := [.bor q3, .frz (.int (c : Nat)), .frz (.int (m : Nat)), .frz (.list (nI row)), .frz (.tuple (nI mv)), .frz (.list (nI (modK c 2))), .frz (.list (nI (modK c 4))), .non, .non, .non, .frz (.tuple (nI mv)), .own (.list (nI A)), .own (.list (nI (A ++ A))), .non]) (xs := mv) (src := []) (js := []) [.bor q3, .frz (.int (c : Nat)), .frz (.int (m : Nat)), .frz (.list (nI row)), .frz (.tuple (nI mv)), .frz (.list (nI (modK c 2))), .frz (.list (nI (modK c 4))), .non, .non, .non, .frz (.tuple (nI mv)), .own (.list (nI A)), .own (.list (nI (A ++ A))), .non] (fun (i : Nat) => .int (i : Nat)) (fun i => .int ((pg (A ++ A) i : Nat) : Int)) (by simp [nI]) (by show mv.length ≤ 4000000; omega) (by simp) rfl rfl (fun i hi => c10_el _ _ _ _ _ _ _ _ _ _ _ _ (idxL_n (by rw [hdl]; exact kM.lt hi)))
  have et : (mv.map fun i => PyData.int ((pg (A ++ A) i : Nat) : Int)) = nI (mv.map (pg (A ++ A))) := by simp [nI, Function.comp_def]
  rw [et] at cm10
  have s10 := c10 q3 (.int (c : Nat)) (.int (m : Nat)) (.list (nI row)) (.tuple (nI mv)) (.list (nI (modK c 2))) (.list (nI (modK c 4))) (.tuple (nI mv)) _ _ _ _ cm10
  have hak := r_always (A ++ A) h (by omega) (by omega) (by omega) (by omega) (fun k hk => by
    rw [hdl] at hk
    rw [pg_l (by omega), ← hAl, pg_r])
  have hsrt : srtN ((mv.map (pg (A ++ A))).take h) = srtN A := by
    refine srt_eq ?_
    rw [← List.map_take]
    have e : (mv.take h).map (pg (A ++ A)) = ((mv.take h).map fun x => (x + 0) % h).map (pg A) := by
      rw [List.map_map]
      refine List.map_congr_left fun x hx => ?_
      have := kM.lt (List.mem_of_mem_take hx)
      exact dbl_mod hAl (by omega)
    rw [e]
    have hb0 : ((mv.take h).map fun x => (x + 0) % h).Perm (List.range h) := by simpa using hblk
    have := hb0.map (pg A)
    have e2 := map_pg_id A
    rw [hAl] at e2
    rw [e2] at this
    exact this
  have g5 := sorted_n ((mv.map (pg (A ++ A))).take h) (by rw [List.length_take]; omega)
  rw [hsrt] at g5
  obtain ⟨l, s11⟩ := c11 q3 (.int (c : Nat)) (.int (m : Nat)) (.list (nI row)) (.tuple (nI mv)) (.list (nI (modK c 2))) (.list (nI (modK c 4))) (.tuple (nI mv)) (h : Nat) px (nI A) (nI (A ++ A)) (nI (A ++ A)) (nI (mv.map (pg (A ++ A)))) _ _ _ hdiv (by simp) hak (by rw [at_sn, take_n]) g5 (sorted_n A (by omega)) (eqD_ln _) ep
  refine ⟨q3, hq3, col_end p q3 _ (Eq.trans ?_ s11)⟩
  unfold code__law_colours_right
  rw [sq_nx s0, sq_nx s1, sq_nx s2, sq_nx s3, sq_nx s4, sq_nx s5, sq_nx s6, sq_nx s7, sq_nx s8, sq_nx s9, sq_nx s10]
end L2.DL.K68
namespace L2.DL.K68
open PySem L2.DL
theorem law_end (S p q p1 p2 q1 q2 q3 p3 : PyData) (a b x y : Int) (h1 : sem__law_pot [.frz S, .frz (.int 0)] = .ok (p, true) [.frz S, .frz (.int 0)]) (h2 : sem__law_pot [.frz S, .frz (.int 1)] = .ok (q, true) [.frz S, .frz (.int 1)])
    (h3 : sem__law_draw [.bor p, .frz (.int 12)] = .ok (.int a, false) [.bor p1, .frz (.int 12)]) (h4 : addD [.int 1, .int a] = some (.int x, false)) (h5 : sem__law_pack_right [.bor p1, .frz (.int x)] = .ok (.bool true, false) [.bor p2, .frz (.int x)])
    (h6 : sem__law_draw [.bor q, .frz (.int 52)] = .ok (.int b, false) [.bor q1, .frz (.int 52)]) (h7 : addD [.int 1, .int b] = some (.int y, false)) (h8 : sem__law_pack_right [.bor q1, .frz (.int y)] = .ok (.bool true, false) [.bor q2, .frz (.int y)])
    (h9 : sem__law_colours_right [.bor q2] = .ok (.bool true, false) [.bor q3]) (h10 : sem__law_colours_right [.bor p2] = .ok (.bool true, false) [.bor p3]) : sem_law [.frz S] = .ok (.bool true, false) [.frz S] := by
  have s0 : sPar [1, 2] [eCall sem__law_pot [false, false] [eV 0, eK (.int 0)], eCall sem__law_pot [false, false] [eV 0, eK (.int 1)]] [.frz S, .non, .non] = .ok .nx [.frz S, .own p, .own q] := by
    simp [h1, h2]
  show endF 1 (code_law [.frz S, .non, .non]) = _
  unfold code_law
  rw [sq_nx s0]
  simp [h3, h4, h5, h6, h7, h8, h9, h10, okArgs, distinct, -addD_i]
theorem pure_law : Pure fi_law.sem := by
  intro ns hn
  show ∃ as, sem_law [.frz (.list (ns.map .int))] = _
  obtain ⟨p, hp, e1⟩ := r_pot ns 0 (by decide) (by decide)
  obtain ⟨q, hq, e2⟩ := r_pot ns 1 (by decide) (by decide)
  obtain ⟨a, p1, hp1, ha, e3⟩ := r_drawN hp 12 (by decide) (by decide)
  obtain ⟨p2, hp2, e4⟩ := r_pack_right hp1 (c := 1 + a) (by omega) (by omega)
  obtain ⟨b, q1, hq1, hb, e5⟩ := r_drawN hq 52 (by decide) (by decide)
  obtain ⟨q2, hq2, e6⟩ := r_pack_right hq1 (c := 1 + b) (by omega) (by omega)
  obtain ⟨q3, hq3, e7⟩ := r_colours hq2
  obtain ⟨p3, hp3, e8⟩ := r_colours hp2
  exact ⟨_, law_end _ p q p1 p2 q1 q2 q3 p3 _ _ _ _ e1 e2 e3 (addD_n 1 a) e4 e5 (addD_n 1 b) e6 e7 e8⟩
end L2.DL.K68
open PySem PySem.W PyProof.Rows in
set_option maxRecDepth 100000 in
set_option maxHeartbeats 0 in
theorem PySem.Challenge.cw_cardpacks_k68_whole_dealt_and_riffled_by_holds : PySem.Challenge.rw_cardpacks_k68_whole_dealt_and_riffled_by.Holds := by
  w_on; o_law; k_head; (case hw => w_witness2)
  k_fill
  refine L2.DL.walkL (l := PySem.Challenge.rw_cardpacks_k68_whole_dealt_and_riffled_by) (k := 8) rfl rfl (fun w h Y => PySem.W.kIn_of Y) ⟨rfl, by decide, by decide⟩ ?F
  case F =>
    intro w mg fa h KX G hmg
    refine L2.DL.finish (law := L2.DL.K68.fi_law) (tab := L2.DL.K68.tab) (cs := L2.DL.K68.cs) (bn := L2.DL.K68.bn) KX G hmg ?nbb ?cbb ?dbb (by simp [L2.DL.K68.tab]) rfl rfl L2.DL.K68.b_law (L2.DL.K68.x_all KX G) ?ppp (fun s kV doc pm an cd ct v => .of_eq rfl)
    case nbb => repeat (first | exact L2.DL.NoneAll.nil | refine L2.DL.NoneAll.cons (by k_is) ?_)
    case cbb => exact L2.DL.CstAll.str (by k_is) (L2.DL.CstAll.str (by k_is) (L2.DL.CstAll.cons (by k_is) L2.DL.CstAll.nil))
    case dbb => repeat (first | exact L2.DL.DefAll.nil | (refine' L2.DL.DefAll.cons (L2.DL.DAt.mk ?aaa ?bbb ?ccc ?ddd) ?_; (case aaa => k_is); (case bbb => k_is); (case ccc => k_is); (case ddd => k_is)))
    case ppp => exact L2.DL.K68.pure_law
